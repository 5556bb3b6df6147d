/- The machine that the proofs walk by, and what the functions compute: part 5 of the common texts. No condition. (Own work.) -/
import Derived.Test.YthiiejahphkgnaaAQ4
set_option linter.unusedVariables false
set_option linter.unusedSimpArgs false
/- What the functions compute (own work). -/
namespace Go.AM.T
open Go Go.AM
attribute [local simp] so_mov so_pick so_alloc so_box so_build so_slit so_load so_store so_nilc so_bin so_beq so_eqs so_eqn so_eqnl so_not so_conv so_s2b so_mkfn so_slcA so_padd so_fld so_idxA so_idxV so_idxT so_look so_mupd so_mkmap so_mksl so_ext so_app so_lenT so_lenM so_min so_max so_cpy so_clr so_mkif so_tass so_lenS so_idxS so_slc
attribute [local simp] dn_skip dn_label dn_ret dn_exit dn_scope dn_keep dn_reg dn_draw0 noSlots denE denEI stepE  sd_mov sd_pick sd_build sd_load sd_store sd_nilc sd_bin sd_beq sd_eqs sd_eqn sd_eqnl sd_not sd_conv sd_s2b sd_mkfn sd_slc sd_slcA sd_padd sd_fld sd_idxS sd_idxA sd_idxV sd_idxT sd_look sd_mupd sd_ext sd_app sd_lenS sd_lenT sd_lenM sd_min sd_max sd_mkif sd_tass sd_call sd_slit dn_seq dn_cond dn_block dn_loop kn_call denIs denI denOp wants ev eget putD binL enumFrom AV.bool? AV.int? ekeep evs evp runV fin runDefs resAll resOf tupOf unit AV.cells okV ok1 Value.oneCell' fill setN rcells rs_nil rs_cons load_own load_cons mkAgg_rs storeN jmpOut
attribute [local simp] dvL dv1t dvAt mkAgg2 dv0 dv1 dv2 dv3 dv4 dv5 dv6 dv7 dv8 dv9 dv10 dvA dvN dvAll C_fz fzr
/-- A slice of pairs that the law grows. -/
inductive PV (H : List Blk) (L : Nat) (T : TypeId) (l : List (Int × Int)) : AV → Prop
  | nil : l = [] → PV H L T l (.r .nil)
  | osl (B g : Nat) : L + 2 < B → H[B]? = some (.cells (rs (prs l)) T g) → l ≠ [] → PV H L T l (.osl B g 0 l.length 2 none)
theorem prs_len (l : List (Int × Int)) : (prs l).length = l.length * 2 := by
  induction l with
  | nil => rfl
  | cons a l ih =>
    simp only [prs, List.flatMap_cons, List.length_append] at ih ⊢
    rw [ih]; simp; omega
theorem prs_snoc (l : List (Int × Int)) (x y : Int) : prs l ++ [.lit (.int .i64 x), .lit (.int .i64 y)] = prs (l ++ [(x, y)]) := by simp [prs]
theorem rs_append (a b : List RV) : rs a ++ rs b = rs (a ++ b) := by simp [rs]
theorem HV.wrs {m : Mem} {c : List RV} {H : List Blk} {W W' : List Nat} {oc : List AV} (h : HV m c H W oc) (hW : ∀ x ∈ W', m.h.length ≤ x) : HV m c H W' oc := ⟨h.div, h.res, h.out, h.tk, hW⟩
theorem PV.app {m : Mem} {c : List RV} {H : List Blk} {W : List Nat} {oc : List AV} {T : TypeId} {l : List (Int × Int)} {pv : AV} (hF : HV m c H W oc) (h : PV H m.h.length T l pv) (hl : l.length ≤ 100) (x y : Int) :
    ∃ B g H' W', appendA { h := H } T 2 16 pv (.r (.sl [.lit (.int .i64 x), .lit (.int .i64 y)] 1 (some 1))) = some (.osl B g 0 (l.length + 1) 2 none, { h := H', wr := W' }) ∧ (∀ x ∈ W', m.h.length + 2 < x) ∧ HV m c H' W oc ∧
      PV H' m.h.length T (l ++ [(x, y)]) (.osl B g 0 (l.length + 1) 2 none) ∧ (∀ T' l' pv', T ≠ T' → PV H m.h.length T' l' pv' → PV H' m.h.length T' l' pv') ∧ m.h.length + 2 < B := by
  have hlt := hF.lt
  have hsl : ∀ m, slCells m (.r (.sl [.lit (.int .i64 x), .lit (.int .i64 y)] 1 (some 1))) 2 = some ([i64 x, i64 y], 1) := fun m => rfl
  have hr : roomOk (l.length + 1) 16 := ⟨by omega, by omega⟩
  cases h with
  | nil e =>
    subst e
    refine ⟨H.length, 0, H ++ [.cells [i64 x, i64 y] T 0], [], ?_, by simp, hF.push _, ?_, ?_, by omega⟩
    · unfold appendA
      rw [hsl]
      simp only
      rw [if_neg (by omega), if_pos ⟨by omega, by omega⟩]
      rfl
    · have := PV.osl (H := H ++ [.cells [i64 x, i64 y] T 0]) (L := m.h.length) (T := T) (l := [] ++ [(x, y)]) H.length 0 (by omega) (by simp [prs]) (by simp)
      simpa using this
    · intro T' l' pv' _ h'
      cases h' with
      | nil e => exact .nil e
      | osl B g h1 h2 h3 => exact .osl B g h1 (by rw [List.getElem?_append_left (getElem?_lt h2)]; exact h2) h3
  | osl B g h1 h2 h3 =>
    have hB := getElem?_lt h2
    refine ⟨B, g + 1, H.set B (.cells (rs (prs (l ++ [(x, y)]))) T (g + 1)), [B], ?_, by simpa using h1, hF.setB h1 _, ?_, ?_, h1⟩
    · unfold appendA
      rw [hsl]
      simp only [h2]
      rw [if_pos ⟨trivial, trivial, trivial, by rw [rs_len, prs_len]; omega, hr⟩, if_neg (by omega), List.take_of_length_le (by rw [rs_len, prs_len]; omega), ← prs_snoc, ← rs_append]
      rfl
    · have := PV.osl (H := H.set B (.cells (rs (prs (l ++ [(x, y)]))) T (g + 1))) (L := m.h.length) (T := T) (l := l ++ [(x, y)]) B (g + 1) h1 (List.getElem?_set_self hB) (by simp)
      simpa using this
    · intro T' l' pv' hT h'
      cases h' with
      | nil e => exact .nil e
      | osl B' g' h1' h2' h3' =>
        refine .osl B' g' h1' ?_ h3'
        rw [List.getElem?_set_ne]
        · exact h2'
        · intro e
          subst e
          rw [h2] at h2'
          simp only [Option.some.injEq, Blk.cells.injEq] at h2'
          exact hT h2'.2.1

theorem PV.setO {H : List Blk} {L : Nat} {T : TypeId} {l : List (Int × Int)} {pv : AV} (h : PV H L T l pv) (b : Blk) : PV (H.set (L + 2) b) L T l pv := by
  cases h with
  | nil e => exact .nil e
  | osl B g h1 h2 h3 => exact .osl B g h1 (by rw [List.getElem?_set_ne (by omega)]; exact h2) h3
section
variable {d : Div} {a0 a1 n0 n1 p q : RV}
theorem lawDiv_pairs (hs : DivS d a0 a1 n0 n1 p q) (hl : d.pairs.length ≤ 12) (x0 x1 y0 y1 : AV) (m : Mem) (H : List Blk) (W : List Nat)
    (hF : HV m (divC d a0 a1 n0 n1 p q) H W (outC d x0 x1 y0 y1 (.r .nil) (.r .nil))) :
    ∀ s : St, ekeep [1, 2, 3, 5] s.env = [(1, .own m.h.length 0 0), (2, .own (m.h.length + 1) 0 0), (3, .own (m.h.length + 2) 0 0), (5, i64 0)] → s.m = { h := H, wr := W } → s.defs = [] →
    ∃ s' H' W' pv, Loop C [1, 2, 3, 5] l_law07_Division_1 s (.exit 2) s' ∧ s'.m = { h := H', wr := W' } ∧ HV m (divC d a0 a1 n0 n1 p q) H' W' (outC d x0 x1 y0 y1 pv (.r .nil)) ∧ PV H' m.h.length ty_tally_Pair d.pairs pv ∧ s'.defs = [] ∧
      eget s'.env 1 = .own m.h.length 0 0 ∧ eget s'.env 2 = .own (m.h.length + 1) 0 0 ∧ eget s'.env 3 = .own (m.h.length + 2) 0 0 := by
  intro s he hm hd
  have key := Loop.run (C := C) (c := l_law07_Division_1) (live := [1, 2, 3, 5]) (fun k s => ∃ (j : Nat) (H : List Blk) (W : List Nat) (pv : AV), j + k = d.pairs.length ∧
      ekeep [1, 2, 3, 5] s.env = [(1, .own m.h.length 0 0), (2, .own (m.h.length + 1) 0 0), (3, .own (m.h.length + 2) 0 0), (5, i64 j)] ∧ s.m = { h := H, wr := W } ∧
      HV m (divC d a0 a1 n0 n1 p q) H W (outC d x0 x1 y0 y1 pv (.r .nil)) ∧ PV H m.h.length ty_tally_Pair (d.pairs.take j) pv ∧ s.defs = [])
    (fun o s' => ∃ H' W' pv, o = .exit 2 ∧ s'.m = { h := H', wr := W' } ∧ HV m (divC d a0 a1 n0 n1 p q) H' W' (outC d x0 x1 y0 y1 pv (.r .nil)) ∧ PV H' m.h.length ty_tally_Pair d.pairs pv ∧ s'.defs = [] ∧
      eget s'.env 1 = .own m.h.length 0 0 ∧ eget s'.env 2 = .own (m.h.length + 1) 0 0 ∧ eget s'.env 3 = .own (m.h.length + 2) 0 0) (by
    rintro k s ⟨j, H, W, pv, hjk, he, hm, hF, hV, hd⟩
    rw [he]
    have hD := hF.div
    cases k with
    | zero =>
      have hj : j = d.pairs.length := by omega
      subst hj
      rw [List.take_length] at hV
      exact ⟨.exit 2, _, .of fun K => by simp [l_law07_Division_1, hm, hD, hs.p.len, show (divC d a0 a1 n0 n1 p q).length = 11 from rfl]; rfl, .inr ⟨by simp, H, W, pv, rfl, by simp [hm], hF, hV, by simp [hd], by simp, by simp, by simp⟩⟩
    | succ k =>
      have hj : j < d.pairs.length := by omega
      have w1 : IntKind.wrap .i64 ((j : Int) + 1) = j + 1 := by rw [w64] <;> omega
      have hO := hF.out
      simp only [outC] at hO
      obtain ⟨B, g, H', W', hA, hW', hF', hV', -, hB⟩ := hV.app hF (by simp; omega) d.pairs[j].1 d.pairs[j].2
      rw [← List.take_succ_eq_append_getElem hj] at hV'
      obtain ⟨N, hN⟩ : ∃ N, N = (List.take j d.pairs).length + 1 := ⟨_, rfl⟩
      rw [← hN] at hA hV'
      have hO' := hF'.out
      simp only [outC] at hO'
      refine ⟨.norm, _, .of fun K => by simp [l_law07_Division_1, hm, hD, hO, hs.p.len, hs.p.at hj, prs_drop hj, hj, hA, hO', w1, allR, AV.toR, repl]; rfl, .inl ⟨rfl, k, by omega, j + 1, _, _, _, by omega, by simp, rfl, (hF'.set _).wrs ?_, ?_, by simp [hd]⟩⟩
      · intro x hx
        rcases List.mem_cons.1 hx with rfl | hx
        · omega
        · rcases List.mem_append.1 hx with hx | hx
          · have := hW' x hx; omega
          · exact hF.wr x hx
      · exact hV'.setO _)
  obtain ⟨o, s', h1, h2, H', W', pv, rfl, h3, h4, h5, h6, h7, h8, h9⟩ := key d.pairs.length s ⟨0, H, W, .r .nil, by omega, he, hm, hF, .nil (by simp), hd⟩
  exact ⟨s', H', W', pv, h1, h3, h4, h5, h6, h7, h8, h9⟩
theorem lawDiv_prox (hs : DivS d a0 a1 n0 n1 p q) (hl : d.proxies.length ≤ 12) (x0 x1 y0 y1 zv : AV) (m : Mem) (H : List Blk) (W : List Nat)
    (hF : HV m (divC d a0 a1 n0 n1 p q) H W (outC d x0 x1 y0 y1 zv (.r .nil))) :
    (hZ : PV H m.h.length ty_tally_Pair d.pairs zv) → ∀ s : St, ekeep [1, 2, 3, 6] s.env = [(1, .own m.h.length 0 0), (2, .own (m.h.length + 1) 0 0), (3, .own (m.h.length + 2) 0 0), (6, i64 0)] → s.m = { h := H, wr := W } → s.defs = [] →
    ∃ s' H' W' pv, Loop C [1, 2, 3, 6] l_law07_Division_0 s (.exit 4) s' ∧ s'.m = { h := H', wr := W' } ∧ HV m (divC d a0 a1 n0 n1 p q) H' W' (outC d x0 x1 y0 y1 zv pv) ∧ PV H' m.h.length ty_tally_Proxy d.proxies pv ∧ PV H' m.h.length ty_tally_Pair d.pairs zv ∧ s'.defs = [] ∧
      eget s'.env 1 = .own m.h.length 0 0 ∧ eget s'.env 2 = .own (m.h.length + 1) 0 0 ∧ eget s'.env 3 = .own (m.h.length + 2) 0 0 := by
  intro hZ s he hm hd
  have key := Loop.run (C := C) (c := l_law07_Division_0) (live := [1, 2, 3, 6]) (fun k s => ∃ (j : Nat) (H : List Blk) (W : List Nat) (pv : AV), j + k = d.proxies.length ∧
      ekeep [1, 2, 3, 6] s.env = [(1, .own m.h.length 0 0), (2, .own (m.h.length + 1) 0 0), (3, .own (m.h.length + 2) 0 0), (6, i64 j)] ∧ s.m = { h := H, wr := W } ∧
      HV m (divC d a0 a1 n0 n1 p q) H W (outC d x0 x1 y0 y1 zv pv) ∧ PV H m.h.length ty_tally_Proxy (d.proxies.take j) pv ∧ PV H m.h.length ty_tally_Pair d.pairs zv ∧ s.defs = [])
    (fun o s' => ∃ H' W' pv, o = .exit 4 ∧ s'.m = { h := H', wr := W' } ∧ HV m (divC d a0 a1 n0 n1 p q) H' W' (outC d x0 x1 y0 y1 zv pv) ∧ PV H' m.h.length ty_tally_Proxy d.proxies pv ∧ PV H' m.h.length ty_tally_Pair d.pairs zv ∧ s'.defs = [] ∧
      eget s'.env 1 = .own m.h.length 0 0 ∧ eget s'.env 2 = .own (m.h.length + 1) 0 0 ∧ eget s'.env 3 = .own (m.h.length + 2) 0 0) (by
    rintro k s ⟨j, H, W, pv, hjk, he, hm, hF, hV, hZ, hd⟩
    rw [he]
    have hD := hF.div
    cases k with
    | zero =>
      have hj : j = d.proxies.length := by omega
      subst hj
      rw [List.take_length] at hV
      exact ⟨.exit 4, _, .of fun K => by simp [l_law07_Division_0, hm, hD, hs.q.len, show (divC d a0 a1 n0 n1 p q).length = 11 from rfl]; rfl, .inr ⟨by simp, H, W, pv, rfl, by simp [hm], hF, hV, hZ, by simp [hd], by simp, by simp, by simp⟩⟩
    | succ k =>
      have hj : j < d.proxies.length := by omega
      have w1 : IntKind.wrap .i64 ((j : Int) + 1) = j + 1 := by rw [w64] <;> omega
      have hO := hF.out
      simp only [outC] at hO
      obtain ⟨B, g, H', W', hA, hW', hF', hV', hK, hB⟩ := hV.app hF (by simp; omega) d.proxies[j].1 d.proxies[j].2
      rw [← List.take_succ_eq_append_getElem hj] at hV'
      obtain ⟨N, hN⟩ : ∃ N, N = (List.take j d.proxies).length + 1 := ⟨_, rfl⟩
      rw [← hN] at hA hV'
      have hO' := hF'.out
      simp only [outC] at hO'
      refine ⟨.norm, _, .of fun K => by simp [l_law07_Division_0, hm, hD, hO, hs.q.len, hs.q.at hj, prs_drop hj, hj, hA, hO', w1, allR, AV.toR, repl]; rfl, .inl ⟨rfl, k, by omega, j + 1, _, _, _, by omega, by simp, rfl, (hF'.set _).wrs ?_, ?_, ?_, by simp [hd]⟩⟩
      · intro x hx
        rcases List.mem_cons.1 hx with rfl | hx
        · omega
        · rcases List.mem_append.1 hx with hx | hx
          · have := hW' x hx; omega
          · exact hF.wr x hx
      · exact hV'.setO _
      · exact (hK _ _ _ (by decide) hZ).setO _)
  obtain ⟨o, s', h1, h2, H', W', pv, rfl, h3, h4, h5, h5', h6, h7, h8, h9⟩ := key d.proxies.length s ⟨0, H, W, .r .nil, by omega, he, hm, hF, .nil (by simp), hZ, hd⟩
  exact ⟨s', H', W', pv, h1, h3, h4, h5, h5', h6, h7, h8, h9⟩
end
end Go.AM.T
/- What the functions compute (own work). -/
namespace Go.AM.T
open Go Go.AM
attribute [local simp] so_mov so_pick so_alloc so_box so_build so_slit so_load so_store so_nilc so_bin so_beq so_eqs so_eqn so_eqnl so_not so_conv so_s2b so_mkfn so_slcA so_padd so_fld so_idxA so_idxV so_idxT so_look so_mupd so_mkmap so_mksl so_ext so_app so_lenT so_lenM so_min so_max so_cpy so_clr so_mkif so_tass so_lenS so_idxS so_slc
attribute [local simp] dn_skip dn_label dn_ret dn_exit dn_scope dn_keep dn_reg dn_draw0 noSlots denE denEI stepE  sd_mov sd_pick sd_build sd_load sd_store sd_nilc sd_bin sd_beq sd_eqs sd_eqn sd_eqnl sd_not sd_conv sd_s2b sd_mkfn sd_slc sd_slcA sd_padd sd_fld sd_idxS sd_idxA sd_idxV sd_idxT sd_look sd_mupd sd_ext sd_app sd_lenS sd_lenT sd_lenM sd_min sd_max sd_mkif sd_tass sd_call sd_slit dn_seq dn_cond dn_block dn_loop kn_call denIs denI denOp wants ev eget putD binL enumFrom AV.bool? AV.int? ekeep evs evp runV fin runDefs resAll resOf tupOf unit AV.cells okV ok1 Value.oneCell' fill setN rcells rs_nil rs_cons load_own load_cons mkAgg_rs storeN jmpOut
attribute [local simp] dvL dv1t dvAt mkAgg2 dv0 dv1 dv2 dv3 dv4 dv5 dv6 dv7 dv8 dv9 dv10 dvA dvN dvAll C_fz fzr
/-- The law's copy of pairs. -/
def pairV (l : List (Int × Int)) : RV := if l = [] then .nil else .sl (prs l) l.length none
theorem SlP.pairV (l : List (Int × Int)) : SlP l (pairV l) := by
  unfold T.pairV
  split
  · rename_i h; subst h; exact Sl.nil
  · exact Sl.mk _ _ _
/-- The law's copy of a division. -/
def copyC (d : Div) : List RV := divC d (listV d.a0) (listV d.a1) (listV d.n0) (listV d.n1) (pairV d.pairs) (pairV d.proxies)
theorem copyS (d : Div) : DivS d (listV d.a0) (listV d.a1) (listV d.n0) (listV d.n1) (pairV d.pairs) (pairV d.proxies) :=
  ⟨Sl.listV _, Sl.listV _, Sl.listV _, Sl.listV _, SlP.pairV _, SlP.pairV _⟩
theorem PV.fz {H : List Blk} {W : List Nat} {L : Nat} {T : TypeId} {l : List (Int × Int)} {pv : AV} (h : PV H L T l pv) (hl : l.length ≤ 12) {k : Nat} (hk : 30 ≤ k) : Go.AM.fz { h := H, wr := W } L k pv = some (.r (pairV l)) := by
  obtain ⟨k, rfl⟩ : ∃ j, k = j + 1 := ⟨k - 1, by omega⟩
  unfold pairV
  cases h with
  | nil e => rw [if_pos e]; rfl
  | osl B g h1 h2 h3 =>
    rw [if_neg h3]
    exact fz_osl (t := T) h2 (by omega) (prs_len l) (by rw [prs_len]; omega)
theorem PV.setR {H : List Blk} {L : Nat} {T : TypeId} {l : List (Int × Int)} {pv : AV} (h : PV H L T l pv) (b : Blk) : PV (H.set (L + 1) b) L T l pv := by
  cases h with
  | nil e => exact .nil e
  | osl B g h1 h2 h3 => exact .osl B g h1 (by rw [List.getElem?_set_ne (by omega)]; exact h2) h3
theorem fzs_outC {m : Mem} {n : Nat} {d : Div} {x0 x1 y0 y1 P Q : RV} {pv qv : AV} (hp : ∀ k, 30 ≤ k → Go.AM.fz m n k pv = some (.r P)) (hq : ∀ k, 30 ≤ k → Go.AM.fz m n k qv = some (.r Q)) :
    Go.AM.fz m n 1000000 (.agg (outC d (.r x0) (.r x1) (.r y0) (.r y1) pv qv)) = some (.r (.agg (divC d x0 x1 y0 y1 P Q))) := by
  have hr : ∀ k x, Go.AM.fz m n (k + 1) (.r x) = some (.r x) := fun k x => rfl
  have : fzs m n 999999 (outC d (.r x0) (.r x1) (.r y0) (.r y1) pv qv) = some (rs (divC d x0 x1 y0 y1 P Q)) := by
    unfold outC divC
    rw [fzs, hr, fzs, hr, fzs, hr, fzs, hr, fzs, hr, fzs, hp _ (by omega), fzs, hq _ (by omega), fzs, hr, fzs, hr, fzs, hr, fzs, hr, fzs]
    rfl
  rw [Go.AM.fz]
  simp only [this, mkAgg_rs]
section
variable {d : Div} {a0 a1 n0 n1 p q : RV}
theorem lawDivision_spec (hs : DivS d a0 a1 n0 n1 p q) (hf : fewB d = true) (m : Mem) : CallR C (fnv fn_law07_Division) [.r (.agg (divC d a0 a1 n0 n1 p q))] m (.ret (.r (.agg (copyC d))) m) := by
  have hl : d.a0.length ≤ 45 ∧ d.a1.length ≤ 45 ∧ d.n0.length ≤ 45 ∧ d.n1.length ≤ 45 ∧ d.pairs.length ≤ 12 ∧ d.proxies.length ≤ 12 := by
    simp [fewB, few1] at hf
    omega
  obtain ⟨l1, l2, l3, l4, l5, l6⟩ := hl
  obtain ⟨H, hH⟩ : ∃ H, H = m.h ++ [.cells (rs (divC d a0 a1 n0 n1 p q)) ty_ref07_Division 0, .cells [i64 0, .r .nil, .r .nil, .r .nil, .r .nil, .r .nil, .r .nil, u8 0, i64 0, i64 0, u8 0] ty_tally_Division 0, .cells (outC d (.r .nil) (.r .nil) (.r .nil) (.r .nil) (.r .nil) (.r .nil)) ty_tally_Division 0] := ⟨_, rfl⟩
  have hF : HV m (divC d a0 a1 n0 n1 p q) H [m.h.length + 2] (outC d (.r .nil) (.r .nil) (.r .nil) (.r .nil) (.r .nil) (.r .nil)) := ⟨by simp [hH], by simp [hH], by simp [hH], by simp [hH], by simp⟩
  obtain ⟨c1, s1, k1, hF1, d1, e11, e12, e13⟩ := lawDiv_lists hs l1 l2 l3 l4 m H _ hF
  obtain ⟨s2, H2, W2, pv, g2, m2, hF2, hP2, d2, e21, e22, e23⟩ := lawDiv_pairs hs l5 _ _ _ _ m _ _ hF1 { s1 with env := (5, i64 0) :: s1.env } (by simp [e11, e12, e13]) rfl d1
  obtain ⟨s3, H3, W3, qv, g3, m3, hF3, hP3, hQ3, d3, e31, e32, e33⟩ := lawDiv_prox hs l6 _ _ _ _ _ m _ _ hF2 hP2 { s2 with env := (6, i64 0) :: s2.env } (by simp [e21, e22, e23]) m2 d2
  rw [m2] at g3
  obtain ⟨c2, k2⟩ := g2.get
  obtain ⟨c3, k3⟩ := g3.get
  have hc := hF.div
  have hO3 := hF3.out
  have hR3 := hF3.res
  have hlt := hF3.lt
  have hsel : ∀ x, (H3.set (m.h.length + 1) x)[m.h.length + 1]? = some x := fun x => List.getElem?_set_self (by omega)
  have hz : ∀ b W, fz { h := H3.set (m.h.length + 1) b, wr := W } m.h.length 1000000 (.agg (outC d (.r (listV d.a0)) (.r (listV d.a1)) (.r (listV d.n0)) (.r (listV d.n1)) pv qv)) = some (.r (.agg (copyC d))) :=
    fun b W => fzs_outC (fun k hk => (hQ3.setR b).fz l5 hk) (fun k hk => (hP3.setR b).fz l6 hk)
  have hpc : (pv = .r .nil ∧ pairV d.pairs = .nil) ∨ ∃ B g len, pv = .osl B g 0 len 2 none := by
    cases hQ3 with
    | nil e => exact .inl ⟨rfl, by simp [pairV, e]⟩
    | osl B g h1 h2 h3 => exact .inr ⟨B, g, _, rfl⟩
  have hqc : (qv = .r .nil ∧ pairV d.proxies = .nil) ∨ ∃ B g len, qv = .osl B g 0 len 2 none := by
    cases hP3 with
    | nil e => exact .inl ⟨rfl, by simp [pairV, e]⟩
    | osl B g h1 h2 h3 => exact .inr ⟨B, g, _, rfl⟩
  obtain ⟨A0, hA0⟩ : ∃ A, A = listV d.a0 := ⟨_, rfl⟩
  obtain ⟨A1, hA1⟩ : ∃ A, A = listV d.a1 := ⟨_, rfl⟩
  obtain ⟨N0, hN0⟩ : ∃ A, A = listV d.n0 := ⟨_, rfl⟩
  obtain ⟨N1, hN1⟩ : ∃ A, A = listV d.n1 := ⟨_, rfl⟩
  rw [← hA0, ← hA1, ← hN0, ← hN1] at hO3 hz
  obtain ⟨R, hR⟩ : ∃ R, R = copyC d := ⟨_, rfl⟩
  rw [← hR] at hz ⊢
  refine CallR.eval (m1 := { h := H3.set (m.h.length + 1) (.cells (outC d (.r A0) (.r A1) (.r N0) (.r N1) pv qv) ty_tally_Division 0), wr := (m.h.length + 1) :: W3 }) rfl rfl prog_law07_Division rfl ⟨c1 + c2 + c3, fun k hk => ?_⟩ (by rw [List.take_set_of_le (by simp)]; exact hF3.tk) (by
    intro x hx
    rcases List.mem_cons.1 hx with rfl | hx
    · omega
    · exact hF3.wr x hx)
  have hRR : R = divC d A0 A1 N0 N1 (pairV d.pairs) (pairV d.proxies) := by rw [hR, hA0, hA1, hN0, hN1]; rfl
  simp only [outC] at hO3 hz hH ⊢
  rcases hpc with ⟨rfl, ep⟩ | ⟨B, g, len, rfl⟩ <;> rcases hqc with ⟨rfl, eq⟩ | ⟨B', g', len', rfl⟩
  all_goals
    simp [a_law07_Division, ← hH, hc, k1 k (by omega), e11, e12, e13, k2 k (by omega), e21, e22, e23, m2, k3 k (by omega), e31, e32, e33, m3, hO3, hR3, hsel, hz, d3, allR, AV.toR, mkAgg]
    try (rw [hRR, ep, eq]; rfl)
end
end Go.AM.T
/- What the functions compute (own work). -/
namespace Go.AM.T
open Go Go.AM
attribute [local simp] so_mov so_pick so_alloc so_box so_build so_slit so_load so_store so_nilc so_bin so_beq so_eqs so_eqn so_eqnl so_not so_conv so_s2b so_mkfn so_slcA so_padd so_fld so_idxA so_idxV so_idxT so_look so_mupd so_mkmap so_mksl so_ext so_app so_lenT so_lenM so_min so_max so_cpy so_clr so_mkif so_tass so_lenS so_idxS so_slc
attribute [local simp] dn_skip dn_label dn_ret dn_exit dn_scope dn_keep dn_reg dn_draw0 noSlots denE denEI stepE  sd_mov sd_pick sd_build sd_load sd_store sd_nilc sd_bin sd_beq sd_eqs sd_eqn sd_eqnl sd_not sd_conv sd_s2b sd_mkfn sd_slc sd_slcA sd_padd sd_fld sd_idxS sd_idxA sd_idxV sd_idxT sd_look sd_mupd sd_ext sd_app sd_lenS sd_lenT sd_lenM sd_min sd_max sd_mkif sd_tass sd_call sd_slit dn_seq dn_cond dn_block dn_loop kn_call denIs denI denOp wants ev eget putD binL enumFrom AV.bool? AV.int? ekeep evs evp runV fin runDefs resAll resOf tupOf unit AV.cells okV ok1 Value.oneCell' fill setN rcells rs_nil rs_cons load_own load_cons mkAgg_rs storeN jmpOut
attribute [local simp] dvL dv1t dvAt mkAgg2 dv0 dv1 dv2 dv3 dv4 dv5 dv6 dv7 dv8 dv9 dv10 dvA dvN dvAll C_fz fzr
def divSh : Sh := .agg [.int .i64, .agg [.sl (.int .i64), .sl (.int .i64)], .agg [.sl (.int .i64), .sl (.int .i64)], .sl (.agg [.int .i64, .int .i64]), .sl (.agg [.int .i64, .int .i64]), .int .u8, .int .i64, .int .i64, .int .u8]
theorem maxLt : maxLen < 2 ^ 63 := by decide
theorem parts_ints : ∀ (n : Nat) (xs : List RV), Parts (Has (.int .i64)) n xs → ∃ l : List Int, xs = ints .i64 l ∧ l.length = n
  | 0, xs, h => ⟨[], by simp only [Parts] at h; rw [h]; rfl, rfl⟩
  | n + 1, xs, h => by
    obtain ⟨a, b, rfl, ⟨x, rfl, _⟩, h2⟩ := h
    obtain ⟨l, rfl, e⟩ := parts_ints n b h2
    exact ⟨x :: l, rfl, by simp [e]⟩
theorem has_int {k : IntKind} {xs : List RV} (h : Has (.int k) xs) : ∃ n, xs = [.lit (.int k n)] ∧ (Lit.int k n).wf = true := by simpa [Has] using h
theorem has_pair {xs : List RV} (h : Has (.agg [.int .i64, .int .i64]) xs) : ∃ x y, xs = [.lit (.int .i64 x), .lit (.int .i64 y)] := by
  simp only [Has, HasAll] at h
  obtain ⟨a, b, rfl, ⟨x, rfl, _⟩, c, d, rfl, ⟨y, rfl, _⟩, rfl⟩ := h
  exact ⟨x, y, rfl⟩
theorem parts_prs : ∀ (n : Nat) (xs : List RV), Parts (Has (.agg [.int .i64, .int .i64])) n xs → ∃ l : List (Int × Int), xs = prs l ∧ l.length = n
  | 0, xs, h => ⟨[], by simp only [Parts] at h; rw [h]; rfl, rfl⟩
  | n + 1, xs, h => by
    obtain ⟨a, b, rfl, h1, h2⟩ := h
    obtain ⟨x, y, rfl⟩ := has_pair h1
    obtain ⟨l, rfl, e⟩ := parts_prs n b h2
    exact ⟨(x, y) :: l, rfl, by simp [e]⟩
theorem has_ints {xs : List RV} (h : Has (.sl (.int .i64)) xs) : ∃ v l, xs = [v] ∧ SlI l v ∧ l.length < 2 ^ 63 := by
  simp only [Has] at h
  rcases h with rfl | ⟨cs, len, rfl, hm, h⟩
  · exact ⟨_, [], rfl, Sl.nil, by simp⟩
  · obtain ⟨l, rfl, rfl⟩ := parts_ints _ _ h
    exact ⟨_, l, rfl, Sl.mk _ _ _, by have := maxLt; omega⟩
theorem has_prs {xs : List RV} (h : Has (.sl (.agg [.int .i64, .int .i64])) xs) : ∃ v l, xs = [v] ∧ SlP l v ∧ l.length < 2 ^ 63 := by
  unfold Has at h
  rcases h with rfl | ⟨cs, len, rfl, hm, h⟩
  · exact ⟨_, [], rfl, Sl.nil, by simp⟩
  · obtain ⟨l, rfl, rfl⟩ := parts_prs _ _ h
    exact ⟨_, l, rfl, Sl.mk _ _ _, by have := maxLt; omega⟩
theorem has_two {xs : List RV} (h : Has (.agg [.sl (.int .i64), .sl (.int .i64)]) xs) : ∃ v w l k, xs = [v, w] ∧ SlI l v ∧ l.length < 2 ^ 63 ∧ SlI k w ∧ k.length < 2 ^ 63 := by
  unfold Has HasAll HasAll HasAll at h
  obtain ⟨a, b, rfl, h1, c, e, rfl, h2, rfl⟩ := h
  obtain ⟨v, l, rfl, s1, l1⟩ := has_ints h1
  obtain ⟨w, k, rfl, s2, l2⟩ := has_ints h2
  exact ⟨v, w, l, k, rfl, s1, l1, s2, l2⟩
theorem has_div {xs : List RV} (h : Has divSh xs) : ∃ d a0 a1 n0 n1 p q, xs = divC d a0 a1 n0 n1 p q ∧ DivS d a0 a1 n0 n1 p q ∧ Small d ∧ (0 ≤ d.rule ∧ d.rule ≤ 255) := by
  unfold divSh Has HasAll HasAll HasAll HasAll HasAll HasAll HasAll HasAll HasAll HasAll at h
  obtain ⟨x0, y0, rfl, h0, x1, y1, rfl, h1, x2, y2, rfl, h2, x3, y3, rfl, h3, x4, y4, rfl, h4, x5, y5, rfl, h5, x6, y6, rfl, h6, x7, y7, rfl, h7, x8, y8, rfl, h8, rfl⟩ := h
  obtain ⟨n, rfl, w0⟩ := has_int h0
  obtain ⟨a0, a1, la0, la1, rfl, s1, b1, s2, b2⟩ := has_two h1
  obtain ⟨n0, n1, ln0, ln1, rfl, s3, b3, s4, b4⟩ := has_two h2
  obtain ⟨p, lp, rfl, s5, b5⟩ := has_prs h3
  obtain ⟨q, lq, rfl, s6, b6⟩ := has_prs h4
  obtain ⟨ru, rfl, w5⟩ := has_int h5
  obtain ⟨ne, rfl, w6⟩ := has_int h6
  obtain ⟨qu, rfl, w7⟩ := has_int h7
  obtain ⟨ti, rfl, w8⟩ := has_int h8
  refine ⟨⟨n, la0, la1, ln0, ln1, lp, lq, ru, ne, qu, ti⟩, a0, a1, n0, n1, p, q, rfl, ⟨s1, s2, s3, s4, s5, s6⟩, ⟨b1, b2, b3, b4, b5, b6⟩, ?_⟩
  have e1 : IntKind.min .u8 = 0 := by decide
  have e2 : IntKind.max .u8 = 255 := by decide
  simpa [Lit.wf, e1, e2] using w5

end Go.AM.T
/- What the functions compute (own work). -/
namespace Go.AM.T
open Go Go.AM
attribute [local simp] so_mov so_pick so_alloc so_box so_build so_slit so_load so_store so_nilc so_bin so_beq so_eqs so_eqn so_eqnl so_not so_conv so_s2b so_mkfn so_slcA so_padd so_fld so_idxA so_idxV so_idxT so_look so_mupd so_mkmap so_mksl so_ext so_app so_lenT so_lenM so_min so_max so_cpy so_clr so_mkif so_tass so_lenS so_idxS so_slc
attribute [local simp] dn_skip dn_label dn_ret dn_exit dn_scope dn_keep dn_reg dn_draw0 noSlots denE denEI stepE  sd_mov sd_pick sd_build sd_load sd_store sd_nilc sd_bin sd_beq sd_eqs sd_eqn sd_eqnl sd_not sd_conv sd_s2b sd_mkfn sd_slc sd_slcA sd_padd sd_fld sd_idxS sd_idxA sd_idxV sd_idxT sd_look sd_mupd sd_ext sd_app sd_lenS sd_lenT sd_lenM sd_min sd_max sd_mkif sd_tass sd_call sd_slit dn_seq dn_cond dn_block dn_loop kn_call denIs denI denOp wants ev eget putD binL enumFrom AV.bool? AV.int? ekeep evs evp runV fin runDefs resAll resOf tupOf unit AV.cells okV ok1 Value.oneCell' fill setN rcells rs_nil rs_cons load_own load_cons mkAgg_rs storeN jmpOut
attribute [local simp] dvL dv1t dvAt mkAgg2 dv0 dv1 dv2 dv3 dv4 dv5 dv6 dv7 dv8 dv9 dv10 dvA dvN dvAll C_fz fzr
/-- A slice that its function grows. -/
inductive GS (H : List Blk) (L : Nat) (T : TypeId) (sz : Nat) (cs : List RV) (n : Nat) : AV → Prop
  | nil : n = 0 → cs = [] → GS H L T sz cs n (.r .nil)
  | osl (B g : Nat) : L ≤ B → H[B]? = some (.cells (rs cs) T g) → 0 < n → cs.length = n * sz → GS H L T sz cs n (.osl B g 0 n sz none)
def gsV (cs : List RV) (n : Nat) : RV := if n = 0 then .nil else .sl cs n none
theorem Sl.gsV {cs : List RV} {n : Nat} (h : n = 0 → cs = []) : Sl cs n (gsV cs n) := by
  unfold Go.AM.T.gsV
  split
  · rename_i e; subst e; rw [h rfl]; exact Sl.nil
  · exact Sl.mk _ _ _
theorem GS.app {H : List Blk} {W : List Nat} {L : Nat} {T : TypeId} {sz n bytes k : Nat} {cs new : List RV} {pv : AV} {c : Option Nat} (h : GS H L T sz cs n pv) (hL : L ≤ H.length) (hk : 0 < k) (hn : new.length = k * sz) (hr : roomOk (n + k) bytes) :
    ∃ B g H' W', appendA { h := H, wr := W } T sz bytes pv (.r (.sl new k c)) = some (.osl B g 0 (n + k) sz none, { h := H', wr := W' }) ∧ (W' = W ∨ W' = B :: W) ∧ L ≤ B ∧ GS H' L T sz (cs ++ new) (n + k) (.osl B g 0 (n + k) sz none) ∧
      (H' = H ++ [.cells (rs (cs ++ new)) T 0] ∨ (H' = H.set B (.cells (rs (cs ++ new)) T g) ∧ ∃ g', H[B]? = some (.cells (rs cs) T g'))) := by
  have hsl : ∀ m, slCells m (.r (.sl new k c)) sz = some (rs new, k) := fun m => by simp only [slCells]; rw [if_pos hn]
  cases h with
  | nil e1 e2 =>
    subst e1; subst e2
    refine ⟨H.length, 0, H ++ [.cells (rs new) T 0], W, ?_, .inl rfl, hL, ?_, .inl rfl⟩
    · unfold appendA
      rw [hsl]
      simp only
      rw [if_neg (by omega), if_pos (by simpa using hr)]
      simp
    · exact GS.osl H.length 0 hL (by simp) (by omega) (by simpa using hn)
  | osl B g h1 h2 h3 h4 =>
    have hB := getElem?_lt h2
    refine ⟨B, g + 1, H.set B (.cells (rs (cs ++ new)) T (g + 1)), B :: W, ?_, .inr rfl, h1, ?_, .inr ⟨rfl, g, h2⟩⟩
    · unfold appendA
      rw [hsl]
      simp only [h2]
      rw [if_pos ⟨trivial, trivial, trivial, by rw [rs_len]; omega, hr⟩, if_neg (by omega), List.take_of_length_le (by rw [rs_len]; omega), rs_append]
    · exact GS.osl B (g + 1) h1 (List.getElem?_set_self hB) (by omega) (by rw [List.length_append, Nat.add_mul]; omega)
theorem GS.fz {H : List Blk} {W : List Nat} {L : Nat} {T : TypeId} {sz n : Nat} {cs : List RV} {pv : AV} (h : GS H L T sz cs n pv) {k : Nat} (hk : cs.length + 1 < k) : Go.AM.fz { h := H, wr := W } L k pv = some (.r (gsV cs n)) := by
  obtain ⟨k, rfl⟩ : ∃ j, k = j + 1 := ⟨k - 1, by omega⟩
  unfold Go.AM.T.gsV
  cases h with
  | nil e1 e2 => rw [if_pos e1]; rfl
  | osl B g h1 h2 h3 h4 =>
    rw [if_neg (by omega)]
    exact fz_osl (t := T) h2 h1 h4 (by omega)
/-- What lies below stays. -/
theorem GS.keep {H H' : List Blk} {B g i : Nat} {T : TypeId} {cs new : List RV} (h : H' = H ++ [.cells (rs (cs ++ new)) T 0] ∨ (H' = H.set B (.cells (rs (cs ++ new)) T g) ∧ ∃ g', H[B]? = some (.cells (rs cs) T g'))) {b : Blk} (hb : H[i]? = some b)
    (hT : ∀ ds g, b ≠ .cells ds T g) : H'[i]? = some b := by
  rcases h with rfl | ⟨rfl, g', h2⟩
  · rw [List.getElem?_append_left (getElem?_lt hb)]; exact hb
  · rw [List.getElem?_set_ne]
    · exact hb
    · intro e
      subst e
      rw [h2] at hb
      exact hT _ _ (Option.some.inj hb).symm
theorem GS.keepT {H H' : List Blk} {B g L : Nat} {T : TypeId} {cs new : List RV} (h : H' = H ++ [.cells (rs (cs ++ new)) T 0] ∨ (H' = H.set B (.cells (rs (cs ++ new)) T g) ∧ ∃ g', H[B]? = some (.cells (rs cs) T g'))) (hB : L ≤ B) (hL : L ≤ H.length) : H'.take L = H.take L ∧ H.length ≤ H'.length := by
  rcases h with rfl | ⟨rfl, g', h2⟩
  · exact ⟨List.take_append_of_le_length hL, by simp⟩
  · exact ⟨List.take_set_of_le hB, by simp⟩

/-- The doubtful members. -/
def doubtsL (d : Div) : List Int := ((List.range d.n.toNat).filter fun (i : Nat) => decide (1 < (may d i).length)).map fun (i : Nat) => (i : Int)
theorem doubtsL_len (d : Div) : (doubtsL d).length ≤ d.n.toNat := by
  unfold doubtsL
  rw [List.length_map]
  exact Nat.le_trans (List.length_filter_le _ _) (by simp)
def slI (l : List Int) : RV := gsV (ints .i64 l) l.length
theorem Sl.slI (l : List Int) : SlI l (slI l) := Sl.gsV fun h => by rw [List.length_eq_zero_iff] at h; rw [h]; rfl

section
variable {d : Div} {a0 a1 n0 n1 p q : RV}
theorem doubts_spec (hn : 1 ≤ d.n ∧ d.n ≤ 40) (m : Mem) : CallR C (fnv fn_tally_looked_doubts) [.r (.agg (lookC d (divC d a0 a1 n0 n1 p q)))] m (.ret (.r (slI (doubtsL d))) m) := by
  have lR : (lookC d (divC d a0 a1 n0 n1 p q)).length = 91 := lookC_len
  have hRn := lookC_n (d := d) (a0 := a0) (a1 := a1) (n0 := n0) (n1 := n1) (p := p) (q := q)
  have hRm : ∀ i : Nat, i < 40 → (i : Int) < d.n → List.take 1 (List.drop (51 + i) (rs (lookC d (divC d a0 a1 n0 n1 p q)))) = [.r (slU (may d i))] := fun i => lookC_may
  obtain ⟨R, hRR⟩ : ∃ R, R = lookC d (divC d a0 a1 n0 n1 p q) := ⟨_, rfl⟩
  rw [← hRR] at lR hRn ⊢
  rw [← hRR] at hRm
  obtain ⟨f, hf⟩ : ∃ f : Nat → Bool, f = fun (i : Nat) => decide (1 < (may d i).length) := ⟨_, rfl⟩
  have key := Loop.run (C := C) (c := l_tally_looked_doubts_0) (live := [1, 2, 6, 7]) (fun k s => ∃ (i : Nat) (H : List Blk) (W : List Nat) (v : AV), (i : Int) + k = d.n ∧ At1 [1, 2, 6, 7] [(1, .own m.h.length 0 0), (2, v), (6, i64 d.n), (7, i64 i)] { h := H, wr := W } s ∧
      GS H (m.h.length + 1) ty_int 1 (ints .i64 (((List.range i).filter f).map fun (i : Nat) => (i : Int))) ((List.range i).filter f).length v ∧ H[m.h.length]? = some (.cells (rs R) ty_tally_looked 0) ∧ H.take m.h.length = m.h ∧ ∀ x ∈ W, m.h.length ≤ x)
    (fun o s => ∃ (H : List Blk) (W : List Nat) (v : AV), o = .exit 0 ∧ s.m = { h := H, wr := W } ∧ s.defs = [] ∧ eget s.env 2 = v ∧ GS H (m.h.length + 1) ty_int 1 (ints .i64 (doubtsL d)) (doubtsL d).length v ∧ H.take m.h.length = m.h ∧ ∀ x ∈ W, m.h.length ≤ x) (by
    rintro k s ⟨i, H, W, v, hik, ⟨he, hm, hd, hr⟩, hG, hc, ht, hw⟩
    rw [he]
    cases k with
    | zero =>
      have e1 : ((i : Int) < d.n) = False := eq_false (by omega)
      refine ⟨.exit 0, _, .of fun K => by simp [l_tally_looked_doubts_0, e1]; rfl, .inr ⟨by simp, H, W, v, rfl, by simp [hm], by simp [hd], by simp, ?_, ht, hw⟩⟩
      have hi : d.n.toNat = i := by omega
      unfold doubtsL
      rw [hi, ← hf, List.length_map]
      exact hG
    | succ k =>
      have hi : (i : Int) < d.n := by omega
      have e1 : ((i : Int) < d.n) = True := eq_true hi
      have hi40 : i < 40 := by omega
      have e2 : ((i : Int) < 40) = True := eq_true (by omega)
      have w1 : IntKind.wrap .i64 ((i : Int) + 1) = i + 1 := by rw [w64] <;> omega
      have oa : (51 + i + 1 ≤ 91) = True := eq_true (by omega)
      have hl := (Sl.slU (may d i)).len
      have hll : m.h.length < H.length := getElem?_lt hc
      cases e3 : f i with
      | true =>
        have e4 : (1 < ((may d i).length : Int)) = True := eq_true (by rw [hf] at e3; simp at e3; omega)
        have hlen : ((List.range i).filter f).length ≤ i := Nat.le_trans (List.length_filter_le _ _) (by simp)
        obtain ⟨B, g, H', W', hA, hW', hB, hG', hK⟩ := hG.app (W := W) (new := [.lit (.int .i64 i)]) (bytes := 8) (k := 1) (c := some 1) (by omega) (by omega) rfl ⟨by omega, by omega⟩
        refine ⟨.norm, _, .of fun K => by simp [l_tally_looked_doubts_0, e1, e2, hm, hc, rs_len, lR, oa, hRm i hi40 hi, hl, e4, allR, AV.toR, repl, hA, w1]; rfl, .inl ⟨rfl, k, by omega, i + 1, H', W', _, by omega, ⟨by simp; rfl, rfl, by simp [hd], by simp [hr]⟩, ?_, ?_, ?_, ?_⟩⟩
        · rw [List.range_succ, List.filter_append, List.map_append, List.length_append]
          simp only [List.filter_cons, e3, if_true, List.filter_nil, List.map_cons, List.map_nil, List.length_cons, List.length_nil]
          have : ints .i64 (((List.range i).filter f).map (fun (i : Nat) => (i : Int)) ++ [(i : Int)]) = ints .i64 (((List.range i).filter f).map fun (i : Nat) => (i : Int)) ++ [.lit (.int .i64 i)] := by simp [ints]
          rw [this]
          exact hG'
        · exact GS.keep hK hc (fun ds g h => by cases h)
        · exact (GS.keepT hK (L := m.h.length) (by omega) (by omega)).1.trans ht
        · intro x hx
          rcases hW' with rfl | rfl
          · exact hw x hx
          · rcases List.mem_cons.1 hx with rfl | hx
            · omega
            · exact hw x hx
      | false =>
        have e4 : (1 < ((may d i).length : Int)) = False := eq_false (by rw [hf] at e3; simp at e3; omega)
        refine ⟨.norm, _, .of fun K => by simp [l_tally_looked_doubts_0, e1, e2, hm, hc, rs_len, lR, oa, hRm i hi40 hi, hl, e4, w1]; rfl, .inl ⟨rfl, k, by omega, i + 1, H, W, v, by omega, ⟨by simp, by simp [hm], by simp [hd], by simp [hr]⟩, ?_, hc, ht, hw⟩⟩
        rw [List.range_succ, List.filter_append]
        rw [show List.filter f [i] = [] by simp [e3], List.append_nil]
        exact hG)
  obtain ⟨H, hH⟩ : ∃ H, H = m.h ++ [.cells (rs R) ty_tally_looked 0] := ⟨_, rfl⟩
  have hc : H[m.h.length]? = some (.cells (rs R) ty_tally_looked 0) := by simp [hH]
  have ht : H.take m.h.length = m.h := by simp [hH]
  obtain ⟨o, s, h1, h2, H', W', v, rfl, h3, h4, h5, h6, h7, h8⟩ := key d.n.toNat { env := [(1, .own m.h.length 0 0), (2, .r .nil), (6, i64 d.n), (7, i64 0)], m := { h := H } } ⟨0, H, [], .r .nil, by omega, ⟨by simp, rfl, rfl, rfl⟩, .nil rfl rfl, hc, ht, by simp⟩
  obtain ⟨c0, h1⟩ := h1.get
  have hz : fz { h := H', wr := W' } m.h.length 1000000 v = some (.r (slI (doubtsL d))) := by
    have h6' : GS H' m.h.length ty_int 1 (ints .i64 (doubtsL d)) (doubtsL d).length v := by
      cases h6 with
      | nil e1 e2 => exact .nil e1 e2
      | osl B g k1 k2 k3 k4 => exact .osl B g (by omega) k2 k3 k4
    exact h6'.fz (by rw [ints_len]; have := doubtsL_len d; omega)
  exact CallR.eval (m1 := { h := H', wr := W' }) rfl rfl prog_tally_looked_doubts rfl ⟨c0, fun k hk => by simp [a_tally_looked_doubts, ← hH, hc, rs_len, lR, hRn, h1 k hk, h3, h4, h5, hz]⟩ h7 h8
end
end Go.AM.T
/- What the functions compute (own work). -/
namespace Go.AM.T
open Go Go.AM
attribute [local simp] so_mov so_pick so_alloc so_box so_build so_slit so_load so_store so_nilc so_bin so_beq so_eqs so_eqn so_eqnl so_not so_conv so_s2b so_mkfn so_slcA so_padd so_fld so_idxA so_idxV so_idxT so_look so_mupd so_mkmap so_mksl so_ext so_app so_lenT so_lenM so_min so_max so_cpy so_clr so_mkif so_tass so_lenS so_idxS so_slc
attribute [local simp] dn_skip dn_label dn_ret dn_exit dn_scope dn_keep dn_reg dn_draw0 noSlots denE denEI stepE  sd_mov sd_pick sd_build sd_load sd_store sd_nilc sd_bin sd_beq sd_eqs sd_eqn sd_eqnl sd_not sd_conv sd_s2b sd_mkfn sd_slc sd_slcA sd_padd sd_fld sd_idxS sd_idxA sd_idxV sd_idxT sd_look sd_mupd sd_ext sd_app sd_lenS sd_lenT sd_lenM sd_min sd_max sd_mkif sd_tass sd_call sd_slit dn_seq dn_cond dn_block dn_loop kn_call denIs denI denOp wants ev eget putD binL enumFrom AV.bool? AV.int? ekeep evs evp runV fin runDefs resAll resOf tupOf unit AV.cells okV ok1 Value.oneCell' fill setN rcells rs_nil rs_cons load_own load_cons mkAgg_rs storeN jmpOut
attribute [local simp] dvL dv1t dvAt mkAgg2 dv0 dv1 dv2 dv3 dv4 dv5 dv6 dv7 dv8 dv9 dv10 dvA dvN dvAll C_fz fzr
def faultI (d : Div) : Int := if rightB d then (if (clashB d).isSome then 9 else 0) else 1
def openI (d : Div) : Int := if faultI d = 0 then (if 8 < (doubtsL d).length then 3 else 0) else faultI d
theorem faultI0 {d : Div} (h : faultI d = 0) : rightB d = true ∧ clashB d = none := by
  unfold faultI at h
  cases e : rightB d with
  | false => simp [e] at h
  | true =>
    cases e2 : clashB d with
    | none => exact ⟨rfl, rfl⟩
    | some i => simp [e, e2] at h
section
variable {d : Div} {a0 a1 n0 n1 p q : RV}
theorem begin_spec (hs : DivS d a0 a1 n0 n1 p q) (hb : Small d) (hr : 0 ≤ d.rule ∧ d.rule ≤ 255) (m : Mem) : CallR C (fnv fn_tally_begin) [.r (.agg (divC d a0 a1 n0 n1 p q))] m
    (.ret (.tup [.r (.agg (if faultI d = 0 then lookC d (divC d a0 a1 n0 n1 p q) else z_tally_looked)), i64 (faultI d)]) m) := by
  have hZl : z_tally_looked.length = 91 := rfl
  have lR : (lookC d (divC d a0 a1 n0 n1 p q)).length = 91 := lookC_len
  obtain ⟨Z, hZ⟩ : ∃ Z, Z = z_tally_looked := ⟨_, rfl⟩
  obtain ⟨R, hRR⟩ : ∃ R, R = lookC d (divC d a0 a1 n0 n1 p q) := ⟨_, rfl⟩
  obtain ⟨H, hH⟩ : ∃ H, H = m.h ++ [.cells (rs (divC d a0 a1 n0 n1 p q)) ty_tally_Division 0, .cells (rs Z) ty_tally_looked 0] := ⟨_, rfl⟩
  have hc : H[m.h.length]? = some (.cells (rs (divC d a0 a1 n0 n1 p q)) ty_tally_Division 0) := by simp [hH]
  have hc1 : H[m.h.length + 1]? = some (.cells (rs Z) ty_tally_looked 0) := by simp [hH]
  have ht : H.take m.h.length = m.h := by simp [hH]
  obtain ⟨c1, k1⟩ := valid_spec hs hb hr { h := H }
  rw [valid_right] at k1
  rw [← hZ] at hZl
  have hZt : List.take 91 (rs Z) = rs Z := List.take_of_length_le (by rw [rs_len]; omega)
  have hZd : List.drop 91 (rs Z) = [] := List.drop_eq_nil_of_le (by rw [rs_len]; omega)
  have hHl : H.length = m.h.length + 2 := by simp [hH]
  have hse : ∀ b : Blk, (H.set (m.h.length + 1) b)[m.h.length + 1]? = some b := fun b => List.getElem?_set_self (by omega)
  have hd11 : (divC d a0 a1 n0 n1 p q).length = 11 := rfl
  cases e : rightB d with
  | false =>
    rw [e] at k1
    have ef : faultI d = 1 := by simp [faultI, e]
    rw [ef, if_neg (by decide), ← hZ]
    refine CallR.eval (m1 := { h := H.set (m.h.length + 1) (.cells (rs Z) ty_tally_looked 0), wr := [m.h.length + 1] }) rfl rfl prog_tally_begin rfl ⟨c1, fun k hk => ?_⟩ (by rw [List.take_set_of_le (by omega)]; exact ht) (by simp)
    simp [a_tally_begin, ← hZ, ← hH, hc, hc1, hd11, rs_len, hZl, hZt, hZd, k1 k (by omega), fz, fzs, hse]
  | true =>
    rw [e] at k1
    obtain ⟨c2, k2⟩ := look_spec hs hb (right_n e) (right_pairs40 e) { h := H }
    rw [← hRR] at k2 lR
    have hRt : List.take 91 (rs R) = rs R := List.take_of_length_le (by rw [rs_len]; omega)
    have hRd : List.drop 91 (rs R) = [] := List.drop_eq_nil_of_le (by rw [rs_len]; omega)
    obtain ⟨c3, k3⟩ := looked_clash_spec (d := d) (a0 := a0) (a1 := a1) (n0 := n0) (n1 := n1) (p := p) (q := q) (right_n e) { h := H ++ [.cells (rs R) ty_tally_looked 0], wr := [H.length] }
    rw [← hRR] at k3
    have hg1 : (H ++ [Blk.cells (rs R) ty_tally_looked 0])[m.h.length + 1]? = some (.cells (rs Z) ty_tally_looked 0) := by rw [List.getElem?_append_left (by omega)]; exact hc1
    have hg2 : (H ++ [Blk.cells (rs R) ty_tally_looked 0])[H.length]? = some (.cells (rs R) ty_tally_looked 0) := by simp
    have hset : ∀ b b' : Blk, (H ++ [b]).set (H.length) b' = H ++ [b'] := fun b b' => by simp
    have hg0 : ∀ b : Blk, (H ++ [b])[H.length]? = some b := fun b => by simp
    have hse2 : ∀ b b' : Blk, ((H ++ [b]).set (m.h.length + 1) b')[m.h.length + 1]? = some b' := fun b b' => List.getElem?_set_self (by simp; omega)
    cases e2 : clashB d with
    | none =>
      rw [e2] at k3
      have ef : faultI d = 0 := by simp [faultI, e, e2]
      rw [ef, if_pos rfl, ← hRR]
      refine CallR.eval (m1 := { h := (H ++ [Blk.cells (rs R) ty_tally_looked 0]).set (m.h.length + 1) (.cells (rs R) ty_tally_looked 0), wr := [m.h.length + 1, H.length] }) rfl rfl prog_tally_begin rfl ⟨c1 + c2 + c3, fun k hk => ?_⟩ (by rw [List.take_set_of_le (by omega), List.take_append_of_le_length (by omega)]; exact ht) (by simp; omega)
      simp [a_tally_begin, ← hZ, ← hH, hc, hc1, hd11, rs_len, hZl, hZt, hZd, lR, hRt, hRd, hse2, hg0, hg1, hg2, hset, k1 k (by omega), k2 k (by omega), k3 k (by omega), fz, fzs]
    | some i =>
      rw [e2] at k3
      have ef : faultI d = 9 := by simp [faultI, e, e2]
      rw [ef, if_neg (by decide), ← hZ]
      refine CallR.eval (m1 := { h := (H ++ [Blk.cells (rs R) ty_tally_looked 0]).set (m.h.length + 1) (.cells (rs Z) ty_tally_looked 0), wr := [m.h.length + 1, H.length] }) rfl rfl prog_tally_begin rfl ⟨c1 + c2 + c3, fun k hk => ?_⟩ (by rw [List.take_set_of_le (by omega), List.take_append_of_le_length (by omega)]; exact ht) (by simp; omega)
      simp [a_tally_begin, ← hZ, ← hH, hc, hc1, hd11, rs_len, hZl, hZt, hZd, lR, hRt, hRd, hse2, hg0, hg1, hg2, hset, k1 k (by omega), k2 k (by omega), k3 k (by omega), fz, fzs]
end
end Go.AM.T
/- What the functions compute (own work). -/
namespace Go.AM.T
open Go Go.AM
attribute [local simp] so_mov so_pick so_alloc so_box so_build so_slit so_load so_store so_nilc so_bin so_beq so_eqs so_eqn so_eqnl so_not so_conv so_s2b so_mkfn so_slcA so_padd so_fld so_idxA so_idxV so_idxT so_look so_mupd so_mkmap so_mksl so_ext so_app so_lenT so_lenM so_min so_max so_cpy so_clr so_mkif so_tass so_lenS so_idxS so_slc
attribute [local simp] dn_skip dn_label dn_ret dn_exit dn_scope dn_keep dn_reg dn_draw0 noSlots denE denEI stepE  sd_mov sd_pick sd_build sd_load sd_store sd_nilc sd_bin sd_beq sd_eqs sd_eqn sd_eqnl sd_not sd_conv sd_s2b sd_mkfn sd_slc sd_slcA sd_padd sd_fld sd_idxS sd_idxA sd_idxV sd_idxT sd_look sd_mupd sd_ext sd_app sd_lenS sd_lenT sd_lenM sd_min sd_max sd_mkif sd_tass sd_call sd_slit dn_seq dn_cond dn_block dn_loop kn_call denIs denI denOp wants ev eget putD binL enumFrom AV.bool? AV.int? ekeep evs evp runV fin runDefs resAll resOf tupOf unit AV.cells okV ok1 Value.oneCell' fill setN rcells rs_nil rs_cons load_own load_cons mkAgg_rs storeN jmpOut
attribute [local simp] dvL dv1t dvAt mkAgg2 dv0 dv1 dv2 dv3 dv4 dv5 dv6 dv7 dv8 dv9 dv10 dvA dvN dvAll C_fz fzr
section
variable {d : Div} {a0 a1 n0 n1 p q : RV}
theorem Doubts_spec (hs : DivS d a0 a1 n0 n1 p q) (hb : Small d) (hr : 0 ≤ d.rule ∧ d.rule ≤ 255) (m : Mem) : CallR C (fnv fn_tally_Doubts) [.r (.agg (divC d a0 a1 n0 n1 p q))] m
    (.ret (.tup [.r (if faultI d = 0 then slI (doubtsL d) else .nil), i64 (faultI d)]) m) := by
  obtain ⟨R, hRR⟩ : ∃ R, R = (if faultI d = 0 then lookC d (divC d a0 a1 n0 n1 p q) else z_tally_looked) := ⟨_, rfl⟩
  have lR : R.length = 91 := by rw [hRR]; split <;> rfl
  obtain ⟨H, hH⟩ : ∃ H, H = m.h ++ [.cells (rs (divC d a0 a1 n0 n1 p q)) ty_tally_Division 0] := ⟨_, rfl⟩
  have hc : H[m.h.length]? = some (.cells (rs (divC d a0 a1 n0 n1 p q)) ty_tally_Division 0) := by simp [hH]
  have ht : H.take m.h.length = m.h := by simp [hH]
  have hHl : H.length = m.h.length + 1 := by simp [hH]
  have hd11 : (divC d a0 a1 n0 n1 p q).length = 11 := rfl
  obtain ⟨c1, k1⟩ := begin_spec hs hb hr { h := H }
  rw [← hRR] at k1
  have hRt : List.take 91 (rs R) = rs R := List.take_of_length_le (by rw [rs_len]; omega)
  obtain ⟨Z, hZ⟩ : ∃ Z, Z = z_tally_looked := ⟨_, rfl⟩
  have hZl : Z.length = 91 := by rw [hZ]; rfl
  have hZd : List.drop 91 (rs Z) = [] := List.drop_eq_nil_of_le (by rw [rs_len]; omega)
  have hg0 : ∀ b : Blk, (H ++ [b])[H.length]? = some b := fun b => by simp
  have hset : ∀ b b' : Blk, (H ++ [b]).set H.length b' = H ++ [b'] := fun b b' => by simp
  by_cases e : faultI d = 0
  · rw [e] at k1
    obtain ⟨e1, e2⟩ := faultI0 e
    obtain ⟨c2, k2⟩ := doubts_spec (d := d) (a0 := a0) (a1 := a1) (n0 := n0) (n1 := n1) (p := p) (q := q) (right_n e1) { h := H ++ [.cells (rs R) ty_tally_looked 0], wr := [H.length] }
    rw [if_pos e] at hRR
    rw [← hRR] at k2
    rw [if_pos e, e]
    refine CallR.eval (m1 := { h := H ++ [.cells (rs R) ty_tally_looked 0], wr := [H.length] }) rfl rfl prog_tally_Doubts rfl ⟨c1 + c2, fun k hk => ?_⟩ (by rw [List.take_append_of_le_length (by omega)]; exact ht) (by simp; omega)
    simp [a_tally_Doubts, ← hZ, ← hH, hc, hd11, rs_len, hZl, hZd, lR, hRt, hg0, hset, k1 k (by omega), k2 k (by omega), fz, fzs]
  · rw [if_neg e]
    have e' : (faultI d == 0) = false := by simpa using e
    refine CallR.eval (m1 := { h := H ++ [.cells (rs R) ty_tally_looked 0], wr := [H.length] }) rfl rfl prog_tally_Doubts rfl ⟨c1, fun k hk => ?_⟩ (by rw [List.take_append_of_le_length (by omega)]; exact ht) (by simp; omega)
    simp [a_tally_Doubts, ← hZ, ← hH, hc, hd11, rs_len, hZl, hZd, lR, hRt, hg0, hset, k1 k (by omega), e', e, fz, fzs]

theorem topen_spec (hs : DivS d a0 a1 n0 n1 p q) (hb : Small d) (hr : 0 ≤ d.rule ∧ d.rule ≤ 255) (m : Mem) : CallR C (fnv fn_tally_open) [.r (.agg (divC d a0 a1 n0 n1 p q))] m
    (.ret (.tup [.r (.agg (if openI d = 0 then lookC d (divC d a0 a1 n0 n1 p q) else z_tally_looked)), i64 (openI d)]) m) := by
  obtain ⟨R, hRR⟩ : ∃ R, R = (if faultI d = 0 then lookC d (divC d a0 a1 n0 n1 p q) else z_tally_looked) := ⟨_, rfl⟩
  have lR : R.length = 91 := by rw [hRR]; split <;> rfl
  have hRt : List.take 91 (rs R) = rs R := List.take_of_length_le (by rw [rs_len]; omega)
  have hRd : List.drop 91 (rs R) = [] := List.drop_eq_nil_of_le (by rw [rs_len]; omega)
  obtain ⟨Z, hZ⟩ : ∃ Z, Z = z_tally_looked := ⟨_, rfl⟩
  have hZl : Z.length = 91 := by rw [hZ]; rfl
  have hZt : List.take 91 (rs Z) = rs Z := List.take_of_length_le (by rw [rs_len]; omega)
  have hZd : List.drop 91 (rs Z) = [] := List.drop_eq_nil_of_le (by rw [rs_len]; omega)
  obtain ⟨H, hH⟩ : ∃ H, H = m.h ++ [.cells (rs (divC d a0 a1 n0 n1 p q)) ty_tally_Division 0, .cells (rs Z) ty_tally_looked 0] := ⟨_, rfl⟩
  have hc : H[m.h.length]? = some (.cells (rs (divC d a0 a1 n0 n1 p q)) ty_tally_Division 0) := by simp [hH]
  have hc1 : H[m.h.length + 1]? = some (.cells (rs Z) ty_tally_looked 0) := by simp [hH]
  have ht : H.take m.h.length = m.h := by simp [hH]
  have hHl : H.length = m.h.length + 2 := by simp [hH]
  have hd11 : (divC d a0 a1 n0 n1 p q).length = 11 := rfl
  obtain ⟨c1, k1⟩ := begin_spec hs hb hr { h := H }
  rw [← hRR] at k1
  have hg0 : ∀ b : Blk, (H ++ [b])[H.length]? = some b := fun b => by simp
  have hg1 : ∀ b : Blk, (H ++ [b])[m.h.length + 1]? = some (.cells (rs Z) ty_tally_looked 0) := fun b => by rw [List.getElem?_append_left (by omega)]; exact hc1
  have hset : ∀ b b' : Blk, (H ++ [b]).set H.length b' = H ++ [b'] := fun b b' => by simp
  have hse2 : ∀ b b' : Blk, ((H ++ [b]).set (m.h.length + 1) b')[m.h.length + 1]? = some b' := fun b b' => List.getElem?_set_self (by simp; omega)
  have fin : ∀ (X : List RV) (e : Int) (c : Nat), (∀ k, c ≤ k → runV (Kn C k) C.fz a_tally_open [.r (.agg (divC d a0 a1 n0 n1 p q))] m.h = some (.tup [.r (.agg X), i64 e], { h := (H ++ [Blk.cells (rs R) ty_tally_looked 0]).set (m.h.length + 1) (.cells (rs X) ty_tally_looked 0), wr := [m.h.length + 1, H.length] })) →
      CallR C (fnv fn_tally_open) [.r (.agg (divC d a0 a1 n0 n1 p q))] m (.ret (.tup [.r (.agg X), i64 e]) m) := fun X e c h =>
    CallR.eval rfl rfl prog_tally_open rfl ⟨c, fun k hk => by simpa using h k hk⟩ (by rw [List.take_set_of_le (by omega), List.take_append_of_le_length (by omega)]; exact ht) (by simp; omega)
  by_cases e : faultI d = 0
  · rw [e] at k1
    obtain ⟨e1, e2⟩ := faultI0 e
    obtain ⟨c2, k2⟩ := doubts_spec (d := d) (a0 := a0) (a1 := a1) (n0 := n0) (n1 := n1) (p := p) (q := q) (right_n e1) { h := H ++ [.cells (rs R) ty_tally_looked 0], wr := [H.length] }
    rw [if_pos e] at hRR
    rw [← hRR] at k2 ⊢
    have hl := (Sl.slI (doubtsL d)).len
    by_cases e3 : 8 < (doubtsL d).length
    · have eo : openI d = 3 := by simp [openI, e, e3]
      have e3' : (8 < ((doubtsL d).length : Int)) = True := eq_true (by omega)
      rw [eo, if_neg (by decide), ← hZ]
      refine fin Z 3 (c1 + c2) fun k hk => ?_
      simp [a_tally_open, ← hZ, ← hH, hc, hd11, rs_len, hZl, hZd, hZt, lR, hRt, hRd, hg0, hg1, hset, hse2, k1 k (by omega), k2 k (by omega), hl, e3', fz, fzs]
    · have eo : openI d = 0 := by simp [openI, e, e3]
      have e3' : (8 < ((doubtsL d).length : Int)) = False := eq_false (by omega)
      rw [eo, if_pos rfl]
      refine fin R 0 (c1 + c2) fun k hk => ?_
      simp [a_tally_open, ← hZ, ← hH, hc, hd11, rs_len, hZl, hZd, hZt, lR, hRt, hRd, hg0, hg1, hset, hse2, k1 k (by omega), k2 k (by omega), hl, e3', fz, fzs]
  · have e' : (faultI d == 0) = false := by simpa using e
    have eo : openI d = faultI d := by simp [openI, e]
    rw [eo, if_neg e]
    rw [if_neg e] at hRR
    rw [← hRR]
    refine fin R (faultI d) c1 fun k hk => ?_
    simp [a_tally_open, ← hZ, ← hH, hc, hd11, rs_len, hZl, hZd, hZt, lR, hRt, hRd, hg0, hg1, hset, hse2, k1 k (by omega), e', e, fz, fzs]
end
end Go.AM.T
/- What the functions compute (own work). -/
namespace Go.AM.T
open Go Go.AM
attribute [local simp] so_mov so_pick so_alloc so_box so_build so_slit so_load so_store so_nilc so_bin so_beq so_eqs so_eqn so_eqnl so_not so_conv so_s2b so_mkfn so_slcA so_padd so_fld so_idxA so_idxV so_idxT so_look so_mupd so_mkmap so_mksl so_ext so_app so_lenT so_lenM so_min so_max so_cpy so_clr so_mkif so_tass so_lenS so_idxS so_slc
attribute [local simp] dn_skip dn_label dn_ret dn_exit dn_scope dn_keep dn_reg dn_draw0 noSlots denE denEI stepE  sd_mov sd_pick sd_build sd_load sd_store sd_nilc sd_bin sd_beq sd_eqs sd_eqn sd_eqnl sd_not sd_conv sd_s2b sd_mkfn sd_slc sd_slcA sd_padd sd_fld sd_idxS sd_idxA sd_idxV sd_idxT sd_look sd_mupd sd_ext sd_app sd_lenS sd_lenT sd_lenM sd_min sd_max sd_mkif sd_tass sd_call sd_slit dn_seq dn_cond dn_block dn_loop kn_call denIs denI denOp wants ev eget putD binL enumFrom AV.bool? AV.int? ekeep evs evp runV fin runDefs resAll resOf tupOf unit AV.cells okV ok1 Value.oneCell' fill setN rcells rs_nil rs_cons load_own load_cons mkAgg_rs storeN jmpOut
attribute [local simp] dvL dv1t dvAt mkAgg2 dv0 dv1 dv2 dv3 dv4 dv5 dv6 dv7 dv8 dv9 dv10 dvA dvN dvAll C_fz fzr
/-- All that fit, the least one first: so many members are left. -/
def truthsFrom (d : Div) : Nat → Nat → List Int → List (List Int)
  | 0, _, t => [t]
  | r + 1, k, t => (may d k).flatMap fun v => truthsFrom d r (k + 1) (t.set k v)
def foldS {σ : Type} (step : σ → List Int → σ × Bool) : σ → List (List Int) → σ × Bool
  | s, [] => (s, true)
  | s, t :: l => if (step s t).2 then foldS step (step s t).1 l else ((step s t).1, false)
theorem foldS_cons {σ : Type} (step : σ → List Int → σ × Bool) (s : σ) (t : List Int) (l : List (List Int)) : foldS step s (t :: l) = if (step s t).2 then foldS step (step s t).1 l else ((step s t).1, false) := rfl
theorem foldS_append {σ : Type} (step : σ → List Int → σ × Bool) : ∀ (a b : List (List Int)) (s : σ), foldS step s (a ++ b) = if (foldS step s a).2 then foldS step (foldS step s a).1 b else ((foldS step s a).1, false)
  | [], b, s => by simp [foldS]
  | t :: a, b, s => by
    rw [List.cons_append, foldS_cons, foldS_cons]
    cases e : (step s t).2 with
    | true => simp only [if_true]; exact foldS_append step a b _
    | false => simp
theorem foldS_single {σ : Type} (step : σ → List Int → σ × Bool) (s : σ) (t : List Int) : foldS step s [t] = step s t := by
  unfold foldS
  cases e : (step s t).2 with
  | true => simp only [if_true, foldS]; rw [← e]
  | false => simp only [Bool.false_eq_true, if_false]; rw [← e]
def TOk (t : List Int) : Prop := t.length = 40 ∧ ∀ v ∈ t, 0 ≤ v ∧ v ≤ 2
theorem may_ok {d : Div} {x : Int} {v : Int} (h : v ∈ may d x) : 0 ≤ v ∧ v ≤ 2 := by
  unfold may votesL at h
  simp only [List.mem_append] at h
  rcases h with (h | h) | h <;> split at h <;> simp at h <;> omega
theorem TOk.set {t : List Int} (h : TOk t) {v : Int} (hv : 0 ≤ v ∧ v ≤ 2) (k : Nat) : TOk (t.set k v) := by
  refine ⟨by rw [List.length_set]; exact h.1, fun x hx => ?_⟩
  rcases List.mem_or_eq_of_mem_set hx with hx | rfl
  · exact h.2 x hx
  · exact hv

theorem foldS_al {σ : Type} {alive : σ → Bool} {step : σ → List Int → σ × Bool} (al : ∀ s t, alive (step s t).1 = (step s t).2) : ∀ (l : List (List Int)) (s : σ), alive s = true → alive (foldS step s l).1 = (foldS step s l).2
  | [], s, h => h
  | t :: l, s, h => by
    rw [foldS_cons]
    cases e : (step s t).2 with
    | true => simp only [if_true]; exact foldS_al al l _ (by rw [al, e])
    | false => simp only [Bool.false_eq_true, if_false]; rw [al, e]
theorem foldS_rk {σ : Type} {rank : σ → Nat} {step : σ → List Int → σ × Bool} (rk : ∀ s t, rank (step s t).1 ≤ rank s + 1) : ∀ (l : List (List Int)) (s : σ), rank (foldS step s l).1 ≤ rank s + l.length
  | [], s => by simp [foldS]
  | t :: l, s => by
    rw [foldS_cons]
    have := rk s t
    split
    · have := foldS_rk rk l (step s t).1
      simp only [List.length_cons]; omega
    · simp only [List.length_cons]; omega
/-- A loop's rounds, as steps. -/
structure YldOk {σ : Type} (alive : σ → Bool) (rank : σ → Nat) (N : Nat) (i n0 L : Nat) (J : σ → List Blk → List Nat → Prop) (step : σ → List Int → σ × Bool) : Prop where
  le : L ≤ n0
  al : ∀ s t, alive (step s t).1 = (step s t).2
  rk : ∀ s t, rank (step s t).1 ≤ rank s + 1
  call : ∀ s H W F t, alive s = true → rank s < N → TOk t → J s H F → n0 ≤ H.length → ∃ H' W' F', CallR C (.yld i) [.r (.agg (ints .u8 t))] { h := H, wr := W } (.ret (bo (step s t).2) { h := H', wr := W' }) ∧ J (step s t).1 H' F' ∧ H.length ≤ H'.length ∧
    (∀ j, n0 ≤ j → j < H.length → j ∉ F → H'[j]? = H[j]? ∧ j ∉ F') ∧ ∀ x ∈ W', x ∈ W ∨ L ≤ x
  frame : ∀ s H H' F, J s H F → H.length ≤ H'.length → (∀ j, j < H.length → (j < n0 ∨ j ∈ F) → H'[j]? = H[j]?) → J s H' F
  lt : ∀ s H F, J s H F → ∀ j ∈ F, n0 ≤ j ∧ j < H.length

def growV (R : List RV) (y g : Nat) : AV := .fn fn_tally_looked_truths_1_1 [] [.r (.ptr R), .own y 0 0, .own g 0 0]

theorem ints_set (k : IntKind) (l : List Int) (i : Nat) (v : Int) : (ints k l).set i (.lit (.int k v)) = ints k (l.set i v) := by simp [ints, List.map_set]

section
variable {σ : Type} {alive : σ → Bool} {rank : σ → Nat} {N i n0 L : Nat} {J : σ → List Blk → List Nat → Prop} {step : σ → List Int → σ × Bool}
theorem grow_spec (hy : YldOk alive rank N i n0 L J step) {d : Div} (hn : 1 ≤ d.n ∧ d.n ≤ 40) {R : List RV} (hR0 : ∀ m, loadV m (.r (.ptr R)) 1 false = some (i64 d.n))
    (hRm : ∀ m (k : Nat), k < 40 → (k : Int) < d.n → loadV m (.r (.ptr (R.drop (51 + k)))) 1 false = some (.r (slU (may d k)))) :
    ∀ (r k : Nat), k + r = d.n.toNat → ∀ (t : List Int) (s : σ) (H : List Blk) (W F : List Nat) (y g : Nat), alive s = true → rank s + (truthsFrom d r k t).length ≤ N → TOk t → J s H F → n0 ≤ y → n0 ≤ g → y ∉ F → g ∉ F → n0 ≤ H.length →
      H[y]? = some (.cells [.yld i] ty_func_tally_truth_bool 0) → H[g]? = some (.cells [growV R y g] ty_func_tally_truth_int_bool 0) →
      ∃ H' W' F', CallR C (growV R y g) [.r (.agg (ints .u8 t)), i64 k] { h := H, wr := W } (.ret (bo (foldS step s (truthsFrom d r k t)).2) { h := H', wr := W' }) ∧ J (foldS step s (truthsFrom d r k t)).1 H' F' ∧ H.length ≤ H'.length ∧
        (∀ j, n0 ≤ j → j < H.length → j ∉ F → H'[j]? = H[j]? ∧ j ∉ F') ∧ ∀ x ∈ W', x ∈ W ∨ L ≤ x := by
  intro r
  induction r with
  | zero =>
    intro k hk t s H W F y g hal hrk ht hJ hy0 hg0 hyF hgF hH hY hG
    obtain ⟨Hb, hHb⟩ : ∃ Hb, Hb = H ++ [.cells (rs (ints .u8 t)) ty_tally_truth 0] := ⟨_, rfl⟩
    have hJ' : J s Hb F := hy.frame s H Hb F hJ (by simp [hHb]) fun j hj _ => by rw [hHb, List.getElem?_append_left hj]
    obtain ⟨H', W', F', ⟨c1, k1⟩, h2, h3, h4, h5⟩ := hy.call s Hb [] F t hal (by unfold truthsFrom at hrk; simp at hrk; omega) ht hJ' (by simp [hHb]; omega)
    have hY' : Hb[y]? = some (.cells [.yld i] ty_func_tally_truth_bool 0) := by rw [hHb, List.getElem?_append_left (getElem?_lt hY)]; exact hY
    have hT : Hb[H.length]? = some (.cells (rs (ints .u8 t)) ty_tally_truth 0) := by simp [hHb]
    have hkn : ((k : Int) == d.n) = true := by simp; omega
    have l40 : (ints .u8 t).length = 40 := by rw [ints_len]; exact ht.1
    have t40 : List.take 40 (rs (ints .u8 t)) = rs (ints .u8 t) := List.take_of_length_le (by rw [rs_len]; omega)
    obtain ⟨I, hI⟩ : ∃ I, I = ints .u8 t := ⟨_, rfl⟩
    rw [← hI] at hT l40 t40 k1 hHb ⊢
    refine ⟨H', oldWr H.length W' ++ W, F', ?_, ?_, ?_, ?_, ?_⟩
    · unfold truthsFrom
      rw [foldS_single]
      exact CallR.evalK (m1 := { h := H', wr := W' }) rfl rfl prog_tally_looked_truths_1_1 rfl ⟨c1, fun n hn' => by
        simp [runK, finK, a_tally_looked_truths_1_1, ← hHb, hR0, hkn, hY', hT, rs_len, l40, t40, k1 n hn']⟩
    · unfold truthsFrom
      rw [foldS_single]; exact h2
    · have : H.length ≤ Hb.length := by simp [hHb]
      show H.length ≤ H'.length
      omega
    · intro j h0 hj hF
      have hl : H.length ≤ Hb.length := by simp [hHb]
      obtain ⟨e1, e2⟩ := h4 j h0 (by omega) hF
      refine ⟨?_, e2⟩
      rw [e1, hHb, List.getElem?_append_left hj]
    · intro x hx
      rcases List.mem_append.1 hx with hx | hx
      · unfold oldWr at hx
        have := (List.mem_filter.1 hx).1
        rcases h5 x this with h | h
        · cases h
        · exact .inr h
      · exact .inl hx
  | succ r ih =>
    intro k hk t s H W F y g hal hrk ht hJ hy0 hg0 hyF hgF hH hY hG
    have hkn : ((k : Int) == d.n) = false := by simp; omega
    have hk40 : k < 40 := by omega
    have hkd : (k : Int) < d.n := by omega
    have e40 : ((k : Int) < 40) = True := eq_true (by omega)
    have wk : IntKind.wrap .i64 ((k : Int) + 1) = k + 1 := by rw [w64] <;> omega
    have hyl := getElem?_lt hY
    have hgl := getElem?_lt hG
    obtain ⟨V, hV⟩ : ∃ V, V = may d k := ⟨_, rfl⟩
    have hVl : V.length ≤ 3 := by
      rw [hV]; unfold may votesL
      rcases onB_cases d.a0 d.a1 k with e0 | e0 | e0 <;> rcases onB_cases d.n0 d.n1 k with e1 | e1 | e1 <;> rw [e0, e1] <;> decide
    obtain ⟨Hb, hHb⟩ : ∃ Hb, Hb = H ++ [.cells (rs (ints .u8 t)) ty_tally_truth 0] := ⟨_, rfl⟩
    have hHbl : Hb.length = H.length + 1 := by simp [hHb]
    have hJ' : J s Hb F := hy.frame s H Hb F hJ (by omega) fun j hj _ => by rw [hHb, List.getElem?_append_left hj]
    obtain ⟨tr, htr⟩ : ∃ tr : Int → List (List Int), tr = fun v => truthsFrom d r (k + 1) (t.set k v) := ⟨_, rfl⟩
    have hall : truthsFrom d (r + 1) k t = V.flatMap tr := by rw [hV, htr]; rfl
    rw [hall] at hrk ⊢
    have hS : Sl (ints .u8 V) V.length (slU V) := Sl.slU V
    have key := Loop.run (C := C) (c := l_tally_looked_truths_1_1_0) (live := [1, 4, 5, 21, 22, 23]) (fun kk st => ∃ (j : Nat) (t' : List Int) (H1 : List Blk) (W1 F1 : List Nat), j + kk = V.length ∧
        At1 [1, 4, 5, 21, 22, 23] [(1, i64 k), (4, .own g 0 0), (5, .own H.length 0 0), (21, .r (slU V)), (22, i64 V.length), (23, i64 j)] { h := H1, wr := W1 } st ∧ (foldS step s ((V.take j).flatMap tr)).2 = true ∧ J (foldS step s ((V.take j).flatMap tr)).1 H1 F1 ∧
        Hb.length ≤ H1.length ∧ H1[H.length]? = some (.cells (rs (ints .u8 t')) ty_tally_truth 0) ∧ t'.length = 40 ∧ (∀ v, t'.set k v = t.set k v) ∧ (∀ x, n0 ≤ x → x < H.length → x ∉ F → H1[x]? = H[x]? ∧ x ∉ F1) ∧ H.length ∉ F1 ∧ ∀ x ∈ W1, L ≤ x)
      (fun o st => ∃ (H1 : List Blk) (W1 F1 : List Nat), st.m = { h := H1, wr := W1 } ∧ st.defs = [] ∧ J (foldS step s (V.flatMap tr)).1 H1 F1 ∧ Hb.length ≤ H1.length ∧ (∀ x, n0 ≤ x → x < H.length → x ∉ F → H1[x]? = H[x]? ∧ x ∉ F1) ∧ (∀ x ∈ W1, L ≤ x) ∧
        ((o = .ret ∧ eget st.env 7 = bo false ∧ (foldS step s (V.flatMap tr)).2 = false) ∨ (o = .exit 0 ∧ (foldS step s (V.flatMap tr)).2 = true))) (by
      rintro kk st ⟨j, t', H1, W1, F1, hjk, ⟨he, hm, hd, hr⟩, hf2, hJ1, hl1, hT1, ht', hts, hfr, hTF, hW1⟩
      rw [he]
      cases kk with
      | zero =>
        have hj : j = V.length := by omega
        subst hj
        rw [List.take_length] at hf2 hJ1
        exact ⟨.exit 0, _, .of fun K => by simp [l_tally_looked_truths_1_1_0]; rfl, .inr ⟨by simp, H1, W1, F1, by simp [hm], by simp [hd], hJ1, hl1, hfr, hW1, .inr ⟨rfl, hf2⟩⟩⟩
      | succ kk =>
        have hj : j < V.length := by omega
        have w1 : IntKind.wrap .i64 ((j : Int) + 1) = j + 1 := by rw [w64] <;> omega
        have hv : 0 ≤ V[j] ∧ V[j] ≤ 2 := may_ok (d := d) (x := k) (by rw [← hV]; exact List.getElem_mem hj)
        obtain ⟨v, hvv⟩ : ∃ v, v = V[j] := ⟨_, rfl⟩
        have hpre : (V.take (j + 1)).flatMap tr = (V.take j).flatMap tr ++ tr v := by rw [List.take_succ_eq_append_getElem hj, List.flatMap_append, hvv]; simp
        have hall2 : V.flatMap tr = (V.take (j + 1)).flatMap tr ++ (V.drop (j + 1)).flatMap tr := by rw [← List.flatMap_append, List.take_append_drop]
        obtain ⟨s1, hs1⟩ : ∃ s1, s1 = (foldS step s ((V.take j).flatMap tr)).1 := ⟨_, rfl⟩
        have hfold : foldS step s ((V.take (j + 1)).flatMap tr) = foldS step s1 (tr v) := by rw [hpre, foldS_append, if_pos hf2, hs1]
        rw [← hs1] at hJ1
        obtain ⟨H2, hH2⟩ : ∃ H2, H2 = H1.set H.length (.cells (rs (ints .u8 (t.set k v))) ty_tally_truth 0) := ⟨_, rfl⟩
        have hJ2 : J s1 H2 F1 := hy.frame s1 H1 H2 F1 hJ1 (by simp [hH2]) fun x hx hor => by
          rw [hH2, List.getElem?_set_ne]
          rintro rfl
          rcases hor with h | h
          · omega
          · exact hTF h
        have hY1 := hfr y hy0 hyl hyF
        have hG1 := hfr g hg0 hgl hgF
        have hY2 : H2[y]? = some (.cells [.yld i] ty_func_tally_truth_bool 0) := by rw [hH2, List.getElem?_set_ne (by omega), hY1.1]; exact hY
        have hG2 : H2[g]? = some (.cells [growV R y g] ty_func_tally_truth_int_bool 0) := by rw [hH2, List.getElem?_set_ne (by omega), hG1.1]; exact hG
        obtain ⟨H3, W3, F3, ⟨c1, k1⟩, h2, h3, h4, h5⟩ := ih (k + 1) (by omega) (t.set k v) s1 H2 (H.length :: W1) F1 y g (by rw [hs1, foldS_al hy.al _ _ hal, hf2]) (by
          have h1 := foldS_rk hy.rk ((V.take j).flatMap tr) s
          rw [← hs1] at h1
          rw [hall2, hpre, List.length_append, List.length_append] at hrk
          have h2 : truthsFrom d r (k + 1) (t.set k v) = tr v := by rw [htr]
          rw [h2]; omega) (ht.set (by rw [hvv]; exact hv) k) hJ2 hy0 hg0 hY1.2 hG1.2 (by simp [hH2]; omega) hY2 hG2
        rw [show truthsFrom d r (k + 1) (t.set k v) = tr v by rw [htr], ← hfold] at k1 h2
        have hT2 : H2[H.length]? = some (.cells (rs (ints .u8 (t.set k v))) ty_tally_truth 0) := by rw [hH2]; exact List.getElem?_set_self (by omega)
        have l40 : (ints .u8 t').length = 40 := by rw [ints_len]; exact ht'
        have l40' : (ints .u8 (t.set k v)).length = 40 := by rw [ints_len, List.length_set]; exact ht.1
        have t40 : List.take 40 (rs (ints .u8 (t.set k v))) = rs (ints .u8 (t.set k v)) := List.take_of_length_le (by rw [rs_len]; omega)
        have lp : List.take k (rs (ints .u8 t')) ++ .r (.lit (.int .u8 v)) :: List.drop (k + 1) (rs (ints .u8 t')) = rs (ints .u8 (t.set k v)) := by
          have := setN_one (rs (ints .u8 t')) (o := k) (by rw [rs_len]; omega) (.r (.lit (.int .u8 v)))
          rw [rs_set, ints_set, hts] at this
          simpa [setN] using this
        have ok40 : (k + 1 ≤ 40) = True := eq_true (by omega)
        have hTl := h4 H.length (by omega) (by simp [hH2]; omega) hTF
        have hfr3 : ∀ x, n0 ≤ x → x < H.length → x ∉ F → H3[x]? = H[x]? ∧ x ∉ F3 := fun x h0 hx hF => by
          obtain ⟨e1, e2⟩ := hfr x h0 hx hF
          obtain ⟨e3, e4⟩ := h4 x h0 (by simp [hH2]; omega) e2
          exact ⟨by rw [e3, hH2, List.getElem?_set_ne (by omega), e1], e4⟩
        have hW3 : ∀ x ∈ W3, L ≤ x := fun x hx => by
          rcases h5 x hx with h | h
          · rcases List.mem_cons.1 h with rfl | h
            · have := hy.le; omega
            · exact hW1 x h
          · exact h
        have hl3 : Hb.length ≤ H3.length := by
          have : H2.length = H1.length := by simp [hH2]
          show Hb.length ≤ H3.length
          have h3' : H2.length ≤ H3.length := h3
          omega
        obtain ⟨I', hI'⟩ : ∃ I, I = ints .u8 t' := ⟨_, rfl⟩
        obtain ⟨I2, hI2⟩ : ∃ I, I = ints .u8 (t.set k v) := ⟨_, rfl⟩
        rw [← hI'] at hT1 l40 lp
        rw [← hI2] at hT2 l40' t40 lp k1 hH2
        obtain ⟨b, hb⟩ : ∃ b, b = (foldS step s ((V.take (j + 1)).flatMap tr)).2 := ⟨_, rfl⟩
        rw [← hb] at k1
        have hc : callN C = callN C := rfl
        have hGo : ∀ n, c1 ≤ n → callN C n (growV R y g) [.r (.agg I2), .r (.lit (.int .i64 ((k : Int) + 1)))] { h := H2, wr := H.length :: W1 } = some (.ret (bo b) { h := H3, wr := W3 }) := k1
        cases b with
        | true =>
          refine ⟨.norm, _, .ofN ⟨c1, fun n hn' => by
            simp [l_tally_looked_truths_1_1_0, hj, hm, hS.at hj, load_ints hj, ← hvv, e40, hT1, rs_len, l40, ok40, lp, ← hH2, hG2, hT2, l40', t40, wk, hGo n hn', w1]; rfl⟩,
            .inl ⟨rfl, kk, by omega, j + 1, t.set k v, H3, W3, F3, by omega, ⟨by simp, rfl, by simp [hd], by simp [hr]⟩, hb.symm, h2, hl3, by rw [hTl.1, ← hI2]; exact hT2, by rw [List.length_set]; exact ht.1, fun v' => by rw [List.set_set], hfr3, hTl.2, hW3⟩⟩
        | false =>
          have hfin : foldS step s (V.flatMap tr) = ((foldS step s ((V.take (j + 1)).flatMap tr)).1, false) := by rw [hall2, foldS_append, ← hb]; rfl
          refine ⟨.ret, _, .ofN ⟨c1, fun n hn' => by
            simp [l_tally_looked_truths_1_1_0, hj, hm, hS.at hj, load_ints hj, ← hvv, e40, hT1, rs_len, l40, ok40, lp, ← hH2, hG2, hT2, l40', t40, wk, hGo n hn']; rfl⟩,
            .inr ⟨by simp, H3, W3, F3, rfl, by simp [hd], by rw [hfin]; exact h2, hl3, hfr3, hW3, .inl ⟨rfl, by simp, by rw [hfin]⟩⟩⟩)
    have hYb : Hb[y]? = some (.cells [.yld i] ty_func_tally_truth_bool 0) := by rw [hHb, List.getElem?_append_left hyl]; exact hY
    have hTb : Hb[H.length]? = some (.cells (rs (ints .u8 t)) ty_tally_truth 0) := by simp [hHb]
    obtain ⟨o, st, h1, h2, H1, W1, F1, hm1, hd1, hJ1, hl1, hfr1, hW1, hor⟩ := key V.length { env := [(1, i64 k), (4, .own g 0 0), (5, .own H.length 0 0), (21, .r (slU V)), (22, i64 V.length), (23, i64 0)], m := { h := Hb } }
      ⟨0, t, Hb, [], F, by omega, ⟨by simp, rfl, rfl, rfl⟩, by simp [foldS], by simpa [foldS] using hJ', Nat.le_refl _, hTb, ht.1, fun v => rfl, fun x h0 hx hF => ⟨by rw [hHb, List.getElem?_append_left hx], hF⟩, fun h => by have := (hy.lt s H F hJ _ h).2; omega, by simp⟩
    obtain ⟨c0, h1⟩ := h1.get
    have l40 : (ints .u8 t).length = 40 := by rw [ints_len]; exact ht.1
    obtain ⟨I, hI⟩ : ∃ I, I = ints .u8 t := ⟨_, rfl⟩
    rw [← hI] at hTb l40 hHb ⊢
    have hVm := fun m => hRm m k hk40 hkd
    rw [← hV] at hVm
    have hlen := hS.len
    refine ⟨H1, oldWr H.length W1 ++ W, F1, ?_, hJ1, by show H.length ≤ H1.length; omega, hfr1, fun x hx => ?_⟩
    · rcases hor with ⟨rfl, e1, e2⟩ | ⟨rfl, e2⟩ <;> rw [e2]
      · exact CallR.evalK (m1 := { h := H1, wr := W1 }) rfl rfl prog_tally_looked_truths_1_1 rfl ⟨c0, fun n hn' => by
          simp [runK, finK, a_tally_looked_truths_1_1, ← hHb, hR0, hkn, e40, hVm, hlen, h1 n hn', hm1, hd1, e1]⟩
      · exact CallR.evalK (m1 := { h := H1, wr := W1 }) rfl rfl prog_tally_looked_truths_1_1 rfl ⟨c0, fun n hn' => by
          simp [runK, finK, a_tally_looked_truths_1_1, ← hHb, hR0, hkn, e40, hVm, hlen, h1 n hn', hm1, hd1]⟩
    · rcases List.mem_append.1 hx with hx | hx
      · unfold oldWr at hx
        exact .inr (hW1 x (List.mem_filter.1 hx).1)
      · exact .inl hx
end
end Go.AM.T
/- What the functions compute (own work). -/
namespace Go.AM.T
open Go Go.AM
attribute [local simp] so_mov so_pick so_alloc so_box so_build so_slit so_load so_store so_nilc so_bin so_beq so_eqs so_eqn so_eqnl so_not so_conv so_s2b so_mkfn so_slcA so_padd so_fld so_idxA so_idxV so_idxT so_look so_mupd so_mkmap so_mksl so_ext so_app so_lenT so_lenM so_min so_max so_cpy so_clr so_mkif so_tass so_lenS so_idxS so_slc
attribute [local simp] dn_skip dn_label dn_ret dn_exit dn_scope dn_keep dn_reg dn_draw0 noSlots denE denEI stepE  sd_mov sd_pick sd_build sd_load sd_store sd_nilc sd_bin sd_beq sd_eqs sd_eqn sd_eqnl sd_not sd_conv sd_s2b sd_mkfn sd_slc sd_slcA sd_padd sd_fld sd_idxS sd_idxA sd_idxV sd_idxT sd_look sd_mupd sd_ext sd_app sd_lenS sd_lenT sd_lenM sd_min sd_max sd_mkif sd_tass sd_call sd_slit dn_seq dn_cond dn_block dn_loop kn_call denIs denI denOp wants ev eget putD binL enumFrom AV.bool? AV.int? ekeep evs evp runV fin runDefs resAll resOf tupOf unit AV.cells okV ok1 Value.oneCell' fill setN rcells rs_nil rs_cons load_own load_cons mkAgg_rs storeN jmpOut
attribute [local simp] dvL dv1t dvAt mkAgg2 dv0 dv1 dv2 dv3 dv4 dv5 dv6 dv7 dv8 dv9 dv10 dvA dvN dvAll C_fz fzr
theorem truth_zero : z_tally_truth = ints .u8 (List.replicate 40 0) := by simp [z_tally_truth, ints]
theorem TOk_zero : TOk (List.replicate 40 0) := ⟨by simp, fun v hv => by rw [List.mem_replicate] at hv; omega⟩
/-- All truths. -/
def truthsOf (d : Div) : List (List Int) := truthsFrom d d.n.toNat 0 (List.replicate 40 0)
theorem truths_spec {R : List RV} (lR : R.length = 91) (m : Mem) : CallR C (fnv fn_tally_looked_truths) [.r (.agg R)] m (.ret (.r (.fn fn_tally_looked_truths_1 [] [.ptr R])) m) := by
  obtain ⟨H, hH⟩ : ∃ H, H = m.h ++ [.cells (rs R) ty_tally_looked 0] := ⟨_, rfl⟩
  have hc : H[m.h.length]? = some (.cells (rs R) ty_tally_looked 0) := by simp [hH]
  have ht : H.take m.h.length = m.h := by simp [hH]
  have hz : fz { h := H } m.h.length 1000000 (.fn fn_tally_looked_truths_1 [] [.own m.h.length 0 0]) = some (.r (.fn fn_tally_looked_truths_1 [] [.ptr R])) := by
    have h1 : fz { h := H } m.h.length 999998 (.own m.h.length 0 0) = some (.r (.ptr R)) := by
      rw [fz]
      simp only [rcells, hc, if_true]
      rw [if_neg (by omega), List.drop_zero, fzs_rs _ _ _ _ (by omega)]
      simp only [allR_rs]
    rw [fz]
    simp [fzs, h1, allR, AV.toR]
  exact CallR.eval (m1 := { h := H }) rfl rfl prog_tally_looked_truths rfl ⟨0, fun k hk => by simp [a_tally_looked_truths, ← hH, hz, allR, AV.toR]⟩ ht (by simp)

section
variable {σ : Type} {alive : σ → Bool} {rank : σ → Nat} {N i n0 L : Nat} {J : σ → List Blk → List Nat → Prop} {step : σ → List Int → σ × Bool}
theorem iter_spec (hy : YldOk alive rank N i n0 L J step) {d : Div} (hn : 1 ≤ d.n ∧ d.n ≤ 40) {R : List RV} (hR0 : ∀ m, loadV m (.r (.ptr R)) 1 false = some (i64 d.n))
    (hRm : ∀ m (k : Nat), k < 40 → (k : Int) < d.n → loadV m (.r (.ptr (R.drop (51 + k)))) 1 false = some (.r (slU (may d k)))) {s : σ} {H : List Blk} {F : List Nat} (W : List Nat) (hal : alive s = true) (hrk : rank s + (truthsOf d).length ≤ N) (hJ : J s H F) (hH : n0 ≤ H.length) :
    ∃ H' W' F', CallR C (.r (.fn fn_tally_looked_truths_1 [] [.ptr R])) [.yld i] { h := H, wr := W } (.ret (.tup []) { h := H', wr := W' }) ∧ J (foldS step s (truthsOf d)).1 H' F' ∧ H.length ≤ H'.length ∧
      (∀ j, n0 ≤ j → j < H.length → j ∉ F → H'[j]? = H[j]? ∧ j ∉ F') ∧ ∀ x ∈ W', x ∈ W ∨ L ≤ x := by
  obtain ⟨Hb, hHb⟩ : ∃ Hb, Hb = H ++ [.cells [.yld i] ty_func_tally_truth_bool 0, .cells [growV R H.length (H.length + 1)] ty_func_tally_truth_int_bool 0] := ⟨_, rfl⟩
  have hbl : Hb.length = H.length + 2 := by simp [hHb]
  have hY : Hb[H.length]? = some (.cells [.yld i] ty_func_tally_truth_bool 0) := by simp [hHb]
  have hG : Hb[H.length + 1]? = some (.cells [growV R H.length (H.length + 1)] ty_func_tally_truth_int_bool 0) := by simp [hHb]
  have hJ' : J s Hb F := hy.frame s H Hb F hJ (by omega) fun j hj _ => by rw [hHb, List.getElem?_append_left hj]
  have hF : ∀ j ∈ F, j < H.length := fun j hj => (hy.lt s H F hJ j hj).2
  obtain ⟨H', W', F', ⟨c1, k1⟩, h2, h3, h4, h5⟩ := grow_spec hy hn hR0 hRm d.n.toNat 0 (by omega) (List.replicate 40 0) s Hb [H.length + 1] F H.length (H.length + 1) hal hrk TOk_zero hJ' hH (by omega) (fun h => by have := hF _ h; omega) (fun h => by have := hF _ h; omega) (by omega) hY hG
  rw [← truth_zero] at k1
  rw [show truthsFrom d d.n.toNat 0 (List.replicate 40 0) = truthsOf d from rfl] at k1 h2
  obtain ⟨b, hb⟩ : ∃ b, b = (foldS step s (truthsOf d)).2 := ⟨_, rfl⟩
  rw [← hb] at k1
  have k1' : ∀ n, c1 ≤ n → callN C n (growV R H.length (H.length + 1)) [.r (.agg z_tally_truth), .r (.lit (.int .i64 0))] { h := Hb, wr := [H.length + 1] } = some (.ret (bo b) { h := H', wr := W' }) := k1
  obtain ⟨Z, hZ⟩ : ∃ Z, Z = z_tally_truth := ⟨_, rfl⟩
  rw [← hZ] at k1'
  refine ⟨H', oldWr H.length W' ++ W, F', ?_, h2, by show H.length ≤ H'.length; omega, fun j h0 hj hjF => ?_, fun x hx => ?_⟩
  · refine CallR.fnR (CallR.evalK (m1 := { h := H', wr := W' }) rfl rfl prog_tally_looked_truths_1 rfl ⟨c1, fun n hn' => ?_⟩)
    simp only [growV] at k1' hHb hG
    simp [runK, finK, a_tally_looked_truths_1, ← hZ, allR, AV.toR, ← hHb, hG, k1' n hn']
  · obtain ⟨e1, e2⟩ := h4 j h0 (by omega) hjF
    exact ⟨by rw [e1, hHb, List.getElem?_append_left hj], e2⟩
  · rcases List.mem_append.1 hx with hx | hx
    · unfold oldWr at hx
      obtain ⟨hx1, hx2⟩ := List.mem_filter.1 hx
      rcases h5 x hx1 with h | h
      · have : x < H.length := by simpa using hx2
        simp at h; omega
      · exact .inr h
    · exact .inl hx
theorem lookC_p0 {d : Div} {a0 a1 n0 n1 p q : RV} (m : Mem) : loadV m (.r (.ptr (lookC d (divC d a0 a1 n0 n1 p q)))) 1 false = some (i64 d.n) := load_cons m _ _
theorem lookC_pm {d : Div} {a0 a1 n0 n1 p q : RV} (m : Mem) (k : Nat) (hk : k < 40) (hn : (k : Int) < d.n) : loadV m (.r (.ptr ((lookC d (divC d a0 a1 n0 n1 p q)).drop (51 + k)))) 1 false = some (.r (slU (may d k))) := by
  have h : (lookC d (divC d a0 a1 n0 n1 p q))[51 + k]? = some (slU (may d k)) := by
    unfold lookC
    rw [lkR_get2 rfl _ _ hk, if_pos hn]
  obtain ⟨hl, he⟩ := List.getElem?_eq_some_iff.1 h
  rw [List.drop_eq_getElem_cons hl, load_cons, he]
end
end Go.AM.T
/- What the functions compute (own work). -/
namespace Go.AM.T
open Go Go.AM
attribute [local simp] so_mov so_pick so_alloc so_box so_build so_slit so_load so_store so_nilc so_bin so_beq so_eqs so_eqn so_eqnl so_not so_conv so_s2b so_mkfn so_slcA so_padd so_fld so_idxA so_idxV so_idxT so_look so_mupd so_mkmap so_mksl so_ext so_app so_lenT so_lenM so_min so_max so_cpy so_clr so_mkif so_tass so_lenS so_idxS so_slc
attribute [local simp] dn_skip dn_label dn_ret dn_exit dn_scope dn_keep dn_reg dn_draw0 noSlots denE denEI stepE  sd_mov sd_pick sd_build sd_load sd_store sd_nilc sd_bin sd_beq sd_eqs sd_eqn sd_eqnl sd_not sd_conv sd_s2b sd_mkfn sd_slc sd_slcA sd_padd sd_fld sd_idxS sd_idxA sd_idxV sd_idxT sd_look sd_mupd sd_ext sd_app sd_lenS sd_lenT sd_lenM sd_min sd_max sd_mkif sd_tass sd_call sd_slit dn_seq dn_cond dn_block dn_loop kn_call denIs denI denOp wants ev eget putD binL enumFrom AV.bool? AV.int? ekeep evs evp runV fin runDefs resAll resOf tupOf unit AV.cells okV ok1 Value.oneCell' fill setN rcells rs_nil rs_cons load_own load_cons mkAgg_rs storeN jmpOut
attribute [local simp] dvL dv1t dvAt mkAgg2 dv0 dv1 dv2 dv3 dv4 dv5 dv6 dv7 dv8 dv9 dv10 dvA dvN dvAll C_fz fzr
def cnt (n : Int × Int) (v : Int) : Int × Int := if v = 1 then (n.1 + 1, n.2) else if v = 2 then (n.1, n.2 + 1) else n
def nmC (n : Int × Int) : List AV := [i64 n.1, i64 n.2]
theorem count_spec (n : Int × Int) (h1 : 0 ≤ n.1 ∧ n.1 ≤ 1000) (h2 : 0 ≤ n.2 ∧ n.2 ≤ 1000) (v : Int) {H : List Blk} {nb : Nat} (hN : H[nb]? = some (.cells (nmC n) ty_tally_Numbers 0)) (W : List Nat) :
    ∃ W', CallR C (.fn fn_tally_looked_numbers_1 [] [.own nb 0 0]) [u8 v] { h := H, wr := W } (.ret (.tup []) { h := H.set nb (.cells (nmC (cnt n v)) ty_tally_Numbers 0), wr := W' }) ∧ ∀ x ∈ W', x ∈ W ∨ x = nb := by
  have hl := getElem?_lt hN
  have w1 : IntKind.wrap .i64 (n.1 + 1) = n.1 + 1 := by rw [w64] <;> omega
  have w2 : IntKind.wrap .i64 (n.2 + 1) = n.2 + 1 := by rw [w64] <;> omega
  unfold cnt
  by_cases e1 : v = 1
  · subst e1
    rw [if_pos rfl]
    refine ⟨[nb] ++ W, CallR.evalW (m1 := { h := H.set nb (.cells (nmC (n.1 + 1, n.2)) ty_tally_Numbers 0), wr := [nb] }) (v := .tup []) rfl prog_tally_looked_numbers_1 rfl ⟨0, fun k hk => ?_⟩ ?_, fun x hx => by simp at hx; exact hx.symm⟩
    · simp only [nmC] at hN ⊢
      simp [runK, finK, a_tally_looked_numbers_1, hN, w1]
    · rw [show C.keepAll fn_tally_looked_numbers_1 = false from rfl, settle_w (v' := .tup []) (by simp [C_fz, fz, fzs])]
      · simp [oldWr, hl, List.take_of_length_le]
      · intro i hi _ b hb
        simp only [List.mem_singleton] at hi
        subst hi
        rw [List.getElem?_set_self hl] at hb
        cases hb; rfl
  · rw [if_neg e1]
    have e1' : (v == 1) = false := by simpa using e1
    by_cases e2 : v = 2
    · subst e2
      rw [if_pos rfl]
      refine ⟨[nb] ++ W, CallR.evalW (m1 := { h := H.set nb (.cells (nmC (n.1, n.2 + 1)) ty_tally_Numbers 0), wr := [nb] }) (v := .tup []) rfl prog_tally_looked_numbers_1 rfl ⟨0, fun k hk => ?_⟩ ?_, fun x hx => by simp at hx; exact hx.symm⟩
      · simp only [nmC] at hN ⊢
        simp [runK, finK, a_tally_looked_numbers_1, hN, w2]
      · rw [show C.keepAll fn_tally_looked_numbers_1 = false from rfl, settle_w (v' := .tup []) (by simp [C_fz, fz, fzs])]
        · simp [oldWr, hl, List.take_of_length_le]
        · intro i hi _ b hb
          simp only [List.mem_singleton] at hi
          subst hi
          rw [List.getElem?_set_self hl] at hb
          cases hb; rfl
    · rw [if_neg e2]
      have e2' : (v == 2) = false := by simpa using e2
      have hself : H.set nb (.cells (nmC n) ty_tally_Numbers 0) = H := by
        obtain ⟨h1, h2⟩ := List.getElem?_eq_some_iff.1 hN
        rw [← h2, List.set_getElem_self]
      rw [hself]
      refine ⟨W, CallR.evalW (m1 := { h := H, wr := [] }) (v := .tup []) rfl prog_tally_looked_numbers_1 rfl ⟨0, fun k hk => ?_⟩ ?_, fun x hx => .inl hx⟩
      · simp [runK, finK, a_tally_looked_numbers_1, e1', e2']
      · rw [show C.keepAll fn_tally_looked_numbers_1 = false from rfl, settle_w (v' := .tup []) (by simp [C_fz, fz, fzs])]
        · simp [oldWr, List.take_of_length_le]
        · intro i hi; simp at hi
end Go.AM.T
/- What the functions compute (own work). -/
namespace Go.AM.T
open Go Go.AM
attribute [local simp] so_mov so_pick so_alloc so_box so_build so_slit so_load so_store so_nilc so_bin so_beq so_eqs so_eqn so_eqnl so_not so_conv so_s2b so_mkfn so_slcA so_padd so_fld so_idxA so_idxV so_idxT so_look so_mupd so_mkmap so_mksl so_ext so_app so_lenT so_lenM so_min so_max so_cpy so_clr so_mkif so_tass so_lenS so_idxS so_slc
attribute [local simp] dn_skip dn_label dn_ret dn_exit dn_scope dn_keep dn_reg dn_draw0 noSlots denE denEI stepE  sd_mov sd_pick sd_build sd_load sd_store sd_nilc sd_bin sd_beq sd_eqs sd_eqn sd_eqnl sd_not sd_conv sd_s2b sd_mkfn sd_slc sd_slcA sd_padd sd_fld sd_idxS sd_idxA sd_idxV sd_idxT sd_look sd_mupd sd_ext sd_app sd_lenS sd_lenT sd_lenM sd_min sd_max sd_mkif sd_tass sd_call sd_slit dn_seq dn_cond dn_block dn_loop kn_call denIs denI denOp wants ev eget putD binL enumFrom AV.bool? AV.int? ekeep evs evp runV fin runDefs resAll resOf tupOf unit AV.cells okV ok1 Value.oneCell' fill setN rcells rs_nil rs_cons load_own load_cons mkAgg_rs storeN jmpOut
attribute [local simp] dvL dv1t dvAt mkAgg2 dv0 dv1 dv2 dv3 dv4 dv5 dv6 dv7 dv8 dv9 dv10 dvA dvN dvAll C_fz fzr
def tg (t : List Int) (i : Nat) : Int := t.getD i 0
def memStep (d : Div) (t : List Int) (n : Int × Int) (i : Nat) : Int × Int := if paired d.pairs i then n else cnt n (tg t i)
def proxStep (d : Div) (t : List Int) (n : Int × Int) (p : Int × Int) : Int × Int := if tg t p.2.toNat = 0 ∧ paired d.pairs p.2.toNat = false ∧ paired d.pairs p.1.toNat = false then cnt n (tg t p.1.toNat) else n
/-- What counts in a truth. -/
def numsM (d : Div) (t : List Int) (k : Nat) : Int × Int := (List.range k).foldl (memStep d t) (0, 0)
def numsL (d : Div) (t : List Int) : Int × Int := d.proxies.foldl (proxStep d t) (numsM d t d.n.toNat)
theorem cnt_le {n : Int × Int} {k : Int} (v : Int) (h1 : 0 ≤ n.1 ∧ n.1 ≤ k) (h2 : 0 ≤ n.2 ∧ n.2 ≤ k) : (0 ≤ (cnt n v).1 ∧ (cnt n v).1 ≤ k + 1) ∧ (0 ≤ (cnt n v).2 ∧ (cnt n v).2 ≤ k + 1) := by
  unfold cnt
  split
  · simp only; omega
  · split
    · simp only; omega
    · omega
theorem numsM_le (d : Div) (t : List Int) : ∀ k : Nat, (0 ≤ (numsM d t k).1 ∧ (numsM d t k).1 ≤ k) ∧ (0 ≤ (numsM d t k).2 ∧ (numsM d t k).2 ≤ k)
  | 0 => by simp [numsM]
  | k + 1 => by
    have ih := numsM_le d t k
    have e : numsM d t (k + 1) = memStep d t (numsM d t k) k := by unfold numsM; rw [List.range_succ, List.foldl_append]; rfl
    rw [e]
    unfold memStep
    split
    · omega
    · have := cnt_le (tg t k) ih.1 ih.2
      push_cast
      exact this
theorem prox_le (d : Div) (t : List Int) : ∀ (l : List (Int × Int)) (n : Int × Int) (k : Int), (0 ≤ n.1 ∧ n.1 ≤ k) → (0 ≤ n.2 ∧ n.2 ≤ k) → (0 ≤ (l.foldl (proxStep d t) n).1 ∧ (l.foldl (proxStep d t) n).1 ≤ k + l.length) ∧ (0 ≤ (l.foldl (proxStep d t) n).2 ∧ (l.foldl (proxStep d t) n).2 ≤ k + l.length)
  | [], n, k, h1, h2 => by simp; omega
  | p :: l, n, k, h1, h2 => by
    have hc : (0 ≤ (proxStep d t n p).1 ∧ (proxStep d t n p).1 ≤ k + 1) ∧ (0 ≤ (proxStep d t n p).2 ∧ (proxStep d t n p).2 ≤ k + 1) := by
      unfold proxStep
      split
      · exact cnt_le _ h1 h2
      · omega
    have := prox_le d t l (proxStep d t n p) (k + 1) hc.1 hc.2
    simp only [List.foldl_cons, List.length_cons]
    push_cast
    omega
theorem right_prox {d : Div} (h : rightB d = true) : ∀ x ∈ d.proxies, (0 ≤ x.1 ∧ x.1 < d.n) ∧ (0 ≤ x.2 ∧ x.2 < d.n) := by
  intro x hx
  obtain ⟨i, hi, rfl⟩ := List.getElem_of_mem hx
  have hp : proxOk d.n d.proxies = true := by
    unfold rightB at h
    simp only [Bool.and_eq_true] at h
    exact h.2
  unfold proxOk at hp
  rw [List.all_eq_true] at hp
  have h1 := hp i (by simpa using hi)
  unfold proxI at h1
  rw [Bool.and_eq_true, getD_get hi] at h1
  have h2 := h1.1
  unfold pairBad memB at h2
  simp at h2
  omega
theorem right_len {d : Div} (h : rightB d = true) : d.pairs.length ≤ 10 ∧ d.proxies.length ≤ 10 ∧ (0 ≤ d.need ∧ d.need ≤ 40) ∧ (0 ≤ d.quorum ∧ d.quorum ≤ 40) ∧ (d.tie = 1 ∨ d.tie = 2) ∧ d.rule ≤ 2 := by
  unfold rightB headB inB at h
  simp at h
  omega

/-- What a heap holds while votes are counted. -/
structure HN (m : Mem) (R : List RV) (t : List Int) (n : Int × Int) (H : List Blk) (W : List Nat) : Prop where
  x : H[m.h.length]? = some (.cells (rs R) ty_tally_looked 0)
  t : H[m.h.length + 1]? = some (.cells (rs (ints .u8 t)) ty_tally_truth 0)
  n : H[m.h.length + 2]? = some (.cells (nmC n) ty_tally_Numbers 0)
  tk : H.take m.h.length = m.h
  wr : ∀ x ∈ W, m.h.length ≤ x
section
variable {m : Mem} {R : List RV} {t : List Int} {n : Int × Int} {H : List Blk} {W : List Nat}
theorem HN.lt (h : HN m R t n H W) : m.h.length + 2 < H.length := getElem?_lt h.n
theorem HN.push (h : HN m R t n H W) (b : Blk) : HN m R t n (H ++ [b]) W := by
  have hl := h.lt
  refine ⟨?_, ?_, ?_, ?_, h.wr⟩
  · rw [List.getElem?_append_left (by omega)]; exact h.x
  · rw [List.getElem?_append_left (by omega)]; exact h.t
  · rw [List.getElem?_append_left (by omega)]; exact h.n
  · rw [List.take_append_of_le_length (by omega)]; exact h.tk
theorem HN.set (h : HN m R t n H W) (n' : Int × Int) {W' : List Nat} (hW : ∀ x ∈ W', m.h.length ≤ x) : HN m R t n' (H.set (m.h.length + 2) (.cells (nmC n') ty_tally_Numbers 0)) W' := by
  have hl := h.lt
  refine ⟨?_, ?_, ?_, ?_, hW⟩
  · rw [List.getElem?_set_ne (by omega)]; exact h.x
  · rw [List.getElem?_set_ne (by omega)]; exact h.t
  · exact List.getElem?_set_self (by omega)
  · rw [List.take_set_of_le (by omega)]; exact h.tk
theorem HN.wrs (h : HN m R t n H W) {W' : List Nat} (hW : ∀ x ∈ W', m.h.length ≤ x) : HN m R t n H W' := ⟨h.x, h.t, h.n, h.tk, hW⟩
end
theorem tg_get {t : List Int} (ht : t.length = 40) {i : Nat} (hi : i < 40) : List.take 1 (List.drop i (rs (ints .u8 t))) = [u8 (tg t i)] := by
  rw [List.take_one, List.head?_drop, rs_get]
  have : (ints .u8 t)[i]? = some (.lit (.int .u8 (tg t i))) := by
    simp [ints, tg, List.getElem?_eq_getElem (show i < t.length by omega)]
  rw [this]; rfl

section
variable {d : Div} {a0 a1 n0 n1 p q : RV}
theorem nums_members (hn : 1 ≤ d.n ∧ d.n ≤ 40) {t : List Int} (ht : t.length = 40) (m : Mem) {R : List RV} (lR : R.length = 91) (hRp : ∀ i, i < 40 → List.take 1 (List.drop (11 + i) (rs R)) = [bo (paired d.pairs i)]) {H : List Blk} {W : List Nat} (hF : HN m R t (0, 0) H W) :
    ∀ s : St, ekeep [2, 3, 4, 5, 12, 13] s.env = [(2, .own m.h.length 0 0), (3, .own (m.h.length + 1) 0 0), (4, .own (m.h.length + 2) 0 0), (5, .fn fn_tally_looked_numbers_1 [] [.own (m.h.length + 2) 0 0]), (12, i64 d.n), (13, i64 0)] → s.m = { h := H, wr := W } → s.defs = [] →
    ∃ s' H' W', Loop C [2, 3, 4, 5, 12, 13] l_tally_looked_numbers_1 s (.exit 0) s' ∧ s'.m = { h := H', wr := W' } ∧ HN m R t (numsM d t d.n.toNat) H' W' ∧ s'.defs = [] ∧
      eget s'.env 2 = .own m.h.length 0 0 ∧ eget s'.env 3 = .own (m.h.length + 1) 0 0 ∧ eget s'.env 4 = .own (m.h.length + 2) 0 0 ∧ eget s'.env 5 = .fn fn_tally_looked_numbers_1 [] [.own (m.h.length + 2) 0 0] := by
  intro s he hm hd
  have key := Loop.run (C := C) (c := l_tally_looked_numbers_1) (live := [2, 3, 4, 5, 12, 13]) (fun k s => ∃ (j : Nat) (H : List Blk) (W : List Nat), (j : Int) + k = d.n ∧
      ekeep [2, 3, 4, 5, 12, 13] s.env = [(2, .own m.h.length 0 0), (3, .own (m.h.length + 1) 0 0), (4, .own (m.h.length + 2) 0 0), (5, .fn fn_tally_looked_numbers_1 [] [.own (m.h.length + 2) 0 0]), (12, i64 d.n), (13, i64 j)] ∧ s.m = { h := H, wr := W } ∧
      HN m R t (numsM d t j) H W ∧ s.defs = [])
    (fun o s' => ∃ H' W', o = .exit 0 ∧ s'.m = { h := H', wr := W' } ∧ HN m R t (numsM d t d.n.toNat) H' W' ∧ s'.defs = [] ∧
      eget s'.env 2 = .own m.h.length 0 0 ∧ eget s'.env 3 = .own (m.h.length + 1) 0 0 ∧ eget s'.env 4 = .own (m.h.length + 2) 0 0 ∧ eget s'.env 5 = .fn fn_tally_looked_numbers_1 [] [.own (m.h.length + 2) 0 0]) (by
    rintro k s ⟨j, H, W, hjk, he, hm, hF, hd⟩
    rw [he]
    cases k with
    | zero =>
      have hj : d.n.toNat = j := by omega
      have e1 : ((j : Int) < d.n) = False := eq_false (by omega)
      exact ⟨.exit 0, _, .of fun K => by simp [l_tally_looked_numbers_1, e1]; rfl, .inr ⟨by simp, H, W, rfl, by simp [hm], by rw [hj]; exact hF, by simp [hd], by simp, by simp, by simp, by simp⟩⟩
    | succ k =>
      have e1 : ((j : Int) < d.n) = True := eq_true (by omega)
      have hj40 : j < 40 := by omega
      have e2 : ((j : Int) < 40) = True := eq_true (by omega)
      have w1 : IntKind.wrap .i64 ((j : Int) + 1) = j + 1 := by rw [w64] <;> omega
      have hX := hF.x
      have hT := hF.t
      have l40 : (ints .u8 t).length = 40 := by rw [ints_len]; exact ht
      have hp := hRp j hj40
      have htg := tg_get ht hj40
      have oa : (11 + j + 1 ≤ 91) = True := eq_true (by omega)
      have ob : (j + 1 ≤ 40) = True := eq_true (by omega)
      have hstep : numsM d t (j + 1) = memStep d t (numsM d t j) j := by unfold numsM; rw [List.range_succ, List.foldl_append]; rfl
      obtain ⟨I, hI⟩ : ∃ I, I = ints .u8 t := ⟨_, rfl⟩
      rw [← hI] at hT l40 htg
      cases e3 : paired d.pairs j with
      | true =>
        rw [e3] at hp
        refine ⟨.norm, _, .of fun K => by simp [l_tally_looked_numbers_1, e1, e2, hm, hX, rs_len, lR, oa, hp, w1]; rfl, .inl ⟨rfl, k, by omega, j + 1, H, W, by omega, by simp, by simp [hm], ?_, by simp [hd]⟩⟩
        rw [hstep]; unfold memStep; rw [if_pos e3]; exact hF
      | false =>
        rw [e3] at hp
        have hle := numsM_le d t j
        obtain ⟨W', ⟨c1, k1⟩, hW'⟩ := count_spec (numsM d t j) (by omega) (by omega) (tg t j) hF.n W
        refine ⟨.norm, _, .ofN ⟨c1, fun n hn' => by simp [l_tally_looked_numbers_1, e1, e2, hm, hX, hT, rs_len, lR, l40, oa, ob, hp, htg, k1 n hn', w1]; rfl⟩, .inl ⟨rfl, k, by omega, j + 1, _, _, by omega, by simp, rfl, ?_, by simp [hd]⟩⟩
        rw [hstep]; unfold memStep; rw [if_neg (by simp [e3])]
        exact hF.set _ fun x hx => by
          rcases hW' x hx with h | h
          · exact hF.wr x h
          · omega)
  obtain ⟨o, s', h1, h2, H', W', rfl, h3, h4, h5, h6, h7, h8, h9⟩ := key d.n.toNat s ⟨0, H, W, by omega, he, hm, hF, hd⟩
  exact ⟨s', H', W', h1, h3, h4, h5, h6, h7, h8, h9⟩
end
end Go.AM.T
/- What the functions compute (own work). -/
namespace Go.AM.T
open Go Go.AM
attribute [local simp] so_mov so_pick so_alloc so_box so_build so_slit so_load so_store so_nilc so_bin so_beq so_eqs so_eqn so_eqnl so_not so_conv so_s2b so_mkfn so_slcA so_padd so_fld so_idxA so_idxV so_idxT so_look so_mupd so_mkmap so_mksl so_ext so_app so_lenT so_lenM so_min so_max so_cpy so_clr so_mkif so_tass so_lenS so_idxS so_slc
attribute [local simp] dn_skip dn_label dn_ret dn_exit dn_scope dn_keep dn_reg dn_draw0 noSlots denE denEI stepE  sd_mov sd_pick sd_build sd_load sd_store sd_nilc sd_bin sd_beq sd_eqs sd_eqn sd_eqnl sd_not sd_conv sd_s2b sd_mkfn sd_slc sd_slcA sd_padd sd_fld sd_idxS sd_idxA sd_idxV sd_idxT sd_look sd_mupd sd_ext sd_app sd_lenS sd_lenT sd_lenM sd_min sd_max sd_mkif sd_tass sd_call sd_slit dn_seq dn_cond dn_block dn_loop kn_call denIs denI denOp wants ev eget putD binL enumFrom AV.bool? AV.int? ekeep evs evp runV fin runDefs resAll resOf tupOf unit AV.cells okV ok1 Value.oneCell' fill setN rcells rs_nil rs_cons load_own load_cons mkAgg_rs storeN jmpOut
attribute [local simp] dvL dv1t dvAt mkAgg2 dv0 dv1 dv2 dv3 dv4 dv5 dv6 dv7 dv8 dv9 dv10 dvA dvN dvAll C_fz fzr
section
variable {d : Div} {a0 a1 n0 n1 p q : RV}
theorem nums_proxies (hs : DivS d a0 a1 n0 n1 p q) (hr : rightB d = true) {t : List Int} (ht : t.length = 40) (m : Mem) {R : List RV} (lR : R.length = 91) (hRp : ∀ i, i < 40 → List.take 1 (List.drop (11 + i) (rs R)) = [bo (paired d.pairs i)]) {H : List Blk} {W : List Nat} {n : Int × Int}
    (h1 : 0 ≤ n.1 ∧ n.1 ≤ 40) (h2 : 0 ≤ n.2 ∧ n.2 ≤ 40) (hF : HN m R t n H W) :
    ∀ s : St, ekeep [2, 3, 4, 5, 29, 30, 31] s.env = [(2, .own m.h.length 0 0), (3, .own (m.h.length + 1) 0 0), (4, .own (m.h.length + 2) 0 0), (5, .fn fn_tally_looked_numbers_1 [] [.own (m.h.length + 2) 0 0]), (29, .r q), (30, i64 d.proxies.length), (31, i64 0)] → s.m = { h := H, wr := W } → s.defs = [] →
    ∃ s' H' W', Loop C [2, 3, 4, 5, 29, 30, 31] l_tally_looked_numbers_0 s (.exit 2) s' ∧ s'.m = { h := H', wr := W' } ∧ HN m R t (d.proxies.foldl (proxStep d t) n) H' W' ∧ s'.defs = [] ∧ eget s'.env 4 = .own (m.h.length + 2) 0 0 := by
  intro s he hm hd
  have hlen := (right_len hr).2.1
  have key := Loop.run (C := C) (c := l_tally_looked_numbers_0) (live := [2, 3, 4, 5, 29, 30, 31]) (fun k s => ∃ (j : Nat) (H : List Blk) (W : List Nat), j + k = d.proxies.length ∧
      ekeep [2, 3, 4, 5, 29, 30, 31] s.env = [(2, .own m.h.length 0 0), (3, .own (m.h.length + 1) 0 0), (4, .own (m.h.length + 2) 0 0), (5, .fn fn_tally_looked_numbers_1 [] [.own (m.h.length + 2) 0 0]), (29, .r q), (30, i64 d.proxies.length), (31, i64 j)] ∧ s.m = { h := H, wr := W } ∧
      HN m R t ((d.proxies.take j).foldl (proxStep d t) n) H W ∧ s.defs = [])
    (fun o s' => ∃ H' W', o = .exit 2 ∧ s'.m = { h := H', wr := W' } ∧ HN m R t (d.proxies.foldl (proxStep d t) n) H' W' ∧ s'.defs = [] ∧ eget s'.env 4 = .own (m.h.length + 2) 0 0) (by
    rintro k s ⟨j, H, W, hjk, he, hm, hF, hd⟩
    rw [he]
    cases k with
    | zero =>
      have hj : j = d.proxies.length := by omega
      subst hj
      rw [List.take_length] at hF
      exact ⟨.exit 2, _, .of fun K => by simp [l_tally_looked_numbers_0]; rfl, .inr ⟨by simp, H, W, rfl, by simp [hm], hF, by simp [hd], by simp⟩⟩
    | succ k =>
      have hj : j < d.proxies.length := by omega
      have w1 : IntKind.wrap .i64 ((j : Int) + 1) = j + 1 := by rw [w64] <;> omega
      obtain ⟨hpa, hpb⟩ := right_prox hr d.proxies[j] (List.getElem_mem hj)
      have hn := right_n hr
      obtain ⟨a, ha⟩ : ∃ a : Nat, d.proxies[j].1 = a := ⟨d.proxies[j].1.toNat, by omega⟩
      obtain ⟨b, hb⟩ : ∃ b : Nat, d.proxies[j].2 = b := ⟨d.proxies[j].2.toNat, by omega⟩
      have la : a < 40 := by omega
      have lb : b < 40 := by omega
      have ea : ((a : Int) < 40) = True := eq_true (by omega)
      have eb : ((b : Int) < 40) = True := eq_true (by omega)
      have hlt := hF.lt
      have hP := hF.push (.cells [i64 a, i64 b] ty_tally_Proxy 0)
      have hX := hP.x
      have hT := hP.t
      have l40 : (ints .u8 t).length = 40 := by rw [ints_len]; exact ht
      have pa := hRp a la
      have pb := hRp b lb
      have ta := tg_get ht la
      have tb := tg_get ht lb
      have oa : (11 + a + 1 ≤ 91) = True := eq_true (by omega)
      have ob : (11 + b + 1 ≤ 91) = True := eq_true (by omega)
      have oa' : (a + 1 ≤ 40) = True := eq_true (by omega)
      have ob' : (b + 1 ≤ 40) = True := eq_true (by omega)
      obtain ⟨nj, hnj⟩ : ∃ nj, nj = (d.proxies.take j).foldl (proxStep d t) n := ⟨_, rfl⟩
      have hstep : (d.proxies.take (j + 1)).foldl (proxStep d t) n = proxStep d t nj (a, b) := by
        rw [List.take_succ_eq_append_getElem hj, List.foldl_append, ← hnj]
        show proxStep d t nj d.proxies[j] = _
        rw [show d.proxies[j] = ((a : Int), (b : Int)) from Prod.ext ha hb]
      have hst : proxStep d t nj (a, b) = if tg t b = 0 ∧ paired d.pairs b = false ∧ paired d.pairs a = false then cnt nj (tg t a) else nj := by
        unfold proxStep; simp
      obtain ⟨I, hI⟩ : ∃ I, I = ints .u8 t := ⟨_, rfl⟩
      rw [← hI] at hT l40 ta tb
      have same : proxStep d t nj (a, b) = nj → HN m R t ((d.proxies.take (j + 1)).foldl (proxStep d t) n) (H ++ [.cells [i64 a, i64 b] ty_tally_Proxy 0]) (H.length :: W) := fun h => by
        rw [hstep, h, hnj]
        exact hP.wrs fun x hx => by
          rcases List.mem_cons.1 hx with rfl | hx
          · omega
          · exact hF.wr x hx
      by_cases e1 : tg t b = 0
      case neg =>
        have e1' : (tg t b == 0) = false := by simpa using e1
        exact ⟨.norm, _, .of fun K => by simp [l_tally_looked_numbers_0, hm, hj, hs.q.at hj, load_prs hj, ha, hb, eb, hT, l40, rs_len, ob', tb, e1', w1]; rfl, .inl ⟨rfl, k, by omega, j + 1, _, _, by omega, by simp, rfl, same (by rw [hst, if_neg (by simp [e1])]), by simp [hd]⟩⟩
      case pos =>
        cases e2 : paired d.pairs b with
        | true =>
          rw [e2] at pb
          exact ⟨.norm, _, .of fun K => by simp [l_tally_looked_numbers_0, hm, hj, hs.q.at hj, load_prs hj, ha, hb, ea, eb, hT, hX, lR, l40, rs_len, ob, ob', tb, pb, e1, w1]; rfl, .inl ⟨rfl, k, by omega, j + 1, _, _, by omega, by simp, rfl, same (by rw [hst, if_neg (by simp [e2])]), by simp [hd]⟩⟩
        | false =>
          rw [e2] at pb
          cases e3 : paired d.pairs a with
          | true =>
            rw [e3] at pa
            exact ⟨.norm, _, .of fun K => by simp [l_tally_looked_numbers_0, hm, hj, hs.q.at hj, load_prs hj, ha, hb, ea, eb, hT, hX, lR, l40, rs_len, oa, ob, ob', tb, pa, pb, e1, w1]; rfl, .inl ⟨rfl, k, by omega, j + 1, _, _, by omega, by simp, rfl, same (by rw [hst, if_neg (by simp [e3])]), by simp [hd]⟩⟩
          | false =>
            rw [e3] at pa
            have hle := prox_le d t (d.proxies.take j) n 40 h1 h2
            rw [← hnj] at hle
            have hjl : (d.proxies.take j).length ≤ 10 := by simp; omega
            obtain ⟨W', ⟨c1, k1⟩, hW'⟩ := count_spec nj (by omega) (by omega) (tg t a) (hnj ▸ hP.n) (H.length :: W)
            refine ⟨.norm, _, .ofN ⟨c1, fun n hn' => by simp [l_tally_looked_numbers_0, hm, hj, hs.q.at hj, load_prs hj, ha, hb, ea, eb, hT, hX, lR, l40, rs_len, oa, ob, oa', ob', ta, tb, pa, pb, e1, k1 n hn', w1]; rfl⟩, .inl ⟨rfl, k, by omega, j + 1, _, _, by omega, by simp, rfl, ?_, by simp [hd]⟩⟩
            rw [hstep, hst, if_pos ⟨e1, e2, e3⟩]
            exact hP.set _ fun x hx => by
              rcases hW' x hx with h | h
              · rcases List.mem_cons.1 h with rfl | h
                · omega
                · exact hF.wr x h
              · omega)
  obtain ⟨o, s', h1, h2, H', W', rfl, h3, h4, h5, h6⟩ := key d.proxies.length s ⟨0, H, W, by omega, he, hm, hF, hd⟩
  exact ⟨s', H', W', h1, h3, h4, h5, h6⟩

theorem numbers_spec (hs : DivS d a0 a1 n0 n1 p q) (hr : rightB d = true) {t : List Int} (ht : t.length = 40) (m : Mem) :
    CallR C (fnv fn_tally_looked_numbers) [.r (.agg (lookC d (divC d a0 a1 n0 n1 p q))), .r (.agg (ints .u8 t))] m (.ret (.r (.agg [.lit (.int .i64 (numsL d t).1), .lit (.int .i64 (numsL d t).2)])) m) := by
  have hn := right_n hr
  have lR : (lookC d (divC d a0 a1 n0 n1 p q)).length = 91 := lookC_len
  have hRn := lookC_n (d := d) (a0 := a0) (a1 := a1) (n0 := n0) (n1 := n1) (p := p) (q := q)
  have hRp : ∀ i, i < 40 → List.take 1 (List.drop (11 + i) (rs (lookC d (divC d a0 a1 n0 n1 p q)))) = [bo (paired d.pairs i)] := fun i hi => lookC_paired hi
  have hRq : List.take 1 (List.drop 6 (rs (lookC d (divC d a0 a1 n0 n1 p q)))) = [.r q] := rfl
  obtain ⟨R, hRR⟩ : ∃ R, R = lookC d (divC d a0 a1 n0 n1 p q) := ⟨_, rfl⟩
  rw [← hRR] at lR hRn hRq hRp ⊢
  obtain ⟨H, hH⟩ : ∃ H, H = m.h ++ [.cells (rs R) ty_tally_looked 0, .cells (rs (ints .u8 t)) ty_tally_truth 0, .cells [i64 0, i64 0] ty_tally_Numbers 0] := ⟨_, rfl⟩
  have hF : HN m R t (0, 0) H [] := ⟨by simp [hH], by simp [hH], by simp [hH, nmC], by simp [hH], by simp⟩
  obtain ⟨s1, H1, W1, l1, m1, hF1, d1, e12, e13, e14, e15⟩ := nums_members hn ht m lR hRp hF { env := [(2, .own m.h.length 0 0), (3, .own (m.h.length + 1) 0 0), (4, .own (m.h.length + 2) 0 0), (5, .fn fn_tally_looked_numbers_1 [] [.own (m.h.length + 2) 0 0]), (12, i64 d.n), (13, i64 0)], m := { h := H } } (by simp) rfl rfl
  have hle := numsM_le d t d.n.toNat
  obtain ⟨s2, H2, W2, l2, m2, hF2, d2, e24⟩ := nums_proxies hs hr ht m lR hRp (by omega) (by omega) hF1 { s1 with env := [(2, .own m.h.length 0 0), (3, .own (m.h.length + 1) 0 0), (4, .own (m.h.length + 2) 0 0), (5, .fn fn_tally_looked_numbers_1 [] [.own (m.h.length + 2) 0 0]), (29, .r q), (30, i64 d.proxies.length), (31, i64 0)] } (by simp) m1 d1
  rw [m1] at l2
  obtain ⟨c1, k1⟩ := l1.get
  obtain ⟨c2, k2⟩ := l2.get
  have hX := hF.x
  have hX1 := hF1.x
  have hN := hF2.n
  rw [show d.proxies.foldl (proxStep d t) (numsM d t d.n.toNat) = numsL d t from rfl] at hN
  obtain ⟨N, hNN⟩ : ∃ N, N = numsL d t := ⟨_, rfl⟩
  rw [← hNN] at hN ⊢
  simp only [nmC] at hN
  have hlt := hF2.lt
  have l40 : (ints .u8 t).length = 40 := by rw [ints_len]; exact ht
  have hse : ∀ b : Blk, (H2.set (m.h.length + 2) b)[m.h.length + 2]? = some b := fun b => List.getElem?_set_self (by omega)
  refine CallR.eval (m1 := { h := H2.set (m.h.length + 2) (.cells [i64 N.1, i64 N.2] ty_tally_Numbers 0), wr := (m.h.length + 2) :: W2 }) rfl rfl prog_tally_looked_numbers rfl ⟨c1 + c2, fun k hk => ?_⟩ (by rw [List.take_set_of_le (by omega)]; exact hF2.tk) (by
    intro x hx
    rcases List.mem_cons.1 hx with rfl | hx
    · omega
    · exact hF2.wr x hx)
  simp [a_tally_looked_numbers, allR, AV.toR, ← hH, hX, rs_len, lR, hRn, k1 k (by omega), e12, e13, e14, e15, m1, hX1, hRq, hs.q.len, k2 k (by omega), e24, m2, hN, hse, d2, mkAgg]
end
end Go.AM.T
/- What the functions compute (own work). -/
namespace Go.AM.T
open Go Go.AM
attribute [local simp] so_mov so_pick so_alloc so_box so_build so_slit so_load so_store so_nilc so_bin so_beq so_eqs so_eqn so_eqnl so_not so_conv so_s2b so_mkfn so_slcA so_padd so_fld so_idxA so_idxV so_idxT so_look so_mupd so_mkmap so_mksl so_ext so_app so_lenT so_lenM so_min so_max so_cpy so_clr so_mkif so_tass so_lenS so_idxS so_slc
attribute [local simp] dn_skip dn_label dn_ret dn_exit dn_scope dn_keep dn_reg dn_draw0 noSlots denE denEI stepE  sd_mov sd_pick sd_build sd_load sd_store sd_nilc sd_bin sd_beq sd_eqs sd_eqn sd_eqnl sd_not sd_conv sd_s2b sd_mkfn sd_slc sd_slcA sd_padd sd_fld sd_idxS sd_idxA sd_idxV sd_idxT sd_look sd_mupd sd_ext sd_app sd_lenS sd_lenT sd_lenM sd_min sd_max sd_mkif sd_tass sd_call sd_slit dn_seq dn_cond dn_block dn_loop kn_call denIs denI denOp wants ev eget putD binL enumFrom AV.bool? AV.int? ekeep evs evp runV fin runDefs resAll resOf tupOf unit AV.cells okV ok1 Value.oneCell' fill setN rcells rs_nil rs_cons load_own load_cons mkAgg_rs storeN jmpOut
attribute [local simp] dvL dv1t dvAt mkAgg2 dv0 dv1 dv2 dv3 dv4 dv5 dv6 dv7 dv8 dv9 dv10 dvA dvN dvAll C_fz fzr
def carriedB (d : Div) (n : Int × Int) : Bool :=
  if d.rule = 0 then decide (n.2 < n.1) || (n.1 == n.2 && d.tie == 1)
  else if d.rule = 1 then decide (d.need ≤ n.1) || (n.1 == d.need - 1 && d.tie == 1)
  else decide (2 * (n.1 + n.2) ≤ 3 * n.1) && decide (1 ≤ n.1)
def outcomeI (d : Div) (n : Int × Int) : Int := if n.1 + n.2 < d.quorum then 2 else if carriedB d n then 1 else 0
def nmR (n : Int × Int) : RV := .agg [.lit (.int .i64 n.1), .lit (.int .i64 n.2)]
section
variable {d : Div} {a0 a1 n0 n1 p q : RV}
theorem rules1_spec (m : Mem) : CallR C (.r (.fn fn_tally_rules_1 [] [])) [.r (.agg (divC d a0 a1 n0 n1 p q))] m (.ret (bo (d.tie == 1)) m) := by
  obtain ⟨H, hH⟩ : ∃ H, H = m.h ++ [.cells (rs (divC d a0 a1 n0 n1 p q)) ty_tally_Division 0] := ⟨_, rfl⟩
  have hc : H[m.h.length]? = some (.cells (rs (divC d a0 a1 n0 n1 p q)) ty_tally_Division 0) := by simp [hH]
  have ht : H.take m.h.length = m.h := by simp [hH]
  exact CallR.eval (m1 := { h := H }) rfl rfl prog_tally_rules_1 rfl ⟨0, fun k hk => by simp [a_tally_rules_1, ← hH, hc]⟩ ht (by simp)
theorem rules2_spec (n : Int × Int) (m : Mem) : CallR C (.r (.fn fn_tally_rules_2 [] [.ptr [.fn fn_tally_rules_1 [] []]])) [.r (.agg (divC d a0 a1 n0 n1 p q)), .r (nmR n)] m (.ret (bo (decide (n.2 < n.1) || (n.1 == n.2 && d.tie == 1))) m) := by
  obtain ⟨H, hH⟩ : ∃ H, H = m.h ++ [.cells (rs (divC d a0 a1 n0 n1 p q)) ty_tally_Division 0, .cells [i64 n.1, i64 n.2] ty_tally_Numbers 0] := ⟨_, rfl⟩
  have hc : H[m.h.length]? = some (.cells (rs (divC d a0 a1 n0 n1 p q)) ty_tally_Division 0) := by simp [hH]
  have hc1 : H[m.h.length + 1]? = some (.cells [i64 n.1, i64 n.2] ty_tally_Numbers 0) := by simp [hH]
  have ht : H.take m.h.length = m.h := by simp [hH]
  obtain ⟨c1, k1⟩ := rules1_spec (d := d) (a0 := a0) (a1 := a1) (n0 := n0) (n1 := n1) (p := p) (q := q) { h := H }
  by_cases e1 : n.2 < n.1
  · exact CallR.eval (m1 := { h := H }) rfl rfl prog_tally_rules_2 rfl ⟨0, fun k hk => by simp [a_tally_rules_2, nmR, ← hH, hc, hc1, e1]⟩ ht (by simp)
  · cases e2 : (n.1 == n.2) with
    | true => exact CallR.eval (m1 := { h := H }) rfl rfl prog_tally_rules_2 rfl ⟨c1, fun k hk => by simp [a_tally_rules_2, nmR, ← hH, hc, hc1, e1, e2, k1 k hk]⟩ ht (by simp)
    | false => exact CallR.eval (m1 := { h := H }) rfl rfl prog_tally_rules_2 rfl ⟨c1, fun k hk => by simp [a_tally_rules_2, nmR, ← hH, hc, hc1, e1, e2]⟩ ht (by simp)
theorem rules3_spec (n : Int × Int) (hq : 0 ≤ d.need ∧ d.need ≤ 40) (m : Mem) : CallR C (.r (.fn fn_tally_rules_3 [] [.ptr [.fn fn_tally_rules_1 [] []]])) [.r (.agg (divC d a0 a1 n0 n1 p q)), .r (nmR n)] m (.ret (bo (decide (d.need ≤ n.1) || (n.1 == d.need - 1 && d.tie == 1))) m) := by
  obtain ⟨H, hH⟩ : ∃ H, H = m.h ++ [.cells (rs (divC d a0 a1 n0 n1 p q)) ty_tally_Division 0, .cells [i64 n.1, i64 n.2] ty_tally_Numbers 0] := ⟨_, rfl⟩
  have hc : H[m.h.length]? = some (.cells (rs (divC d a0 a1 n0 n1 p q)) ty_tally_Division 0) := by simp [hH]
  have hc1 : H[m.h.length + 1]? = some (.cells [i64 n.1, i64 n.2] ty_tally_Numbers 0) := by simp [hH]
  have ht : H.take m.h.length = m.h := by simp [hH]
  have w1 : IntKind.wrap .i64 (d.need - 1) = d.need - 1 := by rw [w64] <;> omega
  obtain ⟨c1, k1⟩ := rules1_spec (d := d) (a0 := a0) (a1 := a1) (n0 := n0) (n1 := n1) (p := p) (q := q) { h := H }
  by_cases e1 : d.need ≤ n.1
  · exact CallR.eval (m1 := { h := H }) rfl rfl prog_tally_rules_3 rfl ⟨0, fun k hk => by simp [a_tally_rules_3, nmR, ← hH, hc, hc1, e1]⟩ ht (by simp)
  · cases e2 : (n.1 == d.need - 1) with
    | true => exact CallR.eval (m1 := { h := H }) rfl rfl prog_tally_rules_3 rfl ⟨c1, fun k hk => by simp [a_tally_rules_3, nmR, ← hH, hc, hc1, e1, w1, e2, k1 k hk]⟩ ht (by simp)
    | false => exact CallR.eval (m1 := { h := H }) rfl rfl prog_tally_rules_3 rfl ⟨c1, fun k hk => by simp [a_tally_rules_3, nmR, ← hH, hc, hc1, e1, w1, e2]⟩ ht (by simp)
theorem rules4_spec (n : Int × Int) (h1 : 0 ≤ n.1 ∧ n.1 ≤ 1000) (h2 : 0 ≤ n.2 ∧ n.2 ≤ 1000) (m : Mem) : CallR C (.r (.fn fn_tally_rules_4 [] [])) [.r (.agg (divC d a0 a1 n0 n1 p q)), .r (nmR n)] m (.ret (bo (decide (2 * (n.1 + n.2) ≤ 3 * n.1) && decide (1 ≤ n.1))) m) := by
  obtain ⟨H, hH⟩ : ∃ H, H = m.h ++ [.cells (rs (divC d a0 a1 n0 n1 p q)) ty_tally_Division 0, .cells [i64 n.1, i64 n.2] ty_tally_Numbers 0] := ⟨_, rfl⟩
  have hc1 : H[m.h.length + 1]? = some (.cells [i64 n.1, i64 n.2] ty_tally_Numbers 0) := by simp [hH]
  have ht : H.take m.h.length = m.h := by simp [hH]
  have w1 : IntKind.wrap .i64 (3 * n.1) = 3 * n.1 := by rw [w64] <;> omega
  have w2 : IntKind.wrap .i64 (n.1 + n.2) = n.1 + n.2 := by rw [w64] <;> omega
  have w3 : IntKind.wrap .i64 (2 * (n.1 + n.2)) = 2 * (n.1 + n.2) := by rw [w64] <;> omega
  by_cases e1 : 2 * (n.1 + n.2) ≤ 3 * n.1
  · by_cases e2 : 1 ≤ n.1
    · exact CallR.eval (m1 := { h := H }) rfl rfl prog_tally_rules_4 rfl ⟨0, fun k hk => by simp [a_tally_rules_4, nmR, ← hH, hc1, e1, e2, w1, w2, w3]⟩ ht (by simp)
    · exact CallR.eval (m1 := { h := H }) rfl rfl prog_tally_rules_4 rfl ⟨0, fun k hk => by simp [a_tally_rules_4, nmR, ← hH, hc1, e1, e2, w1, w2, w3]⟩ ht (by simp)
  · exact CallR.eval (m1 := { h := H }) rfl rfl prog_tally_rules_4 rfl ⟨0, fun k hk => by simp [a_tally_rules_4, nmR, ← hH, hc1, e1, w1, w2, w3]⟩ ht (by simp)
theorem outcome_spec (hr : rightB d = true) (h0 : 0 ≤ d.rule) (n : Int × Int) (h1 : 0 ≤ n.1 ∧ n.1 ≤ 1000) (h2 : 0 ≤ n.2 ∧ n.2 ≤ 1000) (m : Mem) :
    CallR C (fnv fn_tally_looked_outcome) [.r (.agg (lookC d (divC d a0 a1 n0 n1 p q))), .r (nmR n)] m (.ret (u8 (outcomeI d n)) m) := by
  obtain ⟨-, -, hne, hqu, -, hru⟩ := right_len hr
  have lR : (lookC d (divC d a0 a1 n0 n1 p q)).length = 91 := lookC_len
  have hR9 : List.take 1 (List.drop 9 (rs (lookC d (divC d a0 a1 n0 n1 p q)))) = [i64 d.quorum] := rfl
  have hR7 : List.take 1 (List.drop 7 (rs (lookC d (divC d a0 a1 n0 n1 p q)))) = [u8 d.rule] := rfl
  have hR11 : List.take 11 (rs (lookC d (divC d a0 a1 n0 n1 p q))) = rs (divC d a0 a1 n0 n1 p q) := rfl
  obtain ⟨R, hRR⟩ : ∃ R, R = lookC d (divC d a0 a1 n0 n1 p q) := ⟨_, rfl⟩
  rw [← hRR] at lR hR9 hR7 hR11 ⊢
  obtain ⟨H, hH⟩ : ∃ H, H = m.h ++ [.cells (rs R) ty_tally_looked 0, .cells [i64 n.1, i64 n.2] ty_tally_Numbers 0] := ⟨_, rfl⟩
  have hc : H[m.h.length]? = some (.cells (rs R) ty_tally_looked 0) := by simp [hH]
  have hc1 : H[m.h.length + 1]? = some (.cells [i64 n.1, i64 n.2] ty_tally_Numbers 0) := by simp [hH]
  have ht : H.take m.h.length = m.h := by simp [hH]
  have w2 : IntKind.wrap .i64 (n.1 + n.2) = n.1 + n.2 := by rw [w64] <;> omega
  obtain ⟨c1, k1⟩ := rules_spec { h := H }
  unfold outcomeI
  by_cases e1 : n.1 + n.2 < d.quorum
  · rw [if_pos e1]
    exact CallR.eval (m1 := { h := H }) rfl rfl prog_tally_looked_outcome rfl ⟨0, fun k hk => by simp [a_tally_looked_outcome, nmR, ← hH, hc, hc1, rs_len, lR, hR9, w2, e1]⟩ ht (by simp)
  · rw [if_neg e1]
    have e1' : (n.1 + n.2 < d.quorum) = False := eq_false e1
    have hD : mkAgg (rs (divC d a0 a1 n0 n1 p q)) = .r (.agg (divC d a0 a1 n0 n1 p q)) := mkAgg_rs _
    have at0 : ∀ i : Int, i = 0 → atOf 1 (.r (.sl ruleFns 3 (some 3))) i = some (.r (.ptr ruleFns)) := fun i h => by subst h; rfl
    have at1 : ∀ i : Int, i = 1 → atOf 1 (.r (.sl ruleFns 3 (some 3))) i = some (.r (.ptr (ruleFns.drop 1))) := fun i h => by subst h; rfl
    have at2 : ∀ i : Int, i = 2 → atOf 1 (.r (.sl ruleFns 3 (some 3))) i = some (.r (.ptr (ruleFns.drop 2))) := fun i h => by subst h; rfl
    obtain ⟨c2, k2⟩ := rules2_spec (d := d) (a0 := a0) (a1 := a1) (n0 := n0) (n1 := n1) (p := p) (q := q) n { h := H }
    obtain ⟨c3, k3⟩ := rules3_spec (d := d) (a0 := a0) (a1 := a1) (n0 := n0) (n1 := n1) (p := p) (q := q) n hne { h := H }
    obtain ⟨c4, k4⟩ := rules4_spec (d := d) (a0 := a0) (a1 := a1) (n0 := n0) (n1 := n1) (p := p) (q := q) n h1 h2 { h := H }
    simp only [nmR] at k2 k3 k4
    simp only [ruleFns, List.drop_succ_cons, List.drop_zero] at k1 at0 at1 at2
    rcases (by omega : d.rule = 0 ∨ d.rule = 1 ∨ d.rule = 2) with e | e | e
    · have hcar : carriedB d n = (decide (n.2 < n.1) || (n.1 == n.2 && d.tie == 1)) := by simp [carriedB, e]
      rw [← hcar] at k2
      cases ec : carriedB d n <;> rw [ec] at k2
      all_goals exact CallR.eval (m1 := { h := H }) rfl rfl prog_tally_looked_outcome rfl ⟨c1 + c2, fun k hk => by simp [a_tally_looked_outcome, nmR, dn_drawF, denF, denFI, stepF, slotFree, slotOf, foot, avIdx, wrAll, pairsOk, apartL, ← hH, hc, hc1, rs_len, lR, hR9, hR7, hR11, w2, e1', k1 k (by omega), at0 _ e, k2 k (by omega)]⟩ ht (by simp)
    · have hcar : carriedB d n = (decide (d.need ≤ n.1) || (n.1 == d.need - 1 && d.tie == 1)) := by simp [carriedB, e]
      rw [← hcar] at k3
      cases ec : carriedB d n <;> rw [ec] at k3
      all_goals exact CallR.eval (m1 := { h := H }) rfl rfl prog_tally_looked_outcome rfl ⟨c1 + c3, fun k hk => by simp [a_tally_looked_outcome, nmR, dn_drawF, denF, denFI, stepF, slotFree, slotOf, foot, avIdx, wrAll, pairsOk, apartL, ← hH, hc, hc1, rs_len, lR, hR9, hR7, hR11, w2, e1', k1 k (by omega), at1 _ e, k3 k (by omega)]⟩ ht (by simp)
    · have hcar : carriedB d n = (decide (2 * (n.1 + n.2) ≤ 3 * n.1) && decide (1 ≤ n.1)) := by simp [carriedB, e]
      rw [← hcar] at k4
      cases ec : carriedB d n <;> rw [ec] at k4
      all_goals exact CallR.eval (m1 := { h := H }) rfl rfl prog_tally_looked_outcome rfl ⟨c1 + c4, fun k hk => by simp [a_tally_looked_outcome, nmR, dn_drawF, denF, denFI, stepF, slotFree, slotOf, foot, avIdx, wrAll, pairsOk, apartL, ← hH, hc, hc1, rs_len, lR, hR9, hR7, hR11, w2, e1', k1 k (by omega), at2 _ e, k4 k (by omega)]⟩ ht (by simp)
end
end Go.AM.T
/- What the functions compute (own work). -/
namespace Go.AM.T
open Go Go.AM
attribute [local simp] so_mov so_pick so_alloc so_box so_build so_slit so_load so_store so_nilc so_bin so_beq so_eqs so_eqn so_eqnl so_not so_conv so_s2b so_mkfn so_slcA so_padd so_fld so_idxA so_idxV so_idxT so_look so_mupd so_mkmap so_mksl so_ext so_app so_lenT so_lenM so_min so_max so_cpy so_clr so_mkif so_tass so_lenS so_idxS so_slc
attribute [local simp] dn_skip dn_label dn_ret dn_exit dn_scope dn_keep dn_reg dn_draw0 noSlots denE denEI stepE  sd_mov sd_pick sd_build sd_load sd_store sd_nilc sd_bin sd_beq sd_eqs sd_eqn sd_eqnl sd_not sd_conv sd_s2b sd_mkfn sd_slc sd_slcA sd_padd sd_fld sd_idxS sd_idxA sd_idxV sd_idxT sd_look sd_mupd sd_ext sd_app sd_lenS sd_lenT sd_lenM sd_min sd_max sd_mkif sd_tass sd_call sd_slit dn_seq dn_cond dn_block dn_loop kn_call denIs denI denOp wants ev eget putD binL enumFrom AV.bool? AV.int? ekeep evs evp runV fin runDefs resAll resOf tupOf unit AV.cells okV ok1 Value.oneCell' fill setN rcells rs_nil rs_cons load_own load_cons mkAgg_rs storeN jmpOut
attribute [local simp] dvL dv1t dvAt mkAgg2 dv0 dv1 dv2 dv3 dv4 dv5 dv6 dv7 dv8 dv9 dv10 dvA dvN dvAll C_fz fzr
def two (a b : Int) : RV := .sl [.lit (.int .i64 a), .lit (.int .i64 b)] 2 (some 2)
theorem Min2_spec (a b : Int) (m : Mem) : CallR C (fnv fn_slices_Min_Sint_int) [.r (two a b)] m (.ret (i64 (if b < a then b else a)) m) := by
  refine CallR.eval0 rfl rfl prog_slices_Min_Sint_int rfl ⟨5, fun k hk => ?_⟩
  obtain ⟨j, rfl⟩ : ∃ j, k = j + 5 := ⟨k - 5, by omega⟩
  by_cases e : b < a <;> simp [a_slices_Min_Sint_int, two, goLoop, kn_iter, iterN, l_slices_Min_Sint_int_0, lenOf_sl, atOf, wk1, wk2, e]
theorem Max2_spec (a b : Int) (m : Mem) : CallR C (fnv fn_slices_Max_Sint_int) [.r (two a b)] m (.ret (i64 (if b > a then b else a)) m) := by
  refine CallR.eval0 rfl rfl prog_slices_Max_Sint_int rfl ⟨5, fun k hk => ?_⟩
  obtain ⟨j, rfl⟩ : ∃ j, k = j + 5 := ⟨k - 5, by omega⟩
  by_cases e : b > a
  · have e' : a < b := e
    simp [a_slices_Max_Sint_int, two, goLoop, kn_iter, iterN, l_slices_Max_Sint_int_0, lenOf_sl, atOf, wk1, wk2, e']
  · have e' : ¬ a < b := e
    simp [a_slices_Max_Sint_int, two, goLoop, kn_iter, iterN, l_slices_Max_Sint_int_0, lenOf_sl, atOf, wk1, wk2, e']
theorem least_spec (a b : Int) (m : Mem) : CallR C (fnv fn_tally_least) [.r (two a b)] m (.ret (i64 (if b < a then b else a)) m) := by
  obtain ⟨c, k⟩ := Min2_spec a b { h := m.h }
  obtain ⟨T, hT⟩ : ∃ T, T = two a b := ⟨_, rfl⟩
  obtain ⟨z, hz⟩ : ∃ z, z = (if b < a then b else a) := ⟨_, rfl⟩
  rw [← hT, ← hz] at k
  rw [← hT, ← hz]
  exact CallR.eval0 rfl rfl prog_tally_least rfl ⟨c, fun n hn => by simp [a_tally_least, k n hn]⟩
theorem greatest_spec (a b : Int) (m : Mem) : CallR C (fnv fn_tally_greatest) [.r (two a b)] m (.ret (i64 (if b > a then b else a)) m) := by
  obtain ⟨c, k⟩ := Max2_spec a b { h := m.h }
  obtain ⟨T, hT⟩ : ∃ T, T = two a b := ⟨_, rfl⟩
  obtain ⟨z, hz⟩ : ∃ z, z = (if b > a then b else a) := ⟨_, rfl⟩
  rw [← hT, ← hz] at k
  rw [← hT, ← hz]
  exact CallR.eval0 rfl rfl prog_tally_greatest rfl ⟨c, fun n hn => by simp [a_tally_greatest, k n hn]⟩
end Go.AM.T
/- What the functions compute (own work). -/
namespace Go.AM.T
open Go Go.AM
attribute [local simp] so_mov so_pick so_alloc so_box so_build so_slit so_load so_store so_nilc so_bin so_beq so_eqs so_eqn so_eqnl so_not so_conv so_s2b so_mkfn so_slcA so_padd so_fld so_idxA so_idxV so_idxT so_look so_mupd so_mkmap so_mksl so_ext so_app so_lenT so_lenM so_min so_max so_cpy so_clr so_mkif so_tass so_lenS so_idxS so_slc
attribute [local simp] dn_skip dn_label dn_ret dn_exit dn_scope dn_keep dn_reg dn_draw0 noSlots denE denEI stepE  sd_mov sd_pick sd_build sd_load sd_store sd_nilc sd_bin sd_beq sd_eqs sd_eqn sd_eqnl sd_not sd_conv sd_s2b sd_mkfn sd_slc sd_slcA sd_padd sd_fld sd_idxS sd_idxA sd_idxV sd_idxT sd_look sd_mupd sd_ext sd_app sd_lenS sd_lenT sd_lenM sd_min sd_max sd_mkif sd_tass sd_call sd_slit dn_seq dn_cond dn_block dn_loop kn_call denIs denI denOp wants ev eget putD binL enumFrom AV.bool? AV.int? ekeep evs evp runV fin runDefs resAll resOf tupOf unit AV.cells okV ok1 Value.oneCell' fill setN rcells rs_nil rs_cons load_own load_cons mkAgg_rs storeN jmpOut
attribute [local simp] dvL dv1t dvAt mkAgg2 dv0 dv1 dv2 dv3 dv4 dv5 dv6 dv7 dv8 dv9 dv10 dvA dvN dvAll C_fz fzr
def mn (a b : Int) : Int := if b < a then b else a
def mx (a b : Int) : Int := if b > a then b else a
/-- What the bounds' loop has: whether it is the first truth, both ranges, the last numbers. -/
structure Bn where
  first : Bool
  a : Int × Int
  b : Int × Int
  last : Int × Int
def bnStep (d : Div) (s : Bn) (t : List Int) : Bn × Bool :=
  if s.first then (⟨false, ((numsL d t).1, (numsL d t).1), ((numsL d t).2, (numsL d t).2), numsL d t⟩, true)
  else if numsL d t = s.last then (⟨false, s.a, s.b, numsL d t⟩, true)
  else (⟨false, (mn s.a.1 (numsL d t).1, mx s.a.2 (numsL d t).1), (mn s.b.1 (numsL d t).2, mx s.b.2 (numsL d t).2), numsL d t⟩, true)
def bnEnv (L : Nat) (R : List RV) : Env := [(2, .own (L + 1) 0 0), (3, .own (L + 2) 0 0), (4, i64 0), (5, .own (L + 3) 0 0), (6, .own (L + 4) 0 0), (7, .own (L + 5) 0 0), (21, .r (.fn fn_tally_looked_truths_1 [] [.ptr R]))]
structure HBn (m : Mem) (R : List RV) (s : Bn) (st : LSt) (H : List Blk) : Prop where
  a : H[m.h.length + 1]? = some (.cells (nmC s.a) ty_tally_Range 0)
  b : H[m.h.length + 2]? = some (.cells (nmC s.b) ty_tally_Range 0)
  x : H[m.h.length + 3]? = some (.cells (rs R) ty_tally_looked 0)
  l : H[m.h.length + 4]? = some (.cells (nmC s.last) ty_tally_Numbers 0)
  f : H[m.h.length + 5]? = some (.cells [bo s.first] ty_bool 0)
  d : H[m.h.length + 6]? = some .dfr
  lp : H[m.h.length + 7]? = some (.loop (bnEnv m.h.length R) [22] s_tally_Bounds_0 b_tally_Bounds_0 st none)
  tk : H.take m.h.length = m.h
section
variable {d : Div} {a0 a1 n0 n1 p q : RV}
theorem bnd_body (hs : DivS d a0 a1 n0 n1 p q) (hr : rightB d = true) {t : List Int} (ht : TOk t) (m : Mem) {R : List RV} (hR : R = lookC d (divC d a0 a1 n0 n1 p q)) {s : Bn} {Hb : List Blk} (hF : HBn m R s .busy Hb) {T : Nat} (hT : Hb[T]? = some (.cells (rs (ints .u8 t)) ty_tally_truth 0)) (W : List Nat) :
    ∃ s2, Den C b_tally_Bounds_0 { env := (8, .own T 0 0) :: (22, .r (.agg (ints .u8 t))) :: bnEnv m.h.length R, m := { h := Hb, wr := W }, round := some (m.h.length + 7) } .norm s2 ∧ HBn m R (bnStep d s t).1 .busy s2.m.h ∧
      (∀ j, m.h.length + 8 ≤ j → j < Hb.length → s2.m.h[j]? = Hb[j]?) ∧ Hb.length ≤ s2.m.h.length ∧ (∀ x ∈ s2.m.wr, x ∈ W ∨ x ∈ [m.h.length + 1, m.h.length + 2, m.h.length + 4, m.h.length + 5] ∨ Hb.length ≤ x) ∧ s2.round = some (m.h.length + 7) ∧ s2.defs = [] := by
  have lR : R.length = 91 := by rw [hR]; exact lookC_len
  have tR : List.take 91 (rs R) = rs R := List.take_of_length_le (by rw [rs_len]; omega)
  have l40 : (ints .u8 t).length = 40 := by rw [ints_len]; exact ht.1
  have t40 : List.take 40 (rs (ints .u8 t)) = rs (ints .u8 t) := List.take_of_length_le (by rw [rs_len]; omega)
  have hlt := getElem?_lt hF.lp
  obtain ⟨c1, k1⟩ := numbers_spec hs hr ht.1 { h := Hb, wr := W }
  rw [← hR] at k1
  obtain ⟨I, hI⟩ : ∃ I, I = ints .u8 t := ⟨_, rfl⟩
  obtain ⟨n, hn⟩ : ∃ n, n = numsL d t := ⟨_, rfl⟩
  rw [← hI] at k1 hT l40 t40 ⊢
  rw [← hn] at k1
  obtain ⟨H2, hH2⟩ : ∃ H2, H2 = Hb ++ [.cells [i64 n.1, i64 n.2] ty_tally_Numbers 0] := ⟨_, rfl⟩
  have up : ∀ j, j < Hb.length → H2[j]? = Hb[j]? := fun j hj => by rw [hH2, List.getElem?_append_left hj]
  have gA : H2[m.h.length + 1]? = some (.cells (nmC s.a) ty_tally_Range 0) := by rw [up _ (by omega)]; exact hF.a
  have gB : H2[m.h.length + 2]? = some (.cells (nmC s.b) ty_tally_Range 0) := by rw [up _ (by omega)]; exact hF.b
  have gL : H2[m.h.length + 4]? = some (.cells (nmC s.last) ty_tally_Numbers 0) := by rw [up _ (by omega)]; exact hF.l
  have gF : H2[m.h.length + 5]? = some (.cells [bo s.first] ty_bool 0) := by rw [up _ (by omega)]; exact hF.f
  have g9 : H2[Hb.length]? = some (.cells [i64 n.1, i64 n.2] ty_tally_Numbers 0) := by simp [hH2]
  have hX := hF.x
  have ne1 : (m.h.length + 1 = Hb.length) = False := eq_false (by omega)
  have ne2 : (m.h.length + 2 = Hb.length) = False := eq_false (by omega)
  have ne4 : (m.h.length + 4 = Hb.length) = False := eq_false (by omega)
  have ne5 : (m.h.length + 5 = Hb.length) = False := eq_false (by omega)
  have l2 : H2.length = Hb.length + 1 := by simp [hH2]
  simp only [nmC] at gA gB gL
  have key : ∀ (X : List Blk) (W' : List Nat) (s' : Bn), s' = (bnStep d s t).1 → X.length = Hb.length + 1 → (∀ j, j ∉ [m.h.length + 1, m.h.length + 2, m.h.length + 4, m.h.length + 5] → X[j]? = H2[j]?) → X[m.h.length + 1]? = some (.cells (nmC s'.a) ty_tally_Range 0) → X[m.h.length + 2]? = some (.cells (nmC s'.b) ty_tally_Range 0) →
      X[m.h.length + 4]? = some (.cells (nmC s'.last) ty_tally_Numbers 0) → X[m.h.length + 5]? = some (.cells [bo s'.first] ty_bool 0) →
      HBn m R (bnStep d s t).1 .busy X ∧ (∀ j, m.h.length + 8 ≤ j → j < Hb.length → X[j]? = Hb[j]?) ∧ Hb.length ≤ X.length := by
    intro X W' s' hs' hl hj hA hB hL hFf
    subst hs'
    refine ⟨⟨hA, hB, ?_, hL, hFf, ?_, ?_, ?_⟩, fun j h1 h2 => ?_, by omega⟩
    · rw [hj _ (by simp), up _ (by omega)]; exact hF.x
    · rw [hj _ (by simp), up _ (by omega)]; exact hF.d
    · rw [hj _ (by simp), up _ (by omega)]; exact hF.lp
    · rw [← hF.tk]
      refine List.ext_getElem? fun j => ?_
      have hml : (List.take m.h.length Hb).length = m.h.length := by rw [List.length_take]; omega
      rw [hml]
      by_cases h : j < m.h.length
      · rw [List.getElem?_take_of_lt h, List.getElem?_take_of_lt h, hj _ (by simp; omega), up _ (by omega)]
      · rw [List.getElem?_eq_none (by simp; omega), List.getElem?_eq_none (by simp; omega)]
    · rw [hj _ (by simp; omega), up _ h2]
  cases e : s.first with
  | true =>
    rw [e] at gF
    have hst : (⟨false, (n.1, n.1), (n.2, n.2), n⟩ : Bn) = (bnStep d s t).1 := by simp [bnStep, e, hn]
    obtain ⟨H3, hH3⟩ : ∃ H3, H3 = H2.set (m.h.length + 1) (.cells [i64 n.1, i64 n.1] ty_tally_Range 0) := ⟨_, rfl⟩
    obtain ⟨H4, hH4⟩ : ∃ H4, H4 = H3.set (m.h.length + 2) (.cells [i64 n.2, i64 n.2] ty_tally_Range 0) := ⟨_, rfl⟩
    obtain ⟨H5, hH5⟩ : ∃ H5, H5 = H4.set (m.h.length + 5) (.cells [bo false] ty_bool 0) := ⟨_, rfl⟩
    obtain ⟨H6, hH6⟩ : ∃ H6, H6 = H5.set (m.h.length + 4) (.cells [i64 n.1, i64 n.2] ty_tally_Numbers 0) := ⟨_, rfl⟩
    have l3 : H3.length = Hb.length + 1 := by simp [hH3, l2]
    have l4 : H4.length = Hb.length + 1 := by simp [hH4, l3]
    have l5 : H5.length = Hb.length + 1 := by simp [hH5, l4]
    have l6 : H6.length = Hb.length + 1 := by simp [hH6, l5]
    have q3 : H3.length = H2.length := by simp [hH3]
    have q4 : H4.length = H2.length := by simp [hH4, hH3]
    have q5 : H5.length = H2.length := by simp [hH5, hH4, hH3]
    have b3 : H3[m.h.length + 2]? = some (.cells [i64 s.b.1, i64 s.b.2] ty_tally_Range 0) := by rw [hH3, List.getElem?_set_ne (by omega)]; exact gB
    have f4 : H4[m.h.length + 5]? = some (.cells [bo true] ty_bool 0) := by rw [hH4, List.getElem?_set_ne (by omega), hH3, List.getElem?_set_ne (by omega)]; exact gF
    have t5 : H5[Hb.length]? = some (.cells [i64 n.1, i64 n.2] ty_tally_Numbers 0) := by rw [hH5, List.getElem?_set_ne (by omega), hH4, List.getElem?_set_ne (by omega), hH3, List.getElem?_set_ne (by omega)]; exact g9
    have m5 : H5[m.h.length + 4]? = some (.cells [i64 s.last.1, i64 s.last.2] ty_tally_Numbers 0) := by rw [hH5, List.getElem?_set_ne (by omega), hH4, List.getElem?_set_ne (by omega), hH3, List.getElem?_set_ne (by omega)]; exact gL
    have ne1' : (Hb.length = m.h.length + 1) = False := eq_false (by omega)
    have ne2' : (Hb.length = m.h.length + 2) = False := eq_false (by omega)
    have ne5' : (Hb.length = m.h.length + 5) = False := eq_false (by omega)
    refine ⟨_, .ofN ⟨c1, fun k hk => by
      simp [b_tally_Bounds_0, bnEnv, dn_drawF, denF, denFI, stepF, slotFree, slotOf, foot, avIdx, wrAll, pairsOk, apartL, hX, hT, rs_len, lR, tR, l40, t40, k1 k hk, ← hH2, g9, gA, gF, q3, q4, q5, ne1, ne2, ne4, ne5, ne1', ne2', ne5', ← hH3, b3, ← hH4, f4, ← hH5, t5, m5, ← hH6]
      rfl⟩, ?_⟩
    have hk := key H6 [] _ hst l6 (fun j hj => by
      simp at hj
      rw [hH6, List.getElem?_set_ne (by omega), hH5, List.getElem?_set_ne (by omega), hH4, List.getElem?_set_ne (by omega), hH3, List.getElem?_set_ne (by omega)])
      (by rw [hH6, List.getElem?_set_ne (by omega), hH5, List.getElem?_set_ne (by omega), hH4, List.getElem?_set_ne (by omega), hH3, List.getElem?_set_self (by omega)]; rfl)
      (by rw [hH6, List.getElem?_set_ne (by omega), hH5, List.getElem?_set_ne (by omega), hH4, List.getElem?_set_self (by omega)]; rfl)
      (by rw [hH6, List.getElem?_set_self (by omega)]; rfl)
      (by rw [hH6, List.getElem?_set_ne (by omega), hH5, List.getElem?_set_self (by omega)])
    refine ⟨hk.1, hk.2.1, hk.2.2, fun x hx => ?_, rfl, rfl⟩
    simp only [List.mem_cons] at hx
    rcases hx with rfl | rfl | rfl | rfl | rfl | hx
    all_goals first
      | exact .inl hx
      | (right; left; simp; done)
      | (right; right; omega)
  | false =>
    rw [e] at gF
    by_cases e2 : n = s.last
    · have hst : (⟨false, s.a, s.b, n⟩ : Bn) = (bnStep d s t).1 := by simp [bnStep, e, ← hn, e2]
      have x1 : (n.1 == s.last.1) = true := by rw [e2]; simp
      have x2 : (n.2 == s.last.2) = true := by rw [e2]; simp
      obtain ⟨H6, hH6⟩ : ∃ H6, H6 = H2.set (m.h.length + 4) (.cells [i64 n.1, i64 n.2] ty_tally_Numbers 0) := ⟨_, rfl⟩
      have l6 : H6.length = Hb.length + 1 := by simp [hH6, l2]
      refine ⟨_, .ofN ⟨c1, fun k hk => by
        simp [b_tally_Bounds_0, bnEnv, hX, hT, rs_len, lR, tR, l40, t40, k1 k hk, ← hH2, g9, gA, gL, gF, rvEqs, rvEq, x1, x2, ← hH6]
        rfl⟩, ?_⟩
      have hk := key H6 [] _ hst l6 (fun j hj => by
        simp at hj
        rw [hH6, List.getElem?_set_ne (by omega)])
        (by rw [hH6, List.getElem?_set_ne (by omega)]; exact gA)
        (by rw [hH6, List.getElem?_set_ne (by omega)]; exact gB)
        (by rw [hH6, List.getElem?_set_self (by omega)]; rfl)
        (by rw [hH6, List.getElem?_set_ne (by omega)]; exact gF)
      refine ⟨hk.1, hk.2.1, hk.2.2, fun x hx => ?_, rfl, rfl⟩
      simp only [List.mem_cons] at hx
      rcases hx with rfl | rfl | hx
      all_goals first
        | exact .inl hx
        | (right; left; simp; done)
        | (right; right; omega)
    · have hst : (⟨false, (mn s.a.1 n.1, mx s.a.2 n.1), (mn s.b.1 n.2, mx s.b.2 n.2), n⟩ : Bn) = (bnStep d s t).1 := by simp [bnStep, e, ← hn, e2]
      have x12 : ((n.1 == s.last.1) && (n.2 == s.last.2)) = false := by
        cases h : ((n.1 == s.last.1) && (n.2 == s.last.2)) with
        | false => rfl
        | true =>
          simp at h
          exact absurd (Prod.ext h.1 h.2) e2
      obtain ⟨alo, halo⟩ : ∃ z, z = mn s.a.1 n.1 := ⟨_, rfl⟩
      obtain ⟨ahi, hahi⟩ : ∃ z, z = mx s.a.2 n.1 := ⟨_, rfl⟩
      obtain ⟨blo, hblo⟩ : ∃ z, z = mn s.b.1 n.2 := ⟨_, rfl⟩
      obtain ⟨bhi, hbhi⟩ : ∃ z, z = mx s.b.2 n.2 := ⟨_, rfl⟩
      rw [← halo, ← hahi, ← hblo, ← hbhi] at hst
      obtain ⟨H3, hH3⟩ : ∃ H3, H3 = H2.set (m.h.length + 1) (.cells [i64 alo, i64 ahi] ty_tally_Range 0) := ⟨_, rfl⟩
      obtain ⟨H4, hH4⟩ : ∃ H4, H4 = H3.set (m.h.length + 2) (.cells [i64 blo, i64 bhi] ty_tally_Range 0) := ⟨_, rfl⟩
      obtain ⟨H6, hH6⟩ : ∃ H6, H6 = H4.set (m.h.length + 4) (.cells [i64 n.1, i64 n.2] ty_tally_Numbers 0) := ⟨_, rfl⟩
      have l6 : H6.length = Hb.length + 1 := by simp [hH6, hH4, hH3, l2]
      have q3 : H3.length = H2.length := by simp [hH3]
      have q4 : H4.length = H2.length := by simp [hH4, hH3]
      have b3 : H3[m.h.length + 2]? = some (.cells [i64 s.b.1, i64 s.b.2] ty_tally_Range 0) := by rw [hH3, List.getElem?_set_ne (by omega)]; exact gB
      have t3 : H3[Hb.length]? = some (.cells [i64 n.1, i64 n.2] ty_tally_Numbers 0) := by rw [hH3, List.getElem?_set_ne (by omega)]; exact g9
      have t4 : H4[Hb.length]? = some (.cells [i64 n.1, i64 n.2] ty_tally_Numbers 0) := by rw [hH4, List.getElem?_set_ne (by omega)]; exact t3
      have m4 : H4[m.h.length + 4]? = some (.cells [i64 s.last.1, i64 s.last.2] ty_tally_Numbers 0) := by rw [hH4, List.getElem?_set_ne (by omega), hH3, List.getElem?_set_ne (by omega)]; exact gL
      obtain ⟨c2, k2⟩ := least_spec s.a.1 n.1 { h := H2 }
      obtain ⟨c3, k3⟩ := greatest_spec s.a.2 n.1 { h := H2 }
      obtain ⟨c4, k4⟩ := least_spec s.b.1 n.2 { h := H3 }
      obtain ⟨c5, k5⟩ := greatest_spec s.b.2 n.2 { h := H3 }
      rw [show (if n.1 < s.a.1 then n.1 else s.a.1) = alo from halo.symm] at k2
      rw [show (if n.1 > s.a.2 then n.1 else s.a.2) = ahi from hahi.symm] at k3
      rw [show (if n.2 < s.b.1 then n.2 else s.b.1) = blo from hblo.symm] at k4
      rw [show (if n.2 > s.b.2 then n.2 else s.b.2) = bhi from hbhi.symm] at k5
      simp only [two] at k2 k3 k4 k5
      have hk := key H6 [] _ hst l6 (fun j hj => by
        simp at hj
        rw [hH6, List.getElem?_set_ne (by omega), hH4, List.getElem?_set_ne (by omega), hH3, List.getElem?_set_ne (by omega)])
        (by rw [hH6, List.getElem?_set_ne (by omega), hH4, List.getElem?_set_ne (by omega), hH3, List.getElem?_set_self (by omega)]; rfl)
        (by rw [hH6, List.getElem?_set_ne (by omega), hH4, List.getElem?_set_self (by omega)]; rfl)
        (by rw [hH6, List.getElem?_set_self (by omega)]; rfl)
        (by rw [hH6, List.getElem?_set_ne (by omega), hH4, List.getElem?_set_ne (by omega), hH3, List.getElem?_set_ne (by omega)]; exact gF)
      have ne1' : (Hb.length = m.h.length + 1) = False := eq_false (by omega)
      have ne2' : (Hb.length = m.h.length + 2) = False := eq_false (by omega)
      cases x1 : (n.1 == s.last.1) <;> cases x2 : (n.2 == s.last.2)
      case true.true => rw [x1, x2] at x12; cases x12
      all_goals
        refine ⟨_, .ofN ⟨c1 + c2 + c3 + c4 + c5, fun k hk => by
          simp [b_tally_Bounds_0, bnEnv, dn_drawF, denF, denFI, stepF, slotFree, slotOf, foot, avIdx, wrAll, pairsOk, apartL, hX, hT, rs_len, lR, tR, l40, t40, k1 k (by omega), k2 k (by omega), k3 k (by omega), k4 k (by omega), k5 k (by omega), ← hH2, g9, gA, gL, gF, q3, q4, rvEqs, rvEq, x1, x2, allR, AV.toR, repl, ← hH3, b3, t3, ← hH4, t4, m4, ← hH6, ne1, ne2, ne1', ne2']
          rfl⟩, ?_⟩
        refine ⟨hk.1, hk.2.1, hk.2.2, fun x hx => ?_, rfl, rfl⟩
        simp only [List.mem_cons] at hx
        rcases hx with rfl | rfl | rfl | rfl | hx
        all_goals first
          | exact .inl hx
          | (right; left; simp; done)
          | (right; right; omega)
end
end Go.AM.T
/- What the functions compute (own work). -/
namespace Go.AM.T
open Go Go.AM
attribute [local simp] so_mov so_pick so_alloc so_box so_build so_slit so_load so_store so_nilc so_bin so_beq so_eqs so_eqn so_eqnl so_not so_conv so_s2b so_mkfn so_slcA so_padd so_fld so_idxA so_idxV so_idxT so_look so_mupd so_mkmap so_mksl so_ext so_app so_lenT so_lenM so_min so_max so_cpy so_clr so_mkif so_tass so_lenS so_idxS so_slc
attribute [local simp] dn_skip dn_label dn_ret dn_exit dn_scope dn_keep dn_reg dn_draw0 noSlots denE denEI stepE  sd_mov sd_pick sd_build sd_load sd_store sd_nilc sd_bin sd_beq sd_eqs sd_eqn sd_eqnl sd_not sd_conv sd_s2b sd_mkfn sd_slc sd_slcA sd_padd sd_fld sd_idxS sd_idxA sd_idxV sd_idxT sd_look sd_mupd sd_ext sd_app sd_lenS sd_lenT sd_lenM sd_min sd_max sd_mkif sd_tass sd_call sd_slit dn_seq dn_cond dn_block dn_loop kn_call denIs denI denOp wants ev eget putD binL enumFrom AV.bool? AV.int? ekeep evs evp runV fin runDefs resAll resOf tupOf unit AV.cells okV ok1 Value.oneCell' fill setN rcells rs_nil rs_cons load_own load_cons mkAgg_rs storeN jmpOut
attribute [local simp] dvL dv1t dvAt mkAgg2 dv0 dv1 dv2 dv3 dv4 dv5 dv6 dv7 dv8 dv9 dv10 dvA dvN dvAll C_fz fzr
theorem bnStep_2 (d : Div) (s : Bn) (t : List Int) : (bnStep d s t).2 = true := by unfold bnStep; split <;> (try split) <;> rfl
theorem HBn.turn {m : Mem} {R : List RV} {s : Bn} {st st' : LSt} {H : List Blk} (h : HBn m R s st H) : HBn m R s st' (H.set (m.h.length + 7) (.loop (bnEnv m.h.length R) [22] s_tally_Bounds_0 b_tally_Bounds_0 st' none)) := by
  have hl := getElem?_lt h.lp
  refine ⟨?_, ?_, ?_, ?_, ?_, ?_, List.getElem?_set_self hl, ?_⟩
  · rw [List.getElem?_set_ne (by omega)]; exact h.a
  · rw [List.getElem?_set_ne (by omega)]; exact h.b
  · rw [List.getElem?_set_ne (by omega)]; exact h.x
  · rw [List.getElem?_set_ne (by omega)]; exact h.l
  · rw [List.getElem?_set_ne (by omega)]; exact h.f
  · rw [List.getElem?_set_ne (by omega)]; exact h.d
  · rw [List.take_set_of_le (by omega)]; exact h.tk
/-- It hangs on its own blocks. -/
theorem HBn.of {m : Mem} {R : List RV} {s : Bn} {st : LSt} {H H' : List Blk} (h : HBn m R s st H) (hl : m.h.length + 8 ≤ H'.length) (hj : ∀ j, j < m.h.length + 8 → H'[j]? = H[j]?) : HBn m R s st H' := by
  refine ⟨?_, ?_, ?_, ?_, ?_, ?_, ?_, ?_⟩
  · rw [hj _ (by omega)]; exact h.a
  · rw [hj _ (by omega)]; exact h.b
  · rw [hj _ (by omega)]; exact h.x
  · rw [hj _ (by omega)]; exact h.l
  · rw [hj _ (by omega)]; exact h.f
  · rw [hj _ (by omega)]; exact h.d
  · rw [hj _ (by omega)]; exact h.lp
  · have hl' := getElem?_lt h.lp
    have hml : (List.take m.h.length H).length = m.h.length := by rw [List.length_take]; omega
    have ht := h.tk
    refine Eq.trans ?_ ht
    refine List.ext_getElem? fun j => ?_
    by_cases h1 : j < m.h.length
    · rw [List.getElem?_take_of_lt h1, List.getElem?_take_of_lt h1, hj _ (by omega)]
    · rw [List.getElem?_eq_none (by simp; omega), List.getElem?_eq_none (by simp; omega)]
section
variable {d : Div} {a0 a1 n0 n1 p q : RV}
theorem bnd_yld {N : Nat} (hs : DivS d a0 a1 n0 n1 p q) (hr : rightB d = true) (m : Mem) {R : List RV} (hR : R = lookC d (divC d a0 a1 n0 n1 p q)) :
    YldOk (fun _ => true) (fun _ => 0) N (m.h.length + 7) (m.h.length + 8) m.h.length (fun s H F => F = [] ∧ HBn m R s .ready H) (bnStep d) where
  le := by omega
  al := fun s t => (bnStep_2 d s t).symm
  rk := fun s t => by omega
  frame := fun s H H' F ⟨h1, h2⟩ hl hj => ⟨h1, h2.of (by have := getElem?_lt h2.lp; omega) fun j h => hj j (by have := getElem?_lt h2.lp; omega) (.inl h)⟩
  lt := fun s H F ⟨h1, _⟩ j hj => by subst h1; cases hj
  call := by
    rintro s H W F t _ _ ht ⟨rfl, hF⟩ hlen
    have l40 : (ints .u8 t).length = 40 := by rw [ints_len]; exact ht.1
    have hHl := getElem?_lt hF.lp
    obtain ⟨H1, hH1⟩ : ∃ H1, H1 = H ++ [.cells (rs (ints .u8 t)) ty_tally_truth 0] := ⟨_, rfl⟩
    have hF1 : HBn m R s .ready H1 := hF.of (by simp [hH1]; omega) fun j hj => by rw [hH1, List.getElem?_append_left (by omega)]
    have hF2 := hF1.turn (st' := .busy)
    obtain ⟨Hb, hHb⟩ : ∃ Hb, Hb = H1.set (m.h.length + 7) (.loop (bnEnv m.h.length R) [22] s_tally_Bounds_0 b_tally_Bounds_0 .busy none) := ⟨_, rfl⟩
    rw [← hHb] at hF2
    have hbl : Hb.length = H.length + 1 := by simp [hHb, hH1]
    have hT : Hb[H.length]? = some (.cells (rs (ints .u8 t)) ty_tally_truth 0) := by rw [hHb, List.getElem?_set_ne (by omega), hH1]; simp
    obtain ⟨s2, k2, hG, hfr, hl2, hw2, hro, hde⟩ := bnd_body hs hr ht m hR hF2 hT [m.h.length + 7, H.length]
    obtain ⟨X, hX⟩ : ∃ X, X = s2.m.h.set (m.h.length + 7) (.loop (bnEnv m.h.length R) [22] s_tally_Bounds_0 b_tally_Bounds_0 .ready none) := ⟨_, rfl⟩
    have hGX : HBn m R (bnStep d s t).1 .ready X := by rw [hX]; exact hG.turn
    have hXl : X.length = s2.m.h.length := by simp [hX]
    have lt0env : lt0s H.length ((bnEnv m.h.length R).map (·.2)) = true := by
      simp [bnEnv, lt0s, lt0]; omega
    have hset : Go.AM.settle C.fz false { h := H, wr := W } (bo true) { h := X, wr := (m.h.length + 7) :: s2.m.wr } = (bo true, { h := X.take H.length, wr := oldWr H.length ((m.h.length + 7) :: s2.m.wr) ++ W }) := by
      refine settle_w rfl fun i hi hil b hb => ?_
      have hmem : i = m.h.length + 7 ∨ i = m.h.length + 1 ∨ i = m.h.length + 2 ∨ i = m.h.length + 4 ∨ i = m.h.length + 5 := by
        rcases List.mem_cons.1 hi with rfl | hi
        · exact .inl rfl
        · rcases hw2 i hi with h | h | h
          · simp only [List.mem_cons, List.not_mem_nil, or_false] at h
            rcases h with h | h
            · exact .inl h
            · have hil' : i < H.length := hil
              omega
          · simp only [List.mem_cons, List.not_mem_nil, or_false] at h
            omega
          · have hil' : i < H.length := hil
            omega
      have hb' : X[i]? = some b := hb
      rcases hmem with rfl | rfl | rfl | rfl | rfl
      · rw [hGX.lp] at hb'; cases hb'; exact lt0env
      · rw [hGX.a] at hb'; cases hb'; rfl
      · rw [hGX.b] at hb'; cases hb'; rfl
      · rw [hGX.l] at hb'; cases hb'; rfl
      · rw [hGX.f] at hb'; cases hb'; rfl
    refine ⟨X.take H.length, oldWr H.length ((m.h.length + 7) :: s2.m.wr) ++ W, [], ?_, ⟨rfl, hGX.of (by rw [List.length_take]; omega) fun j hj => by rw [List.getElem?_take_of_lt (by omega)]⟩, by rw [List.length_take]; omega, fun j h1 h2 _ => ⟨?_, by simp⟩, fun x hx => ?_⟩
    · rw [bnStep_2]
      refine CallR.round (q2 := []) (a3 := .skip) (b3 := .skip) (s1 := { env := (8, .own H.length 0 0) :: (22, .r (.agg (ints .u8 t))) :: bnEnv m.h.length R, m := { h := H1, wr := [H.length] }, round := some (m.h.length + 7) }) (s2 := s2) (o := .norm) hF.lp rfl (.of fun K => ?_) hF1.lp (by rw [← hHb]; exact k2) (fun v h => by cases h) ?_
      · have hZl : (rs z_tally_truth).length = 40 := by rw [rs_len, truth_zero, ints_len]; simp
        have hZd : List.drop 40 (rs z_tally_truth) = [] := List.drop_eq_nil_of_le (by omega)
        obtain ⟨I, hI⟩ : ∃ I, I = ints .u8 t := ⟨_, rfl⟩
        obtain ⟨Z, hZ⟩ : ∃ Z, Z = rs z_tally_truth := ⟨_, rfl⟩
        rw [← hI] at hH1 l40 ⊢
        rw [← hZ] at hZl hZd
        obtain ⟨E, hE⟩ : ∃ E, E = bnEnv m.h.length R := ⟨_, rfl⟩
        rw [← hE, hH1]
        simp [s_tally_Bounds_0, ← hZ, rs_len, l40, hZl, hZd]
      · unfold roundEnd
        simp only [hG.lp, outJmp, Option.isNone_none, if_true, outJmp]
        rw [← hX, hset]
    · have hj7 : j ≠ m.h.length + 7 := by omega
      rw [List.getElem?_take_of_lt h2, hX, List.getElem?_set_ne (by omega), hfr j h1 (by omega), hHb, List.getElem?_set_ne (by omega), hH1, List.getElem?_append_left h2]
    · rcases List.mem_append.1 hx with hx | hx
      · unfold oldWr at hx
        obtain ⟨hx1, hx2⟩ := List.mem_filter.1 hx
        have hx2 : x < H.length := by simpa using hx2
        rcases List.mem_cons.1 hx1 with rfl | hx1
        · exact .inr (by omega)
        · rcases hw2 x hx1 with h | h | h
          · simp only [List.mem_cons, List.not_mem_nil, or_false] at h
            exact .inr (by omega)
          · simp only [List.mem_cons, List.not_mem_nil, or_false] at h
            exact .inr (by omega)
          · exact .inr (by omega)
      · exact .inl hx
end
end Go.AM.T
/- What the functions compute (own work). -/
namespace Go.AM.T
open Go Go.AM
attribute [local simp] so_mov so_pick so_alloc so_box so_build so_slit so_load so_store so_nilc so_bin so_beq so_eqs so_eqn so_eqnl so_not so_conv so_s2b so_mkfn so_slcA so_padd so_fld so_idxA so_idxV so_idxT so_look so_mupd so_mkmap so_mksl so_ext so_app so_lenT so_lenM so_min so_max so_cpy so_clr so_mkif so_tass so_lenS so_idxS so_slc
attribute [local simp] dn_skip dn_label dn_ret dn_exit dn_scope dn_keep dn_reg dn_draw0 noSlots denE denEI stepE  sd_mov sd_pick sd_build sd_load sd_store sd_nilc sd_bin sd_beq sd_eqs sd_eqn sd_eqnl sd_not sd_conv sd_s2b sd_mkfn sd_slc sd_slcA sd_padd sd_fld sd_idxS sd_idxA sd_idxV sd_idxT sd_look sd_mupd sd_ext sd_app sd_lenS sd_lenT sd_lenM sd_min sd_max sd_mkif sd_tass sd_call sd_slit dn_seq dn_cond dn_block dn_loop kn_call denIs denI denOp wants ev eget putD binL enumFrom AV.bool? AV.int? ekeep evs evp runV fin runDefs resAll resOf tupOf unit AV.cells okV ok1 Value.oneCell' fill setN rcells rs_nil rs_cons load_own load_cons mkAgg_rs storeN jmpOut
attribute [local simp] dvL dv1t dvAt mkAgg2 dv0 dv1 dv2 dv3 dv4 dv5 dv6 dv7 dv8 dv9 dv10 dvA dvN dvAll C_fz fzr
def bn0 : Bn := ⟨true, (0, 0), (0, 0), (0, 0)⟩
/-- The bounds. -/
def bnL (d : Div) : Bn := (foldS (bnStep d) bn0 (truthsOf d)).1
theorem openI0 {d : Div} (h : openI d = 0) : rightB d = true ∧ clashB d = none ∧ (doubtsL d).length ≤ 8 := by
  unfold openI at h
  by_cases e : faultI d = 0
  · rw [if_pos e] at h
    obtain ⟨h1, h2⟩ := faultI0 e
    refine ⟨h1, h2, ?_⟩
    by_cases e2 : 8 < (doubtsL d).length
    · rw [if_pos e2] at h; cases h
    · omega
  · rw [if_neg e] at h; exact absurd h e
section
variable {d : Div} {a0 a1 n0 n1 p q : RV}
theorem bnd_range (hs : DivS d a0 a1 n0 n1 p q) (hr : rightB d = true) (m : Mem) {R : List RV} (hR : R = lookC d (divC d a0 a1 n0 n1 p q)) (D : Blk) (W : List Nat) :
    ∃ H' W', Den C (.rangeF (.t 21) [22] s_tally_Bounds_0 b_tally_Bounds_0) { env := bnEnv m.h.length R, m := { h := m.h ++ [D, .cells [i64 0, i64 0] ty_tally_Range 0, .cells [i64 0, i64 0] ty_tally_Range 0, .cells (rs R) ty_tally_looked 0, .cells [i64 0, i64 0] ty_tally_Numbers 0, .cells [bo true] ty_bool 0], wr := W } } .norm
      { env := bnEnv m.h.length R, m := { h := H', wr := (m.h.length + 7) :: W' }, defs := [.dfr (m.h.length + 6)] } ∧
      H'[m.h.length + 1]? = some (.cells (nmC (bnL d).a) ty_tally_Range 0) ∧ H'[m.h.length + 2]? = some (.cells (nmC (bnL d).b) ty_tally_Range 0) ∧ H'[m.h.length + 6]? = some .dfr ∧ H'.take m.h.length = m.h ∧ m.h.length + 8 ≤ H'.length ∧ ∀ x ∈ W', x ∈ W ∨ m.h.length ≤ x := by
  obtain ⟨H0, hH0⟩ : ∃ H0, H0 = m.h ++ [D, .cells [i64 0, i64 0] ty_tally_Range 0, .cells [i64 0, i64 0] ty_tally_Range 0, .cells (rs R) ty_tally_looked 0, .cells [i64 0, i64 0] ty_tally_Numbers 0, .cells [bo true] ty_bool 0] := ⟨_, rfl⟩
  have hl0 : H0.length = m.h.length + 6 := by simp [hH0]
  rw [← hH0]
  obtain ⟨H1, hH1⟩ : ∃ H1, H1 = H0 ++ [.dfr, .loop (bnEnv m.h.length R) [22] s_tally_Bounds_0 b_tally_Bounds_0 .ready none] := ⟨_, rfl⟩
  have hF : HBn m R bn0 .ready H1 := by
    refine ⟨?_, ?_, ?_, ?_, ?_, ?_, ?_, ?_⟩ <;> simp [hH1, hH0, nmC, bn0]
  have hRr : R = lookC d (divC d a0 a1 n0 n1 p q) := hR
  obtain ⟨H', W', F', k1, ⟨-, hG⟩, hl, hfr, hw⟩ := iter_spec (bnd_yld hs hr m hR) (right_n hr) (R := R) (fun m => by rw [hRr]; exact lookC_p0 m) (fun m k h1 h2 => by rw [hRr]; exact lookC_pm m k h1 h2) W (N := (truthsOf d).length) (s := bn0) (H := H1) (F := []) rfl (by simp) ⟨rfl, hF⟩ (by simp [hH1, hl0])
  have hHl := getElem?_lt hG.lp
  refine ⟨H'.set (m.h.length + 7) .dead, W', ?_, ?_, ?_, ?_, ?_, by simp; omega, fun x hx => hw x hx⟩
  · have hla : loopAt ({ env := bnEnv m.h.length R, m := { h := H0, wr := W } } : St) = m.h.length + 7 := by simp [loopAt, hl0]
    have hlh : loopHeap ({ env := bnEnv m.h.length R, m := { h := H0, wr := W } } : St) [22] s_tally_Bounds_0 b_tally_Bounds_0 = H1 := by simp [loopHeap, hH1]
    have hld : loopDefs ({ env := bnEnv m.h.length R, m := { h := H0, wr := W } } : St) = [.dfr (m.h.length + 6)] := by simp [loopDefs, hl0]
    have := Den.rangeF (C := C) (s := { env := bnEnv m.h.length R, m := { h := H0, wr := W } }) (f := .t 21) (ps := [22]) (as := s_tally_Bounds_0) (bd := b_tally_Bounds_0) (v := .tup []) (m := { h := H', wr := W' }) (env := bnEnv m.h.length R) (q1 := [22]) (q2 := s_tally_Bounds_0) (q3 := b_tally_Bounds_0) (st := .ready) (pend := none) rfl rfl (by
      rw [hla, hlh]
      exact k1) (by rw [hla]; exact hG.lp) (fun h => by cases h)
    rw [hla, hld] at this
    exact this
  · rw [List.getElem?_set_ne (by omega)]; exact hG.a
  · rw [List.getElem?_set_ne (by omega)]; exact hG.b
  · rw [List.getElem?_set_ne (by omega)]; exact hG.d
  · rw [List.take_set_of_le (by omega)]; exact hG.tk
end
end Go.AM.T
/- What the functions compute (own work). -/
namespace Go.AM.T
open Go Go.AM
attribute [local simp] so_mov so_pick so_alloc so_box so_build so_slit so_load so_store so_nilc so_bin so_beq so_eqs so_eqn so_eqnl so_not so_conv so_s2b so_mkfn so_slcA so_padd so_fld so_idxA so_idxV so_idxT so_look so_mupd so_mkmap so_mksl so_ext so_app so_lenT so_lenM so_min so_max so_cpy so_clr so_mkif so_tass so_lenS so_idxS so_slc
attribute [local simp] dn_skip dn_label dn_ret dn_exit dn_scope dn_keep dn_reg dn_draw0 noSlots denE denEI stepE  sd_mov sd_pick sd_build sd_load sd_store sd_nilc sd_bin sd_beq sd_eqs sd_eqn sd_eqnl sd_not sd_conv sd_s2b sd_mkfn sd_slc sd_slcA sd_padd sd_fld sd_idxS sd_idxA sd_idxV sd_idxT sd_look sd_mupd sd_ext sd_app sd_lenS sd_lenT sd_lenM sd_min sd_max sd_mkif sd_tass sd_call sd_slit dn_seq dn_cond dn_block dn_loop kn_call denIs denI denOp wants ev eget putD binL enumFrom AV.bool? AV.int? ekeep evs evp runV fin runDefs resAll resOf tupOf unit AV.cells okV ok1 Value.oneCell' fill setN rcells rs_nil rs_cons load_own load_cons mkAgg_rs storeN jmpOut
attribute [local simp] dvL dv1t dvAt mkAgg2 dv0 dv1 dv2 dv3 dv4 dv5 dv6 dv7 dv8 dv9 dv10 dvA dvN dvAll C_fz fzr
section
variable {d : Div} {a0 a1 n0 n1 p q : RV}
theorem Bounds_spec (hs : DivS d a0 a1 n0 n1 p q) (hb : Small d) (hru : 0 ≤ d.rule ∧ d.rule ≤ 255) (m : Mem) : CallR C (fnv fn_tally_Bounds) [.r (.agg (divC d a0 a1 n0 n1 p q))] m
    (.ret (.tup [.r (nmR (if openI d = 0 then (bnL d).a else (0, 0))), .r (nmR (if openI d = 0 then (bnL d).b else (0, 0))), i64 (openI d)]) m) := by
  obtain ⟨R, hRR⟩ : ∃ R, R = (if openI d = 0 then lookC d (divC d a0 a1 n0 n1 p q) else z_tally_looked) := ⟨_, rfl⟩
  have lR : R.length = 91 := by rw [hRR]; split <;> rfl
  have hRt : List.take 91 (rs R) = rs R := List.take_of_length_le (by rw [rs_len]; omega)
  obtain ⟨Z, hZ⟩ : ∃ Z, Z = z_tally_looked := ⟨_, rfl⟩
  have hZl : Z.length = 91 := by rw [hZ]; rfl
  have hZd : List.drop 91 (rs Z) = [] := List.drop_eq_nil_of_le (by rw [rs_len]; omega)
  have hd11 : (divC d a0 a1 n0 n1 p q).length = 11 := rfl
  obtain ⟨c1, k1⟩ := topen_spec hs hb hru { h := m.h ++ [.cells (rs (divC d a0 a1 n0 n1 p q)) ty_tally_Division 0, .cells [i64 0, i64 0] ty_tally_Range 0, .cells [i64 0, i64 0] ty_tally_Range 0] }
  rw [← hRR] at k1
  by_cases e : openI d = 0
  · rw [if_pos e] at hRR
    rw [e] at k1
    rw [if_pos e, if_pos e, e]
    obtain ⟨hr, -, -⟩ := openI0 e
    obtain ⟨H', W', ⟨c2, k2⟩, gA, gB, gD, gT, gl, gw⟩ := bnd_range hs hr m hRR (.cells (rs (divC d a0 a1 n0 n1 p q)) ty_tally_Division 0) [m.h.length + 5, m.h.length + 3]
    obtain ⟨c3, k3⟩ := truths_spec lR { h := m.h ++ [.cells (rs (divC d a0 a1 n0 n1 p q)) ty_tally_Division 0, .cells [i64 0, i64 0] ty_tally_Range 0, .cells [i64 0, i64 0] ty_tally_Range 0, .cells (rs R) ty_tally_looked 0, .cells [i64 0, i64 0] ty_tally_Numbers 0, .cells [bo true] ty_bool 0], wr := [m.h.length + 5, m.h.length + 3] }
    obtain ⟨A, hA⟩ : ∃ A, A = (bnL d).a := ⟨_, rfl⟩
    obtain ⟨B, hB⟩ : ∃ B, B = (bnL d).b := ⟨_, rfl⟩
    rw [← hA] at gA ⊢
    rw [← hB] at gB ⊢
    simp only [nmC] at gA gB
    simp only [bnEnv] at k2
    obtain ⟨H3, hH3⟩ : ∃ H3, H3 = H'.set (m.h.length + 1) (.cells [i64 A.1, i64 A.2] ty_tally_Range 0) := ⟨_, rfl⟩
    obtain ⟨H4, hH4⟩ : ∃ H4, H4 = H3.set (m.h.length + 2) (.cells [i64 B.1, i64 B.2] ty_tally_Range 0) := ⟨_, rfl⟩
    obtain ⟨H5, hH5⟩ : ∃ H5, H5 = H4.set (m.h.length + 6) .dead := ⟨_, rfl⟩
    have q3 : H3.length = H'.length := by simp [hH3]
    have q4 : H4.length = H'.length := by simp [hH4, hH3]
    have b3 : H3[m.h.length + 2]? = some (.cells [i64 B.1, i64 B.2] ty_tally_Range 0) := by rw [hH3, List.getElem?_set_ne (by omega)]; exact gB
    have d4 : H4[m.h.length + 6]? = some .dfr := by rw [hH4, List.getElem?_set_ne (by omega), hH3, List.getElem?_set_ne (by omega)]; exact gD
    have a5 : H5[m.h.length + 1]? = some (.cells [i64 A.1, i64 A.2] ty_tally_Range 0) := by rw [hH5, List.getElem?_set_ne (by omega), hH4, List.getElem?_set_ne (by omega), hH3, List.getElem?_set_self (by omega)]
    have b5 : H5[m.h.length + 2]? = some (.cells [i64 B.1, i64 B.2] ty_tally_Range 0) := by rw [hH5, List.getElem?_set_ne (by omega), hH4, List.getElem?_set_self (by omega)]
    refine CallR.eval (m1 := { h := H5, wr := (m.h.length + 6) :: (m.h.length + 2) :: (m.h.length + 1) :: (m.h.length + 7) :: W' }) rfl rfl prog_tally_Bounds rfl ⟨c1 + c2 + c3, fun k hk => ?_⟩ (by rw [hH5, List.take_set_of_le (by omega), hH4, List.take_set_of_le (by omega), hH3, List.take_set_of_le (by omega)]; exact gT) (by
      intro x hx
      simp only [List.mem_cons] at hx
      rcases hx with rfl | rfl | rfl | rfl | hx
      · omega
      · omega
      · omega
      · omega
      · rcases gw x hx with h | h
        · simp at h; omega
        · exact h)
    simp [a_tally_Bounds, dn_drawF, denF, denFI, stepF, slotFree, slotOf, foot, avIdx, wrAll, pairsOk, apartL, ← hZ, hd11, rs_len, hZl, hZd, lR, hRt, k1 k (by omega), k3 k (by omega), k2 k (by omega), gA, gB, ← hH3, b3, ← hH4, d4, ← hH5, a5, b5, q3, q4, fz, fzs, nmR, mkAgg, allR_rs, allR, AV.toR]
  · rw [if_neg e, if_neg e]
    have e' : (openI d == 0) = false := by simpa using e
    refine CallR.eval (m1 := { h := m.h ++ [.cells (rs (divC d a0 a1 n0 n1 p q)) ty_tally_Division 0, .cells [i64 0, i64 0] ty_tally_Range 0, .cells [i64 0, i64 0] ty_tally_Range 0, .cells (rs R) ty_tally_looked 0], wr := [m.h.length + 2, m.h.length + 1, m.h.length + 3] }) rfl rfl prog_tally_Bounds rfl ⟨c1, fun k hk => ?_⟩ (by simp) (by simp)
    simp [a_tally_Bounds, ← hZ, hd11, rs_len, hZl, hZd, lR, hRt, k1 k (by omega), e', e, fz, fzs, nmR, mkAgg, allR_rs, allR, AV.toR]
end
end Go.AM.T
/- What the functions compute (own work). -/
namespace Go.AM.T
open Go Go.AM
attribute [local simp] so_mov so_pick so_alloc so_box so_build so_slit so_load so_store so_nilc so_bin so_beq so_eqs so_eqn so_eqnl so_not so_conv so_s2b so_mkfn so_slcA so_padd so_fld so_idxA so_idxV so_idxT so_look so_mupd so_mkmap so_mksl so_ext so_app so_lenT so_lenM so_min so_max so_cpy so_clr so_mkif so_tass so_lenS so_idxS so_slc
attribute [local simp] dn_skip dn_label dn_ret dn_exit dn_scope dn_keep dn_reg dn_draw0 noSlots denE denEI stepE  sd_mov sd_pick sd_build sd_load sd_store sd_nilc sd_bin sd_beq sd_eqs sd_eqn sd_eqnl sd_not sd_conv sd_s2b sd_mkfn sd_slc sd_slcA sd_padd sd_fld sd_idxS sd_idxA sd_idxV sd_idxT sd_look sd_mupd sd_ext sd_app sd_lenS sd_lenT sd_lenM sd_min sd_max sd_mkif sd_tass sd_call sd_slit dn_seq dn_cond dn_block dn_loop kn_call denIs denI denOp wants ev eget putD binL enumFrom AV.bool? AV.int? ekeep evs evp runV fin runDefs resAll resOf tupOf unit AV.cells okV ok1 Value.oneCell' fill setN rcells rs_nil rs_cons load_own load_cons mkAgg_rs storeN jmpOut
attribute [local simp] dvL dv1t dvAt mkAgg2 dv0 dv1 dv2 dv3 dv4 dv5 dv6 dv7 dv8 dv9 dv10 dvA dvN dvAll C_fz fzr
section
variable {d : Div} {a0 a1 n0 n1 p q : RV}
theorem lawfault_spec (hs : DivS d a0 a1 n0 n1 p q) (hb : Small d) (m : Mem) : CallR C (fnv fn_law07_fault) [.r (.agg (divC d a0 a1 n0 n1 p q))] m (.ret (i64 (faultI d)) m) := by
  obtain ⟨H, hH⟩ : ∃ H, H = m.h ++ [.cells (rs (divC d a0 a1 n0 n1 p q)) ty_ref07_Division 0] := ⟨_, rfl⟩
  have hc : H[m.h.length]? = some (.cells (rs (divC d a0 a1 n0 n1 p q)) ty_ref07_Division 0) := by simp [hH]
  have ht : H.take m.h.length = m.h := by simp [hH]
  have hd11 : (divC d a0 a1 n0 n1 p q).length = 11 := rfl
  obtain ⟨c1, k1⟩ := Right_spec hs hb { h := H }
  unfold faultI
  cases e : rightB d with
  | false =>
    rw [e] at k1
    exact CallR.eval (m1 := { h := H }) rfl rfl prog_law07_fault rfl ⟨c1, fun k hk => by simp [a_law07_fault, ← hH, hc, hd11, k1 k hk]⟩ ht (by simp)
  | true =>
    rw [e] at k1
    obtain ⟨c2, k2⟩ := refClash_spec hs hb (right_n e).1 (right_n e).2 { h := H }
    cases e2 : clashB d with
    | none =>
      rw [e2] at k2
      exact CallR.eval (m1 := { h := H }) rfl rfl prog_law07_fault rfl ⟨c1 + c2, fun k hk => by simp [a_law07_fault, ← hH, hc, hd11, k1 k (by omega), k2 k (by omega)]⟩ ht (by simp)
    | some i =>
      rw [e2] at k2
      exact CallR.eval (m1 := { h := H }) rfl rfl prog_law07_fault rfl ⟨c1 + c2, fun k hk => by simp [a_law07_fault, ← hH, hc, hd11, k1 k (by omega), k2 k (by omega)]⟩ ht (by simp)
/-- May a member have a vote? -/
theorem may_mem (d : Div) (x v : Int) : decide (v ∈ may d x) = (if v = 0 then decide (onB d.a0 d.a1 x < 2) && decide (onB d.n0 d.n1 x < 2) else if v = 1 then decide (0 < onB d.a0 d.a1 x) && decide (onB d.n0 d.n1 x < 2) else if v = 2 then decide (0 < onB d.n0 d.n1 x) && decide (onB d.a0 d.a1 x < 2) else false) := by
  unfold may votesL
  by_cases h0 : v = 0
  · subst h0
    rcases onB_cases d.a0 d.a1 x with e0 | e0 | e0 <;> rcases onB_cases d.n0 d.n1 x with e1 | e1 | e1 <;> rw [e0, e1] <;> rfl
  · by_cases h1 : v = 1
    · subst h1
      rcases onB_cases d.a0 d.a1 x with e0 | e0 | e0 <;> rcases onB_cases d.n0 d.n1 x with e1 | e1 | e1 <;> rw [e0, e1] <;> rfl
    · by_cases h2 : v = 2
      · subst h2
        rcases onB_cases d.a0 d.a1 x with e0 | e0 | e0 <;> rcases onB_cases d.n0 d.n1 x with e1 | e1 | e1 <;> rw [e0, e1] <;> rfl
      · rw [if_neg h0, if_neg h1, if_neg h2, decide_eq_false_iff_not]
        rcases onB_cases d.a0 d.a1 x with e0 | e0 | e0 <;> rcases onB_cases d.n0 d.n1 x with e1 | e1 | e1 <;> rw [e0, e1] <;> simp [h0, h1, h2]
theorem refMay_spec (hs : DivS d a0 a1 n0 n1 p q) (hb : Small d) (x v : Int) (hv : v = 0 ∨ v = 1 ∨ v = 2) (m : Mem) : CallR C (fnv fn_ref07_May) [.r (.agg (divC d a0 a1 n0 n1 p q)), i64 x, u8 v] m (.ret (bo (decide (v ∈ may d x))) m) := by
  obtain ⟨H, hH⟩ : ∃ H, H = m.h ++ [.cells (rs (divC d a0 a1 n0 n1 p q)) ty_ref07_Division 0] := ⟨_, rfl⟩
  have hc : H[m.h.length]? = some (.cells (rs (divC d a0 a1 n0 n1 p q)) ty_ref07_Division 0) := by simp [hH]
  have ht : H.take m.h.length = m.h := by simp [hH]
  have hd11 : (divC d a0 a1 n0 n1 p q).length = 11 := rfl
  obtain ⟨c1, k1⟩ := On_spec hs.a0 hs.a1 hb.a0 hb.a1 x { h := H }
  obtain ⟨c2, k2⟩ := On_spec hs.n0 hs.n1 hb.n0 hb.n1 x { h := H }
  rw [may_mem]
  rcases onB_cases d.a0 d.a1 x with e0 | e0 | e0 <;> rcases onB_cases d.n0 d.n1 x with e1 | e1 | e1 <;> rw [e0] at k1 ⊢ <;> rw [e1] at k2 ⊢
  all_goals
    rcases hv with rfl | rfl | rfl
    all_goals exact CallR.eval (m1 := { h := H }) rfl rfl prog_ref07_May rfl ⟨c1 + c2, fun k hk => by simp [a_ref07_May, dn_drawF, denF, denFI, stepF, slotFree, slotOf, foot, avIdx, wrAll, pairsOk, apartL, ← hH, hc, hd11, k1 k (by omega), k2 k (by omega)]⟩ ht (by simp)
end
end Go.AM.T
/- What the functions compute (own work). -/
namespace Go.AM.T
open Go Go.AM
attribute [local simp] so_mov so_pick so_alloc so_box so_build so_slit so_load so_store so_nilc so_bin so_beq so_eqs so_eqn so_eqnl so_not so_conv so_s2b so_mkfn so_slcA so_padd so_fld so_idxA so_idxV so_idxT so_look so_mupd so_mkmap so_mksl so_ext so_app so_lenT so_lenM so_min so_max so_cpy so_clr so_mkif so_tass so_lenS so_idxS so_slc
attribute [local simp] dn_skip dn_label dn_ret dn_exit dn_scope dn_keep dn_reg dn_draw0 noSlots denE denEI stepE  sd_mov sd_pick sd_build sd_load sd_store sd_nilc sd_bin sd_beq sd_eqs sd_eqn sd_eqnl sd_not sd_conv sd_s2b sd_mkfn sd_slc sd_slcA sd_padd sd_fld sd_idxS sd_idxA sd_idxV sd_idxT sd_look sd_mupd sd_ext sd_app sd_lenS sd_lenT sd_lenM sd_min sd_max sd_mkif sd_tass sd_call sd_slit dn_seq dn_cond dn_block dn_loop kn_call denIs denI denOp wants ev eget putD binL enumFrom AV.bool? AV.int? ekeep evs evp runV fin runDefs resAll resOf tupOf unit AV.cells okV ok1 Value.oneCell' fill setN rcells rs_nil rs_cons load_own load_cons mkAgg_rs storeN jmpOut
attribute [local simp] dvL dv1t dvAt mkAgg2 dv0 dv1 dv2 dv3 dv4 dv5 dv6 dv7 dv8 dv9 dv10 dvA dvN dvAll C_fz fzr
theorem u80 : IntKind.wrap .u8 0 = 0 := by decide
theorem u81 : IntKind.wrap .u8 1 = 1 := by decide
theorem u82 : IntKind.wrap .u8 2 = 2 := by decide
section
variable {d : Div} {a0 a1 n0 n1 p q : RV}
theorem refDoubts_inner (hs : DivS d a0 a1 n0 n1 p q) (hb : Small d) (x : Int) {L : Nat} {H : List Blk} (W : List Nat) (v : AV) (hc : H[L]? = some (.cells (rs (divC d a0 a1 n0 n1 p q)) ty_ref07_Division 0)) :
    ∃ c, ∀ k, c ≤ k → ∀ s0 : St, goLoop (Kn C k) [1, 3, 4, 5, 6] l_ref07_Doubts_0 { s0 with env := [(6, i64 0), (5, i64 0), (1, .own L 0 0), (3, v), (4, i64 x), (10, bo true)], m := { h := H, wr := W } } =
      some (.exit 2, { s0 with env := [(1, .own L 0 0), (3, v), (4, i64 x), (5, i64 (may d x).length), (6, i64 3), (14, bo false)], m := { h := H, wr := W } }) := by
  have hd11 : (divC d a0 a1 n0 n1 p q).length = 11 := rfl
  obtain ⟨c0, k0⟩ := refMay_spec hs hb x 0 (by omega) { h := H, wr := W }
  obtain ⟨c1, k1⟩ := refMay_spec hs hb x 1 (by omega) { h := H, wr := W }
  obtain ⟨c2, k2⟩ := refMay_spec hs hb x 2 (by omega) { h := H, wr := W }
  refine ⟨c0 + c1 + c2 + 5, fun k hk s0 => ?_⟩
  obtain ⟨j, rfl⟩ : ∃ j, k = j + 5 := ⟨k - 5, by omega⟩
  have q0 := k0 (j + 5) (by omega)
  have q1 := k1 (j + 5) (by omega)
  have q2 := k2 (j + 5) (by omega)
  have hl : (may d x).length = (if decide (0 ∈ may d x) = true then 1 else 0) + (if decide (1 ∈ may d x) = true then 1 else 0) + (if decide (2 ∈ may d x) = true then 1 else 0) := by
    unfold may votesL
    rcases onB_cases d.a0 d.a1 x with e0 | e0 | e0 <;> rcases onB_cases d.n0 d.n1 x with e1 | e1 | e1 <;> rw [e0, e1] <;> rfl
  have wk3' : IntKind.wrap .i64 3 = 3 := by decide
  cases b0 : decide (0 ∈ may d x) <;> cases b1 : decide (1 ∈ may d x) <;> cases b2 : decide (2 ∈ may d x) <;> rw [b0] at q0 hl <;> rw [b1] at q1 hl <;> rw [b2] at q2 hl <;> rw [hl]
  all_goals simp [goLoop, kn_iter, iterN, l_ref07_Doubts_0, hc, hd11, q0, q1, q2, u80, u81, u82, wk1, wk2, wk3, wk3']
end
end Go.AM.T
/- What the functions compute (own work). -/
namespace Go.AM.T
open Go Go.AM
attribute [local simp] so_mov so_pick so_alloc so_box so_build so_slit so_load so_store so_nilc so_bin so_beq so_eqs so_eqn so_eqnl so_not so_conv so_s2b so_mkfn so_slcA so_padd so_fld so_idxA so_idxV so_idxT so_look so_mupd so_mkmap so_mksl so_ext so_app so_lenT so_lenM so_min so_max so_cpy so_clr so_mkif so_tass so_lenS so_idxS so_slc
attribute [local simp] dn_skip dn_label dn_ret dn_exit dn_scope dn_keep dn_reg dn_draw0 noSlots denE denEI stepE  sd_mov sd_pick sd_build sd_load sd_store sd_nilc sd_bin sd_beq sd_eqs sd_eqn sd_eqnl sd_not sd_conv sd_s2b sd_mkfn sd_slc sd_slcA sd_padd sd_fld sd_idxS sd_idxA sd_idxV sd_idxT sd_look sd_mupd sd_ext sd_app sd_lenS sd_lenT sd_lenM sd_min sd_max sd_mkif sd_tass sd_call sd_slit dn_seq dn_cond dn_block dn_loop kn_call denIs denI denOp wants ev eget putD binL enumFrom AV.bool? AV.int? ekeep evs evp runV fin runDefs resAll resOf tupOf unit AV.cells okV ok1 Value.oneCell' fill setN rcells rs_nil rs_cons load_own load_cons mkAgg_rs storeN jmpOut
attribute [local simp] dvL dv1t dvAt mkAgg2 dv0 dv1 dv2 dv3 dv4 dv5 dv6 dv7 dv8 dv9 dv10 dvA dvN dvAll C_fz fzr
section
variable {d : Div} {a0 a1 n0 n1 p q : RV}
theorem refDoubts_spec (hs : DivS d a0 a1 n0 n1 p q) (hb : Small d) (hn : 1 ≤ d.n ∧ d.n ≤ 40) (m : Mem) : CallR C (fnv fn_ref07_Doubts) [.r (.agg (divC d a0 a1 n0 n1 p q))] m (.ret (.r (slI (doubtsL d))) m) := by
  have hd11 : (divC d a0 a1 n0 n1 p q).length = 11 := rfl
  obtain ⟨f, hf⟩ : ∃ f : Nat → Bool, f = fun (i : Nat) => decide (1 < (may d i).length) := ⟨_, rfl⟩
  have key := Loop.run (C := C) (c := l_ref07_Doubts_1) (live := [1, 3, 4]) (fun k s => ∃ (i : Nat) (H : List Blk) (W : List Nat) (v : AV), (i : Int) + k = d.n ∧ At1 [1, 3, 4] [(1, .own m.h.length 0 0), (3, v), (4, i64 i)] { h := H, wr := W } s ∧
      GS H (m.h.length + 1) ty_int 1 (ints .i64 (((List.range i).filter f).map fun (i : Nat) => (i : Int))) ((List.range i).filter f).length v ∧ H[m.h.length]? = some (.cells (rs (divC d a0 a1 n0 n1 p q)) ty_ref07_Division 0) ∧ H.take m.h.length = m.h ∧ ∀ x ∈ W, m.h.length ≤ x)
    (fun o s => ∃ (H : List Blk) (W : List Nat) (v : AV), o = .exit 0 ∧ s.m = { h := H, wr := W } ∧ s.defs = [] ∧ eget s.env 3 = v ∧ GS H (m.h.length + 1) ty_int 1 (ints .i64 (doubtsL d)) (doubtsL d).length v ∧ H.take m.h.length = m.h ∧ ∀ x ∈ W, m.h.length ≤ x) (by
    rintro k s ⟨i, H, W, v, hik, ⟨he, hm, hd, hr⟩, hG, hc, ht, hw⟩
    rw [he]
    cases k with
    | zero =>
      have e1 : ((i : Int) < d.n) = False := eq_false (by omega)
      refine ⟨.exit 0, _, .of fun K => by simp [l_ref07_Doubts_1, hm, hc, hd11, e1]; rfl, .inr ⟨by simp, H, W, v, rfl, by simp [hm], by simp [hd], by simp, ?_, ht, hw⟩⟩
      have hi : d.n.toNat = i := by omega
      unfold doubtsL
      rw [hi, ← hf, List.length_map]
      exact hG
    | succ k =>
      have hi : (i : Int) < d.n := by omega
      have e1 : ((i : Int) < d.n) = True := eq_true hi
      have w1 : IntKind.wrap .i64 ((i : Int) + 1) = i + 1 := by rw [w64] <;> omega
      have hll : m.h.length < H.length := getElem?_lt hc
      obtain ⟨c1, k1⟩ := refDoubts_inner hs hb i W v hc
      cases e3 : f i with
      | true =>
        have e4 : (1 < ((may d i).length : Int)) = True := eq_true (by rw [hf] at e3; simp at e3; omega)
        have hlen : ((List.range i).filter f).length ≤ i := Nat.le_trans (List.length_filter_le _ _) (by simp)
        obtain ⟨B, g, H', W', hA, hW', hB, hG', hK⟩ := hG.app (W := W) (new := [.lit (.int .i64 i)]) (bytes := 8) (k := 1) (c := some 1) (by omega) (by omega) rfl ⟨by omega, by omega⟩
        refine ⟨.norm, _, .ofN ⟨c1, fun n hn' => by simp [l_ref07_Doubts_1, hm, hc, hd11, e1, k1 n hn' s, e4, allR, AV.toR, repl, hA, w1]; rfl⟩, .inl ⟨rfl, k, by omega, i + 1, H', W', _, by omega, ⟨by simp; rfl, rfl, by simp [hd], by simp [hr]⟩, ?_, ?_, ?_, ?_⟩⟩
        · rw [List.range_succ, List.filter_append, List.map_append, List.length_append]
          simp only [List.filter_cons, e3, if_true, List.filter_nil, List.map_cons, List.map_nil, List.length_cons, List.length_nil]
          have : ints .i64 (((List.range i).filter f).map (fun (i : Nat) => (i : Int)) ++ [(i : Int)]) = ints .i64 (((List.range i).filter f).map fun (i : Nat) => (i : Int)) ++ [.lit (.int .i64 i)] := by simp [ints]
          rw [this]
          exact hG'
        · exact GS.keep hK hc (fun ds g h => by cases h)
        · exact (GS.keepT hK (L := m.h.length) (by omega) (by omega)).1.trans ht
        · intro x hx
          rcases hW' with rfl | rfl
          · exact hw x hx
          · rcases List.mem_cons.1 hx with rfl | hx
            · omega
            · exact hw x hx
      | false =>
        have e4 : (1 < ((may d i).length : Int)) = False := eq_false (by rw [hf] at e3; simp at e3; omega)
        refine ⟨.norm, _, .ofN ⟨c1, fun n hn' => by simp [l_ref07_Doubts_1, hm, hc, hd11, e1, k1 n hn' s, e4, w1]; rfl⟩, .inl ⟨rfl, k, by omega, i + 1, H, W, v, by omega, ⟨by simp, by simp, by simp [hd], by simp [hr]⟩, ?_, hc, ht, hw⟩⟩
        rw [List.range_succ, List.filter_append, show List.filter f [i] = [] by simp [e3], List.append_nil]
        exact hG)
  obtain ⟨H, hH⟩ : ∃ H, H = m.h ++ [.cells (rs (divC d a0 a1 n0 n1 p q)) ty_ref07_Division 0] := ⟨_, rfl⟩
  have hc : H[m.h.length]? = some (.cells (rs (divC d a0 a1 n0 n1 p q)) ty_ref07_Division 0) := by simp [hH]
  have ht : H.take m.h.length = m.h := by simp [hH]
  obtain ⟨o, s, h1, h2, H', W', v, rfl, h3, h4, h5, h6, h7, h8⟩ := key d.n.toNat { env := [(4, i64 0), (3, .r .nil), (1, .own m.h.length 0 0)], m := { h := H } } ⟨0, H, [], .r .nil, by omega, ⟨by simp, rfl, rfl, rfl⟩, .nil rfl rfl, hc, ht, by simp⟩
  obtain ⟨c0, h1⟩ := h1.get
  have hz : fz { h := H', wr := W' } m.h.length 1000000 v = some (.r (slI (doubtsL d))) := by
    have h6' : GS H' m.h.length ty_int 1 (ints .i64 (doubtsL d)) (doubtsL d).length v := by
      cases h6 with
      | nil e1 e2 => exact .nil e1 e2
      | osl B g k1 k2 k3 k4 => exact .osl B g (by omega) k2 k3 k4
    exact h6'.fz (by rw [ints_len]; have := doubtsL_len d; omega)
  exact CallR.eval (m1 := { h := H', wr := W' }) rfl rfl prog_ref07_Doubts rfl ⟨c0, fun k hk => by simp [a_ref07_Doubts, ← hH, h1 k hk, h3, h4, h5, hz]⟩ h7 h8
end
end Go.AM.T
/- What the functions compute (own work). -/
namespace Go.AM.T
open Go Go.AM
attribute [local simp] so_mov so_pick so_alloc so_box so_build so_slit so_load so_store so_nilc so_bin so_beq so_eqs so_eqn so_eqnl so_not so_conv so_s2b so_mkfn so_slcA so_padd so_fld so_idxA so_idxV so_idxT so_look so_mupd so_mkmap so_mksl so_ext so_app so_lenT so_lenM so_min so_max so_cpy so_clr so_mkif so_tass so_lenS so_idxS so_slc
attribute [local simp] dn_skip dn_label dn_ret dn_exit dn_scope dn_keep dn_reg dn_draw0 noSlots denE denEI stepE  sd_mov sd_pick sd_build sd_load sd_store sd_nilc sd_bin sd_beq sd_eqs sd_eqn sd_eqnl sd_not sd_conv sd_s2b sd_mkfn sd_slc sd_slcA sd_padd sd_fld sd_idxS sd_idxA sd_idxV sd_idxT sd_look sd_mupd sd_ext sd_app sd_lenS sd_lenT sd_lenM sd_min sd_max sd_mkif sd_tass sd_call sd_slit dn_seq dn_cond dn_block dn_loop kn_call denIs denI denOp wants ev eget putD binL enumFrom AV.bool? AV.int? ekeep evs evp runV fin runDefs resAll resOf tupOf unit AV.cells okV ok1 Value.oneCell' fill setN rcells rs_nil rs_cons load_own load_cons mkAgg_rs storeN jmpOut
attribute [local simp] dvL dv1t dvAt mkAgg2 dv0 dv1 dv2 dv3 dv4 dv5 dv6 dv7 dv8 dv9 dv10 dvA dvN dvAll C_fz fzr
def smallB (d : Div) : Bool := if fewB d = true ∧ faultI d = 0 then decide ((doubtsL d).length ≤ 4) || decide (8 < (doubtsL d).length) else fewB d
section
variable {d : Div} {a0 a1 n0 n1 p q : RV}
theorem lawopen_spec (hs : DivS d a0 a1 n0 n1 p q) (hb : Small d) (m : Mem) : CallR C (fnv fn_law07_open) [.r (.agg (divC d a0 a1 n0 n1 p q))] m (.ret (i64 (openI d)) m) := by
  obtain ⟨H, hH⟩ : ∃ H, H = m.h ++ [.cells (rs (divC d a0 a1 n0 n1 p q)) ty_ref07_Division 0] := ⟨_, rfl⟩
  have hc : H[m.h.length]? = some (.cells (rs (divC d a0 a1 n0 n1 p q)) ty_ref07_Division 0) := by simp [hH]
  have ht : H.take m.h.length = m.h := by simp [hH]
  have hd11 : (divC d a0 a1 n0 n1 p q).length = 11 := rfl
  obtain ⟨c1, k1⟩ := lawfault_spec hs hb { h := H }
  unfold openI
  by_cases e : faultI d = 0
  · rw [e] at k1
    rw [if_pos e]
    obtain ⟨e1, _⟩ := faultI0 e
    obtain ⟨c2, k2⟩ := refDoubts_spec hs hb (right_n e1) { h := H }
    have hl := (Sl.slI (doubtsL d)).len
    by_cases e3 : 8 < (doubtsL d).length
    · rw [if_pos e3]
      have e3' : (8 < ((doubtsL d).length : Int)) = True := eq_true (by omega)
      exact CallR.eval (m1 := { h := H }) rfl rfl prog_law07_open rfl ⟨c1 + c2, fun k hk => by simp [a_law07_open, ← hH, hc, hd11, k1 k (by omega), k2 k (by omega), hl, e3']⟩ ht (by simp)
    · rw [if_neg e3]
      have e3' : (8 < ((doubtsL d).length : Int)) = False := eq_false (by omega)
      exact CallR.eval (m1 := { h := H }) rfl rfl prog_law07_open rfl ⟨c1 + c2, fun k hk => by simp [a_law07_open, ← hH, hc, hd11, k1 k (by omega), k2 k (by omega), hl, e3']⟩ ht (by simp)
  · rw [if_neg e]
    have e' : (faultI d == 0) = false := by simpa using e
    exact CallR.eval (m1 := { h := H }) rfl rfl prog_law07_open rfl ⟨c1, fun k hk => by simp [a_law07_open, ← hH, hc, hd11, k1 k (by omega), e', e]⟩ ht (by simp)
theorem lawsmall_spec (hs : DivS d a0 a1 n0 n1 p q) (hb : Small d) (m : Mem) : CallR C (fnv fn_law07_small) [.r (.agg (divC d a0 a1 n0 n1 p q))] m (.ret (bo (smallB d)) m) := by
  obtain ⟨H, hH⟩ : ∃ H, H = m.h ++ [.cells (rs (divC d a0 a1 n0 n1 p q)) ty_ref07_Division 0] := ⟨_, rfl⟩
  have hc : H[m.h.length]? = some (.cells (rs (divC d a0 a1 n0 n1 p q)) ty_ref07_Division 0) := by simp [hH]
  have ht : H.take m.h.length = m.h := by simp [hH]
  have hd11 : (divC d a0 a1 n0 n1 p q).length = 11 := rfl
  obtain ⟨c0, k0⟩ := Few_spec hs { h := H }
  obtain ⟨c1, k1⟩ := lawfault_spec hs hb { h := H }
  unfold smallB
  cases ef : fewB d with
  | false =>
    rw [ef] at k0
    exact CallR.eval (m1 := { h := H }) rfl rfl prog_law07_small rfl ⟨c0, fun k hk => by simp [a_law07_small, ← hH, hc, hd11, k0 k (by omega)]⟩ ht (by simp)
  | true =>
    rw [ef] at k0
    by_cases e : faultI d = 0
    · rw [e] at k1
      rw [if_pos ⟨rfl, e⟩]
      obtain ⟨e1, _⟩ := faultI0 e
      obtain ⟨c2, k2⟩ := refDoubts_spec hs hb (right_n e1) { h := H }
      have hl := (Sl.slI (doubtsL d)).len
      by_cases e3 : (doubtsL d).length ≤ 4
      · have e3' : (((doubtsL d).length : Int) ≤ 4) = True := eq_true (by omega)
        exact CallR.eval (m1 := { h := H }) rfl rfl prog_law07_small rfl ⟨c0 + c1 + c2, fun k hk => by simp [a_law07_small, ← hH, hc, hd11, k0 k (by omega), k1 k (by omega), k2 k (by omega), hl, e3', e3]⟩ ht (by simp)
      · have e3' : (((doubtsL d).length : Int) ≤ 4) = False := eq_false (by omega)
        by_cases e4 : 8 < (doubtsL d).length
        · have e4' : (8 < ((doubtsL d).length : Int)) = True := eq_true (by omega)
          exact CallR.eval (m1 := { h := H }) rfl rfl prog_law07_small rfl ⟨c0 + c1 + c2, fun k hk => by simp [a_law07_small, ← hH, hc, hd11, k0 k (by omega), k1 k (by omega), k2 k (by omega), hl, e3', e3, e4', e4]⟩ ht (by simp)
        · have e4' : (8 < ((doubtsL d).length : Int)) = False := eq_false (by omega)
          exact CallR.eval (m1 := { h := H }) rfl rfl prog_law07_small rfl ⟨c0 + c1 + c2, fun k hk => by simp [a_law07_small, ← hH, hc, hd11, k0 k (by omega), k1 k (by omega), k2 k (by omega), hl, e3', e3, e4', e4]⟩ ht (by simp)
    · rw [if_neg (fun h => e h.2)]
      have e' : (faultI d == 0) = false := by simpa using e
      exact CallR.eval (m1 := { h := H }) rfl rfl prog_law07_small rfl ⟨c0 + c1, fun k hk => by simp [a_law07_small, ← hH, hc, hd11, k0 k (by omega), k1 k (by omega), e', e]⟩ ht (by simp)
end
end Go.AM.T
/- What the functions compute (own work). -/
namespace Go.AM.T
open Go Go.AM
attribute [local simp] so_mov so_pick so_alloc so_box so_build so_slit so_load so_store so_nilc so_bin so_beq so_eqs so_eqn so_eqnl so_not so_conv so_s2b so_mkfn so_slcA so_padd so_fld so_idxA so_idxV so_idxT so_look so_mupd so_mkmap so_mksl so_ext so_app so_lenT so_lenM so_min so_max so_cpy so_clr so_mkif so_tass so_lenS so_idxS so_slc
attribute [local simp] dn_skip dn_label dn_ret dn_exit dn_scope dn_keep dn_reg dn_draw0 noSlots denE denEI stepE  sd_mov sd_pick sd_build sd_load sd_store sd_nilc sd_bin sd_beq sd_eqs sd_eqn sd_eqnl sd_not sd_conv sd_s2b sd_mkfn sd_slc sd_slcA sd_padd sd_fld sd_idxS sd_idxA sd_idxV sd_idxT sd_look sd_mupd sd_ext sd_app sd_lenS sd_lenT sd_lenM sd_min sd_max sd_mkif sd_tass sd_call sd_slit dn_seq dn_cond dn_block dn_loop kn_call denIs denI denOp wants ev eget putD binL enumFrom AV.bool? AV.int? ekeep evs evp runV fin runDefs resAll resOf tupOf unit AV.cells okV ok1 Value.oneCell' fill setN rcells rs_nil rs_cons load_own load_cons mkAgg_rs storeN jmpOut
attribute [local simp] dvL dv1t dvAt mkAgg2 dv0 dv1 dv2 dv3 dv4 dv5 dv6 dv7 dv8 dv9 dv10 dvA dvN dvAll C_fz fzr
theorem law07_ints_spec {l k : List Int} {v w : RV} (hl : Sl (ints .i64 l) l.length v) (hk : Sl (ints .i64 k) k.length w) (hb : l.length < 2 ^ 63) (m : Mem) : CallR C (fnv fn_law07_ints) [.r v, .r w] m (.ret (bo (decide (l = k))) m) := by
  by_cases e : l.length = k.length
  case neg =>
    have e1 : ((l.length : Int) == (k.length : Int)) = false := by simpa using fun h : (l.length : Int) = k.length => e (by omega)
    rw [decide_eq_false (fun h => e (by rw [h]))]
    have e2 : ((l.length : Int) = (k.length : Int)) = False := eq_false (by omega)
    exact CallR.eval0 rfl rfl prog_law07_ints rfl ⟨0, fun n hn => by simp [a_law07_ints, hl.len, hk.len, e1, e2]⟩
  have key := Loop.run (C := C) (c := l_law07_ints_0) (live := [0, 1, 5]) (fun r s => ∃ i : Nat, i + r = l.length ∧ At1 [0, 1, 5] [(0, .r v), (1, .r w), (5, i64 i)] { h := m.h } s ∧ ∀ j (h : j < i) (h1 : j < l.length) (h2 : j < k.length), l[j] = k[j])
    (fun o s => s.m = { h := m.h } ∧ s.defs = [] ∧ ((o = .ret ∧ eget s.env 4 = bo false ∧ l ≠ k) ∨ (o = .exit 0 ∧ l = k))) (by
    rintro r s ⟨i, hik, ⟨he, hm, hd, hr⟩, hx⟩
    rw [he]
    cases r with
    | zero =>
      have hi : i = l.length := by omega
      subst hi
      exact ⟨.exit 0, _, .of fun K => by simp [l_law07_ints_0, hl.len]; rfl, .inr ⟨by simp, by simp [hm], by simp [hd], .inr ⟨rfl, List.ext_getElem e fun j h1 h2 => hx j h1 h1 h2⟩⟩⟩
    | succ r =>
      have hi : i < l.length := by omega
      have hi2 : i < k.length := by omega
      have e1 : ((i : Int) < (l.length : Int)) = True := eq_true (by omega)
      have w1 : IntKind.wrap .i64 ((i : Int) + 1) = i + 1 := by rw [w64] <;> omega
      by_cases hq : l[i] = k[i]
      · have hq' : (l[i] == k[i]) = true := by simpa using hq
        exact ⟨.norm, _, .of fun K => by simp [l_law07_ints_0, hl.len, e1, hl.at hi, hk.at hi2, load_ints hi, load_ints hi2, hq', hq, w1]; rfl, .inl ⟨rfl, r, by omega, i + 1, by omega, ⟨by simp, by simp [hm], by simp [hd], by simp [hr]⟩, fun j hj h1 h2 => by
          by_cases ej : j = i
          · subst ej; exact hq
          · exact hx j (by omega) h1 h2⟩⟩
      · have hq' : (l[i] == k[i]) = false := by simpa using hq
        exact ⟨.ret, _, .of fun K => by simp [l_law07_ints_0, hl.len, e1, hl.at hi, hk.at hi2, load_ints hi, load_ints hi2, hq', hq]; rfl, .inr ⟨by simp, by simp [hm], by simp [hd], .inl ⟨rfl, by simp, fun h => hq (by subst h; rfl)⟩⟩⟩)
  obtain ⟨o, s, h1, h2, h3, h4, h5⟩ := key l.length { env := [(5, i64 0), (0, .r v), (1, .r w), (10, bo false)], m := { h := m.h } } ⟨0, by simp, ⟨by simp, rfl, rfl, rfl⟩, fun j h => by omega⟩
  obtain ⟨c0, h1⟩ := h1.get
  rcases h5 with ⟨rfl, h5, h6⟩ | ⟨rfl, h6⟩
  · rw [decide_eq_false h6]
    exact CallR.eval0 rfl rfl prog_law07_ints rfl ⟨c0, fun n hn => by simp [a_law07_ints, hl.len, hk.len, e, h1 n hn, h4, h5, h3]⟩
  · rw [decide_eq_true h6]
    exact CallR.eval0 rfl rfl prog_law07_ints rfl ⟨c0, fun n hn => by simp [a_law07_ints, hl.len, hk.len, e, h1 n hn, h4, h3]⟩
theorem law07_votes_spec {l k : List Int} {v w : RV} (hl : Sl (ints .u8 l) l.length v) (hk : Sl (ints .u8 k) k.length w) (hb : l.length < 2 ^ 63) (m : Mem) : CallR C (fnv fn_law07_votes) [.r v, .r w] m (.ret (bo (decide (l = k))) m) := by
  by_cases e : l.length = k.length
  case neg =>
    have e1 : ((l.length : Int) == (k.length : Int)) = false := by simpa using fun h : (l.length : Int) = k.length => e (by omega)
    rw [decide_eq_false (fun h => e (by rw [h]))]
    have e2 : ((l.length : Int) = (k.length : Int)) = False := eq_false (by omega)
    exact CallR.eval0 rfl rfl prog_law07_votes rfl ⟨0, fun n hn => by simp [a_law07_votes, hl.len, hk.len, e1, e2]⟩
  have key := Loop.run (C := C) (c := l_law07_votes_0) (live := [0, 1, 5]) (fun r s => ∃ i : Nat, i + r = l.length ∧ At1 [0, 1, 5] [(0, .r v), (1, .r w), (5, i64 i)] { h := m.h } s ∧ ∀ j (h : j < i) (h1 : j < l.length) (h2 : j < k.length), l[j] = k[j])
    (fun o s => s.m = { h := m.h } ∧ s.defs = [] ∧ ((o = .ret ∧ eget s.env 4 = bo false ∧ l ≠ k) ∨ (o = .exit 0 ∧ l = k))) (by
    rintro r s ⟨i, hik, ⟨he, hm, hd, hr⟩, hx⟩
    rw [he]
    cases r with
    | zero =>
      have hi : i = l.length := by omega
      subst hi
      exact ⟨.exit 0, _, .of fun K => by simp [l_law07_votes_0, hl.len]; rfl, .inr ⟨by simp, by simp [hm], by simp [hd], .inr ⟨rfl, List.ext_getElem e fun j h1 h2 => hx j h1 h1 h2⟩⟩⟩
    | succ r =>
      have hi : i < l.length := by omega
      have hi2 : i < k.length := by omega
      have e1 : ((i : Int) < (l.length : Int)) = True := eq_true (by omega)
      have w1 : IntKind.wrap .i64 ((i : Int) + 1) = i + 1 := by rw [w64] <;> omega
      by_cases hq : l[i] = k[i]
      · have hq' : (l[i] == k[i]) = true := by simpa using hq
        exact ⟨.norm, _, .of fun K => by simp [l_law07_votes_0, hl.len, e1, hl.at hi, hk.at hi2, load_ints hi, load_ints hi2, hq', hq, w1]; rfl, .inl ⟨rfl, r, by omega, i + 1, by omega, ⟨by simp, by simp [hm], by simp [hd], by simp [hr]⟩, fun j hj h1 h2 => by
          by_cases ej : j = i
          · subst ej; exact hq
          · exact hx j (by omega) h1 h2⟩⟩
      · have hq' : (l[i] == k[i]) = false := by simpa using hq
        exact ⟨.ret, _, .of fun K => by simp [l_law07_votes_0, hl.len, e1, hl.at hi, hk.at hi2, load_ints hi, load_ints hi2, hq', hq]; rfl, .inr ⟨by simp, by simp [hm], by simp [hd], .inl ⟨rfl, by simp, fun h => hq (by subst h; rfl)⟩⟩⟩)
  obtain ⟨o, s, h1, h2, h3, h4, h5⟩ := key l.length { env := [(5, i64 0), (0, .r v), (1, .r w), (10, bo false)], m := { h := m.h } } ⟨0, by simp, ⟨by simp, rfl, rfl, rfl⟩, fun j h => by omega⟩
  obtain ⟨c0, h1⟩ := h1.get
  rcases h5 with ⟨rfl, h5, h6⟩ | ⟨rfl, h6⟩
  · rw [decide_eq_false h6]
    exact CallR.eval0 rfl rfl prog_law07_votes rfl ⟨c0, fun n hn => by simp [a_law07_votes, hl.len, hk.len, e, h1 n hn, h4, h5, h3]⟩
  · rw [decide_eq_true h6]
    exact CallR.eval0 rfl rfl prog_law07_votes rfl ⟨c0, fun n hn => by simp [a_law07_votes, hl.len, hk.len, e, h1 n hn, h4, h3]⟩
end Go.AM.T
/- What the functions compute (own work). -/
namespace Go.AM.T
open Go Go.AM
attribute [local simp] so_mov so_pick so_alloc so_box so_build so_slit so_load so_store so_nilc so_bin so_beq so_eqs so_eqn so_eqnl so_not so_conv so_s2b so_mkfn so_slcA so_padd so_fld so_idxA so_idxV so_idxT so_look so_mupd so_mkmap so_mksl so_ext so_app so_lenT so_lenM so_min so_max so_cpy so_clr so_mkif so_tass so_lenS so_idxS so_slc
attribute [local simp] dn_skip dn_label dn_ret dn_exit dn_scope dn_keep dn_reg dn_draw0 noSlots denE denEI stepE  sd_mov sd_pick sd_build sd_load sd_store sd_nilc sd_bin sd_beq sd_eqs sd_eqn sd_eqnl sd_not sd_conv sd_s2b sd_mkfn sd_slc sd_slcA sd_padd sd_fld sd_idxS sd_idxA sd_idxV sd_idxT sd_look sd_mupd sd_ext sd_app sd_lenS sd_lenT sd_lenM sd_min sd_max sd_mkif sd_tass sd_call sd_slit dn_seq dn_cond dn_block dn_loop kn_call denIs denI denOp wants ev eget putD binL enumFrom AV.bool? AV.int? ekeep evs evp runV fin runDefs resAll resOf tupOf unit AV.cells okV ok1 Value.oneCell' fill setN rcells rs_nil rs_cons load_own load_cons mkAgg_rs storeN jmpOut
attribute [local simp] dvL dv1t dvAt mkAgg2 dv0 dv1 dv2 dv3 dv4 dv5 dv6 dv7 dv8 dv9 dv10 dvA dvN dvAll C_fz fzr
section
variable {d : Div} {a0 a1 n0 n1 p q : RV}
theorem refOutcome_spec (hr : rightB d = true) (h0 : 0 ≤ d.rule) (n : Int × Int) (h1 : 0 ≤ n.1 ∧ n.1 ≤ 1000) (h2 : 0 ≤ n.2 ∧ n.2 ≤ 1000) (m : Mem) :
    CallR C (fnv fn_ref07_Outcome) [.r (.agg (divC d a0 a1 n0 n1 p q)), .r (nmR n)] m (.ret (u8 (outcomeI d n)) m) := by
  obtain ⟨-, -, hne, hqu, -, hru⟩ := right_len hr
  obtain ⟨H, hH⟩ : ∃ H, H = m.h ++ [.cells (rs (divC d a0 a1 n0 n1 p q)) ty_ref07_Division 0, .cells [i64 n.1, i64 n.2] ty_ref07_Numbers 0] := ⟨_, rfl⟩
  have hc : H[m.h.length]? = some (.cells (rs (divC d a0 a1 n0 n1 p q)) ty_ref07_Division 0) := by simp [hH]
  have hc1 : H[m.h.length + 1]? = some (.cells [i64 n.1, i64 n.2] ty_ref07_Numbers 0) := by simp [hH]
  have ht : H.take m.h.length = m.h := by simp [hH]
  have hd11 : (divC d a0 a1 n0 n1 p q).length = 11 := rfl
  have w1 : IntKind.wrap .i64 (3 * n.1) = 3 * n.1 := by rw [w64] <;> omega
  have w2 : IntKind.wrap .i64 (n.1 + n.2) = n.1 + n.2 := by rw [w64] <;> omega
  have w3 : IntKind.wrap .i64 (2 * (n.1 + n.2)) = 2 * (n.1 + n.2) := by rw [w64] <;> omega
  have w4 : IntKind.wrap .i64 (n.1 + 1) = n.1 + 1 := by rw [w64] <;> omega
  have fin : ∀ v : Int, outcomeI d n = v → (∀ k, runV (Kn C k) C.fz a_ref07_Outcome [.r (.agg (divC d a0 a1 n0 n1 p q)), .r (nmR n)] m.h = some (u8 v, { h := H })) → CallR C (fnv fn_ref07_Outcome) [.r (.agg (divC d a0 a1 n0 n1 p q)), .r (nmR n)] m (.ret (u8 (outcomeI d n)) m) := fun v hv h => by
    rw [hv]
    exact CallR.eval (m1 := { h := H }) rfl rfl prog_ref07_Outcome rfl ⟨0, fun k hk => by simpa using h k⟩ ht (by simp)
  by_cases e1 : n.1 + n.2 < d.quorum
  · exact fin 2 (by simp [outcomeI, e1]) fun k => by simp [a_ref07_Outcome, nmR, ← hH, hc, hc1, hd11, w2, e1]
  · have e1' : (n.1 + n.2 < d.quorum) = False := eq_false e1
    have ho : ∀ b, carriedB d n = b → outcomeI d n = if b then 1 else 0 := fun b h => by unfold outcomeI; rw [if_neg e1, h]
    rcases (by omega : d.rule = 0 ∨ d.rule = 1 ∨ d.rule = 2) with e | e | e
    · have hcar : carriedB d n = (decide (n.2 < n.1) || (n.1 == n.2 && d.tie == 1)) := by simp [carriedB, e]
      by_cases x0 : 2 * (n.1 + n.2) ≤ 3 * n.1 <;> by_cases x1 : n.2 < n.1 <;> cases x2 : (n.1 == n.2) <;> cases x3 : (d.tie == 1)
      all_goals exact fin (if carriedB d n then 1 else 0) (ho _ rfl) fun k => by rw [hcar]; simp [a_ref07_Outcome, nmR, ← hH, hc, hc1, hd11, w1, w2, w3, e1', e, x0, x1, x2, x3]
    · have hcar : carriedB d n = (decide (d.need ≤ n.1) || (n.1 == d.need - 1 && d.tie == 1)) := by simp [carriedB, e]
      have hxe : (n.1 + 1 == d.need) = (n.1 == d.need - 1) := by
        rw [Bool.eq_iff_iff]; simp; omega
      by_cases x0 : 2 * (n.1 + n.2) ≤ 3 * n.1 <;> by_cases x1 : d.need ≤ n.1 <;> cases x2 : (n.1 == d.need - 1) <;> cases x3 : (d.tie == 1)
      all_goals exact fin (if carriedB d n then 1 else 0) (ho _ rfl) fun k => by rw [hcar]; rw [x2] at hxe; simp [a_ref07_Outcome, nmR, ← hH, hc, hc1, hd11, w1, w2, w3, w4, e1', e, x0, x1, x2, x3, hxe]
    · have hcar : carriedB d n = (decide (2 * (n.1 + n.2) ≤ 3 * n.1) && decide (1 ≤ n.1)) := by simp [carriedB, e]
      by_cases x0 : 2 * (n.1 + n.2) ≤ 3 * n.1 <;> by_cases x1 : 1 ≤ n.1
      all_goals exact fin (if carriedB d n then 1 else 0) (ho _ rfl) fun k => by rw [hcar]; simp [a_ref07_Outcome, nmR, ← hH, hc, hc1, hd11, w1, w2, w3, e1', e, x0, x1]
end
end Go.AM.T
/- What the functions compute (own work). -/
namespace Go.AM.T
open Go Go.AM
attribute [local simp] so_mov so_pick so_alloc so_box so_build so_slit so_load so_store so_nilc so_bin so_beq so_eqs so_eqn so_eqnl so_not so_conv so_s2b so_mkfn so_slcA so_padd so_fld so_idxA so_idxV so_idxT so_look so_mupd so_mkmap so_mksl so_ext so_app so_lenT so_lenM so_min so_max so_cpy so_clr so_mkif so_tass so_lenS so_idxS so_slc
attribute [local simp] dn_skip dn_label dn_ret dn_exit dn_scope dn_keep dn_reg dn_draw0 noSlots denE denEI stepE  sd_mov sd_pick sd_build sd_load sd_store sd_nilc sd_bin sd_beq sd_eqs sd_eqn sd_eqnl sd_not sd_conv sd_s2b sd_mkfn sd_slc sd_slcA sd_padd sd_fld sd_idxS sd_idxA sd_idxV sd_idxT sd_look sd_mupd sd_ext sd_app sd_lenS sd_lenT sd_lenM sd_min sd_max sd_mkif sd_tass sd_call sd_slit dn_seq dn_cond dn_block dn_loop kn_call denIs denI denOp wants ev eget putD binL enumFrom AV.bool? AV.int? ekeep evs evp runV fin runDefs resAll resOf tupOf unit AV.cells okV ok1 Value.oneCell' fill setN rcells rs_nil rs_cons load_own load_cons mkAgg_rs storeN jmpOut
attribute [local simp] dvL dv1t dvAt mkAgg2 dv0 dv1 dv2 dv3 dv4 dv5 dv6 dv7 dv8 dv9 dv10 dvA dvN dvAll C_fz fzr
section
variable {d : Div} {a0 a1 n0 n1 p q : RV}
theorem load_prs0 {m : Mem} {l : List (Int × Int)} {i : Nat} (hi : i < l.length) : loadV m (.r (.ptr ((prs l).drop (i * 2)))) 1 false = some (i64 l[i].1) := by
  rw [prs_drop hi]; exact load_cons m _ _
theorem refPaired_spec (hs : DivS d a0 a1 n0 n1 p q) (hb : Small d) (x : Nat) (m : Mem) : CallR C (fnv fn_ref07_Paired) [.r (.agg (divC d a0 a1 n0 n1 p q)), i64 x] m (.ret (bo (paired d.pairs x)) m) := by
  obtain ⟨H, hH⟩ : ∃ H, H = m.h ++ [.cells (rs (divC d a0 a1 n0 n1 p q)) ty_ref07_Division 0] := ⟨_, rfl⟩
  have hc : H[m.h.length]? = some (.cells (rs (divC d a0 a1 n0 n1 p q)) ty_ref07_Division 0) := by simp [hH]
  have ht : H.take m.h.length = m.h := by simp [hH]
  have hd11 : (divC d a0 a1 n0 n1 p q).length = 11 := rfl
  have key := Loop.run (C := C) (c := l_ref07_Paired_0) (live := [1, 2, 5]) (fun k s => ∃ i : Nat, i + k = d.pairs.length ∧ At1 [1, 2, 5] [(1, i64 x), (2, .own m.h.length 0 0), (5, i64 i)] { h := H } s ∧ paired (d.pairs.take i) x = false)
    (fun o s => s.m = { h := H } ∧ s.defs = [] ∧ ((o = .ret ∧ eget s.env 4 = bo true ∧ paired d.pairs x = true) ∨ (o = .exit 0 ∧ paired d.pairs x = false))) (by
    rintro k s ⟨i, hik, ⟨he, hm, hd, hr⟩, hx⟩
    rw [he]
    cases k with
    | zero =>
      have hi : i = d.pairs.length := by omega
      subst hi
      rw [List.take_length] at hx
      exact ⟨.exit 0, _, .of fun K => by simp [l_ref07_Paired_0, hm, hc, hd11, hs.p.len]; rfl, .inr ⟨by simp, by simp, by simp [hd], .inr ⟨rfl, hx⟩⟩⟩
    | succ k =>
      have hi : i < d.pairs.length := by omega
      have w1 : IntKind.wrap .i64 ((i : Int) + 1) = i + 1 := by have := hb.p; rw [w64] <;> omega
      have hnext : paired (d.pairs.take (i + 1)) x = (paired (d.pairs.take i) x || (d.pairs[i].1 == (x : Int) || d.pairs[i].2 == (x : Int))) := by
        rw [List.take_succ_eq_append_getElem hi, paired_snoc]
      have hin : (d.pairs[i].1 == (x : Int) || d.pairs[i].2 == (x : Int)) = true → paired d.pairs x = true := fun h => by
        unfold paired
        rw [List.any_eq_true]
        exact ⟨d.pairs[i], List.getElem_mem hi, h⟩
      cases x1 : (d.pairs[i].1 == (x : Int)) with
      | true =>
        exact ⟨.ret, _, .of fun K => by simp [l_ref07_Paired_0, hm, hc, hd11, hs.p.len, hi, hs.p.at hi, prs_drop hi, x1]; rfl, .inr ⟨by simp, by simp, by simp [hd], .inl ⟨rfl, by simp, hin (by rw [x1]; rfl)⟩⟩⟩
      | false =>
        cases x2 : (d.pairs[i].2 == (x : Int)) with
        | true =>
          exact ⟨.ret, _, .of fun K => by simp [l_ref07_Paired_0, hm, hc, hd11, hs.p.len, hi, hs.p.at hi, prs_drop hi, x1, x2]; rfl, .inr ⟨by simp, by simp, by simp [hd], .inl ⟨rfl, by simp, hin (by rw [x2]; simp)⟩⟩⟩
        | false =>
          exact ⟨.norm, _, .of fun K => by simp [l_ref07_Paired_0, hm, hc, hd11, hs.p.len, hi, hs.p.at hi, prs_drop hi, x1, x2, w1]; rfl, .inl ⟨rfl, k, by omega, i + 1, by omega, ⟨by simp, by simp, by simp [hd], by simp [hr]⟩, by rw [hnext, hx, x1, x2]; rfl⟩⟩)
  obtain ⟨o, s, h1, h2, h3, h4, h5⟩ := key d.pairs.length { env := [(5, i64 0), (1, i64 x), (2, .own m.h.length 0 0)], m := { h := H } } ⟨0, by simp, ⟨by simp, rfl, rfl, rfl⟩, rfl⟩
  obtain ⟨c0, h1⟩ := h1.get
  rcases h5 with ⟨rfl, h5, h6⟩ | ⟨rfl, h6⟩ <;> rw [h6]
  · exact CallR.eval (m1 := { h := H }) rfl rfl prog_ref07_Paired rfl ⟨c0, fun k hk => by simp [a_ref07_Paired, ← hH, h1 k hk, h4, h5, h3]⟩ ht (by simp)
  · exact CallR.eval (m1 := { h := H }) rfl rfl prog_ref07_Paired rfl ⟨c0, fun k hk => by simp [a_ref07_Paired, ← hH, h1 k hk, h4, h3]⟩ ht (by simp)
end
end Go.AM.T
/- What the functions compute (own work). -/
namespace Go.AM.T
open Go Go.AM
attribute [local simp] so_mov so_pick so_alloc so_box so_build so_slit so_load so_store so_nilc so_bin so_beq so_eqs so_eqn so_eqnl so_not so_conv so_s2b so_mkfn so_slcA so_padd so_fld so_idxA so_idxV so_idxT so_look so_mupd so_mkmap so_mksl so_ext so_app so_lenT so_lenM so_min so_max so_cpy so_clr so_mkif so_tass so_lenS so_idxS so_slc
attribute [local simp] dn_skip dn_label dn_ret dn_exit dn_scope dn_keep dn_reg dn_draw0 noSlots denE denEI stepE  sd_mov sd_pick sd_build sd_load sd_store sd_nilc sd_bin sd_beq sd_eqs sd_eqn sd_eqnl sd_not sd_conv sd_s2b sd_mkfn sd_slc sd_slcA sd_padd sd_fld sd_idxS sd_idxA sd_idxV sd_idxT sd_look sd_mupd sd_ext sd_app sd_lenS sd_lenT sd_lenM sd_min sd_max sd_mkif sd_tass sd_call sd_slit dn_seq dn_cond dn_block dn_loop kn_call denIs denI denOp wants ev eget putD binL enumFrom AV.bool? AV.int? ekeep evs evp runV fin runDefs resAll resOf tupOf unit AV.cells okV ok1 Value.oneCell' fill setN rcells rs_nil rs_cons load_own load_cons mkAgg_rs storeN jmpOut
attribute [local simp] dvL dv1t dvAt mkAgg2 dv0 dv1 dv2 dv3 dv4 dv5 dv6 dv7 dv8 dv9 dv10 dvA dvN dvAll C_fz fzr
/-- What a heap holds while the reference counts. -/
structure HO (m : Mem) (c : List RV) (k : Int) (n : Int × Int) (H : List Blk) (W : List Nat) : Prop where
  d : H[m.h.length]? = some (.cells (rs c) ty_ref07_Division 0)
  r : H[m.h.length + 1]? = some (.cells [i64 0, i64 0] ty_ref07_Numbers 0)
  n : H[m.h.length + 2]? = some (.cells [i64 k, i64 n.1, i64 n.2] ty_3_int 0)
  tk : H.take m.h.length = m.h
  wr : ∀ x ∈ W, m.h.length ≤ x
theorem HO.set {m : Mem} {c : List RV} {k k' : Int} {n n' : Int × Int} {H : List Blk} {W W' : List Nat} (h : HO m c k n H W) (hW : ∀ x ∈ W', m.h.length ≤ x) : HO m c k' n' (H.set (m.h.length + 2) (.cells [i64 k', i64 n'.1, i64 n'.2] ty_3_int 0)) W' := by
  have hl := getElem?_lt h.n
  refine ⟨?_, ?_, ?_, ?_, hW⟩
  · rw [List.getElem?_set_ne (by omega)]; exact h.d
  · rw [List.getElem?_set_ne (by omega)]; exact h.r
  · exact List.getElem?_set_self (by omega)
  · rw [List.take_set_of_le (by omega)]; exact h.tk
theorem HO.push {m : Mem} {c : List RV} {k : Int} {n : Int × Int} {H : List Blk} {W : List Nat} (h : HO m c k n H W) (b : Blk) : HO m c k n (H ++ [b]) W := by
  have hl := getElem?_lt h.n
  refine ⟨?_, ?_, ?_, ?_, h.wr⟩
  · rw [List.getElem?_append_left (by omega)]; exact h.d
  · rw [List.getElem?_append_left (by omega)]; exact h.r
  · rw [List.getElem?_append_left (by omega)]; exact h.n
  · rw [List.take_append_of_le_length (by omega)]; exact h.tk
section
variable {d : Div} {a0 a1 n0 n1 p q : RV}
theorem refOf_members (hs : DivS d a0 a1 n0 n1 p q) (hb : Small d) (hn : 1 ≤ d.n ∧ d.n ≤ 40) {u : List Int} {v : RV} (hv : Sl (ints .u8 u) u.length v) (hu : u.length = d.n.toNat) (hu2 : ∀ x ∈ u, x = 0 ∨ x = 1 ∨ x = 2) (m : Mem) {H : List Blk} {W : List Nat} (hF : HO m (divC d a0 a1 n0 n1 p q) 0 (0, 0) H W) :
    ∀ s : St, ekeep [1, 2, 4, 5, 6] s.env = [(1, .r v), (2, .own m.h.length 0 0), (4, .own (m.h.length + 1) 0 0), (5, .own (m.h.length + 2) 0 0), (6, i64 0)] → s.m = { h := H, wr := W } → s.defs = [] →
    ∃ s' H' W' c, Loop C [1, 2, 4, 5, 6] l_ref07_Of_1 s (.exit 0) s' ∧ s'.m = { h := H', wr := W' } ∧ HO m (divC d a0 a1 n0 n1 p q) c (numsM d u d.n.toNat) H' W' ∧ (0 ≤ c ∧ c ≤ 40) ∧ s'.defs = [] ∧
      eget s'.env 1 = .r v ∧ eget s'.env 2 = .own m.h.length 0 0 ∧ eget s'.env 4 = .own (m.h.length + 1) 0 0 ∧ eget s'.env 5 = .own (m.h.length + 2) 0 0 := by
  intro s he hm hd
  have hd11 : (divC d a0 a1 n0 n1 p q).length = 11 := rfl
  have key := Loop.run (C := C) (c := l_ref07_Of_1) (live := [1, 2, 4, 5, 6]) (fun k s => ∃ (j : Nat) (H : List Blk) (W : List Nat) (c : Int), (j : Int) + k = d.n ∧
      ekeep [1, 2, 4, 5, 6] s.env = [(1, .r v), (2, .own m.h.length 0 0), (4, .own (m.h.length + 1) 0 0), (5, .own (m.h.length + 2) 0 0), (6, i64 j)] ∧ s.m = { h := H, wr := W } ∧
      HO m (divC d a0 a1 n0 n1 p q) c (numsM d u j) H W ∧ (0 ≤ c ∧ c ≤ j) ∧ s.defs = [])
    (fun o s' => ∃ H' W' c, o = .exit 0 ∧ s'.m = { h := H', wr := W' } ∧ HO m (divC d a0 a1 n0 n1 p q) c (numsM d u d.n.toNat) H' W' ∧ (0 ≤ c ∧ c ≤ 40) ∧ s'.defs = [] ∧
      eget s'.env 1 = .r v ∧ eget s'.env 2 = .own m.h.length 0 0 ∧ eget s'.env 4 = .own (m.h.length + 1) 0 0 ∧ eget s'.env 5 = .own (m.h.length + 2) 0 0) (by
    rintro k s ⟨j, H, W, c, hjk, he, hm, hF, hcj, hd⟩
    rw [he]
    have hD := hF.d
    cases k with
    | zero =>
      have hj : d.n.toNat = j := by omega
      have e1 : ((j : Int) < d.n) = False := eq_false (by omega)
      exact ⟨.exit 0, _, .of fun K => by simp [l_ref07_Of_1, hm, hD, hd11, e1]; rfl, .inr ⟨by simp, H, W, c, rfl, by simp [hm], by rw [hj]; exact hF, by omega, by simp [hd], by simp, by simp, by simp, by simp⟩⟩
    | succ k =>
      have e1 : ((j : Int) < d.n) = True := eq_true (by omega)
      have hj : j < u.length := by omega
      have w1 : IntKind.wrap .i64 ((j : Int) + 1) = j + 1 := by rw [w64] <;> omega
      obtain ⟨c1, k1⟩ := refPaired_spec hs hb j { h := H, wr := W }
      have hstep : numsM d u (j + 1) = memStep d u (numsM d u j) j := by unfold numsM; rw [List.range_succ, List.foldl_append]; rfl
      have hN := hF.n
      have hle := numsM_le d u j
      cases e3 : paired d.pairs j with
      | true =>
        rw [e3] at k1
        refine ⟨.norm, _, .ofN ⟨c1, fun n hn' => by simp [l_ref07_Of_1, e1, hm, hD, hd11, k1 n hn', w1]; rfl⟩, .inl ⟨rfl, k, by omega, j + 1, H, W, c, by omega, by simp, by simp, ?_, by omega, by simp [hd]⟩⟩
        rw [hstep]; unfold memStep; rw [if_pos e3]; exact hF
      | false =>
        rw [e3] at k1
        have htg : tg u j = u[j] := by unfold tg; rw [getD_get hj]
        have wc : IntKind.wrap .i64 (c + 1) = c + 1 := by rw [w64] <;> omega
        have wa : IntKind.wrap .i64 ((numsM d u j).1 + 1) = (numsM d u j).1 + 1 := by rw [w64] <;> omega
        have wb : IntKind.wrap .i64 ((numsM d u j).2 + 1) = (numsM d u j).2 + 1 := by rw [w64] <;> omega
        have hst : numsM d u (j + 1) = cnt (numsM d u j) u[j] := by rw [hstep]; unfold memStep; rw [if_neg (by simp [e3]), htg]
        obtain ⟨N, hNN⟩ : ∃ N, N = numsM d u j := ⟨_, rfl⟩
        rw [← hNN] at hN wa wb hst hle
        rcases hu2 u[j] (List.getElem_mem hj) with ev | ev | ev
        · refine ⟨.norm, _, .ofN ⟨c1, fun n hn' => by simp [l_ref07_Of_1, e1, hm, hD, hd11, k1 n hn', hv.at hj, load_ints hj, ev, hN, wc, w1]; rfl⟩, .inl ⟨rfl, k, by omega, j + 1, _, _, c + 1, by omega, by simp, rfl, ?_, by omega, by simp [hd]⟩⟩
          rw [hst, ev]
          exact hF.set (k' := c + 1) (n' := cnt N 0) fun x hx => by
            rcases List.mem_cons.1 hx with rfl | hx
            · omega
            · exact hF.wr x hx
        · refine ⟨.norm, _, .ofN ⟨c1, fun n hn' => by simp [l_ref07_Of_1, e1, hm, hD, hd11, k1 n hn', hv.at hj, load_ints hj, ev, hN, wa, w1]; rfl⟩, .inl ⟨rfl, k, by omega, j + 1, _, _, c, by omega, by simp, rfl, ?_, by omega, by simp [hd]⟩⟩
          rw [hst, ev]
          exact hF.set (k' := c) (n' := cnt N 1) fun x hx => by
            rcases List.mem_cons.1 hx with rfl | hx
            · omega
            · exact hF.wr x hx
        · refine ⟨.norm, _, .ofN ⟨c1, fun n hn' => by simp [l_ref07_Of_1, e1, hm, hD, hd11, k1 n hn', hv.at hj, load_ints hj, ev, hN, wb, w1]; rfl⟩, .inl ⟨rfl, k, by omega, j + 1, _, _, c, by omega, by simp, rfl, ?_, by omega, by simp [hd]⟩⟩
          rw [hst, ev]
          exact hF.set (k' := c) (n' := cnt N 2) fun x hx => by
            rcases List.mem_cons.1 hx with rfl | hx
            · omega
            · exact hF.wr x hx)
  obtain ⟨o, s', h1, h2, H', W', c, rfl, h3, h4, h5, h6, h7, h8, h9, h10⟩ := key d.n.toNat s ⟨0, H, W, 0, by omega, he, hm, hF, by omega, hd⟩
  exact ⟨s', H', W', c, h1, h3, h4, h5, h6, h7, h8, h9, h10⟩
end
end Go.AM.T
/- What the functions compute (own work). -/
namespace Go.AM.T
open Go Go.AM
attribute [local simp] so_mov so_pick so_alloc so_box so_build so_slit so_load so_store so_nilc so_bin so_beq so_eqs so_eqn so_eqnl so_not so_conv so_s2b so_mkfn so_slcA so_padd so_fld so_idxA so_idxV so_idxT so_look so_mupd so_mkmap so_mksl so_ext so_app so_lenT so_lenM so_min so_max so_cpy so_clr so_mkif so_tass so_lenS so_idxS so_slc
attribute [local simp] dn_skip dn_label dn_ret dn_exit dn_scope dn_keep dn_reg dn_draw0 noSlots denE denEI stepE  sd_mov sd_pick sd_build sd_load sd_store sd_nilc sd_bin sd_beq sd_eqs sd_eqn sd_eqnl sd_not sd_conv sd_s2b sd_mkfn sd_slc sd_slcA sd_padd sd_fld sd_idxS sd_idxA sd_idxV sd_idxT sd_look sd_mupd sd_ext sd_app sd_lenS sd_lenT sd_lenM sd_min sd_max sd_mkif sd_tass sd_call sd_slit dn_seq dn_cond dn_block dn_loop kn_call denIs denI denOp wants ev eget putD binL enumFrom AV.bool? AV.int? ekeep evs evp runV fin runDefs resAll resOf tupOf unit AV.cells okV ok1 Value.oneCell' fill setN rcells rs_nil rs_cons load_own load_cons mkAgg_rs storeN jmpOut
attribute [local simp] dvL dv1t dvAt mkAgg2 dv0 dv1 dv2 dv3 dv4 dv5 dv6 dv7 dv8 dv9 dv10 dvA dvN dvAll C_fz fzr
section
variable {d : Div} {a0 a1 n0 n1 p q : RV}
theorem refOf_proxies (hs : DivS d a0 a1 n0 n1 p q) (hb : Small d) (hr : rightB d = true) {u : List Int} {v : RV} (hv : Sl (ints .u8 u) u.length v) (hu : u.length = d.n.toNat) (hu2 : ∀ x ∈ u, x = 0 ∨ x = 1 ∨ x = 2) (m : Mem) {H : List Blk} {W : List Nat} {c : Int} {n : Int × Int} (hcc : 0 ≤ c ∧ c ≤ 40)
    (h1 : 0 ≤ n.1 ∧ n.1 ≤ 40) (h2 : 0 ≤ n.2 ∧ n.2 ≤ 40) (hF : HO m (divC d a0 a1 n0 n1 p q) c n H W) :
    ∀ s : St, ekeep [1, 2, 4, 5, 7] s.env = [(1, .r v), (2, .own m.h.length 0 0), (4, .own (m.h.length + 1) 0 0), (5, .own (m.h.length + 2) 0 0), (7, i64 0)] → s.m = { h := H, wr := W } → s.defs = [] →
    ∃ s' H' W' c', Loop C [1, 2, 4, 5, 7] l_ref07_Of_0 s (.exit 2) s' ∧ s'.m = { h := H', wr := W' } ∧ HO m (divC d a0 a1 n0 n1 p q) c' (d.proxies.foldl (proxStep d u) n) H' W' ∧ s'.defs = [] ∧ eget s'.env 4 = .own (m.h.length + 1) 0 0 ∧ eget s'.env 5 = .own (m.h.length + 2) 0 0 := by
  intro s he hm hd
  have hd11 : (divC d a0 a1 n0 n1 p q).length = 11 := rfl
  have hlen := (right_len hr).2.1
  have key := Loop.run (C := C) (c := l_ref07_Of_0) (live := [1, 2, 4, 5, 7]) (fun k s => ∃ (j : Nat) (H : List Blk) (W : List Nat) (c : Int), j + k = d.proxies.length ∧
      ekeep [1, 2, 4, 5, 7] s.env = [(1, .r v), (2, .own m.h.length 0 0), (4, .own (m.h.length + 1) 0 0), (5, .own (m.h.length + 2) 0 0), (7, i64 j)] ∧ s.m = { h := H, wr := W } ∧
      HO m (divC d a0 a1 n0 n1 p q) c ((d.proxies.take j).foldl (proxStep d u) n) H W ∧ (0 ≤ c ∧ c ≤ 40 + j) ∧ s.defs = [])
    (fun o s' => ∃ H' W' c', o = .exit 2 ∧ s'.m = { h := H', wr := W' } ∧ HO m (divC d a0 a1 n0 n1 p q) c' (d.proxies.foldl (proxStep d u) n) H' W' ∧ s'.defs = [] ∧ eget s'.env 4 = .own (m.h.length + 1) 0 0 ∧ eget s'.env 5 = .own (m.h.length + 2) 0 0) (by
    rintro k s ⟨j, H, W, c, hjk, he, hm, hF, hcj, hd⟩
    rw [he]
    have hD := hF.d
    cases k with
    | zero =>
      have hj : j = d.proxies.length := by omega
      subst hj
      rw [List.take_length] at hF
      exact ⟨.exit 2, _, .of fun K => by simp [l_ref07_Of_0, hm, hD, hd11, hs.q.len]; rfl, .inr ⟨by simp, H, W, c, rfl, by simp [hm], hF, by simp [hd], by simp, by simp⟩⟩
    | succ k =>
      have hj : j < d.proxies.length := by omega
      have w1 : IntKind.wrap .i64 ((j : Int) + 1) = j + 1 := by rw [w64] <;> omega
      obtain ⟨hpa, hpb⟩ := right_prox hr d.proxies[j] (List.getElem_mem hj)
      have hn := right_n hr
      obtain ⟨a, ha⟩ : ∃ a : Nat, d.proxies[j].1 = a := ⟨d.proxies[j].1.toNat, by omega⟩
      obtain ⟨b, hb'⟩ : ∃ b : Nat, d.proxies[j].2 = b := ⟨d.proxies[j].2.toNat, by omega⟩
      have la : a < u.length := by omega
      have lb : b < u.length := by omega
      have hlt := getElem?_lt hF.n
      have hP := hF.push (.cells [i64 a, i64 b] ty_ref07_Proxy 0)
      have hPD := hP.d
      have hPN := hP.n
      obtain ⟨c1, k1⟩ := refPaired_spec hs hb a { h := H ++ [.cells [i64 a, i64 b] ty_ref07_Proxy 0], wr := H.length :: W }
      obtain ⟨c2, k2⟩ := refPaired_spec hs hb b { h := H ++ [.cells [i64 a, i64 b] ty_ref07_Proxy 0], wr := H.length :: W }
      have ta : tg u a = u[a] := by unfold tg; rw [getD_get la]
      have tb : tg u b = u[b] := by unfold tg; rw [getD_get lb]
      have hle := prox_le d u (d.proxies.take j) n 40 h1 h2
      have hjl : (d.proxies.take j).length ≤ 10 := by simp; omega
      obtain ⟨nj, hnj⟩ : ∃ nj, nj = (d.proxies.take j).foldl (proxStep d u) n := ⟨_, rfl⟩
      rw [← hnj] at hle hPN
      have hstep : (d.proxies.take (j + 1)).foldl (proxStep d u) n = proxStep d u nj (a, b) := by
        rw [List.take_succ_eq_append_getElem hj, List.foldl_append, ← hnj]
        show proxStep d u nj d.proxies[j] = _
        rw [show d.proxies[j] = ((a : Int), (b : Int)) from Prod.ext ha hb']
      have hst : proxStep d u nj (a, b) = if u[b] = 0 ∧ paired d.pairs b = false ∧ paired d.pairs a = false then cnt nj u[a] else nj := by
        unfold proxStep; simp [ta, tb]
      have hwr : ∀ x ∈ H.length :: W, m.h.length ≤ x := fun x hx => by
        rcases List.mem_cons.1 hx with rfl | hx
        · omega
        · exact hF.wr x hx
      have same : proxStep d u nj (a, b) = nj → HO m (divC d a0 a1 n0 n1 p q) c ((d.proxies.take (j + 1)).foldl (proxStep d u) n) (H ++ [.cells [i64 a, i64 b] ty_ref07_Proxy 0]) (H.length :: W) := fun h => by
        rw [hstep, h, hnj]
        exact ⟨hP.d, hP.r, hP.n, hP.tk, hwr⟩
      by_cases e1 : u[b] = 0
      case neg =>
        have e1' : (u[b] == 0) = false := by simpa using e1
        exact ⟨.norm, _, .of fun K => by simp [l_ref07_Of_0, hm, hD, hd11, hs.q.len, hj, hs.q.at hj, load_prs hj, ha, hb', hv.at lb, load_ints lb, e1', w1]; rfl, .inl ⟨rfl, k, by omega, j + 1, _, _, c, by omega, by simp, rfl, same (by rw [hst, if_neg (fun h => e1 h.1)]), by omega, by simp [hd]⟩⟩
      case pos =>
        cases e2 : paired d.pairs b with
        | true =>
          rw [e2] at k2
          exact ⟨.norm, _, .ofN ⟨c2, fun n hn' => by simp [l_ref07_Of_0, hm, hD, hPD, hd11, hs.q.len, hj, hs.q.at hj, load_prs hj, ha, hb', hv.at lb, load_ints lb, e1, k2 n (by omega), w1]; rfl⟩, .inl ⟨rfl, k, by omega, j + 1, _, _, c, by omega, by simp, rfl, same (by rw [hst, if_neg (by simp [e2])]), by omega, by simp [hd]⟩⟩
        | false =>
          rw [e2] at k2
          cases e3 : paired d.pairs a with
          | true =>
            rw [e3] at k1
            exact ⟨.norm, _, .ofN ⟨c1 + c2, fun n hn' => by simp [l_ref07_Of_0, hm, hD, hPD, hd11, hs.q.len, hj, hs.q.at hj, load_prs hj, ha, hb', hv.at lb, load_ints lb, e1, k2 n (by omega), k1 n (by omega), w1]; rfl⟩, .inl ⟨rfl, k, by omega, j + 1, _, _, c, by omega, by simp, rfl, same (by rw [hst, if_neg (by simp [e3])]), by omega, by simp [hd]⟩⟩
          | false =>
            rw [e3] at k1
            have wc : IntKind.wrap .i64 (c + 1) = c + 1 := by rw [w64] <;> omega
            have wa : IntKind.wrap .i64 (nj.1 + 1) = nj.1 + 1 := by rw [w64] <;> omega
            have wb : IntKind.wrap .i64 (nj.2 + 1) = nj.2 + 1 := by rw [w64] <;> omega
            have hset : ∀ (c' : Int) (n' : Int × Int) (W' : List Nat), W' = (m.h.length + 2) :: H.length :: W → HO m (divC d a0 a1 n0 n1 p q) c' n' ((H ++ [Blk.cells [i64 a, i64 b] ty_ref07_Proxy 0]).set (m.h.length + 2) (.cells [i64 c', i64 n'.1, i64 n'.2] ty_3_int 0)) W' := fun c' n' W' h => hP.set fun x hx => by
              rw [h] at hx
              rcases List.mem_cons.1 hx with rfl | hx
              · omega
              · exact hwr x hx
            rcases hu2 u[a] (List.getElem_mem la) with ev | ev | ev
            · refine ⟨.norm, _, .ofN ⟨c1 + c2, fun n hn' => by simp [l_ref07_Of_0, hm, hD, hPD, hPN, hd11, hs.q.len, hj, hs.q.at hj, load_prs hj, ha, hb', hv.at lb, load_ints lb, hv.at la, load_ints la, ev, e1, k2 n (by omega), k1 n (by omega), wc, w1]; rfl⟩, .inl ⟨rfl, k, by omega, j + 1, _, _, c + 1, by omega, by simp, rfl, ?_, by omega, by simp [hd]⟩⟩
              rw [hstep, hst, if_pos ⟨e1, e2, e3⟩, ev]
              exact hset (c + 1) (cnt nj 0) _ rfl
            · refine ⟨.norm, _, .ofN ⟨c1 + c2, fun n hn' => by simp [l_ref07_Of_0, hm, hD, hPD, hPN, hd11, hs.q.len, hj, hs.q.at hj, load_prs hj, ha, hb', hv.at lb, load_ints lb, hv.at la, load_ints la, ev, e1, k2 n (by omega), k1 n (by omega), wa, w1]; rfl⟩, .inl ⟨rfl, k, by omega, j + 1, _, _, c, by omega, by simp, rfl, ?_, by omega, by simp [hd]⟩⟩
              rw [hstep, hst, if_pos ⟨e1, e2, e3⟩, ev]
              exact hset c (cnt nj 1) _ rfl
            · refine ⟨.norm, _, .ofN ⟨c1 + c2, fun n hn' => by simp [l_ref07_Of_0, hm, hD, hPD, hPN, hd11, hs.q.len, hj, hs.q.at hj, load_prs hj, ha, hb', hv.at lb, load_ints lb, hv.at la, load_ints la, ev, e1, k2 n (by omega), k1 n (by omega), wb, w1]; rfl⟩, .inl ⟨rfl, k, by omega, j + 1, _, _, c, by omega, by simp, rfl, ?_, by omega, by simp [hd]⟩⟩
              rw [hstep, hst, if_pos ⟨e1, e2, e3⟩, ev]
              exact hset c (cnt nj 2) _ rfl)
  obtain ⟨o, s', h1, h2, H', W', c', rfl, h3, h4, h5, h6, h7⟩ := key d.proxies.length s ⟨0, H, W, c, by omega, he, hm, hF, by omega, hd⟩
  exact ⟨s', H', W', c', h1, h3, h4, h5, h6, h7⟩
end
end Go.AM.T
/- What the functions compute (own work). -/
namespace Go.AM.T
open Go Go.AM
attribute [local simp] so_mov so_pick so_alloc so_box so_build so_slit so_load so_store so_nilc so_bin so_beq so_eqs so_eqn so_eqnl so_not so_conv so_s2b so_mkfn so_slcA so_padd so_fld so_idxA so_idxV so_idxT so_look so_mupd so_mkmap so_mksl so_ext so_app so_lenT so_lenM so_min so_max so_cpy so_clr so_mkif so_tass so_lenS so_idxS so_slc
attribute [local simp] dn_skip dn_label dn_ret dn_exit dn_scope dn_keep dn_reg dn_draw0 noSlots denE denEI stepE  sd_mov sd_pick sd_build sd_load sd_store sd_nilc sd_bin sd_beq sd_eqs sd_eqn sd_eqnl sd_not sd_conv sd_s2b sd_mkfn sd_slc sd_slcA sd_padd sd_fld sd_idxS sd_idxA sd_idxV sd_idxT sd_look sd_mupd sd_ext sd_app sd_lenS sd_lenT sd_lenM sd_min sd_max sd_mkif sd_tass sd_call sd_slit dn_seq dn_cond dn_block dn_loop kn_call denIs denI denOp wants ev eget putD binL enumFrom AV.bool? AV.int? ekeep evs evp runV fin runDefs resAll resOf tupOf unit AV.cells okV ok1 Value.oneCell' fill setN rcells rs_nil rs_cons load_own load_cons mkAgg_rs storeN jmpOut
attribute [local simp] dvL dv1t dvAt mkAgg2 dv0 dv1 dv2 dv3 dv4 dv5 dv6 dv7 dv8 dv9 dv10 dvA dvN dvAll C_fz fzr
section
variable {d : Div} {a0 a1 n0 n1 p q : RV}
theorem refOf_spec (hs : DivS d a0 a1 n0 n1 p q) (hb : Small d) (hr : rightB d = true) {u : List Int} {v : RV} (hv : Sl (ints .u8 u) u.length v) (hu : u.length = d.n.toNat) (hu2 : ∀ x ∈ u, x = 0 ∨ x = 1 ∨ x = 2) (m : Mem) :
    CallR C (fnv fn_ref07_Of) [.r (.agg (divC d a0 a1 n0 n1 p q)), .r v] m (.ret (.r (nmR (numsL d u))) m) := by
  have hd11 : (divC d a0 a1 n0 n1 p q).length = 11 := rfl
  have hn := right_n hr
  obtain ⟨H, hH⟩ : ∃ H, H = m.h ++ [.cells (rs (divC d a0 a1 n0 n1 p q)) ty_ref07_Division 0, .cells [i64 0, i64 0] ty_ref07_Numbers 0, .cells [i64 0, i64 0, i64 0] ty_3_int 0] := ⟨_, rfl⟩
  have hF : HO m (divC d a0 a1 n0 n1 p q) 0 (0, 0) H [] := ⟨by simp [hH], by simp [hH], by simp [hH], by simp [hH], by simp⟩
  obtain ⟨s1, H1, W1, c, l1, m1, hF1, hc, d1, e11, e12, e14, e15⟩ := refOf_members hs hb hn hv hu hu2 m hF { env := [(6, i64 0), (5, .own (m.h.length + 2) 0 0), (4, .own (m.h.length + 1) 0 0), (2, .own m.h.length 0 0), (0, .r (.agg (divC d a0 a1 n0 n1 p q))), (1, .r v)], m := { h := H } } (by simp) rfl rfl
  have hle := numsM_le d u d.n.toNat
  obtain ⟨s2, H2, W2, c', l2, m2, hF2, d2, e24, e25⟩ := refOf_proxies hs hb hr hv hu hu2 m hc (by omega) (by omega) hF1 { s1 with env := (7, i64 0) :: s1.env } (by simp [e11, e12, e14, e15]) m1 d1
  rw [m1] at l2
  obtain ⟨c1, k1⟩ := l1.get
  obtain ⟨c2, k2⟩ := l2.get
  have hN := hF2.n
  have hR := hF2.r
  rw [show d.proxies.foldl (proxStep d u) (numsM d u d.n.toNat) = numsL d u from rfl] at hN
  obtain ⟨N, hNN⟩ : ∃ N, N = numsL d u := ⟨_, rfl⟩
  rw [← hNN] at hN ⊢
  have hlt := getElem?_lt hN
  have hse : ∀ b : Blk, (H2.set (m.h.length + 1) b)[m.h.length + 1]? = some b := fun b => List.getElem?_set_self (by omega)
  refine CallR.eval (m1 := { h := H2.set (m.h.length + 1) (.cells [i64 N.1, i64 N.2] ty_ref07_Numbers 0), wr := (m.h.length + 1) :: W2 }) rfl rfl prog_ref07_Of rfl ⟨c1 + c2, fun k hk => ?_⟩ (by rw [List.take_set_of_le (by omega)]; exact hF2.tk) (by
    intro x hx
    rcases List.mem_cons.1 hx with rfl | hx
    · omega
    · exact hF2.wr x hx)
  simp [a_ref07_Of, ← hH, k1 k (by omega), m1, k2 k (by omega), e24, e25, m2, hN, hR, hse, d2, nmR, allR, AV.toR, mkAgg]
end
end Go.AM.T
/- What the functions compute (own work). -/
namespace Go.AM.T
open Go Go.AM
attribute [local simp] so_mov so_pick so_alloc so_box so_build so_slit so_load so_store so_nilc so_bin so_beq so_eqs so_eqn so_eqnl so_not so_conv so_s2b so_mkfn so_slcA so_padd so_fld so_idxA so_idxV so_idxT so_look so_mupd so_mkmap so_mksl so_ext so_app so_lenT so_lenM so_min so_max so_cpy so_clr so_mkif so_tass so_lenS so_idxS so_slc
attribute [local simp] dn_skip dn_label dn_ret dn_exit dn_scope dn_keep dn_reg dn_draw0 noSlots denE denEI stepE  sd_mov sd_pick sd_build sd_load sd_store sd_nilc sd_bin sd_beq sd_eqs sd_eqn sd_eqnl sd_not sd_conv sd_s2b sd_mkfn sd_slc sd_slcA sd_padd sd_fld sd_idxS sd_idxA sd_idxV sd_idxT sd_look sd_mupd sd_ext sd_app sd_lenS sd_lenT sd_lenM sd_min sd_max sd_mkif sd_tass sd_call sd_slit dn_seq dn_cond dn_block dn_loop kn_call denIs denI denOp wants ev eget putD binL enumFrom AV.bool? AV.int? ekeep evs evp runV fin runDefs resAll resOf tupOf unit AV.cells okV ok1 Value.oneCell' fill setN rcells rs_nil rs_cons load_own load_cons mkAgg_rs storeN jmpOut
attribute [local simp] dvL dv1t dvAt mkAgg2 dv0 dv1 dv2 dv3 dv4 dv5 dv6 dv7 dv8 dv9 dv10 dvA dvN dvAll C_fz fzr
theorem fz_tup {m : Mem} {n k : Nat} {vs xs : List AV} (h : fzs m n k vs = some xs) : fz m n (k + 1) (.tup vs) = some (.tup xs) := by rw [fz]; simp only [h]
theorem fzs_one {m : Mem} {n k : Nat} {v x : AV} {vs xs : List AV} (h1 : fz m n k v = some x) (h2 : fzs m n k vs = some xs) : fzs m n (k + 1) (v :: vs) = some (x :: xs) := by rw [fzs, h1, h2]
theorem wrAll_self (h : List Blk) : wrAll h.length { h := h } = [] := by simp [wrAll]
theorem apartL_nil (l : List Nat) : apartL [] l = true := rfl
/-- Growing a slice, with all that stays. -/
theorem GS.app2 {H : List Blk} {L : Nat} {T : TypeId} {sz n k : Nat} {cs new : List RV} {pv : AV} (h : GS H L T sz cs n pv) (W : List Nat) (bytes : Nat) (c : Option Nat) (hL : L ≤ H.length) (hk : 0 < k) (hn : new.length = k * sz) (hr : roomOk (n + k) bytes) :
    ∃ B g H' W', appendA { h := H, wr := W } T sz bytes pv (.r (.sl new k c)) = some (.osl B g 0 (n + k) sz none, { h := H', wr := W' }) ∧ L ≤ B ∧ GS H' L T sz (cs ++ new) (n + k) (.osl B g 0 (n + k) sz none) ∧
      (∀ j, j < H.length → j ∉ avIdx pv → H'[j]? = H[j]?) ∧ (B ∈ avIdx pv ∨ B = H.length) ∧ H.length ≤ H'.length ∧ H'.take L = H.take L ∧ ∀ x ∈ W', x ∈ W ∨ L ≤ x := by
  have hsl : ∀ m, slCells m (.r (.sl new k c)) sz = some (rs new, k) := fun m => by simp only [slCells]; rw [if_pos hn]
  cases h with
  | nil e1 e2 =>
    subst e1; subst e2
    refine ⟨H.length, 0, H ++ [.cells (rs new) T 0], W, ?_, hL, ?_, ?_, .inr rfl, by simp, List.take_append_of_le_length hL, fun x hx => .inl hx⟩
    · unfold appendA
      rw [hsl]
      simp only
      rw [if_neg (by omega), if_pos (by simpa using hr)]
      simp
    · exact GS.osl H.length 0 hL (by simp) (by omega) (by simpa using hn)
    · intro j hj _; rw [List.getElem?_append_left hj]
  | osl B g h1 h2 h3 h4 =>
    have hB := getElem?_lt h2
    refine ⟨B, g + 1, H.set B (.cells (rs (cs ++ new)) T (g + 1)), B :: W, ?_, h1, ?_, ?_, .inl (by simp [avIdx]), by simp, List.take_set_of_le h1, ?_⟩
    · unfold appendA
      rw [hsl]
      simp only [h2]
      rw [if_pos ⟨trivial, trivial, trivial, by rw [rs_len]; omega, hr⟩, if_neg (by omega), List.take_of_length_le (by rw [rs_len]; omega), rs_append]
    · exact GS.osl B (g + 1) h1 (List.getElem?_set_self hB) (by omega) (by rw [List.length_append, Nat.add_mul]; omega)
    · intro j hj hn
      simp [avIdx] at hn
      rw [List.getElem?_set_ne (by omega)]
    · intro x hx
      rcases List.mem_cons.1 hx with rfl | hx
      · exact .inr h1
      · exact .inl hx
/-- A loop over the truths: what its function holds (`P`), the slice that it grows (`cs`, `nn`), the places of its code. -/
structure Lp (σ : Type) where
  E : Env
  pt : Nat
  tt : Nat
  bd : AC
  k : Nat
  P : σ → AV → List Blk
  T : TypeId
  sz : Nat
  cs : σ → List RV
  nn : σ → Nat
  jb : Nat
  Tb : TypeId
  alive : σ → Bool
  rank : σ → Nat
  N : Nat
  step : σ → List Int → σ × Bool
def Lp.as {σ : Type} (l : Lp σ) : AC := .reg [⟨none, some l.tt, .alloc ty_tally_truth z_tally_truth⟩, ⟨none, none, .store 40 (.t l.tt) (.t l.pt)⟩]
def stOf (a : Bool) : LSt := if a then .ready else .done
def pdOf (a : Bool) : Option Jmp := if a then none else some .ret
def Lp.blk {σ : Type} (l : Lp σ) (st : LSt) (pd : Option Jmp) : Blk := .loop l.E [l.pt] l.as l.bd st pd
/-- What lies below. -/
def Lp.low {σ : Type} (l : Lp σ) (m : Mem) (s : σ) (v : AV) (st : LSt) (pd : Option Jmp) : List Blk := m.h ++ l.P s v ++ [.dfr, l.blk st pd]
/-- One round of the body. -/
def Lp.Body {σ : Type} (l : Lp σ) (m : Mem) : Prop :=
  ∀ (s : σ) (v : AV) (t : List Int) (Hb : List Blk) (W : List Nat) (X : Nat), l.alive s = true → l.rank s < l.N → TOk t → Hb.take (m.h.length + l.k + 2) = l.low m s v .busy none → GS Hb (m.h.length + l.k + 2) l.T l.sz (l.cs s) (l.nn s) v →
    m.h.length + l.k + 2 ≤ X → X ∉ avIdx v → Hb[X]? = some (.cells (rs (ints .u8 t)) ty_tally_truth 0) →
    ∃ s2 o v', Den C l.bd { env := (l.tt, .own X 0 0) :: (l.pt, .r (.agg (ints .u8 t))) :: l.E, m := { h := Hb, wr := W }, round := some (m.h.length + l.k + 1) } o s2 ∧
      ((o = .norm ∧ (l.step s t).2 = true) ∨ (o = .ret ∧ (l.step s t).2 = false)) ∧ s2.m.h.take (m.h.length + l.k + 2) = l.low m (l.step s t).1 v' .busy none ∧ GS s2.m.h (m.h.length + l.k + 2) l.T l.sz (l.cs (l.step s t).1) (l.nn (l.step s t).1) v' ∧
      (∀ j, m.h.length + l.k + 2 ≤ j → j < Hb.length → j ∉ avIdx v → s2.m.h[j]? = Hb[j]?) ∧ Hb.length ≤ s2.m.h.length ∧ (∀ x ∈ s2.m.wr, x ∈ W ∨ m.h.length ≤ x) ∧
      (∀ j ∈ avIdx v', j ∈ avIdx v ∨ Hb.length ≤ j) ∧ (v' = v ∨ (m.h.length + l.jb ∈ s2.m.wr ∧ (l.P (l.step s t).1 v')[l.jb]? = some (.cells [v'] l.Tb 0)))
structure Lp.Ok {σ : Type} (l : Lp σ) (m : Mem) : Prop where
  len : ∀ s v, (l.P s v).length = l.k
  al : ∀ s t, l.alive (l.step s t).1 = (l.step s t).2
  rk : ∀ s t, l.rank (l.step s t).1 ≤ l.rank s + 1
  jb : l.jb < l.k
  body : l.Body m
/-- What a heap holds between two rounds. -/
def Lp.J {σ : Type} (l : Lp σ) (m : Mem) (s : σ) (H : List Blk) (F : List Nat) : Prop :=
  ∃ v, H.take (m.h.length + l.k + 2) = l.low m s v (stOf (l.alive s)) (pdOf (l.alive s)) ∧ GS H (m.h.length + l.k + 2) l.T l.sz (l.cs s) (l.nn s) v ∧ F = avIdx v
theorem take_get {α : Type} {H X : List α} {n j : Nat} (h : H.take n = X) (hj : j < n) : H[j]? = X[j]? := by rw [← h, List.getElem?_take_of_lt hj]
theorem take_ext {α : Type} {H H' : List α} {n : Nat} (hl : n ≤ H.length) (hl' : n ≤ H'.length) (h : ∀ j, j < n → H'[j]? = H[j]?) : H'.take n = H.take n := by
  refine List.ext_getElem? fun j => ?_
  by_cases hj : j < n
  · rw [List.getElem?_take_of_lt hj, List.getElem?_take_of_lt hj, h j hj]
  · rw [List.getElem?_eq_none (by simp; omega), List.getElem?_eq_none (by simp; omega)]
theorem GS.idx {H : List Blk} {L : Nat} {T : TypeId} {sz n : Nat} {cs : List RV} {v : AV} (h : GS H L T sz cs n v) : ∀ j ∈ avIdx v, L ≤ j ∧ j < H.length := by
  intro j hj
  cases h with
  | nil => simp [avIdx] at hj
  | osl B g h1 h2 h3 h4 =>
    simp [avIdx] at hj
    subst hj
    exact ⟨h1, getElem?_lt h2⟩
theorem GS.same {H H' : List Blk} {L : Nat} {T : TypeId} {sz n : Nat} {cs : List RV} {v : AV} (h : GS H L T sz cs n v) (hk : ∀ j ∈ avIdx v, H'[j]? = H[j]?) : GS H' L T sz cs n v := by
  cases h with
  | nil e1 e2 => exact .nil e1 e2
  | osl B g h1 h2 h3 h4 => exact .osl B g h1 (by rw [hk B (by simp [avIdx])]; exact h2) h3 h4
section
variable {σ : Type} {l : Lp σ} {m : Mem}
theorem Lp.low_len (h : l.Ok m) (s : σ) (v : AV) (st : LSt) (pd : Option Jmp) : (l.low m s v st pd).length = m.h.length + l.k + 2 := by
  unfold Lp.low
  simp [h.len]; omega
theorem Lp.low_at (h : l.Ok m) (s : σ) (v : AV) (st : LSt) (pd : Option Jmp) : (l.low m s v st pd)[m.h.length + l.k + 1]? = some (l.blk st pd) := by
  unfold Lp.low
  rw [List.getElem?_append_right (by simp [h.len])]
  simp [h.len, Nat.add_sub_cancel_left, show m.h.length + l.k + 1 - (m.h.length + l.k) = 1 by omega]
theorem Lp.low_set (h : l.Ok m) (s : σ) (v : AV) (st st' : LSt) (pd pd' : Option Jmp) : (l.low m s v st pd).set (m.h.length + l.k + 1) (l.blk st' pd') = l.low m s v st' pd' := by
  unfold Lp.low
  rw [List.set_append_right _ _ (by simp [h.len])]
  simp [h.len, show m.h.length + l.k + 1 - (m.h.length + l.k) = 1 by omega]
theorem Lp.J.len (h : l.Ok m) {s : σ} {H : List Blk} {F : List Nat} (hJ : l.J m s H F) : m.h.length + l.k + 2 ≤ H.length := by
  obtain ⟨v, h1, _⟩ := hJ
  have := congrArg List.length h1
  rw [List.length_take, Lp.low_len h] at this
  omega
theorem Lp.yld (h : l.Ok m) (hpt : l.tt ≠ l.pt) : YldOk l.alive l.rank l.N (m.h.length + l.k + 1) (m.h.length + l.k + 2) m.h.length (l.J m) l.step where
  le := by omega
  al := h.al
  rk := h.rk
  frame := fun s H H' F hJ hl hj => by
    have hlen := hJ.len h
    obtain ⟨v, h1, h2, rfl⟩ := hJ
    refine ⟨v, ?_, h2.same fun j hm => hj j (h2.idx j hm).2 (.inr hm), rfl⟩
    rw [← h1]
    exact take_ext hlen (by omega) fun j hjl => hj j (by omega) (.inl hjl)
  lt := fun s H F hJ j hj => by
    obtain ⟨v, h1, h2, rfl⟩ := hJ
    exact h2.idx j hj
  call := by
    intro s H W F t hal hrk ht hJ hlen
    obtain ⟨v, h1, hG, rfl⟩ := hJ
    rw [hal] at h1
    have l40 : (ints .u8 t).length = 40 := by rw [ints_len]; exact ht.1
    obtain ⟨n0, hn0⟩ : ∃ n0, n0 = m.h.length + l.k + 2 := ⟨_, rfl⟩
    obtain ⟨i, hi⟩ : ∃ i, i = m.h.length + l.k + 1 := ⟨_, rfl⟩
    have hlow : ∀ st pd, (l.low m s v st pd)[i]? = some (l.blk st pd) := fun st pd => by rw [hi]; exact Lp.low_at h s v st pd
    obtain ⟨H1, hH1⟩ : ∃ H1, H1 = H ++ [.cells (rs (ints .u8 t)) ty_tally_truth 0] := ⟨_, rfl⟩
    have hb0 : H[i]? = some (l.blk .ready none) := by rw [take_get h1 (by omega)]; exact hlow _ _
    have hb1 : H1[i]? = some (l.blk .ready none) := by rw [hH1, List.getElem?_append_left (by omega)]; exact hb0
    obtain ⟨Hb, hHb⟩ : ∃ Hb, Hb = H1.set i (l.blk .busy none) := ⟨_, rfl⟩
    have hbl : Hb.length = H.length + 1 := by simp [hHb, hH1]
    have htk : Hb.take (m.h.length + l.k + 2) = l.low m s v .busy none := by
      rw [hHb, List.take_set, hH1, List.take_append_of_le_length (by omega), h1, hi]
      exact Lp.low_set h _ _ _ _ _ _
    have hup : ∀ j, j ≠ i → j < H.length → Hb[j]? = H[j]? := fun j hj hjl => by
      rw [hHb, List.getElem?_set_ne (Ne.symm hj), hH1, List.getElem?_append_left hjl]
    have hT : Hb[H.length]? = some (.cells (rs (ints .u8 t)) ty_tally_truth 0) := by rw [hHb, List.getElem?_set_ne (by omega), hH1]; simp
    have hXF : H.length ∉ avIdx v := fun hm => by have := (hG.idx _ hm).2; omega
    have hGb : GS Hb (m.h.length + l.k + 2) l.T l.sz (l.cs s) (l.nn s) v := hG.same fun j hm => by
      have := hG.idx j hm
      exact hup j (by omega) this.2
    obtain ⟨s2, o, v', k2, ho, htk2, hG2, hfr, hl2, hw2, hix, hvv⟩ := h.body s v t Hb [i, H.length] H.length hal hrk ht htk hGb (by omega) hXF hT
    rw [← hi] at k2
    -- the round's end
    obtain ⟨a, ha⟩ : ∃ a, a = (l.step s t).2 := ⟨_, rfl⟩
    have hoj : outJmp o = pdOf a := by
      rcases ho with ⟨rfl, e⟩ | ⟨rfl, e⟩ <;> rw [ha, e] <;> rfl
    have hst : (if (outJmp o).isNone then LSt.ready else LSt.done) = stOf a := by rw [hoj]; cases a <;> rfl
    have hbo : (outJmp o).isNone = a := by rw [hoj]; cases a <;> rfl
    obtain ⟨X, hX⟩ : ∃ X, X = s2.m.h.set i (l.blk (stOf a) (pdOf a)) := ⟨_, rfl⟩
    have hXl : X.length = s2.m.h.length := by simp [hX]
    have hs2i : s2.m.h[i]? = some (l.blk .busy none) := by rw [take_get htk2 (by omega), hi]; exact Lp.low_at h _ _ _ _
    have hXt : X.take (m.h.length + l.k + 2) = l.low m (l.step s t).1 v' (stOf a) (pdOf a) := by
      rw [hX, List.take_set, htk2, hi]; exact Lp.low_set h _ _ _ _ _ _
    have hXj : ∀ j, m.h.length + l.k + 2 ≤ j → X[j]? = s2.m.h[j]? := fun j hj => by rw [hX, List.getElem?_set_ne (by omega)]
    have hGX : GS X (m.h.length + l.k + 2) l.T l.sz (l.cs (l.step s t).1) (l.nn (l.step s t).1) v' := hG2.same fun j hm => hXj j (hG2.idx j hm).1
    -- what is left
    have hset : ∃ H', Go.AM.settle C.fz false { h := H, wr := W } (bo a) { h := X, wr := i :: s2.m.wr } = (bo a, { h := H', wr := oldWr H.length (i :: s2.m.wr) ++ W }) ∧ (H' = X ∨ (H' = X.take H.length ∧ ∀ j ∈ avIdx v', j < H.length)) := by
      unfold Go.AM.settle
      simp only [Bool.false_eq_true, if_false, show fz { h := X, wr := i :: s2.m.wr } H.length C.fz (bo a) = some (bo a) from rfl]
      split
      · rename_i hall
        refine ⟨_, rfl, .inr ⟨rfl, fun j hj => ?_⟩⟩
        rcases hvv with e | ⟨e1, e2⟩
        · rw [e] at hj; exact (hG.idx j hj).2
        · rw [List.all_eq_true] at hall
          have hjb := h.jb
          have hmem : m.h.length + l.jb ∈ oldWr H.length (i :: s2.m.wr) := by
            unfold oldWr
            rw [List.mem_filter]
            exact ⟨List.mem_cons_of_mem _ e1, by simp; omega⟩
          have hc := hall _ hmem
          have hXb : X[m.h.length + l.jb]? = some (.cells [v'] l.Tb 0) := by
            rw [take_get hXt (by omega)]
            unfold Lp.low
            rw [List.getElem?_append_left (by simp [h.len]; omega), List.getElem?_append_right (by omega), Nat.add_sub_cancel_left]
            exact e2
          rw [hXb] at hc
          simp only [blkLt, lt0s, Bool.and_true] at hc
          cases hGX with
          | nil => simp [avIdx] at hj
          | osl B g q1 q2 q3 q4 =>
            simp [avIdx] at hj
            subst hj
            simpa [lt0] using hc
      · exact ⟨_, rfl, .inl rfl⟩
    obtain ⟨H', hset, hH'⟩ := hset
    have hH'l : H.length ≤ H'.length := by
      rcases hH' with rfl | ⟨rfl, _⟩
      · omega
      · rw [List.length_take]; omega
    have hH'j : ∀ j, j < H.length → H'[j]? = X[j]? := fun j hj => by
      rcases hH' with rfl | ⟨rfl, _⟩
      · rfl
      · rw [List.getElem?_take_of_lt hj]
    refine ⟨H', oldWr H.length (i :: s2.m.wr) ++ W, avIdx v', ?_, ⟨v', ?_, ?_, rfl⟩, hH'l, fun j hj1 hj2 hj3 => ⟨?_, fun hm => ?_⟩, fun x hx => ?_⟩
    · rw [← ha, ← hi]
      refine CallR.round (q2 := []) (a3 := .skip) (b3 := .skip) (s1 := { env := (l.tt, .own H.length 0 0) :: (l.pt, .r (.agg (ints .u8 t))) :: l.E, m := { h := H1, wr := [H.length] }, round := some i }) (s2 := s2) (o := o) hb0 rfl (.of fun K => ?_) hb1 (by have k3 := k2; rw [hHb] at k3; exact k3) (fun v h => by rcases ho with ⟨rfl, _⟩ | ⟨rfl, _⟩ <;> cases h) ?_
      · have hZl : (rs z_tally_truth).length = 40 := by rw [rs_len, truth_zero, ints_len]; simp
        have hZd : List.drop 40 (rs z_tally_truth) = [] := List.drop_eq_nil_of_le (by omega)
        obtain ⟨I, hI⟩ : ∃ I, I = ints .u8 t := ⟨_, rfl⟩
        obtain ⟨Z, hZ⟩ : ∃ Z, Z = rs z_tally_truth := ⟨_, rfl⟩
        rw [← hI] at hH1 l40 ⊢
        rw [← hZ] at hZl hZd
        rw [hH1]
        simp [Lp.as, ← hZ, rs_len, l40, hZl, hZd, hpt]
      · unfold roundEnd
        rw [hs2i]
        simp only [Lp.blk, hbo, hst]
        rw [hoj]
        have : s2.m.h.set i (.loop l.E [l.pt] l.as l.bd (stOf a) (pdOf a)) = X := hX.symm
        rw [show (if a = true then LSt.ready else LSt.done) = stOf a from rfl, this, hset]
    · rw [h.al, ← ha, ← hXt]
      exact take_ext (by omega) (by omega) fun j hj => hH'j j (by omega)
    · refine hGX.same fun j hm => ?_
      rcases hH' with rfl | ⟨rfl, hlt⟩
      · rfl
      · rw [List.getElem?_take_of_lt (hlt j hm)]
    · rw [hH'j j hj2, hXj j hj1, hfr j hj1 (by omega) hj3, hup j (by omega) hj2]
    · rcases hix j hm with h' | h'
      · exact hj3 h'
      · omega
    · rcases List.mem_append.1 hx with hx | hx
      · unfold oldWr at hx
        have hx1 := (List.mem_filter.1 hx).1
        rcases List.mem_cons.1 hx1 with rfl | hx1
        · exact .inr (by omega)
        · rcases hw2 x hx1 with h' | h'
          · simp only [List.mem_cons, List.not_mem_nil, or_false] at h'
            exact .inr (by omega)
          · exact .inr h'
      · exact .inl hx
/-- A whole loop over the truths. -/
theorem Lp.range (h : l.Ok m) (hpt : l.tt ≠ l.pt) {d : Div} (hn : 1 ≤ d.n ∧ d.n ≤ 40) {R : List RV} (hR0 : ∀ m, loadV m (.r (.ptr R)) 1 false = some (i64 d.n))
    (hRm : ∀ m (k : Nat), k < 40 → (k : Int) < d.n → loadV m (.r (.ptr (R.drop (51 + k)))) 1 false = some (.r (slU (may d k)))) {q : Nat} (hq : eget l.E q = .r (.fn fn_tally_looked_truths_1 [] [.ptr R])) (s0 : σ) (hal : l.alive s0 = true) (hrk : l.rank s0 + (truthsOf d).length ≤ l.N) (hc0 : l.cs s0 = []) (hn0 : l.nn s0 = 0) (W : List Nat) :
    ∃ H' W' v, Den C (.rangeF (.t q) [l.pt] l.as l.bd) { env := l.E, m := { h := m.h ++ l.P s0 (.r .nil), wr := W } } (if l.alive (foldS l.step s0 (truthsOf d)).1 then .norm else .ret) { env := l.E, m := { h := H', wr := W' }, defs := [.dfr (m.h.length + l.k)] } ∧
      H'.take (m.h.length + l.k + 2) = m.h ++ l.P (foldS l.step s0 (truthsOf d)).1 v ++ [.dfr, .dead] ∧ GS H' (m.h.length + l.k + 2) l.T l.sz (l.cs (foldS l.step s0 (truthsOf d)).1) (l.nn (foldS l.step s0 (truthsOf d)).1) v ∧ ∀ x ∈ W', x ∈ W ∨ m.h.length ≤ x := by
  obtain ⟨H0, hH0⟩ : ∃ H0, H0 = m.h ++ l.P s0 (.r .nil) := ⟨_, rfl⟩
  have hl0 : H0.length = m.h.length + l.k := by simp [hH0, h.len]
  obtain ⟨H1, hH1⟩ : ∃ H1, H1 = H0 ++ [.dfr, l.blk .ready none] := ⟨_, rfl⟩
  have hl1 : H1.length = m.h.length + l.k + 2 := by simp [hH1, hl0]
  have hJ0 : l.J m s0 H1 [] := ⟨.r .nil, by rw [hal, List.take_of_length_le (by omega), hH1, hH0]; rfl, by rw [hc0, hn0]; exact .nil rfl rfl, rfl⟩
  obtain ⟨H', W', F', k1, hJ, hl, hfr, hw⟩ := iter_spec (Lp.yld h hpt) hn hR0 hRm W hal hrk hJ0 (by omega)
  obtain ⟨sF, hsF⟩ : ∃ sF, sF = (foldS l.step s0 (truthsOf d)).1 := ⟨_, rfl⟩
  rw [← hsF] at hJ ⊢
  have hlenJ := hJ.len h
  obtain ⟨v, h1, h2, rfl⟩ := hJ
  have hlp : H'[m.h.length + l.k + 1]? = some (l.blk (stOf (l.alive sF)) (pdOf (l.alive sF))) := by rw [take_get h1 (by omega)]; exact Lp.low_at h _ _ _ _
  refine ⟨H'.set (m.h.length + l.k + 1) .dead, (m.h.length + l.k + 1) :: W', v, ?_, ?_, ?_, fun x hx => ?_⟩
  · have hla : loopAt ({ env := l.E, m := { h := H0, wr := W } } : St) = m.h.length + l.k + 1 := by simp [loopAt, hl0]
    have hlh : loopHeap ({ env := l.E, m := { h := H0, wr := W } } : St) [l.pt] l.as l.bd = H1 := by simp [loopHeap, hH1, Lp.blk]
    have hld : loopDefs ({ env := l.E, m := { h := H0, wr := W } } : St) = [.dfr (m.h.length + l.k)] := by simp [loopDefs, hl0]
    have := Den.rangeF (C := C) (s := { env := l.E, m := { h := H0, wr := W } }) (f := .t q) (ps := [l.pt]) (as := l.as) (bd := l.bd) (v := .tup []) (m := { h := H', wr := W' }) (env := l.E) (q1 := [l.pt]) (q2 := l.as) (q3 := l.bd) (st := stOf (l.alive sF)) (pend := pdOf (l.alive sF)) rfl (by simp only [ev, hq]; rfl) (by
      rw [hla, hlh]
      simp only [ev, hq]
      exact k1) (by rw [hla]; exact hlp) (by cases l.alive sF <;> simp [stOf])
    rw [hla, hld] at this
    rw [← hH0]
    have ho : jmpOut (pdOf (l.alive sF)) = (if l.alive sF then .norm else .ret) := by cases l.alive sF <;> rfl
    rw [ho] at this
    exact this
  · rw [List.take_set, h1]
    unfold Lp.low
    rw [List.set_append_right _ _ (by simp [h.len])]
    simp [h.len, show m.h.length + l.k + 1 - (m.h.length + l.k) = 1 by omega]
  · exact h2.same fun j hm => by
      have := h2.idx j hm
      rw [List.getElem?_set_ne (by omega)]
  · rcases List.mem_cons.1 hx with rfl | hx
    · exact .inr (by omega)
    · exact hw x hx
end
end Go.AM.T
/- What the functions compute (own work). -/
namespace Go.AM.T
open Go Go.AM
attribute [local simp] so_mov so_pick so_alloc so_box so_build so_slit so_load so_store so_nilc so_bin so_beq so_eqs so_eqn so_eqnl so_not so_conv so_s2b so_mkfn so_slcA so_padd so_fld so_idxA so_idxV so_idxT so_look so_mupd so_mkmap so_mksl so_ext so_app so_lenT so_lenM so_min so_max so_cpy so_clr so_mkif so_tass so_lenS so_idxS so_slc
attribute [local simp] dn_skip dn_label dn_ret dn_exit dn_scope dn_keep dn_reg dn_draw0 noSlots denE denEI stepE  sd_mov sd_pick sd_build sd_load sd_store sd_nilc sd_bin sd_beq sd_eqs sd_eqn sd_eqnl sd_not sd_conv sd_s2b sd_mkfn sd_slc sd_slcA sd_padd sd_fld sd_idxS sd_idxA sd_idxV sd_idxT sd_look sd_mupd sd_ext sd_app sd_lenS sd_lenT sd_lenM sd_min sd_max sd_mkif sd_tass sd_call sd_slit dn_seq dn_cond dn_block dn_loop kn_call denIs denI denOp wants ev eget putD binL enumFrom AV.bool? AV.int? ekeep evs evp runV fin runDefs resAll resOf tupOf unit AV.cells okV ok1 Value.oneCell' fill setN rcells rs_nil rs_cons load_own load_cons mkAgg_rs storeN jmpOut
attribute [local simp] dvL dv1t dvAt mkAgg2 dv0 dv1 dv2 dv3 dv4 dv5 dv6 dv7 dv8 dv9 dv10 dvA dvN dvAll C_fz fzr
/-- The reference's truths, that begin so. -/
def rtF (d : Div) : Nat → List Int → List (List Int)
  | 0, b => [b]
  | r + 1, b => (may d b.length).flatMap fun v => rtF d r (b ++ [v])
def rtOf (d : Div) : List (List Int) := rtF d d.n.toNat []
def pad (b : List Int) : List Int := b ++ List.replicate (40 - b.length) 0
theorem pad_set {b : List Int} (v : Int) (h : b.length < 40) : (pad b).set b.length v = pad (b ++ [v]) := by
  unfold pad
  rw [List.set_append_right _ _ (Nat.le_refl _), Nat.sub_self]
  obtain ⟨k, hk⟩ : ∃ k, 40 - b.length = k + 1 := ⟨40 - b.length - 1, by omega⟩
  have hk2 : 40 - (b ++ [v]).length = k := by simp; omega
  rw [hk, hk2, List.replicate_succ, List.set_cons_zero, List.append_assoc]; rfl
theorem truths_rt {d : Div} : ∀ (r : Nat) (b : List Int), b.length + r ≤ 40 → truthsFrom d r b.length (pad b) = (rtF d r b).map pad
  | 0, b, _ => rfl
  | r + 1, b, h => by
    unfold truthsFrom rtF
    rw [List.map_flatMap]
    congr 1
    funext v
    rw [pad_set v (by omega)]
    have := truths_rt (d := d) r (b ++ [v]) (by simp; omega)
    rw [← this]; simp
theorem truthsOf_rt {d : Div} (h : d.n ≤ 40) : truthsOf d = (rtOf d).map pad := by
  have := truths_rt (d := d) d.n.toNat [] (by simp; omega)
  exact this
theorem rtF_len {d : Div} : ∀ (r : Nat) (b u : List Int), u ∈ rtF d r b → u.length = b.length + r
  | 0, b, u, h => by unfold rtF at h; simp at h; rw [h]; rfl
  | r + 1, b, u, h => by
    unfold rtF at h
    obtain ⟨v, _, hu⟩ := List.mem_flatMap.1 h
    have := rtF_len r (b ++ [v]) u hu
    simp at this; omega
def VOk (u : List Int) : Prop := ∀ x ∈ u, x = 0 ∨ x = 1 ∨ x = 2
theorem VOk.snoc {b : List Int} {v : Int} (h : VOk b) (hv : v = 0 ∨ v = 1 ∨ v = 2) : VOk (b ++ [v]) := by
  intro x hx
  rcases List.mem_append.1 hx with hx | hx
  · exact h x hx
  · simp at hx; subst hx; exact hv
theorem may_v {d : Div} {x v : Int} (h : v ∈ may d x) : v = 0 ∨ v = 1 ∨ v = 2 := by have := may_ok h; omega
theorem rtF_ok {d : Div} : ∀ (r : Nat) (b u : List Int), VOk b → u ∈ rtF d r b → VOk u
  | 0, b, u, hb, h => by unfold rtF at h; simp at h; rw [h]; exact hb
  | r + 1, b, u, hb, h => by
    unfold rtF at h
    obtain ⟨v, hv, hu⟩ := List.mem_flatMap.1 h
    exact rtF_ok r (b ++ [v]) u (hb.snoc (may_v hv)) hu
theorem rtF_ne {d : Div} : ∀ (r : Nat) (b : List Int), (∀ k : Nat, k < b.length + r → may d k ≠ []) → rtF d r b ≠ []
  | 0, b, _ => by simp [rtF]
  | r + 1, b, h => by
    have h1 := h b.length (by omega)
    obtain ⟨v, hv⟩ := List.exists_mem_of_ne_nil _ h1
    have h2 := rtF_ne r (b ++ [v]) (fun k hk => h k (by simp at hk; omega))
    obtain ⟨u, hu⟩ := List.exists_mem_of_ne_nil _ h2
    intro e
    have : u ∈ rtF d (r + 1) b := by unfold rtF; exact List.mem_flatMap.2 ⟨v, hv, hu⟩
    rw [e] at this; cases this
/-- How many of some members are doubtful. -/
def dcnt (d : Div) (k : Nat) : Nat → Nat
  | 0 => 0
  | r + 1 => (if 1 < (may d k).length then 1 else 0) + dcnt d (k + 1) r
theorem may_len3 (d : Div) (x : Int) : (may d x).length ≤ 3 := by
  unfold may votesL
  rcases onB_cases d.a0 d.a1 x with e0 | e0 | e0 <;> rcases onB_cases d.n0 d.n1 x with e1 | e1 | e1 <;> rw [e0, e1] <;> decide
theorem flatMap_len_le {α β : Type} (f : α → List β) (c : Nat) : ∀ l : List α, (∀ x ∈ l, (f x).length ≤ c) → (l.flatMap f).length ≤ l.length * c
  | [], _ => by simp
  | x :: l, h => by
    have h1 := h x (by simp)
    have h2 := flatMap_len_le f c l (fun y hy => h y (by simp [hy]))
    simp only [List.flatMap_cons, List.length_append, List.length_cons, Nat.add_mul]
    omega
theorem rtF_count {d : Div} : ∀ (r : Nat) (b : List Int), (rtF d r b).length ≤ 3 ^ dcnt d b.length r
  | 0, b => by simp [rtF, dcnt]
  | r + 1, b => by
    unfold rtF dcnt
    have h := flatMap_len_le (fun v => rtF d r (b ++ [v])) (3 ^ dcnt d (b.length + 1) r) (may d b.length) (fun v _ => by
      have := rtF_count (d := d) r (b ++ [v])
      simpa using this)
    refine Nat.le_trans h ?_
    have h3 := may_len3 d b.length
    split
    · rw [Nat.pow_add, Nat.pow_one]
      exact Nat.mul_le_mul_right _ h3
    · rename_i hle
      rw [Nat.zero_add]
      calc (may d b.length).length * 3 ^ dcnt d (b.length + 1) r ≤ 1 * 3 ^ dcnt d (b.length + 1) r := Nat.mul_le_mul_right _ (by omega)
        _ = _ := Nat.one_mul _
theorem dcnt_filter (d : Div) : ∀ (r k : Nat), dcnt d k r = ((List.range' k r).filter fun (i : Nat) => decide (1 < (may d i).length)).length
  | 0, k => rfl
  | r + 1, k => by
    unfold dcnt
    rw [dcnt_filter d r (k + 1), List.range'_succ, List.filter_cons]
    split <;> rename_i h <;> simp [h] <;> omega
theorem dcnt_doubts (d : Div) : dcnt d 0 d.n.toNat = (doubtsL d).length := by
  unfold doubtsL
  rw [dcnt_filter, List.length_map, List.range_eq_range']
theorem rtOf_count {d : Div} (h : (doubtsL d).length ≤ 8) : (rtOf d).length ≤ 6561 := by
  have h1 := rtF_count (d := d) d.n.toNat []
  rw [List.length_nil, dcnt_doubts] at h1
  have h2 : 3 ^ (doubtsL d).length ≤ 3 ^ 8 := Nat.pow_le_pow_right (by omega) h
  exact Nat.le_trans h1 h2
theorem flatMap_mem_len {α β : Type} (f : α → List β) : ∀ (l : List α) (x : α), x ∈ l → (f x).length ≤ (l.flatMap f).length
  | y :: l, x, h => by
    simp only [List.flatMap_cons, List.length_append]
    rcases List.mem_cons.1 h with rfl | h
    · omega
    · have := flatMap_mem_len f l x h; omega
theorem may_filter (d : Div) (x : Int) : [0, 1, 2].filter (fun v => decide (v ∈ may d x)) = may d x := by
  unfold may votesL
  rcases onB_cases d.a0 d.a1 x with e0 | e0 | e0 <;> rcases onB_cases d.n0 d.n1 x with e1 | e1 | e1 <;> rw [e0, e1] <;> decide

/-- A slice of values that its function grows. -/
inductive GA (H : List Blk) (L : Nat) (T : TypeId) (cs : List AV) : AV → Prop
  | nil : cs = [] → GA H L T cs (.r .nil)
  | osl (B g : Nat) : L ≤ B → H[B]? = some (.cells cs T g) → 0 < cs.length → GA H L T cs (.osl B g 0 cs.length 1 none)
theorem GA.app {H : List Blk} {W : List Nat} {L : Nat} {T : TypeId} {bytes : Nat} {cs new : List AV} {pv y : AV} (h : GA H L T cs pv) (hL : L ≤ H.length) (hy : slCells { h := H, wr := W } y 1 = some (new, new.length)) (hk : 0 < new.length) (hr : roomOk (cs.length + new.length) bytes) :
    ∃ B g H' W', appendA { h := H, wr := W } T 1 bytes pv y = some (.osl B g 0 (cs.length + new.length) 1 none, { h := H', wr := W' }) ∧ (W' = W ∨ W' = B :: W) ∧ L ≤ B ∧ GA H' L T (cs ++ new) (.osl B g 0 (cs.length + new.length) 1 none) ∧
      (H' = H ++ [.cells (cs ++ new) T 0] ∨ (H' = H.set B (.cells (cs ++ new) T g) ∧ ∃ g', H[B]? = some (.cells cs T g') ∧ pv = .osl B g' 0 cs.length 1 none)) := by
  have hlen : cs.length + new.length = (cs ++ new).length := by simp
  cases h with
  | nil e =>
    subst e
    refine ⟨H.length, 0, H ++ [.cells new T 0], W, ?_, .inl rfl, hL, ?_, .inl rfl⟩
    · unfold appendA
      rw [hy]
      simp only
      rw [if_neg (by omega), if_pos (by simpa using hr)]
      simp
    · rw [hlen]; exact GA.osl H.length 0 hL (by simp) (by simp; omega)
  | osl B g h1 h2 h3 =>
    have hB := getElem?_lt h2
    refine ⟨B, g + 1, H.set B (.cells (cs ++ new) T (g + 1)), B :: W, ?_, .inr rfl, h1, ?_, .inr ⟨rfl, g, h2, rfl⟩⟩
    · unfold appendA
      rw [hy]
      simp only [h2]
      rw [if_pos ⟨trivial, trivial, trivial, by omega, hr⟩, if_neg (by omega), List.take_of_length_le (by omega)]
    · rw [hlen]; exact GA.osl B (g + 1) h1 (List.getElem?_set_self hB) (by simp; omega)
/-- A truth in a heap. -/
def Elt (H : List Blk) (L : Nat) (x : AV) (u : List Int) : Prop :=
  (∃ v, x = .r v ∧ Sl (ints .u8 u) u.length v) ∨ ∃ B g, L ≤ B ∧ x = .osl B g 0 u.length 1 none ∧ H[B]? = some (.cells (rs (ints .u8 u)) ty_uint8 g)
abbrev SlT (vs : List RV) (us : List (List Int)) : Prop := All2 (fun v u => Sl (ints .u8 u) u.length v) vs us
theorem Elt.fz {H : List Blk} {W : List Nat} {L : Nat} {x : AV} {u : List Int} (h : Elt H L x u) {k : Nat} (hk : u.length + 1 < k) : ∃ v, Go.AM.fz { h := H, wr := W } L k x = some (.r v) ∧ Sl (ints .u8 u) u.length v := by
  obtain ⟨k, rfl⟩ : ∃ j, k = j + 1 := ⟨k - 1, by omega⟩
  rcases h with ⟨v, rfl, hv⟩ | ⟨B, g, h1, rfl, h2⟩
  · exact ⟨v, rfl, hv⟩
  · exact ⟨_, fz_osl (t := ty_uint8) h2 h1 (by rw [ints_len]; omega) (by rw [ints_len]; omega), Sl.mk _ _ _⟩
theorem Elt.fzs {H : List Blk} {W : List Nat} {L : Nat} : ∀ {xs : List AV} {us : List (List Int)}, All2 (Elt H L) xs us → (∀ u ∈ us, u.length ≤ 40) → ∀ k, xs.length + 43 < k → ∃ vs, Go.AM.fzs { h := H, wr := W } L k xs = some (rs vs) ∧ SlT vs us
  | [], _, h, _, k, hk => by
    cases h
    obtain ⟨k, rfl⟩ : ∃ j, k = j + 1 := ⟨k - 1, by omega⟩
    exact ⟨[], rfl, .nil⟩
  | x :: xs, _, h, hu, k, hk => by
    cases h with
    | cons h t =>
      rename_i u us
      obtain ⟨k, rfl⟩ : ∃ j, k = j + 1 := ⟨k - 1, by omega⟩
      obtain ⟨v, h1, h2⟩ := h.fz (W := W) (k := k) (by have := hu u (by simp); simp at hk; omega)
      obtain ⟨vs, h3, h4⟩ := Elt.fzs (W := W) t (fun u hu' => hu u (by simp [hu'])) k (by simp at hk; omega)
      exact ⟨v :: vs, by rw [Go.AM.fzs, h1, h3]; rfl, .cons h2 h4⟩
theorem GA.fz {H : List Blk} {W : List Nat} {L : Nat} {T : TypeId} {xs : List AV} {us : List (List Int)} {pv : AV} (h : GA H L T xs pv) (hx : All2 (Elt H L) xs us) (hu : ∀ u ∈ us, u.length ≤ 40) (hne : us ≠ []) {k : Nat} (hk : xs.length + 44 < k) :
    ∃ vs, Go.AM.fz { h := H, wr := W } L k pv = some (.r (.sl vs us.length none)) ∧ SlT vs us := by
  obtain ⟨k, rfl⟩ : ∃ j, k = j + 1 := ⟨k - 1, by omega⟩
  have hl := hx.length
  cases h with
  | nil e =>
    subst e
    cases hx
    exact absurd rfl hne
  | osl B g h1 h2 h3 =>
    obtain ⟨vs, h4, h5⟩ := Elt.fzs (W := W) hx hu k (by omega)
    refine ⟨vs, ?_, h5⟩
    rw [Go.AM.fz]
    simp only [rcells, h2, if_true]
    rw [if_neg (by omega), if_pos (by omega), List.drop_zero, List.take_of_length_le (by omega), h4]
    simp only [allR_rs]
    rw [hl]
end Go.AM.T
