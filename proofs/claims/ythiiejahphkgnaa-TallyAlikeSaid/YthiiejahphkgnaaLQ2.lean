/- The machine that the proofs walk by, and what the functions compute: part 2 of the common texts. No condition. (Own work.) -/
import Derived.Test.YthiiejahphkgnaaLQ1
set_option linter.unusedVariables false
set_option linter.unusedSimpArgs false
/- Each operation of the abstract machine is borne out by the model's (own work), thirteenth part: all together. -/
namespace Go.AM
section
variable {P : Program} {K : Nat → AC → Code → Prop} {c : Cx} {X : Fr} {h : List Blk} {w : World} {e : Env} {ts : Array Value}

theorem sl_val {cs : List RV} {len : Nat} {cap : Option Nat} {v : Value} (h : VR c (.r (.sl cs len cap)) v) : ∃ a k, v = .slice a len k ∧ (0 < len → a.isNone = false) := by
  simp only [VR, RVR] at h
  obtain ⟨a, k, vs, rfl, _, _, _, _, h6, _⟩ := h
  exact ⟨a, k, rfl, fun hp => by obtain ⟨b, o, rfl, _⟩ := h6 hp; rfl⟩
theorem nil_val {v : Value} (h : VR c (.r .nil) v) : v = .slice none 0 0 := h
theorem osl_val {i g o len sz : Nat} {cap : Option Nat} {v : Value} (h : VR c (.osl i g o len sz cap) v) : ∃ a k, v = .slice (some a) len k := by
  obtain ⟨a, k, e, _⟩ := osl_own h
  exact ⟨a, k, e⟩

theorem stepOp_sound {a : AOp} {o : Oper} {m m' : Mem} {v : AV} (hR : Rel K c X m.h w) (hE : EnvR c e ts) (hc : chkOp P a o.op = true) (hs : stepOp e m a = some (v, m')) :
    Done P K c X w (execOp (rho ts) o) v m'.h := by
  cases a with
  | mov x => simp only [stepOp] at hs; cases hs; exact snd_mov hR hE hc
  | pick x a b =>
    simp only [stepOp] at hs
    split at hs <;> cases hs
    rename_i t ht; exact snd_pick hR hE hc ht
  | alloc t z => simp only [stepOp] at hs; cases hs; exact snd_alloc hR hc
  | slot k t z => simp [stepOp] at hs
  | box t x =>
    simp only [stepOp] at hs
    split at hs <;> cases hs
    rename_i hk; exact snd_box hR hE hc hk
  | build z ps =>
    simp only [stepOp] at hs
    split at hs <;> cases hs
    rename_i cs hf; exact snd_build hR hE hc hf
  | slit t z len sz ps =>
    simp only [stepOp] at hs
    split at hs <;> try (cases hs; done)
    rename_i cs hf
    split at hs <;> try (cases hs; done)
    rename_i hk
    have := snd_slit hR hE hc hf hk.1 hk.2
    split at hs <;> cases hs
    · rename_i l hl; exact this.1 l hl
    · exact this.2
  | load n ag a =>
    simp only [stepOp] at hs
    split at hs <;> cases hs
    rename_i hl; exact snd_load hR hE hc hl
  | store n a v =>
    simp only [stepOp] at hs
    split at hs <;> try (cases hs; done)
    rename_i hk
    split at hs <;> cases hs
    rename_i hl; exact snd_store hR hE hc hk.1 hk.2 hl
  | nilc x =>
    have : v = ev e x ∧ m' = m ∧ ((∃ i g o, v = .own i g o) ∨ (∃ cs, v = .r (.ptr cs)) ∨ (∃ f a b, v = .fn f a b) ∨ ∃ f a b, v = .r (.fn f a b)) := by
      simp only [stepOp] at hs
      split at hs <;> cases hs <;> rename_i hx <;> exact ⟨hx.symm, rfl, by simp⟩
    obtain ⟨rfl, rfl, hk⟩ := this
    refine snd_nilc hR hE hc fun val hv => ?_
    rcases hk with ⟨i, g, o, hx⟩ | ⟨cs, hx⟩ | ⟨f, a, b, hx⟩ | ⟨f, a, b, hx⟩ <;> rw [hx] at hv
    · simp only [VR] at hv; obtain ⟨_, _, ⟨a, rfl⟩, _⟩ := hv; exact .inl ⟨a, rfl⟩
    · simp only [VR, RVR] at hv; obtain ⟨b, o, vs, rfl, _⟩ := hv; exact .inl ⟨_, rfl⟩
    · simp only [VR] at hv; obtain ⟨vs, us, rfl, _⟩ := hv; exact .inr ⟨_, _, _, rfl⟩
    · simp only [VR, RVR] at hv; obtain ⟨vs, us, rfl, _⟩ := hv; exact .inr ⟨_, _, _, rfl⟩
  | bin op x y =>
    simp only [stepOp] at hs
    split at hs <;> try (cases hs; done)
    rename_i a b hx hy
    split at hs <;> cases hs
    rename_i hv; exact snd_bin hR hE hc hx hy hv
  | beq neg x y =>
    simp only [stepOp] at hs
    split at hs <;> cases hs
    rename_i a b hx hy; exact snd_beq hR hE hc hx hy
  | eqs neg ks x y =>
    simp only [stepOp] at hs
    split at hs <;> try (cases hs; done)
    rename_i a b hx hy
    split at hs <;> cases hs
    rename_i ht; exact snd_eqs hR hE hc hx hy ht
  | eqn neg x =>
    simp only [stepOp] at hs
    split at hs <;> cases hs
    · rename_i hx; exact snd_eqn (b := true) hR hE hc hx (.inl ⟨rfl, rfl⟩)
    · rename_i t u hx; exact snd_eqn (b := false) hR hE hc hx (.inr ⟨t, u, rfl, rfl⟩)
  | eqnl neg x =>
    simp only [stepOp] at hs
    split at hs
    · rename_i hx; cases hs
      exact snd_eqnl (b := true) hR hE hc fun v hv => by rw [hx] at hv; exact ⟨_, _, _, nil_val hv, rfl⟩
    · rename_i cs len cap hx
      split at hs <;> cases hs
      rename_i h0
      exact snd_eqnl (b := false) hR hE hc fun v hv => by
        rw [hx] at hv; obtain ⟨a, k, e1, e2⟩ := sl_val hv; exact ⟨_, _, _, e1, e2 (by omega)⟩
    · rename_i hx; cases hs
      exact snd_eqnl (b := false) hR hE hc fun v hv => by rw [hx] at hv; obtain ⟨a, k, e1⟩ := osl_val hv; exact ⟨_, _, _, e1, rfl⟩
    · cases hs
  | not x =>
    simp only [stepOp] at hs
    split at hs <;> cases hs
    rename_i t ht; exact snd_not hR hE hc ht
  | conv k x =>
    simp only [stepOp] at hs
    split at hs <;> cases hs
    rename_i t ht; exact snd_conv hR hE hc ht
  | s2b x =>
    simp only [stepOp] at hs
    split at hs <;> cases hs
    rename_i s hx; exact snd_s2b hR hE hc hx
  | mkfn f a b =>
    simp only [stepOp] at hs
    have := snd_mkfn hR hE hc
    split at hs <;> cases hs
    · rename_i h1 h2; exact this.2 _ _ h1 h2
    · exact this.1
  | slc sz x lo hi mx =>
    simp only [stepOp] at hs
    have hmx : ∀ {q : Prop}, (mx.isNone = true ∨ hi.isSome = true) → mx ≠ none → hi ≠ none := fun h h1 => by
      rcases h with h | h
      · cases mx <;> simp at h h1
      · cases hi <;> simp at h ⊢
    split at hs
    · rename_i hx
      split at hs <;> cases hs
      rename_i hk
      exact snd_slc_nil hR hE hc hx hk.1 hk.2.1 hk.2.2.1 (hmx (q := True) hk.2.2.2)
    · rename_i cs len cap hx
      split at hs <;> try (cases hs; done)
      rename_i l h' z k1 k2 k3
      split at hs <;> cases hs
      rename_i hk
      obtain ⟨q1, q2, q3, q4, q5, q6⟩ := hk
      refine snd_slc_sl hR hE hc hx k1 k2 q1 q2 q3 ?_
      cases hm : mx with
      | none => exact .inl ⟨rfl, by simp⟩
      | some y => exact .inr ⟨hmx (q := True) q6 (by simp [hm]), z, by rw [← hm]; exact k3, by simp, q4, q5, by simp⟩
    · rename_i i g off len sz' cap hx
      split at hs <;> try (cases hs; done)
      rename_i cells hcells
      split at hs <;> try (cases hs; done)
      rename_i l h' z k1 k2 k3
      split at hs <;> try (cases hs; done)
      rename_i hk
      obtain ⟨q1, q2, rfl⟩ := hk
      have hg := (rcells_ok hR rfl hcells).1
      split at hs
      · rename_i hm
        have hm : mx = none := by cases mx <;> simp at hm ⊢
        have := snd_slc_osl hR hE hc hx k1 k2 q1 q2 hm hg
        split at hs <;> cases hs
        · rename_i hl; exact this.1 hl
        · rename_i hl; exact this.2 (by omega)
      · rename_i hm
        split at hs <;> cases hs
        rename_i hz
        obtain ⟨rfl, rfl, hi'⟩ := hz
        exact snd_slc_oslmax hR hE hc hx k1 k2 k3 q2 (by intro e; subst e; cases hi') (by intro e; subst e; simp at hm) hg
    · cases hs
  | slcA n sz x lo hi =>
    simp only [stepOp] at hs
    split at hs <;> try (cases hs; done)
    rename_i l h' k1 k2
    split at hs <;> try (cases hs; done)
    rename_i hk
    split at hs
    · rename_i cs hx
      split at hs <;> cases hs
      exact snd_slcA_ptr hR hE hc hx k1 k2 hk.1 hk.2
    · rename_i i g off hx
      split at hs <;> try (cases hs; done)
      rename_i cells hcells
      split at hs <;> try (cases hs; done)
      rename_i hfit
      obtain ⟨hg, _, t, C, vs, rest, _, _, r3, r4, r5, _⟩ := rcells_ok hR rfl hcells
      have := snd_slcA_own (n := n) (sz := sz) hR hE hc hx k1 k2 hk.1 hk.2 hg (by
        have l1 := r5.length
        have l2 : C.size = vs.length + rest.length := by rw [← Array.length_toList, r4]; simp
        omega)
      split at hs <;> cases hs
      · rename_i hl; exact this.1 hl
      · rename_i hl; exact this.2 (by omega)
    · cases hs
  | padd off x =>
    simp only [stepOp] at hs
    split at hs <;> cases hs
    · rename_i hx
      have := snd_padd hR hE hc (.inl ⟨_, _, _, hx⟩)
      simpa [hx, padA] using this
    · rename_i hx
      have := snd_padd hR hE hc (.inr ⟨_, hx⟩)
      simpa [hx, padA] using this
  | fld off n ag x =>
    simp only [stepOp] at hs
    split at hs
    · rename_i cs hx
      split at hs
      · rename_i hag
        split at hs <;> cases hs
        exact snd_fldR hR hE hc hx (.inl ⟨hag, rfl⟩)
      · rename_i hag
        split at hs <;> cases hs
        rename_i hv
        exact snd_fldR hR hE hc hx (.inr ⟨by simpa using hag, hv⟩)
    · rename_i cs hx
      split at hs
      · rename_i hag
        split at hs <;> cases hs
        exact snd_fldA hR hE hc hx (.inl ⟨hag, rfl⟩)
      · rename_i hag
        split at hs <;> cases hs
        rename_i hv
        exact snd_fldA hR hE hc hx (.inr ⟨by simpa using hag, hv⟩)
    · cases hs
  | idxS sz x i =>
    simp only [stepOp] at hs
    split at hs
    · rename_i hi hx
      split at hs <;> cases hs
      rename_i hk; exact snd_idxSR hR hE hc hi hx hk.1 hk.2
    · rename_i hi hx
      split at hs <;> cases hs
      rename_i hk
      obtain ⟨k1, k2, rfl⟩ := hk
      exact snd_idxSO hR hE hc hi hx k1 k2
    · cases hs
  | idxA len sz x i =>
    simp only [stepOp] at hs
    split at hs
    · rename_i hi hx
      split at hs <;> cases hs
      rename_i hk
      have := snd_idxA hR hE hc hi (.inr ⟨_, hx⟩) hk.1 hk.2
      simpa [hx, padA] using this
    · rename_i hi hx
      split at hs <;> cases hs
      rename_i hk
      have := snd_idxA hR hE hc hi (.inl ⟨_, _, _, hx⟩) hk.1 hk.2
      simpa [hx, padA] using this
    · cases hs
  | idxV len sz ag x i =>
    simp only [stepOp] at hs
    split at hs <;> try (cases hs; done)
    rename_i hi hx
    split at hs <;> try (cases hs; done)
    rename_i hk
    split at hs
    · rename_i hag; cases hs
      exact snd_idxV hR hE hc hi hx hk.1 hk.2.1 (.inl ⟨hag, rfl⟩)
    · rename_i hag
      split at hs <;> cases hs
      rename_i hv
      exact snd_idxV hR hE hc hi hx hk.1 hk.2.1 (.inr ⟨by simpa using hag, hv⟩)
  | idxT x i =>
    simp only [stepOp] at hs
    split at hs <;> try (cases hs; done)
    rename_i hi hx
    split at hs <;> try (cases hs; done)
    rename_i h0
    split at hs <;> cases hs
    rename_i hb
    exact snd_idxT hR hE hc hi hx h0 hb
  | look kn z ok mp k =>
    simp only [stepOp] at hs
    split at hs <;> try (cases hs; done)
    rename_i hm hk
    split at hs <;> try (cases hs; done)
    rename_i hb
    split at hs <;> cases hs
    · rename_i hf
      have := snd_look hR hE hc hm hk hb hf
      exact this
    · rename_i hf
      have := snd_look hR hE hc hm hk hb hf
      exact this
  | mupd kn mp k v =>
    simp only [stepOp] at hs
    split at hs <;> try (cases hs; done)
    rename_i hm hk
    split at hs <;> try (cases hs; done)
    rename_i hb
    split at hs <;> cases hs
    · rename_i hf
      have := snd_mupd hR hE hc hm hk hb hf
      exact this
    · rename_i hf
      have := snd_mupd hR hE hc hm hk hb hf
      exact this
  | mkmap => simp only [stepOp] at hs; cases hs; exact snd_mkmap hR hc
  | mksl t z sz bytes len cap =>
    simp only [stepOp] at hs
    split at hs <;> try (cases hs; done)
    rename_i h1 h2
    split at hs <;> cases hs
    rename_i hk
    obtain ⟨q1, rfl, q2, q3, q4⟩ := hk
    exact snd_mksl hR hE hc h1 h2 q1 q2 q3 q4
  | ext i x =>
    simp only [stepOp] at hs
    split at hs <;> try (cases hs; done)
    rename_i hx
    split at hs <;> cases hs
    rename_i hv
    exact snd_ext hR hE hc hx hv
  | call f args => simp [stepOp] at hs
  | app t z sz bytes x y => simp only [stepOp] at hs; exact snd_app hR hE hc hs
  | lenS x =>
    simp only [stepOp] at hs
    split at hs <;> cases hs
    · rename_i hx
      have := snd_lenS (n := 0) hR hE hc fun v hv => by rw [hx] at hv; exact ⟨_, _, nil_val hv⟩
      exact this
    · rename_i hx
      exact snd_lenS hR hE hc fun v hv => by rw [hx] at hv; obtain ⟨a, k, e1, _⟩ := sl_val hv; exact ⟨_, _, e1⟩
    · rename_i hx
      exact snd_lenS hR hE hc fun v hv => by rw [hx] at hv; obtain ⟨a, k, e1⟩ := osl_val hv; exact ⟨_, _, e1⟩
  | lenT x =>
    simp only [stepOp] at hs
    split at hs <;> cases hs
    rename_i hx; exact snd_lenT hR hE hc hx
  | lenM x =>
    simp only [stepOp] at hs
    split at hs <;> try (cases hs; done)
    rename_i hx
    split at hs <;> cases hs
    rename_i hb; exact snd_lenM hR hE hc hx hb
  | min x y =>
    simp only [stepOp] at hs
    split at hs <;> cases hs
    rename_i hx hy; exact snd_min hR hE hc hx hy
  | max x y =>
    simp only [stepOp] at hs
    split at hs <;> cases hs
    rename_i hx hy; exact snd_max hR hE hc hx hy
  | cpy sz d s =>
    simp only [stepOp] at hs
    split at hs
    · rename_i hk hd
      split at hs <;> try (cases hs; done)
      rename_i e1
      split at hs <;> cases hs
      rename_i hst
      subst e1
      exact snd_cpy hR hE hc hk hd hst
    · rename_i hk hd; cases hs
      exact snd_cpy0 hR hE hc hk fun v hv => by rw [hd] at hv; obtain ⟨a, k, e1, _⟩ := sl_val hv; exact ⟨_, _, e1⟩
    · rename_i hk hd; cases hs
      exact snd_cpy0 hR hE hc hk fun v hv => by rw [hd] at hv; exact ⟨_, _, nil_val hv⟩
    · cases hs
  | clr z x =>
    simp only [stepOp] at hs
    split at hs
    · rename_i hx; cases hs
      exact snd_clr0 hR hE hc fun v hv => by rw [hx] at hv; obtain ⟨a, k, e1, _⟩ := sl_val hv; exact ⟨_, _, e1⟩
    · rename_i hx; cases hs
      exact snd_clr0 hR hE hc fun v hv => by rw [hx] at hv; exact ⟨_, _, nil_val hv⟩
    · rename_i i g off len sz cap hx
      split at hs
      · rename_i h0; cases hs; subst h0
        exact snd_clr0 hR hE hc fun v hv => by rw [hx] at hv; obtain ⟨a, k, e1⟩ := osl_val hv; exact ⟨_, _, e1⟩
      · rename_i h0
        split at hs <;> cases hs
        rename_i hst
        exact snd_clr hR hE hc hx h0 hst
    · cases hs
  | recov => simp [stepOp] at hs
  | pan x => simp [stepOp] at hs
  | mkif t x =>
    simp only [stepOp] at hs
    split at hs <;> cases hs
    · rename_i y hx
      exact snd_mkif hR hE hc fun val hv => by rw [hx] at hv; exact hv
    · rename_i hx
      exact snd_mkif hR hE hc fun val hv => by
        rw [hx] at hv; simp only [VR, RVR] at hv; obtain ⟨vs, rfl, h2, _⟩ := hv
        cases vs with
        | nil => rfl
        | cons => exact h2.elim
  | tass t z x =>
    simp only [stepOp] at hs
    split at hs
    · rename_i hx; cases hs; exact snd_tass hR hE hc hx (.inl ⟨rfl, rfl⟩)
    · rename_i u y hx
      split at hs <;> cases hs
      · rename_i e1; exact snd_tass hR hE hc hx (.inr ⟨u, y, rfl, .inl ⟨e1, rfl⟩⟩)
      · rename_i e1; exact snd_tass hR hE hc hx (.inr ⟨u, y, rfl, .inr ⟨e1, rfl⟩⟩)
    · cases hs
  | defr f args => simp [stepOp] at hs

end
end Go.AM
/- Control: regions in order (own work). -/
namespace Go.AM

def FW (r : Option Nat) : Fence := { fn := fun _ => True, depth := none, alive := false, round := r }

theorem callsIn_fw {r r' : Option Nat} {n : Nat} {P : Program} {f : FuncId} {args : Array Value} {w : World} {R : Ending → World → Prop} (h : CallsIn (FW r) n P f args w R) :
    CallsIn (FW r') n P f args w R := h
theorem roundIn_fw {r r' : Option Nat} {n : Nat} {P : Program} {l : Nat} {f : FuncId} {tm : Array Value} {as bd : Code} {w : World} {R : Ending → World → Prop} (h : RoundIn (FW r) n P l f tm as bd w R) :
    RoundIn (FW r') n P l f tm as bd w R := h

section
variable (P : Program)
def chkAI (os : Array Oper) (nt : Nat) (i : AI) (o : Oper) : Bool :=
  (match i.g, o.guard with
    | none, none => true
    | some (t, w), some (j, w') => w == w' && ((os[j]?).bind (·.dst)) == some t
    | _, _ => false) &&
  i.dst == o.dst && (match i.dst with | some d => decide (d < nt) | none => true) && chkOp P i.o o.op

def chkIs (os : Array Oper) (nt : Nat) : List AI → List Oper → Bool
  | [], [] => true
  | i :: l, o :: r => chkAI P os nt i o && chkIs os nt l r
  | _, _ => false
end

def DefR (c : Cx) : ADef → Deferred → Prop
  | .dfr i, d => i < c.n ∧ ∃ l, d = { target := .collected l, args := #[] } ∧ (c.G i = 0 → l = c.β i)
  | .call f args, d => ∃ fn first cap vs, VR c f (.func fn first cap) ∧ VRs c args vs ∧ d = { target := .fn fn cap, args := first ++ vs.toArray }

theorem DefR.mono {c c' : Cx} (h : c.Le c') {x : ADef} {d : Deferred} (hd : DefR c x d) : DefR c' x d := by
  cases x with
  | dfr i =>
    obtain ⟨h1, l, h2, h3⟩ := hd
    refine ⟨Nat.lt_of_lt_of_le h1 h.n, l, h2, fun e => ?_⟩
    have hg := h.G i h1
    rw [h3 (by omega), (h.same i h1 (by omega)).1]
  | call f args =>
    obtain ⟨fn, first, cap, vs, h1, h2, h3⟩ := hd
    exact ⟨fn, first, cap, vs, VR.mono h _ _ h1, VRs.mono h _ _ h2, h3⟩

def RoundR (c : Cx) : Option Nat → Option Nat → Prop
  | none, none => True
  | some i, some l => i < c.n ∧ (c.G i = 0 → l = c.β i)
  | _, _ => False

theorem RoundR.mono {c c' : Cx} (h : c.Le c') {x y : Option Nat} (hd : RoundR c x y) : RoundR c' x y := by
  cases x <;> cases y <;> try exact hd
  rename_i i l
  obtain ⟨h1, h3⟩ := hd
  refine ⟨Nat.lt_of_lt_of_le h1 h.n, fun e => ?_⟩
  have hg := h.G i h1
  rw [h3 (by omega), (h.same i h1 (by omega)).1]

structure SimAt (K : Nat → AC → Code → Prop) (X : Fr) (s : St) (c : Cx) (nt : Nat) (ro : Option Nat) (a : Act) (w : World) : Prop where
  rel : Rel K c X s.m.h w
  env : EnvR c s.env a.tmps
  size : nt ≤ a.tmps.size
  defs : All2 (DefR c) s.defs a.defers
  round : RoundR c s.round ro

def PanR (v : RV) (chain : List PanicEntry) : Prop := ∃ u, v = .lit u ∧ chain = [{ v := u, recovered := false }]

def OutR : Out → Exit → Prop
  | .norm, .normal => True
  | .exit id, .exit id' => id = id'
  | .ret, .ret => True
  | .pan v, .panic chain => PanR v chain
  | _, _ => False

/-- What is left behind. -/
def QR (K : Nat → AC → Code → Prop) (X : Fr) (c : Cx) (w : World) (nt : Nat) (ro : Option Nat) (o : Out) (s' : St) : Exit → Act → World → Prop :=
  fun e a' w' => OutR o e ∧ ∃ c', Adv X c w c' w' ∧ SimAt K X s' c' nt ro a' w'

def RetR (K : Nat → AC → Code → Prop) (X : Fr) (c : Cx) (w : World) (r : CRes) : Ending → World → Prop
  | .returned v, w' => ∃ c' av m', r = .ret av m' ∧ Adv X c w c' w' ∧ Rel K c' X m'.h w' ∧ VR c' av v
  | .panicked chain, w' => ∃ c' x m', r = .pan x m' ∧ Adv X c w c' w' ∧ Rel K c' X m'.h w' ∧ PanR x chain
  | .outgrown, _ => False

def isYld : AV → Bool
  | .yld _ => true
  | _ => false

def Goes (P : Program) (y : Bool) (s : Sem Next) (w : World) (R : Ending → World → Prop) : Prop :=
  (∃ f as, s.run P w = .ok (.enter f as) w ∧ ∀ n, CallsIn (FW none) n P f as w R) ∨
  (y = true ∧ ∃ l fn tm as bd, s.run P w = .ok (.round l fn tm as bd) w ∧ ∀ n, RoundIn (FW none) n P l fn tm as bd w R)

def CallOk (P : Program) (K : Nat → AC → Code → Prop) (call : AV → List AV → Mem → Option CRes) : Prop :=
  ∀ f args m r, call f args m = some r → ∀ c X w fv vs, Rel K c X m.h w → VR c f fv → VRs c args vs →
    ∃ d, (∀ w, (Deferred.ofValue fv vs.toArray).run P w = .ok d w) ∧ Goes P (isYld f) (invoke d.target d.args) w (RetR K X c w r)

theorem eval_rho (a : Act) : a.eval = rho a.tmps := by funext x; cases x <;> rfl

section
variable {P : Program} {K : Nat → AC → Code → Prop} {X : Fr} {c : Cx} {w : World} {nt : Nat} {ro : Option Nat} {s s' : St} {a : Act}

theorem wants_ok {os : Array Oper} {g : Option (Nat × Bool)} {o : Oper} {e : Env} {ts : Array Value} {b : Bool} (hE : EnvR c e ts)
    (hg : (match g, o.guard with
      | none, none => true
      | some (t, w), some (j, w') => w == w' && ((os[j]?).bind (·.dst)) == some t
      | _, _ => false) = true) (hw : wants e g = some b) : Region.wanted o (yielded os ts) = b := by
  cases g with
  | none =>
    cases ho : o.guard with
    | none => simp [wants] at hw; subst hw; simp [Region.wanted, ho]
    | some x => simp [ho] at hg
  | some tw =>
    obtain ⟨t, want⟩ := tw
    cases ho : o.guard with
    | none => simp [ho] at hg
    | some x =>
    obtain ⟨j, w'⟩ := x
    simp only [ho, Bool.and_eq_true, beq_iff_eq] at hg
    obtain ⟨rfl, hj⟩ := hg
    have ht := hE t
    simp only [Region.wanted, ho, yielded, hj, Option.bind_some]
    simp only [wants] at hw
    split at hw <;> try (cases hw; done)
    · rename_i b' he
      rw [he] at ht
      have ht : ts.getD t undef = .bool b' := ht
      have : ts[t]? = some (.bool b') := by
        rw [Array.getD_eq_getD_getElem?] at ht
        cases h : ts[t]? with
        | none => rw [h] at ht; simp [undef] at ht
        | some v => rw [h] at ht; simp at ht; rw [ht]
      rw [this]
      cases hw
      cases b' <;> cases want <;> rfl
    · rename_i he
      rw [he] at ht
      simp only [VR] at ht
      obtain ⟨vs, ht, hv⟩ := ht
      cases vs with
      | cons => exact hv.elim
      | nil =>
      cases hw
      have : ts[t]? = none ∨ ts[t]? = some (.tuple #[]) := by
        rw [Array.getD_eq_getD_getElem?] at ht
        cases h : ts[t]? with
        | none => exact .inl rfl
        | some v => rw [h] at ht; simp at ht; rw [ht]; exact .inr rfl
      rcases this with h | h <;> rw [h] <;> rfl

theorem SimAt.put (h : SimAt K X s c nt ro a w) {dst : Option Nat} {v : AV} {val : Value} {c' : Cx} {w' : World} {m' : Mem} (hA : c.Le c') (hR : Rel K c' X m'.h w') (hv : VR c' v val)
    (hd : (match dst with | some d => decide (d < nt) | none => true) = true) : SimAt K X (putD s dst v m') c' nt ro (a.put dst val) w' := by
  have hE := h.env.mono hA
  cases dst with
  | none => exact ⟨hR, hE, h.size, h.defs.mono fun _ _ => DefR.mono hA, h.round.mono hA⟩
  | some d =>
    have hd : d < nt := by simpa using hd
    exact ⟨hR, hE.put hv d (Nat.lt_of_lt_of_le hd h.size), by simpa [Act.put] using h.size, h.defs.mono fun _ _ => DefR.mono hA, h.round.mono hA⟩

theorem NextR.cases {v : AV} {nx : Next} (h : NextR c v nx) : ∃ val, VR c v val ∧ ((nx = .value val) ∨ (nx = .skip ∧ val = undef)) := by
  rcases h with ⟨val, rfl, hv⟩ | ⟨rfl, rfl⟩
  · exact ⟨val, hv, .inl rfl⟩
  · exact ⟨undef, trivial, .inr ⟨rfl, rfl⟩⟩

/-- The operations that are not plain steps. -/
def plainOp : AOp → Bool
  | .call .. | .recov | .pan _ | .defr .. | .slot .. => false
  | _ => true

theorem chk_notDefer {x : AOp} {o : Op} (hp : plainOp x = true) (hc : chkOp P x o = true) : ∀ k, o ≠ .defer k := by
  intro k e
  subst e
  cases x <;> simp_all [chkOp, plainOp, bltOf]

theorem plain_step {n : Nat} {next : Act → World → Prop} {Q : Exit → Act → World → Prop} {x : AOp} {o : Oper} {v : AV} {m' : Mem} (hS : SimAt K X s c nt ro a w)
    (hp : plainOp x = true) (hc : chkOp P x o.op = true) (hd : (match o.dst with | some d => decide (d < nt) | none => true) = true) (hs : stepOp s.env s.m x = some (v, m'))
    (hn : ∀ c' a' w', Adv X c w c' w' → SimAt K X (putD s o.dst v m') c' nt ro a' w' → next a' w') : o.wpIn (FW ro) n P a w next Q := by
  refine ⟨fun _ _ => trivial, ?_⟩
  rw [show (FW ro).round = ro from rfl, Oper.semAt_eq ro _ o (chk_notDefer hp hc), eval_rho]
  obtain ⟨c', w', nx, e1, e2, e3, e4⟩ := stepOp_sound hS.rel hS.env hc hs
  rw [e1]
  obtain ⟨val, hv, rfl | ⟨rfl, rfl⟩⟩ := e2.cases
  · exact hn c' _ w' e3 (hS.put e3.le e4 hv hd)
  · exact hn c' _ w' e3 (hS.put e3.le e4 hv hd)

theorem call_step {n : Nat} {next : Act → World → Prop} {Q : Exit → Act → World → Prop} {call : AV → List AV → Mem → Option CRes} {f : Opd} {args : List Opd} {o : Oper} {r : CRes} (hK : CallOk P K call)
    (hS : SimAt K X s c nt ro a w) (hc : chkOp P (.call f args) o.op = true) (hd : (match o.dst with | some d => decide (d < nt) | none => true) = true)
    (hs : call (ev s.env f) (evs s.env args) s.m = some r)
    (hn : ∀ v m', r = .ret v m' → ∀ c' a' w', Adv X c w c' w' → SimAt K X (putD s o.dst v m') c' nt ro a' w' → next a' w')
    (hq : ∀ v m', r = .pan v m' → ∀ chain, PanR v chain → ∀ c' w', Adv X c w c' w' → SimAt K X { s with m := m' } c' nt ro a w' → Q (.panic chain) a w') :
    o.wpIn (FW ro) n P a w next Q := by
  refine ⟨fun _ _ => trivial, ?_⟩
  simp only [chkOp] at hc
  split at hc <;> try (cases hc; done)
  rename_i g args' ho
  obtain ⟨tys, ho⟩ := fnOf_ok ho
  simp only [Bool.and_eq_true] at hc
  have hf := chkOpd_ok hS.env hc.1
  have ha := chkOpds_ok hS.env hc.2
  obtain ⟨d, hd1, hg⟩ := hK _ _ _ _ hs c X w _ _ hS.rel hf ha
  rw [show (FW ro).round = ro from rfl, Oper.semAt_eq ro _ o (by intro k e; rw [ho] at e; cases e), eval_rho]
  have hrun : (execOp (rho a.tmps) o).run P w = (invoke d.target d.args).run P w := by
    have : (resolve (rho a.tmps) { callee := .value g, args := args'.toArray, argTypes := tys } o.type).run P w = .ok d w := by
      simpa [resolve] using hd1 w
    simp only [execOp, ho, Sem.run_bind, this, Result.andThen]
  rw [hrun]
  have fin : ∀ e w'', RetR K X c w r e w'' → (match e with
      | .returned v => next (a.put o.dst v) w''
      | .panicked chain => Q (.panic chain) a w''
      | .outgrown => LetsOut Q) := by
    intro e w'' hr
    cases e with
    | returned v =>
      obtain ⟨c', av, m', rfl, h1, h2, h3⟩ := hr
      exact hn av m' rfl c' _ w'' h1 (hS.put h1.le h2 h3 hd)
    | panicked chain =>
      obtain ⟨c', x, m', rfl, h1, h2, h3⟩ := hr
      exact hq x m' rfl chain h3 c' w'' h1 ⟨h2, hS.env.mono h1.le, hS.size, hS.defs.mono fun _ _ => DefR.mono h1.le, hS.round.mono h1.le⟩
    | outgrown => exact hr.elim
  rcases hg with ⟨f', as, e1, e2⟩ | ⟨_, l, fn, tm, as, bd, e1, e2⟩
  · rw [e1]
    exact ⟨fun h => (by cases h), callsIn_fw (CallsIn.mono (e2 (n - 1)) fun e w'' hr => by have := fin e w'' hr; cases e <;> exact this)⟩
  · rw [e1]
    exact ⟨fun h => (by cases h), roundIn_fw (RoundIn.mono (e2 (n - 1)) fun e w'' hr => by have := fin e w'' hr; cases e <;> exact this)⟩

end
end Go.AM
/- Control, second part: regions in order (own work). -/
namespace Go.AM
section
variable {P : Program} {K : Nat → AC → Code → Prop} {X : Fr} {c : Cx} {w : World} {nt : Nat} {ro : Option Nat} {s s' : St} {a : Act}

theorem defr_step {n : Nat} {next : Act → World → Prop} {Q : Exit → Act → World → Prop} {f : Opd} {args : List Opd} {o : Oper}
    (hS : SimAt K X s c nt ro a w) (hc : chkOp P (.defr f args) o.op = true) (hd : (match o.dst with | some d => decide (d < nt) | none => true) = true)
    (hr : s.round.isNone = true) (hf : (∃ g x y, ev s.env f = .r (.fn g x y)) ∨ ∃ g x y, ev s.env f = .fn g x y)
    (hn : ∀ a' w', Adv X c w c w' → SimAt K X (putD { s with defs := .call (ev s.env f) (evs s.env args) :: s.defs } o.dst .dead s.m) c nt ro a' w' → next a' w') :
    o.wpIn (FW ro) n P a w next Q := by
  refine ⟨fun _ _ => trivial, ?_⟩
  simp only [chkOp] at hc
  split at hc <;> try (cases hc; done)
  rename_i g args' ho
  obtain ⟨tys, ho⟩ := dfOf_ok ho
  simp only [Bool.and_eq_true] at hc
  have kf := chkOpd_ok hS.env hc.1
  have ka := chkOpds_ok hS.env hc.2
  have hro : ro = none := by
    have := hS.round
    cases hr' : s.round with
    | none => rw [hr'] at this; cases ro with
      | none => rfl
      | some _ => exact this.elim
    | some _ => rw [hr'] at hr; cases hr
  subst hro
  have hfv : ∃ fn first cap, rho a.tmps g = .func fn first cap := by
    rcases hf with ⟨g', x, y, e⟩ | ⟨g', x, y, e⟩
    · rw [e] at kf; simp only [VR, RVR] at kf; obtain ⟨vs, us, h, _⟩ := kf; exact ⟨_, _, _, h⟩
    · rw [e] at kf; simp only [VR] at kf; obtain ⟨vs, us, h, _⟩ := kf; exact ⟨_, _, _, h⟩
  obtain ⟨fn, first, cap, e⟩ := hfv
  rw [show (FW none).round = none from rfl, Oper.semAt_none, eval_rho]
  have hrun : (execOp (rho a.tmps) o).run P w = .ok (.defer { target := .fn fn cap, args := first ++ (args'.map (rho a.tmps)).toArray }) w := by
    simp [execOp, ho, resolve, e, Deferred.ofValue]
  rw [hrun]
  refine hn _ w (Adv.refl X c w) ?_
  have hS' : SimAt K X { s with defs := .call (ev s.env f) (evs s.env args) :: s.defs } c nt none { a with defers := { target := .fn fn cap, args := first ++ (args'.map (rho a.tmps)).toArray } :: a.defers } w :=
    ⟨hS.rel, hS.env, hS.size, .cons ⟨fn, first, cap, _, by rw [← e]; exact kf, ka, rfl⟩ hS.defs, hS.round⟩
  exact hS'.put (c' := c) (v := .dead) (Cx.Le.refl c) hS.rel trivial hd

theorem pan_step {n : Nat} {next : Act → World → Prop} {Q : Exit → Act → World → Prop} {x : Opd} {o : Oper} {t : TypeId} {v : Value}
    (hS : SimAt K X s c nt ro a w) (hc : chkOp P (.pan x) o.op = true) (hx : ev s.env x = .r (.lit (.iface t v)))
    (hq : Q (.panic [{ v := .iface t v, recovered := false }]) a w) : o.wpIn (FW ro) n P a w next Q := by
  refine ⟨fun _ _ => trivial, ?_⟩
  cases ho : o.op <;> simp only [ho, chkOp] at hc <;> try (cases hc; done)
  rename_i y
  have kx := chkOpd_ok hS.env hc
  rw [hx] at kx
  have kx : rho a.tmps y = .iface t v := kx
  rw [show (FW ro).round = ro from rfl, Oper.semAt_eq ro _ o (by intro k e; rw [ho] at e; cases e), eval_rho]
  have hrun : (execOp (rho a.tmps) o).run P w = .halt (.panic (.iface t v)) w := by
    simp [execOp, ho, kx, Instr.panic, goPanic, Sem.run]
  rw [hrun]
  exact hq

/-- One operation. -/
theorem op_sound {n : Nat} {call : AV → List AV → Mem → Option CRes} {iter : (St → Option (Out × St)) → St → Option (Out × St)} {x : AOp} {o : Oper} {ou : Out}
    {next : Act → World → Prop} {Q : Exit → Act → World → Prop} (hK : CallOk P K call)
    (hS : SimAt K X s c nt ro a w) (hrc : x ≠ .recov) (hc : chkOp P x o.op = true) (hd : (match o.dst with | some d => decide (d < nt) | none => true) = true)
    (hs : denOp { call := call, iter := iter } s o.dst x = some (ou, s'))
    (hn : ou = .norm → ∀ c' a' w', Adv X c w c' w' → SimAt K X s' c' nt ro a' w' → next a' w')
    (hq : ou ≠ .norm → ∀ e, OutR ou e → ∀ c' w', Adv X c w c' w' → SimAt K X s' c' nt ro a w' → Q e a w') :
    o.wpIn (FW ro) n P a w next Q := by
  by_cases hp : plainOp x = true
  · have : ∃ v m', stepOp s.env s.m x = some (v, m') ∧ ou = .norm ∧ s' = putD s o.dst v m' := by
      cases x <;> simp only [plainOp] at hp <;> (try (cases hp; done)) <;>
      · simp only [denOp] at hs
        split at hs <;> cases hs
        rename_i v m' hs
        exact ⟨v, m', hs, rfl, rfl⟩
    obtain ⟨v, m', e1, rfl, rfl⟩ := this
    exact plain_step hS hp hc hd e1 (hn rfl)
  · cases x <;> (try (exact absurd rfl hp))
    · simp [denOp, stepOp] at hs
    · rename_i f args
      simp only [denOp] at hs
      split at hs
      · rename_i v m' hcall
        simp only [Option.some.injEq, Prod.mk.injEq] at hs
        obtain ⟨rfl, rfl⟩ := hs
        exact call_step hK hS hc hd hcall (fun v' m'' e => by cases e; exact hn rfl) (fun v' m'' e => by cases e)
      · rename_i v m' hcall
        simp only [Option.some.injEq, Prod.mk.injEq] at hs
        obtain ⟨rfl, rfl⟩ := hs
        exact call_step hK hS hc hd hcall (fun v' m'' e => by cases e) (fun v' m'' e => by
          cases e
          exact fun chain hch c' w' hA hS' => hq (by simp) (.panic chain) hch c' w' hA hS')
      · cases hs
    · exact absurd rfl hrc
    · rename_i y
      simp only [denOp] at hs
      split at hs <;> try (cases hs; done)
      rename_i t v hx
      simp only [Option.some.injEq, Prod.mk.injEq] at hs
      obtain ⟨rfl, rfl⟩ := hs
      exact pan_step hS hc hx (hq (by simp) (.panic _) ⟨_, rfl, rfl⟩ c w (Adv.refl X c w) hS)
    · rename_i f args
      simp only [denOp] at hs
      split at hs <;> try (cases hs; done)
      rename_i hr
      split at hs <;> try (cases hs; done)
      · rename_i g x y hx
        simp only [Option.some.injEq, Prod.mk.injEq] at hs
        obtain ⟨rfl, rfl⟩ := hs
        exact defr_step hS hc hd hr (.inl ⟨g, x, y, hx⟩) fun a' w' hA hS' => hn rfl c a' w' hA hS'
      · rename_i g x y hx
        simp only [Option.some.injEq, Prod.mk.injEq] at hs
        obtain ⟨rfl, rfl⟩ := hs
        exact defr_step hS hc hd hr (.inr ⟨g, x, y, hx⟩) fun a' w' hA hS' => hn rfl c a' w' hA hS'

def noRec (l : List AI) : Bool := l.all fun i => match i.o with | .recov => false | _ => true

theorem reg_sound {os : Array Oper} {n : Nat} {call : AV → List AV → Mem → Option CRes} {iter : (St → Option (Out × St)) → St → Option (Out × St)} (hK : CallOk P K call) {c0 : Cx} {w0 : World} :
    ∀ (l : List AI) (r : List Oper) (k : Nat), chkIs P os nt l r = true → noRec l = true → (∀ i, r[i]? = os[k + i]?) → ∀ {s s' : St} {ou : Out} {c : Cx} {a : Act} {w : World},
    denIs { call := call, iter := iter } s l = some (ou, s') → Adv X c0 w0 c w → SimAt K X s c nt ro a w →
    wpOpsIn (FW ro) n P os (QR K X c0 w0 nt ro ou s') (List.range' k r.length) a w := by
  intro l
  induction l with
  | nil =>
    intro r k hc _ hr s s' ou c a w hs hA hS
    cases r with
    | cons => simp [chkIs] at hc
    | nil =>
    simp only [denIs, Option.some.injEq, Prod.mk.injEq] at hs
    obtain ⟨rfl, rfl⟩ := hs
    simp only [List.length_nil, List.range'_zero, wpOpsIn]
    exact ⟨trivial, c, hA, hS⟩
  | cons i l ih =>
    intro r k hc hrec hr s s' ou c a w hs hA hS
    cases r with
    | nil => simp [chkIs] at hc
    | cons o r =>
    simp only [chkIs, Bool.and_eq_true] at hc
    obtain ⟨hc1, hc2⟩ := hc
    simp only [chkAI, Bool.and_eq_true, beq_iff_eq] at hc1
    obtain ⟨⟨⟨hg, hdst⟩, hd⟩, hop⟩ := hc1
    simp only [noRec, List.all_cons, Bool.and_eq_true] at hrec
    have ho : os[k]? = some o := by have := hr 0; simpa using this.symm
    have hr' : ∀ i, r[i]? = os[k + 1 + i]? := fun i => by have := hr (i + 1); rw [List.getElem?_cons_succ] at this; rw [this]; congr 1; omega
    simp only [List.length_cons, List.range'_succ, wpOpsIn, ho]
    simp only [denIs, denI] at hs
    cases hw : wants s.env i.g with
    | none => simp [hw] at hs
    | some b =>
    rw [wants_ok hS.env hg hw]
    cases b with
    | false =>
      simp only [hw] at hs
      simp only [Bool.false_eq_true, if_false]
      refine ⟨fun _ _ => trivial, ?_⟩
      rw [← hdst]
      exact ih r (k + 1) hc2 hrec.2 hr' hs hA (hS.put (c' := c) (v := unit) (val := undef) (Cx.Le.refl c) hS.rel (by simp only [unit, VR]; exact ⟨[], rfl, trivial⟩) hd)
    | true =>
      simp only [hw] at hs
      simp only [if_true]
      cases hs1 : denOp { call := call, iter := iter } s i.dst i.o with
      | none => simp [hs1] at hs
      | some res =>
      obtain ⟨ou1, s1⟩ := res
      rw [hdst] at hs1 hd
      have hrc : i.o ≠ .recov := by intro e; rw [e] at hrec; simp at hrec
      refine op_sound hK hS hrc hop hd hs1 (fun e c' a' w' hA' hS' => ?_) (fun hne e hoe c' w' hA' hS' => ?_)
      · subst e
        rw [hdst, hs1] at hs
        exact ih r (k + 1) hc2 hrec.2 hr' hs (hA.trans hA') hS'
      · rw [hdst, hs1] at hs
        have : ou = ou1 ∧ s' = s1 := by
          cases ou1 <;> simp at hs hne <;> exact ⟨hs.1.symm, hs.2.symm⟩
        obtain ⟨rfl, rfl⟩ := this
        exact ⟨hoe, c', hA.trans hA', hS'⟩

end
end Go.AM
/- Control, third part: code (own work). -/
namespace Go.AM

abbrev DChk := Array Oper → Nat → List AI → Nat → List (Nat × Nat) → List Nat → Bool

section
variable (P : Program) (D : DChk)
def isKeep : AC → Bool
  | .keep _ => true
  | _ => false

def chk (nt : Nat) : AC → Code → Bool
  | .skip, c => match c with | .skip => true | _ => false
  | .reg ops, c => match c with | .region _ os false => chkIs P os nt ops os.toList && noRec ops | _ => false
  | .draw ops slots pairs gc, c => match c with | .region _ os true => D os nt ops slots pairs gc | _ => false
  | .seq a b, c =>
    if isKeep a then chk nt b c
    else if isKeep b then chk nt a c
    else match c with | .seq x y => chk nt a x && chk nt b y | _ => false
  | .cond x a b, c => match c with | .cond y p q => chkOpd x y && chk nt a p && chk nt b q | _ => false
  | .block id a, c => match c with | .block id' p => id == id' && chk nt a p | _ => false
  | .loop _ a, c => match c with | .loop p => chk nt a p | _ => false
  | .rangeF f ps as bd, c => match c with
    | .rangeFunc g ps' as' bd' => chkOpd f g && ps'.toList == ps && ps.all (fun p => decide (p < nt)) && chk nt as as' && chk nt bd bd'
    | _ => false
  | .exit id, c => match c with | .exit id' => id == id' | _ => false
  | .ret, c => match c with | .ret => true | _ => false
  | .label, c => match c with | .label _ => true | _ => false
  | .scope a, c => match c with | .scope p => chk nt a p | _ => false
  | .keep _, _ => false
end

/-- Which code stands for which. -/
def KC (P : Program) (D : DChk) : Nat → AC → Code → Prop := fun n a c => chk P D n a c = true

/-- What was written is in the list. -/
def WrM (m m' : Mem) : Prop := m.h.length ≤ m'.h.length ∧ ∃ ws, m'.wr = ws ++ m.wr ∧ ∀ i, i < m.h.length → i ∉ ws → m'.h[i]? = m.h[i]?
def WrC (call : AV → List AV → Mem → Option CRes) : Prop := ∀ f args m, (∀ v m', call f args m = some (.ret v m') → WrM m m') ∧ (∀ v m', call f args m = some (.pan v m') → WrM m m')

/-- A region that draws its order is borne out. -/
def DrawOk (P : Program) (D : DChk) : Prop :=
  ∀ (K : Nat → AC → Code → Prop) (call : AV → List AV → Mem → Option CRes) (iter : (St → Option (Out × St)) → St → Option (Out × St)), CallOk P K call → WrC call →
  ∀ (X : Fr) (id : Nat) (os : Array Oper) (nt : Nat) (ops : List AI) (slots : Nat) (pairs : List (Nat × Nat)) (gc : List Nat), D os nt ops slots pairs gc = true →
  ∀ (s s' : St) (o : Out) (c : Cx) (a : Act) (w : World) (ro : Option Nat) (n : Nat), den { call := call, iter := iter } (.draw ops slots pairs gc) s = some (o, s') → SimAt K X s c nt ro a w →
    (Code.region id os true).wpIn (FW ro) n P (QR K X c w nt ro o s') a w

theorem wpIn_loop' {F : Fence} {n : Nat} {P : Program} {Q : Exit → Act → World → Prop} {c : Code} (I : Nat → Act → World → Prop) (h0 : ∀ a w, ¬ I 0 a w)
    (round : ∀ k a w, I (k + 1) a w → c.wpIn F n P (Exit.then (I k) Q) a w) {k : Nat} {a : Act} {w : World} (hI : I k a w) : (Code.loop c).wpIn F n P Q a w := by
  intro b kk cs hro hb hr
  have key : ∀ j a w, I j a w →
      ∃ e a' w', Q e a' w' ∧ ArrivesIn (Machine.fenced P F) P (lone (b.atR a (.code c :: .inLoop c :: kk)) cs w) b kk cs e a' w' := by
    intro j
    induction j with
    | zero => intro a w hI; exact absurd hI (h0 a w)
    | succ j ih =>
      intro a w hI
      obtain ⟨e, a₁, w₁, hq, harr⟩ := round j a w hI b (.inLoop c :: kk) cs hro hb hr
      cases e with
      | normal =>
        obtain ⟨e₂, a₂, w₂, hq₂, harr₂⟩ := ih a₁ w₁ hq
        exact ⟨e₂, a₂, w₂, hq₂, .of_steps (StepsIn.trans harr (.one (fenced_calm hb hr rfl) stepR_inLoop)) harr₂⟩
      | exit id => exact ⟨_, a₁, w₁, hq, .pass (x := .inLoop c) rfl (fun _ _ => .inl (by simp)) harr⟩
      | goto l => exact ⟨_, a₁, w₁, hq, .pass (x := .inLoop c) rfl (fun _ _ => .inl (by simp)) harr⟩
      | ret => exact ⟨_, a₁, w₁, hq, .pass (x := .inLoop c) rfl (fun _ _ => .inl (by simp)) harr⟩
      | panic ch => exact ⟨_, a₁, w₁, hq, .pass (x := .inLoop c) rfl (fun _ _ => .inl (by simp)) harr⟩
      | outgrown => exact ⟨_, a₁, w₁, hq, .pass (x := .inLoop c) rfl (fun _ _ => .inl (by simp)) harr⟩
  obtain ⟨e, a', w', hq, harr⟩ := key k a w hI
  exact ⟨e, a', w', hq, .of_steps (.one (fenced_calm hb hr rfl) stepR_loop) harr⟩

section
variable {P : Program} {D : DChk} {K : Nat → AC → Code → Prop} {X : Fr} {c : Cx} {w : World} {nt : Nat} {ro : Option Nat} {s s' : St} {a : Act}

theorem SimAt.keepEnv (h : SimAt K X s c nt ro a w) (live : List Nat) : SimAt K X { s with env := ekeep live s.env } c nt ro a w :=
  ⟨h.rel, h.env.keep live, h.size, h.defs, h.round⟩

theorem QR.shift {c0 : Cx} {w0 : World} (hA : Adv X c0 w0 c w) {o : Out} {e : Exit} {a' : Act} {w' : World} (h : QR K X c w nt ro o s' e a' w') : QR K X c0 w0 nt ro o s' e a' w' := by
  obtain ⟨h1, c', h2, h3⟩ := h
  exact ⟨h1, c', hA.trans h2, h3⟩

theorem OutR.normal {o : Out} (h : OutR o .normal) : o = .norm := by cases o <;> first | rfl | exact h.elim
theorem OutR.norm {e : Exit} (h : OutR .norm e) : e = .normal := by cases e <;> first | rfl | exact h.elim

/-- Off the end, the next; else as it is. -/
theorem QR.then {o : Out} {e : Exit} {a' : Act} {w' : World} {next : Act → World → Prop} {Q : Exit → Act → World → Prop} (h : QR K X c w nt ro o s' e a' w')
    (hn : o = .norm → ∀ c', Adv X c w c' w' → SimAt K X s' c' nt ro a' w' → next a' w') (hq : o ≠ .norm → Q e a' w') : Exit.then next Q e a' w' := by
  obtain ⟨h1, c', h2, h3⟩ := h
  cases e with
  | normal => exact hn h1.normal c' h2 h3
  | exit id => exact hq (by rintro rfl; exact h1.elim)
  | goto id => exact hq (by rintro rfl; exact h1.elim)
  | ret => exact hq (by rintro rfl; exact h1.elim)
  | panic ch => exact hq (by rintro rfl; exact h1.elim)
  | outgrown => exact hq (by rintro rfl; exact h1.elim)

end
end Go.AM
/- Control, fourth part: code is borne out (own work). -/
namespace Go.AM
section
variable {P : Program} {D : DChk} {X : Fr} {nt : Nat}

theorem stepR_scope {P : Program} {b : Frame} {a : Act} {k : List Item} {cs : List Frame} {w : World} {c : Code} :
    step P (lone (b.atR a (.code (.scope c) :: k)) cs w) = .next (lone (b.atR a (.code c :: .inScope c :: k)) cs w) :=
  step_lone_go (by simp [stepG, stepG.exec, Frame.atR])
theorem stepR_inScope {P : Program} {b : Frame} {a : Act} {k : List Item} {cs : List Frame} {w : World} {c : Code} :
    step P (lone (b.atR a (.inScope c :: k)) cs w) = .next (lone (b.atR a k) cs w) :=
  step_lone_go (by simp [stepG, stepG.exec, Frame.atR])

theorem wpIn_scope {F : Fence} {n : Nat} {P : Program} {Q : Exit → Act → World → Prop} {a : Act} {w : World} {c : Code} (hQ : ∀ l a w, ¬ Q (.goto l) a w) (h : c.wpIn F n P Q a w) :
    (Code.scope c).wpIn F n P Q a w := by
  intro b k cs hro hb hr
  have h0 : (lone (b.atR a (.code (.scope c) :: k)) cs w).fenced P F := fenced_calm hb hr rfl
  obtain ⟨e, a₁, w₁, hq, harr⟩ := h b (.inScope c :: k) cs hro hb hr
  cases e with
  | normal => exact ⟨.normal, a₁, w₁, hq, .head h0 stepR_scope (StepsIn.trans harr (.one (fenced_calm hb hr rfl) stepR_inScope))⟩
  | exit id =>
    have hx : exitTo id (.inScope c :: k) = exitTo id k := by simp [exitTo]
    exact ⟨_, a₁, w₁, hq, fun k' hk => .head h0 stepR_scope (harr.1 k' (by rw [hx]; exact hk)),
      fun hr' hk => let ⟨k₁, h1, h2⟩ := harr.2 hr' (by rw [hx]; exact hk); ⟨k₁, h1, .head h0 stepR_scope h2⟩⟩
  | goto l => exact (hQ _ _ _ hq).elim
  | ret => exact ⟨_, a₁, w₁, hq, .of_steps (.one h0 stepR_scope) harr⟩
  | panic ch => exact ⟨_, a₁, w₁, hq, .of_steps (.one h0 stepR_scope) harr⟩
  | outgrown => exact ⟨_, a₁, w₁, hq, .of_steps (.one h0 stepR_scope) harr⟩

theorem jmp_wp {K : Nat → AC → Code → Prop} {F : Fence} {n : Nat} {c0 : Cx} {w0 w : World} {ro : Option Nat} {s' : St} {a : Act} {pend : Option Jmp} (h : ∃ c', Adv X c0 w0 c' w ∧ SimAt K X s' c' nt ro a w) :
    match pend.map Jmp.code with
    | none => QR K X c0 w0 nt ro (jmpOut pend) s' .normal a w
    | some c => c.wpIn F n P (QR K X c0 w0 nt ro (jmpOut pend) s') a w := by
  cases pend with
  | none => exact ⟨trivial, h⟩
  | some j => cases j with
    | exit id => exact wpIn_exit ⟨rfl, h⟩
    | ret => exact wpIn_ret ⟨trivial, h⟩

theorem range_sound {call : AV → List AV → Mem → Option CRes} {iter : (St → Option (Out × St)) → St → Option (Out × St)} (hK : CallOk P (KC P D) call)
    {f : Opd} {ps : List Nat} {as bd : AC} {g : Operand} {ps' : Array Tmp} {as' bd' : Code} (hf : chkOpd f g = true) (hps : ps'.toList = ps) (hpl : ∀ p ∈ ps, p < nt)
    (hA : chk P D nt as as' = true) (hB : chk P D nt bd bd' = true) {s s' : St} {o : Out} {c : Cx} {a : Act} {w : World} {ro : Option Nat} {n : Nat}
    (hs : den { call := call, iter := iter } (.rangeF f ps as bd) s = some (o, s')) (hS : SimAt (KC P D) X s c nt ro a w) :
    (Code.rangeFunc g ps' as' bd').wpIn (FW ro) n P (QR (KC P D) X c w nt ro o s') a w := by
  simp only [den] at hs
  split at hs <;> try (cases hs; done)
  rename_i hrok
  have hy : isYld (ev s.env f) = false := by
    split at hs
    · cases hs
    · rename_i hne
      cases hh : ev s.env f <;> first | rfl | exact absurd hh (hne _)
  have hs' : (match call (ev s.env f) [.yld (loopAt s)] { s.m with h := loopHeap s ps as bd } with
    | some (.ret _ m) =>
      match m.h[loopAt s]? with
      | some (.loop _ _ _ _ st pend) =>
        if st = .busy then none else some (jmpOut pend, { s with m := { h := m.h.set (loopAt s) .dead, wr := loopAt s :: m.wr }, defs := loopDefs s })
      | _ => none
    | some (.pan v m) => some (.pan v, { s with m := m, defs := loopDefs s })
    | none => none) = some (o, s') := by
    split at hs
    · cases hs
    · exact hs
  clear hs
  have hfv := chkOpd_ok hS.env hf
  refine wpIn_rangeFunc fun fn _ => ?_
  -- the two cases of entering
  have enter : ∃ (l : Nat) (mark : List Deferred) (w1 : World) (c1 : Cx) (rec : Loop), (Instr.enterLoop fn a.tmps ps' as' bd' ro).run P w = .ok (l, mark) w1 ∧ Adv X c w c1 w1 ∧
      Rel (KC P D) c1 X (loopHeap s ps as bd) w1 ∧ All2 (DefR c1) (loopDefs s) (mark ++ a.defers) ∧ loopAt s < c1.n ∧ c1.G (loopAt s) = 0 ∧ c1.β (loopAt s) = l := by
    have hn := hS.rel.len
    cases hr : s.round with
    | none =>
      have hro : ro = none := by
        have := hS.round; rw [hr] at this
        cases ro with
        | none => rfl
        | some _ => exact this.elim
      subst hro
      obtain ⟨a1, r1⟩ := Rel.new hS.rel .dfr (.deferred (some [])) 0 ⟨by simp [Cx.push], rfl⟩
      obtain ⟨a2, r2⟩ := Rel.new r1 (.loop s.env ps as bd .ready none)
        (.loop { state := .ready, pending := none, fn := fn, tmps := a.tmps, params := ps', assign := as', body := bd', defers := w.heap.size }) 0
        ⟨by simp [Cx.push], _, rfl, rfl, rfl, hS.env.mono (a1.le.trans (Cx.push_le _ _ _)), hps, fun p hp => Nat.lt_of_lt_of_le (hpl p hp) hS.size, nt, hS.size, hA, hB⟩
      refine ⟨w.heap.size + 1, [{ target := .collected w.heap.size, args := #[] }], _, _, default, run_enterLoop_outer _ _ _ _ _, a1.trans a2, ?_, ?_, ?_, ?_, ?_⟩
      · simpa [loopHeap, hr] using r2
      · simp only [loopDefs, hr, Option.isNone_none, if_true, List.cons_append, List.nil_append]
        refine .cons ⟨by simp [Cx.push]; omega, w.heap.size, rfl, fun _ => ?_⟩ (hS.defs.mono fun _ _ => DefR.mono (a1.le.trans a2.le))
        rw [hn]; simp [Cx.push, upd]
      · simp [loopAt, hr, Cx.push]; omega
      · simp [loopAt, hr, Cx.push, hn]
      · simp [loopAt, hr, Cx.push, hn, alloc_size]
    | some i =>
      have hh := hS.round
      rw [hr] at hh
      cases ro with
      | none => exact hh.elim
      | some l0 =>
      simp only [roundOk, hr] at hrok
      obtain ⟨hi, hl⟩ := hh
      have : ∃ env q1 q2 q3 st pe, s.m.h[i]? = some (.loop env q1 q2 q3 st pe) := by
        split at hrok
        · rename_i h; exact ⟨_, _, _, _, _, _, h⟩
        · simp at hrok
      obtain ⟨env, q1, q2, q3, st, pe, hb⟩ := this
      obtain ⟨ob, hob, hg, l', rfl, _⟩ := hS.rel.blk i _ hb trivial
      have hl := hl hg
      subst hl
      obtain ⟨a2, r2⟩ := Rel.new hS.rel (.loop s.env ps as bd .ready none)
        (.loop { state := .ready, pending := none, fn := fn, tmps := a.tmps, params := ps', assign := as', body := bd', defers := l'.defers }) 0
        ⟨by simp [Cx.push], _, rfl, rfl, rfl, hS.env.mono (Cx.push_le _ _ _), hps, fun p hp => Nat.lt_of_lt_of_le (hpl p hp) hS.size, nt, hS.size, hA, hB⟩
      refine ⟨w.heap.size, [], _, _, default, run_enterLoop_inner hob _ _ _ _ _, a2, ?_, ?_, ?_, ?_, ?_⟩
      · simpa [loopHeap, hr] using r2
      · simp only [loopDefs, hr, Option.isNone_some, Bool.false_eq_true, if_false, List.nil_append]
        exact hS.defs.mono fun _ _ => DefR.mono a2.le
      · simp [loopAt, hr, Cx.push]; omega
      · simp [loopAt, hr, Cx.push, hn]
      · simp [loopAt, hr, Cx.push, hn]
  obtain ⟨l, mark, w1, c1, _, e1, A1, R1, D1, n1, g1, b1⟩ := enter
  cases hcall : call (ev s.env f) [.yld (loopAt s)] { s.m with h := loopHeap s ps as bd } with
  | none => simp [hcall] at hs'
  | some r =>
  obtain ⟨d, hd, hgo⟩ := hK _ _ _ _ hcall c1 X w1 (rho a.tmps g) [.func (.yield l) #[] #[]] R1 (VR.mono A1.le _ _ hfv)
    ⟨⟨n1, l, rfl, fun _ => b1.symm⟩, trivial⟩
  rw [hy] at hgo
  have hgo : ∃ f as, (invoke d.target d.args).run P w1 = .ok (.enter f as) w1 ∧ ∀ n, CallsIn (FW none) n P f as w1 (RetR (KC P D) X c1 w1 r) := by
    rcases hgo with h | ⟨h, _⟩
    · exact h
    · cases h
  obtain ⟨f', as1, i1, i2⟩ := hgo
  refine ⟨l, mark, w1, d, w1, f', as1, w1, e1, ?_, fun _ _ => trivial, i1, fun h => (by cases h), ?_⟩
  · have := hd w1
    rw [eval_rho]
    simpa [resolve, rho] using this
  · refine callsIn_fw (CallsIn.mono (i2 (n - 1)) fun e w2 hr => ?_)
    cases e with
    | outgrown => exact hr.elim
    | panicked chain =>
      obtain ⟨c2, x, m', rfl, A2, R2, hp⟩ := hr
      simp only [hcall, Option.some.injEq, Prod.mk.injEq] at hs'
      obtain ⟨rfl, rfl⟩ := hs'
      exact ⟨hp, c2, A1.trans A2, R2, hS.env.mono (A1.le.trans A2.le), hS.size, D1.mono fun _ _ => DefR.mono A2.le, hS.round.mono (A1.le.trans A2.le)⟩
    | returned v =>
      obtain ⟨c2, av, m', rfl, A2, R2, hv⟩ := hr
      simp only [hcall] at hs'
      split at hs' <;> try (cases hs'; done)
      rename_i env q1 q2 q3 st pend hb
      split at hs' <;> try (cases hs'; done)
      rename_i hbusy
      simp only [Option.some.injEq, Prod.mk.injEq] at hs'
      obtain ⟨rfl, rfl⟩ := hs'
      obtain ⟨ob, hob, hg, lr, rfl, hst, hpe, _⟩ := R2.blk _ _ hb trivial
      have hβ : c2.β (loopAt s) = l := by rw [(A2.le.same _ n1 (by omega)).1, b1]
      rw [hβ] at hob
      have hnb : lr.state ≠ .busy := by rw [hst]; cases st <;> simp [LSt.state] at hbusy ⊢
      refine ⟨pend.map Jmp.code, w2.putObj l (.loop { lr with state := .exhausted }), by rw [← hpe]; exact run_endLoop hob hnb, ?_⟩
      refine jmp_wp (F := FW ro) (n := n) ⟨c2, ?_⟩
      have hlt : l < w2.heap.size := (Array.getElem?_eq_some_iff.1 hob).1
      obtain ⟨A3, R3⟩ := Rel.upd R2 (b := .dead) (o := .loop { lr with state := .exhausted }) (w' := w2.putObj l (.loop { lr with state := .exhausted })) hb trivial
        (fun k hk => by rw [hβ] at hk; exact World.putObj_heap_other hk) (by rw [hβ]; exact World.putObj_heap_same hlt) (by simp [World.putObj]) rfl rfl rfl trivial
      exact ⟨(A1.trans A2).trans A3, R3, hS.env.mono (A1.le.trans A2.le), hS.size, D1.mono fun _ _ => DefR.mono A2.le, hS.round.mono (A1.le.trans A2.le)⟩

theorem qr_noGoto {K : Nat → AC → Code → Prop} {c : Cx} {w : World} {ro : Option Nat} {o : Out} {s' : St} (l : Nat) (a : Act) (w' : World) : ¬ QR K X c w nt ro o s' (.goto l) a w' := by
  rintro ⟨h, _⟩
  cases o <;> exact h.elim

theorem den_sound {call : AV → List AV → Mem → Option CRes} {N : Nat} (hD : DrawOk P D) (hK : CallOk P (KC P D) call) (hW : WrC call) : ∀ (ac : AC) (code : Code), chk P D nt ac code = true →
    ∀ {s s' : St} {o : Out} {c : Cx} {a : Act} {w : World} {ro : Option Nat} {n : Nat}, den { call := call, iter := iterN N } ac s = some (o, s') → SimAt (KC P D) X s c nt ro a w →
    code.wpIn (FW ro) n P (QR (KC P D) X c w nt ro o s') a w := by
  intro ac
  induction ac with
  | skip =>
    intro code hc s s' o c a w ro n hs hS
    simp only [chk] at hc
    split at hc <;> try (cases hc; done)
    simp only [den, Option.some.injEq, Prod.mk.injEq] at hs
    obtain ⟨rfl, rfl⟩ := hs
    exact wpIn_skip ⟨trivial, c, Adv.refl X c w, hS⟩
  | label =>
    intro code hc s s' o c a w ro n hs hS
    simp only [chk] at hc
    split at hc <;> try (cases hc; done)
    simp only [den, Option.some.injEq, Prod.mk.injEq] at hs
    obtain ⟨rfl, rfl⟩ := hs
    exact wpIn_label ⟨trivial, c, Adv.refl X c w, hS⟩
  | ret =>
    intro code hc s s' o c a w ro n hs hS
    simp only [chk] at hc
    split at hc <;> try (cases hc; done)
    simp only [den, Option.some.injEq, Prod.mk.injEq] at hs
    obtain ⟨rfl, rfl⟩ := hs
    exact wpIn_ret ⟨trivial, c, Adv.refl X c w, hS⟩
  | exit id =>
    intro code hc s s' o c a w ro n hs hS
    simp only [chk] at hc
    split at hc <;> try (cases hc; done)
    simp only [den, Option.some.injEq, Prod.mk.injEq] at hs
    obtain ⟨rfl, rfl⟩ := hs
    exact wpIn_exit ⟨by simpa [OutR] using hc, c, Adv.refl X c w, hS⟩
  | keep live => intro code hc; simp [chk] at hc
  | scope b ih =>
    intro code hc s s' o c a w ro n hs hS
    simp only [chk] at hc
    split at hc <;> try (cases hc; done)
    exact wpIn_scope (fun l a w => qr_noGoto l a w) (ih _ hc (by simpa only [den] using hs) hS)
  | reg ops =>
    intro code hc s s' o c a w ro n hs hS
    simp only [chk] at hc
    split at hc <;> try (cases hc; done)
    rename_i id os
    simp only [Bool.and_eq_true] at hc
    refine wpIn_region ?_
    have := reg_sound (X := X) (ro := ro) (n := n) hK ops os.toList 0 hc.1 hc.2 (fun i => by simp) (by simpa only [den] using hs) (Adv.refl X c w) hS
    rw [List.range_eq_range']
    simpa using this
  | draw ops slots pairs gc =>
    intro code hc s s' o c a w ro n hs hS
    simp only [chk] at hc
    split at hc <;> try (cases hc; done)
    exact hD _ call (iterN N) hK hW X _ _ nt ops slots pairs gc hc s s' o c a w ro n hs hS
  | seq x y ihx ihy =>
    intro code hc s s' o c a w ro n hs hS
    simp only [chk] at hc
    split at hc
    · rename_i hk
      cases x <;> simp only [isKeep] at hk <;> try (cases hk; done)
      simp only [den] at hs
      exact ihy code hc hs (hS.keepEnv _)
    · split at hc
      · rename_i hk
        cases y <;> simp only [isKeep] at hk <;> try (cases hk; done)
        rename_i live
        simp only [den] at hs
        cases hx : den { call := call, iter := iterN N } x s with
        | none => simp [hx] at hs
        | some r =>
        obtain ⟨o1, s1⟩ := r
        refine wpIn_mono (ihx code hc hx hS) fun e a' w' hq => ?_
        obtain ⟨h1, c', h2, h3⟩ := hq
        rw [hx] at hs
        cases o1 <;> simp only [Option.some.injEq, Prod.mk.injEq] at hs <;> obtain ⟨rfl, rfl⟩ := hs
        · exact ⟨h1, c', h2, h3.keepEnv live⟩
        · exact ⟨h1, c', h2, h3⟩
        · exact ⟨h1, c', h2, h3⟩
        · exact ⟨h1, c', h2, h3⟩
      · split at hc <;> try (cases hc; done)
        rename_i p q
        simp only [Bool.and_eq_true] at hc
        simp only [den] at hs
        cases hx : den { call := call, iter := iterN N } x s with
        | none => simp [hx] at hs
        | some r =>
        obtain ⟨o1, s1⟩ := r
        rw [hx] at hs
        refine wpIn_seq (wpIn_mono (ihx p hc.1 hx hS) fun e a' w' hq => ?_)
        refine QR.then hq (fun ho c' hA hS' => ?_) (fun ho => ?_)
        · subst ho
          exact wpIn_mono (ihy q hc.2 hs hS') fun e a w h => h.shift hA
        · have : o = o1 ∧ s' = s1 := by
            cases o1 <;> simp only [Option.some.injEq, Prod.mk.injEq] at hs ho <;> first | exact absurd rfl ho | exact ⟨hs.1.symm, hs.2.symm⟩
          obtain ⟨rfl, rfl⟩ := this
          exact hq
  | cond x y z ihy ihz =>
    intro code hc s s' o c a w ro n hs hS
    simp only [chk] at hc
    split at hc <;> try (cases hc; done)
    rename_i g p q
    simp only [Bool.and_eq_true] at hc
    simp only [den] at hs
    split at hs <;> try (cases hs; done)
    rename_i t ht
    have hv := bool?_ok ht (chkOpd_ok hS.env hc.1.1)
    refine wpIn_cond (t := t) (by rw [eval_rho]; exact hv) ?_
    cases t
    · exact ihz q hc.2 hs hS
    · exact ihy p hc.1.2 hs hS
  | block id x ih =>
    intro code hc s s' o c a w ro n hs hS
    simp only [chk] at hc
    split at hc <;> try (cases hc; done)
    rename_i id' p
    simp only [Bool.and_eq_true, beq_iff_eq] at hc
    obtain ⟨rfl, hc⟩ := hc
    simp only [den] at hs
    cases hx : den { call := call, iter := iterN N } x s with
    | none => simp [hx] at hs
    | some r =>
    obtain ⟨o1, s1⟩ := r
    rw [hx] at hs
    refine wpIn_block (wpIn_mono (ih p hc hx hS) fun e a' w' hq => ?_)
    obtain ⟨h1, h2⟩ := hq
    cases o1 with
    | norm =>
      simp only [Option.some.injEq, Prod.mk.injEq] at hs; obtain ⟨rfl, rfl⟩ := hs
      cases h1.norm; exact ⟨h1, h2⟩
    | exit id' =>
      have : e = .exit id' := by cases e <;> first | (cases h1; rfl) | exact h1.elim
      subst this
      simp only [Exit.inBlock]
      simp only at hs
      split at hs <;> simp only [Option.some.injEq, Prod.mk.injEq] at hs <;> obtain ⟨rfl, rfl⟩ := hs
      · rename_i h; rw [if_pos h]; exact ⟨trivial, h2⟩
      · rename_i h; rw [if_neg h]; exact ⟨h1, h2⟩
    | ret =>
      simp only [Option.some.injEq, Prod.mk.injEq] at hs; obtain ⟨rfl, rfl⟩ := hs
      cases e <;> first | exact ⟨h1, h2⟩ | exact h1.elim
    | pan v =>
      simp only [Option.some.injEq, Prod.mk.injEq] at hs; obtain ⟨rfl, rfl⟩ := hs
      cases e <;> first | exact ⟨h1, h2⟩ | exact h1.elim
  | loop live x ih =>
    intro code hc s s' o c a w ro n hs hS
    simp only [chk] at hc
    split at hc <;> try (cases hc; done)
    rename_i p
    simp only [den] at hs
    refine wpIn_loop' (fun k a' w' => ∃ s1 c1, iterN k (fun s => den { call := call, iter := iterN N } x { s with env := ekeep live s.env }) s1 = some (o, s') ∧ Adv X c w c1 w' ∧ SimAt (KC P D) X s1 c1 nt ro a' w')
      (fun a' w' h => by obtain ⟨s1, c1, h, _⟩ := h; simp [iterN] at h) ?_ (k := N) ⟨s, c, hs, Adv.refl X c w, hS⟩
    rintro k a1 w1 ⟨s1, c1, h1, h2, h3⟩
    simp only [iterN] at h1
    cases hx : den { call := call, iter := iterN N } x { s1 with env := ekeep live s1.env } with
    | none => simp [hx] at h1
    | some r =>
    obtain ⟨o1, s2⟩ := r
    rw [hx] at h1
    refine wpIn_mono (ih p hc hx (h3.keepEnv live)) fun e a' w' hq => ?_
    refine QR.then hq (fun ho c' hA hS' => ?_) (fun ho => ?_)
    · subst ho
      exact ⟨s2, c', h1, h2.trans hA, hS'⟩
    · have : o = o1 ∧ s' = s2 := by
        cases o1 <;> simp only [Option.some.injEq, Prod.mk.injEq] at h1 ho <;> first | exact absurd rfl ho | exact ⟨h1.1.symm, h1.2.symm⟩
      obtain ⟨rfl, rfl⟩ := this
      exact hq.shift h2
  | rangeF f ps as bd _ _ =>
    intro code hc s s' o c a w ro n hs hS
    simp only [chk] at hc
    split at hc <;> try (cases hc; done)
    rename_i g ps' as' bd'
    simp only [Bool.and_eq_true, beq_iff_eq, List.all_eq_true, decide_eq_true_eq] at hc
    obtain ⟨⟨⟨⟨h1, h2⟩, h3⟩, h4⟩, h5⟩ := hc
    exact range_sound (iter := iterN N) hK h1 h2 h3 h4 h5 hs hS

end
end Go.AM
/- What a call hands back: blocks that were laid in it and are read alone from now on become frozen trees (own work). -/
namespace Go.AM


theorem WrM.refl (m : Mem) : WrM m m := ⟨Nat.le_refl _, [], rfl, fun _ _ _ => rfl⟩
theorem WrM.trans {a b c : Mem} (h : WrM a b) (k : WrM b c) : WrM a c := by
  obtain ⟨h1, ws, h2, h3⟩ := h
  obtain ⟨k1, us, k2, k3⟩ := k
  refine ⟨Nat.le_trans h1 k1, us ++ ws, by rw [k2, h2, List.append_assoc], fun i hi hn => ?_⟩
  rw [List.mem_append] at hn
  rw [k3 i (Nat.lt_of_lt_of_le hi h1) (fun h => hn (.inl h)), h3 i hi (fun h => hn (.inr h))]

mutual
theorem lt0_of_VR {c : Cx} : ∀ (v : AV) (val : Value), VR c v val → lt0 c.n v = true
  | .r _, _, _ => rfl
  | .own i g o, val, h => by simp only [VR] at h; simp [lt0, h.1]
  | .osl i g o len sz cap, val, h => by simp only [VR] at h; simp [lt0, h.1]
  | .agg cs, val, h => by
    simp only [VR] at h
    obtain ⟨vs, _, h2, _⟩ := h
    simpa [lt0] using lt0s_of_VRs cs vs h2
  | .tup cs, val, h => by
    simp only [VR] at h
    obtain ⟨vs, _, h2⟩ := h
    simpa [lt0] using lt0s_of_VRs cs vs h2
  | .fn f x y, val, h => by
    simp only [VR] at h
    obtain ⟨vs, us, _, h2, h3⟩ := h
    simp [lt0, lt0s_of_VRs x vs h2, lt0s_of_VRs y us h3]
  | .yld i, val, h => by simp only [VR] at h; simp [lt0, h.1]
  | .omap i, val, h => by simp only [VR] at h; simp [lt0, h.1]
  | .dead, _, _ => rfl
theorem lt0s_of_VRs {c : Cx} : ∀ (xs : List AV) (vs : List Value), VRs c xs vs → lt0s c.n xs = true
  | [], _, _ => rfl
  | _ :: _, [], h => h.elim
  | x :: xs, v :: vs, h => by simp [lt0s, lt0_of_VR x v h.1, lt0s_of_VRs xs vs h.2]
end

/-- A narrower view: fewer blocks, more that is frozen. -/
structure Cx.Nar (c c' : Cx) : Prop where
  M : Msub c.M c'.M
  G : c'.G = c.G
  β : c'.β = c.β
  Z : c'.Z = c.Z

mutual
theorem VR.nar {c c' : Cx} (hN : c.Nar c') : ∀ (v : AV) (val : Value), VR c v val → lt0 c'.n v = true → VR c' v val
  | .r x, val, h, _ => RVR.mono hN.M x val h
  | .own i g o, val, h, hl => by
    simp only [VR] at h ⊢
    rw [hN.G, hN.β]
    exact ⟨by simpa [lt0] using hl, h.2⟩
  | .osl i g o len sz cap, val, h, hl => by
    simp only [VR] at h ⊢
    rw [hN.G, hN.β, hN.Z]
    exact ⟨by simpa [lt0] using hl, h.2⟩
  | .agg cs, val, h, hl => by
    simp only [VR] at h ⊢
    obtain ⟨vs, h1, h2, h3⟩ := h
    exact ⟨vs, h1, VRs.nar hN cs vs h2 (by simpa [lt0] using hl), h3⟩
  | .tup cs, val, h, hl => by
    simp only [VR] at h ⊢
    obtain ⟨vs, h1, h2⟩ := h
    exact ⟨vs, h1, VRs.nar hN cs vs h2 (by simpa [lt0] using hl)⟩
  | .fn f x y, val, h, hl => by
    simp only [VR] at h ⊢
    obtain ⟨vs, us, h1, h2, h3⟩ := h
    simp only [lt0, Bool.and_eq_true] at hl
    exact ⟨vs, us, h1, VRs.nar hN x vs h2 hl.1, VRs.nar hN y us h3 hl.2⟩
  | .yld i, val, h, hl => by
    simp only [VR] at h ⊢
    rw [hN.G, hN.β]
    exact ⟨by simpa [lt0] using hl, h.2⟩
  | .omap i, val, h, hl => by
    simp only [VR] at h ⊢
    rw [hN.G, hN.β]
    exact ⟨by simpa [lt0] using hl, h.2⟩
  | .dead, _, _, _ => trivial
theorem VRs.nar {c c' : Cx} (hN : c.Nar c') : ∀ (xs : List AV) (vs : List Value), VRs c xs vs → lt0s c'.n xs = true → VRs c' xs vs
  | [], [], _, _ => trivial
  | [], _ :: _, h, _ => h.elim
  | _ :: _, [], h, _ => h.elim
  | x :: xs, v :: vs, h, hl => by
    simp only [lt0s, Bool.and_eq_true] at hl
    exact ⟨VR.nar hN x v h.1 hl.1, VRs.nar hN xs vs h.2 hl.2⟩
end

theorem lt0_mem {n0 : Nat} : ∀ {l : List AV}, lt0s n0 l = true → ∀ v ∈ l, lt0 n0 v = true
  | [], _, v, h => by cases h
  | x :: l, h, v, hv => by
    simp only [lt0s, Bool.and_eq_true] at h
    rcases List.mem_cons.1 hv with rfl | hv
    · exact h.1
    · exact lt0_mem h.2 v hv

theorem eget_mem (t : Nat) : ∀ (e : Env), eget e t = .dead ∨ eget e t ∈ e.map (·.2)
  | [] => .inl rfl
  | (k, v) :: e => by
    simp only [eget]
    split
    · exact .inr (by simp)
    · rcases eget_mem t e with h | h
      · exact .inl h
      · exact .inr (by simp only [List.map_cons]; exact List.mem_cons_of_mem _ h)

/-- A block speaks of old blocks alone. -/
def BlkLt (n0 : Nat) : Blk → Prop
  | .cells cs _ _ => lt0s n0 cs = true
  | .map es => lt0s n0 (es.map (·.2)) = true
  | .loop env .. => ∀ t, lt0 n0 (eget env t) = true
  | .dfr => True
  | .dead => True

theorem blkLt_ok {n0 : Nat} {b : Blk} (h : blkLt n0 b = true) : BlkLt n0 b := by
  cases b with
  | cells cs t g => exact h
  | map es => exact h
  | loop env ps as bd st pe =>
    intro t
    rcases eget_mem t env with e | e
    · rw [e]; rfl
    · exact lt0_mem h _ e
  | dfr => trivial
  | dead => trivial

theorem EntR.lt0s {c : Cx} : ∀ {es : List (RV × AV)} {ES : List MapEntry}, All2 (EntR c) es ES → AM.lt0s c.n (es.map (·.2)) = true
  | [], _, _ => rfl
  | _ :: _, _, .cons h t => by simp [AM.lt0s, lt0_of_VR _ _ h.2, EntR.lt0s t]

theorem BlkR.blkLt {K : Nat → AC → Code → Prop} {c : Cx} {i : Nat} {b : Blk} {o : Obj} (h : BlkR K c i b o) : BlkLt c.n b := by
  cases b with
  | cells cs t g =>
    obtain ⟨_, C, _, _, vs, rest, _, h5, _⟩ := h
    exact lt0s_of_VRs cs vs h5
  | map es =>
    obtain ⟨_, ES, cl, _, h2⟩ := h
    exact EntR.lt0s h2
  | loop env ps as bd st pe =>
    obtain ⟨_, l, _, _, _, h5, _⟩ := h
    exact fun t => lt0_of_VR _ _ (h5 t)
  | dfr => trivial
  | dead => trivial

theorem BlkR.nar {K : Nat → AC → Code → Prop} {c c' : Cx} (hN : c.Nar c') {i : Nat} {b : Blk} {o : Obj} (h : BlkR K c i b o) (hl : BlkLt c'.n b) : BlkR K c' i b o := by
  cases b with
  | cells cs t g =>
    obtain ⟨h1, C, h2, h3, vs, rest, h4, h5, h6⟩ := h
    exact ⟨by rw [hN.G]; exact h1, C, h2, by rw [hN.Z]; exact h3, vs, rest, h4, VRs.nar hN _ _ h5 hl, h6⟩
  | map es =>
    obtain ⟨h1, ES, cl, h2, h3⟩ := h
    refine ⟨by rw [hN.G]; exact h1, ES, cl, h2, ?_⟩
    clear h2
    replace hl : lt0s c'.n (es.map (·.2)) = true := hl
    generalize ES.toList = el at h3
    induction h3 with
    | nil => exact .nil
    | cons he _ ih =>
      simp only [List.map_cons, lt0s, Bool.and_eq_true] at hl
      exact .cons ⟨RVR.mono hN.M _ _ he.1, VR.nar hN _ _ he.2 hl.1⟩ (ih hl.2)
  | loop env ps as bd st pe =>
    obtain ⟨h1, l, h2, h3, h4, h5, h6⟩ := h
    exact ⟨by rw [hN.G]; exact h1, l, h2, h3, h4, fun t => VR.nar hN _ _ (h5 t) (hl t), h6⟩
  | dfr => exact ⟨by rw [hN.G]; exact h.1, h.2⟩
  | dead => trivial

/-- The frozen memory with the new blocks. -/
noncomputable def frozenM (c : Cx) (h : List Blk) (w : World) (n0 : Nat) : Nat → Option Obj := fun b =>
  match c.M b with
  | some o => some o
  | none => open Classical in if ∃ i blk, n0 ≤ i ∧ h[i]? = some blk ∧ blk.alive ∧ c.β i = b then w.heap[b]? else none

noncomputable def Cx.trunc (c : Cx) (h : List Blk) (w : World) (n0 : Nat) : Cx := { c with n := n0, M := frozenM c h w n0 }

section
variable {K : Nat → AC → Code → Prop} {X : Fr} {c : Cx} {w : World} {h : List Blk} {n0 : Nat}

theorem trunc_nar : c.Nar (c.trunc h w n0) :=
  ⟨fun b o hm => by simp [Cx.trunc, frozenM, hm], rfl, rfl, rfl⟩

theorem trunc_at (hR : Rel K c X h w) {i : Nat} {b : Blk} {o : Obj} (hi : n0 ≤ i) (hb : h[i]? = some b) (ha : b.alive) (ho : w.heap[c.β i]? = some o) : (c.trunc h w n0).M (c.β i) = some o := by
  simp only [Cx.trunc, frozenM, (hR.own i b hb ha).1]
  rw [if_pos ⟨i, b, hi, hb, ha, rfl⟩]
  exact ho

theorem trunc_rel (hR : Rel K c X h w) (hn : n0 ≤ h.length) (hx : ∀ i, X.r i → i < n0) (hl : ∀ i b, i < n0 → h[i]? = some b → BlkLt n0 b) : Rel K (c.trunc h w n0) X (h.take n0) w := by
  have hget : ∀ i b, (h.take n0)[i]? = some b → i < n0 ∧ h[i]? = some b := fun i b hb => by
    rw [List.getElem?_take] at hb
    split at hb
    · rename_i hlt; exact ⟨hlt, hb⟩
    · cases hb
  refine ⟨by simp [Cx.trunc]; omega, fun i b hb ha => ?_, fun i j b d hb ha hd hda he => ?_, fun i b hb ha => ?_, fun b o hm => ?_, fun b hb => ?_, fun i hi => by rw [List.getElem?_take, if_pos (hx i hi)]; exact hR.res i hi⟩
  · obtain ⟨h1, h2⟩ := hget i b hb
    obtain ⟨o, ho, hr⟩ := hR.blk i b h2 ha
    exact ⟨o, ho, hr.nar trunc_nar (hl i b h1 h2)⟩
  · exact hR.inj i j b d (hget i b hb).2 ha (hget j d hd).2 hda he
  · obtain ⟨h1, h2⟩ := hget i b hb
    obtain ⟨k1, k2⟩ := hR.own i b h2 ha
    refine ⟨?_, k2⟩
    show frozenM c h w n0 (c.β i) = none
    simp only [frozenM, k1]
    rw [if_neg]
    rintro ⟨j, d, hj, hd, hda, he⟩
    have := hR.inj j i d b hd hda h2 ha he
    omega
  · have hm : frozenM c h w n0 b = some o := hm
    simp only [frozenM] at hm
    split at hm
    · rename_i o' ho'
      cases hm
      exact hR.mem b o ho'
    · split at hm
      · exact hm
      · cases hm
  · obtain ⟨k1, k2⟩ := hR.frm b hb
    refine ⟨k1, ?_⟩
    show frozenM c h w n0 b = none
    simp only [frozenM, k2]
    rw [if_neg]
    rintro ⟨j, d, hj, hd, hda, rfl⟩
    exact (hR.own j d hd hda).2 hb

mutual
theorem fz_ok {m : Mem} (hR : Rel K c X m.h w) : ∀ (k : Nat) (v v' : AV) (val : Value), fz m n0 k v = some v' → VR c v val → VR (c.trunc m.h w n0) v' val
  | 0, v, v', val, h, _ => by simp [fz] at h
  | k + 1, v, v', val, h, hv => by
    have hN : c.Nar (c.trunc m.h w n0) := trunc_nar
    cases v with
    | r x => simp only [fz, Option.some.injEq] at h; subst h; exact RVR.mono hN.M x val hv
    | own i g o =>
      simp only [fz] at h
      split at h
      · rename_i hi; cases h; exact VR.nar hN _ _ hv (by simp [lt0, Cx.trunc, hi])
      · rename_i hi
        split at h <;> try (cases h; done)
        rename_i cs hcs
        split at h <;> try (cases h; done)
        rename_i l hl
        split at h <;> cases h
        rename_i l' hl'
        obtain ⟨hg, _, t, C, vs, rest, hb, ho, _, h4, h5, h6⟩ := rcells_ok hR rfl hcs
        have := fzs_ok hR k _ _ _ hl (h5.drop o)
        rw [allR_ok hl'] at this
        simp only [VR] at hv
        obtain ⟨_, _, _, hv4⟩ := hv
        simp only [VR, RVR]
        refine ⟨c.β i, o, vs.drop o, hv4 hg, ⟨C, t, (0, 0), trunc_at hR (by omega) hb trivial ho, fun q u hq => ?_⟩, rs_back this, h6.drop o⟩
        rw [List.getElem?_drop] at hq
        have : C.toList[o + q]? = some u := by
          rw [h4]
          rw [List.getElem?_append_left (getElem?_lt hq)]
          exact hq
        simpa using this
    | osl i g o len sz cap =>
      simp only [fz] at h
      split at h
      · rename_i hi; cases h; exact VR.nar hN _ _ hv (by simp [lt0, Cx.trunc, hi])
      · rename_i hi
        split at h <;> try (cases h; done)
        rename_i cs hcs
        split at h <;> try (cases h; done)
        rename_i hfit
        split at h <;> try (cases h; done)
        rename_i l hl
        split at h <;> cases h
        rename_i l' hl'
        obtain ⟨hg, _, t, C, vs, rest, hb, ho, _, h4, h5, h6⟩ := rcells_ok hR rfl hcs
        have := fzs_ok hR k _ _ _ hl ((h5.drop o).take (len * sz))
        rw [allR_ok hl'] at this
        simp only [VR] at hv
        obtain ⟨_, _, a, kk, hv4, hv5⟩ := hv
        obtain ⟨rfl, q2, q3, q4⟩ := hv5 hg
        simp only [VR, RVR]
        refine ⟨_, kk, (vs.drop o).take (len * sz), hv4, q2, fun x hx => q4 x hx, rs_back this, (h6.drop o).take _, fun _ => ⟨c.β i, o, rfl, C, t, (0, 0), trunc_at hR (by omega) hb trivial ho, fun q u hq => ?_⟩, fun hn => (by cases hn)⟩
        rw [List.getElem?_take] at hq
        split at hq <;> try (cases hq; done)
        rw [List.getElem?_drop] at hq
        have : C.toList[o + q]? = some u := by
          rw [h4]
          rw [List.getElem?_append_left (getElem?_lt hq)]
          exact hq
        simpa using this
    | agg cs =>
      simp only [fz] at h
      split at h <;> cases h
      rename_i l hl
      simp only [VR] at hv
      obtain ⟨vs, rfl, h2, h3⟩ := hv
      exact mkAgg_ok (fzs_ok hR k _ _ _ hl h2) h3
    | tup cs =>
      simp only [fz] at h
      split at h <;> cases h
      rename_i l hl
      simp only [VR] at hv ⊢
      obtain ⟨vs, h1, h2⟩ := hv
      exact ⟨vs, h1, fzs_ok hR k _ _ _ hl h2⟩
    | fn f x y =>
      simp only [fz] at h
      split at h <;> try (cases h; done)
      rename_i a b ha hb
      simp only [VR] at hv
      obtain ⟨vs, us, h1, h2, h3⟩ := hv
      have k1 := fzs_ok hR k _ _ _ ha h2
      have k2 := fzs_ok hR k _ _ _ hb h3
      split at h <;> cases h
      · rename_i a' b' ha' hb'
        rw [allR_ok ha'] at k1
        rw [allR_ok hb'] at k2
        simp only [VR, RVR]
        exact ⟨vs, us, h1, rs_back k1, rs_back k2⟩
      · simp only [VR]
        exact ⟨vs, us, h1, k1, k2⟩
    | yld i =>
      simp only [fz] at h
      split at h <;> cases h
      rename_i hi
      exact VR.nar hN _ _ hv (by simp [lt0, Cx.trunc, hi])
    | omap i =>
      simp only [fz] at h
      split at h <;> cases h
      rename_i hi
      exact VR.nar hN _ _ hv (by simp [lt0, Cx.trunc, hi])
    | dead => simp only [fz, Option.some.injEq] at h; subst h; trivial
theorem fzs_ok {m : Mem} (hR : Rel K c X m.h w) : ∀ (k : Nat) (xs xs' : List AV) (vs : List Value), fzs m n0 k xs = some xs' → VRs c xs vs → VRs (c.trunc m.h w n0) xs' vs
  | 0, v, v', val, h, _ => by simp [fzs] at h
  | k + 1, [], v', [], h, _ => by simp only [fzs, Option.some.injEq] at h; subst h; trivial
  | k + 1, [], v', _ :: _, h, hv => hv.elim
  | k + 1, _ :: _, v', [], h, hv => hv.elim
  | k + 1, x :: xs, v', u :: us, h, hv => by
    simp only [fzs] at h
    split at h <;> cases h
    rename_i a b ha hb
    exact ⟨fz_ok hR k _ _ _ ha hv.1, fzs_ok hR k _ _ _ hb hv.2⟩
end

/-- What a call leaves is what it says. -/
theorem settle_ok {c0 : Cx} {w0 : World} {m0 m : Mem} {F : Nat} {ka : Bool} {v : AV} {val : Value} (hR0 : Rel K c0 X m0.h w0) (hA : Adv X c0 w0 c w) (hR : Rel K c X m.h w)
    (hv : VR c v val) (hw : WrM { h := m0.h } m) :
    ∃ c', Adv X c0 w0 c' w ∧ Rel K c' X (settle F ka m0 v m).2.h w ∧ VR c' (settle F ka m0 v m).1 val := by
  unfold settle
  simp only
  split
  · exact ⟨c, hA, hR, hv⟩
  · split
    · rename_i v' hfz
      split
      · rename_i hall
        have hlen := hR0.len
        obtain ⟨hw1, ws, hw2, hw3⟩ := hw
        refine ⟨c.trunc m.h w m0.h.length, ⟨⟨by simp [Cx.trunc]; omega, fun b o hb => trunc_nar.M b o (hA.le.M b o hb), fun i hi => hA.le.G i hi, fun i hi => hA.le.same i hi⟩, hA.frame, hA.size, hA.os, hA.tape, hA.output, hA.fix⟩,
          trunc_rel hR hw1 (fun i hi => getElem?_lt (hR0.res i hi)) fun i b hi hb => ?_, fz_ok hR _ _ _ _ hfz hv⟩
        by_cases hm : i ∈ m.wr
        · have := List.all_eq_true.1 hall i (by simp [oldWr, hm, hi])
          rw [hb] at this
          exact blkLt_ok this
        · have h0 : m0.h[i]? = some b := by
            rw [← hw3 i hi (by simpa [hw2] using hm)]; exact hb
          rw [hlen]
          cases b with
          | dead => trivial
          | _ => obtain ⟨o, _, hr⟩ := hR0.blk i _ h0 trivial; exact hr.blkLt
      · exact ⟨c, hA, hR, hv⟩
    · exact ⟨c, hA, hR, hv⟩

end
end Go.AM
/- What the abstract machine writes is in its list (own work). -/
namespace Go.AM

theorem WrM.push (m : Mem) (bs : List Blk) : WrM m { m with h := m.h ++ bs } :=
  ⟨by simp, [], rfl, fun i hi _ => by simp [List.getElem?_append_left hi]⟩
theorem WrM.set (m : Mem) (i : Nat) (b : Blk) : WrM m { h := m.h.set i b, wr := i :: m.wr } :=
  ⟨by simp, [i], rfl, fun j _ hn => by simp at hn; simp [List.getElem?_set_ne (fun e => hn e.symm)]⟩

theorem storeN_wr {m m' : Mem} {a : AV} {vs : List AV} (h : storeN m a vs = some m') : WrM m m' := by
  unfold storeN at h
  split at h <;> try (cases h; done)
  split at h <;> try (cases h; done)
  split at h <;> try (cases h; done)
  cases h
  exact WrM.set _ _ _

theorem appendA_wr {m m' : Mem} {t : TypeId} {sz by_ : Nat} {x y v : AV} (h : appendA m t sz by_ x y = some (v, m')) : WrM m m' := by
  unfold appendA at h
  repeat' split at h
  all_goals first | (cases h; done) | (cases h; first | exact WrM.refl _ | exact WrM.push _ _ | exact WrM.set _ _ _)

theorem stepOp_wr {e : Env} {m m' : Mem} {v : AV} {op : AOp} (h : stepOp e m op = some (v, m')) : WrM m m' := by
  cases op <;> simp only [stepOp] at h
  case app => exact appendA_wr h
  all_goals (repeat' split at h)
  all_goals first
    | (cases h; done)
    | (cases h; first | exact WrM.refl _ | exact WrM.push _ _ | exact WrM.set _ _ _ | (rename_i hst; exact storeN_wr hst))
    | skip

theorem denOp_wr {K : Kit} (hK : WrC K.call) {s s' : St} {d : Option Nat} {op : AOp} {o : Out} (h : denOp K s d op = some (o, s')) : WrM s.m s'.m := by
  have put : ∀ (s : St) d v m, (putD s d v m).m = m := fun s d v m => by cases d <;> rfl
  cases op <;> simp only [denOp] at h
  case call f args =>
    split at h
    · rename_i v m hc; cases h; rw [put]; exact (hK _ _ _).1 _ _ hc
    · rename_i v m hc; cases h; exact (hK _ _ _).2 _ _ hc
    · cases h
  case recov =>
    split at h <;> cases h
    · cases d <;> exact WrM.refl _
    · rw [put]; exact WrM.refl _
  case pan => split at h <;> cases h; exact WrM.refl _
  case defr =>
    repeat' split at h
    all_goals first | (cases h; done) | (cases h; rw [put]; exact WrM.refl _)
  all_goals
    split at h <;> cases h
    rename_i hs
    rw [put]
    exact stepOp_wr hs

theorem denI_wr {K : Kit} (hK : WrC K.call) {s s' : St} {i : AI} {o : Out} (h : denI K s i = some (o, s')) : WrM s.m s'.m := by
  unfold denI at h
  split at h
  · exact denOp_wr hK h
  · cases h
    cases i.dst <;> exact WrM.refl _
  · cases h

theorem denIs_wr {K : Kit} (hK : WrC K.call) : ∀ {l : List AI} {s s' : St} {o : Out}, denIs K s l = some (o, s') → WrM s.m s'.m
  | [], s, s', o, h => by simp only [denIs, Option.some.injEq, Prod.mk.injEq] at h; obtain ⟨_, rfl⟩ := h; exact WrM.refl _
  | i :: l, s, s', o, h => by
    simp only [denIs] at h
    cases hi : denI K s i with
    | none => simp [hi] at h
    | some r =>
      obtain ⟨o1, s1⟩ := r
      rw [hi] at h
      have h1 := denI_wr hK hi
      cases o1 with
      | norm => exact h1.trans (denIs_wr hK h)
      | _ => simp only [Option.some.injEq, Prod.mk.injEq] at h; obtain ⟨_, rfl⟩ := h; exact h1

theorem stepD_wr {K : Kit} (hK : WrC K.call) {base : Nat} {e : Env} {h : List Blk} {op : AOp} {v : AV} {m' : Mem} (hs : stepD K base e h op = some (v, m')) : WrM { h := h } m' := by
  cases op <;> simp only [stepD] at hs
  case call f args =>
    split at hs <;> cases hs
    rename_i hc
    exact (hK _ _ _).1 _ _ hc
  case slot k t z =>
    split at hs <;> cases hs
    exact WrM.set { h := h } _ _
  case slit =>
    split at hs <;> cases hs
    rename_i hc
    exact stepOp_wr hc
  all_goals first
    | (cases hs; done)
    | exact stepOp_wr hs

theorem denD_wr {K : Kit} (hK : WrC K.call) {base : Nat} : ∀ {l : List AI} {e e' : Env} {m m' : Mem} {fs fs' : List (List Nat × List Nat)}, denD K base l e m fs = some (e', m', fs') → WrM m m'
  | [], e, e', m, m', fs, fs', h => by simp only [denD, Option.some.injEq, Prod.mk.injEq] at h; obtain ⟨_, rfl, _⟩ := h; exact WrM.refl _
  | i :: l, e, e', m, m', fs, fs', h => by
    simp only [denD] at h
    split at h
    · split at h <;> try (cases h; done)
      rename_i v m1 hs
      have h1 := stepD_wr hK hs
      have h2 : WrM { h := m1.h, wr := m1.wr ++ m.wr } m' := by
        by_cases hq : slotFree base i.o fs = true
        · rw [if_pos hq] at h; exact denD_wr hK h
        · rw [if_neg hq] at h; cases h
      refine WrM.trans ?_ h2
      obtain ⟨k1, ws, k2, k3⟩ := h1
      exact ⟨k1, m1.wr, rfl, fun i hi hn => k3 i hi (by simpa [k2] using hn)⟩
    · exact denD_wr hK h
    · cases h

theorem WrM.setAt {m m' : Mem} (h : WrM m m') (i : Nat) (b : Blk) : WrM m { h := m'.h.set i b, wr := i :: m'.wr } := h.trans (WrM.set m' i b)

theorem iterN_wr {b : St → Option (Out × St)} (hb : ∀ s o s', b s = some (o, s') → WrM s.m s'.m) : ∀ {n : Nat} {s s' : St} {o : Out}, iterN n b s = some (o, s') → WrM s.m s'.m
  | 0, s, s', o, h => by simp [iterN] at h
  | n + 1, s, s', o, h => by
    simp only [iterN] at h
    cases hi : b s with
    | none => simp [hi] at h
    | some r =>
      obtain ⟨o1, s1⟩ := r
      rw [hi] at h
      have h1 := hb _ _ _ hi
      cases o1 with
      | norm => exact h1.trans (iterN_wr hb h)
      | _ => simp only [Option.some.injEq, Prod.mk.injEq] at h; obtain ⟨_, rfl⟩ := h; exact h1

theorem den_wr {call : AV → List AV → Mem → Option CRes} {N : Nat} (hK : WrC call) : ∀ (ac : AC) {s s' : St} {o : Out}, den { call := call, iter := iterN N } ac s = some (o, s') → WrM s.m s'.m := by
  intro ac
  induction ac with
  | skip => intro s s' o h; simp only [den, Option.some.injEq, Prod.mk.injEq] at h; obtain ⟨_, rfl⟩ := h; exact WrM.refl _
  | label => intro s s' o h; simp only [den, Option.some.injEq, Prod.mk.injEq] at h; obtain ⟨_, rfl⟩ := h; exact WrM.refl _
  | ret => intro s s' o h; simp only [den, Option.some.injEq, Prod.mk.injEq] at h; obtain ⟨_, rfl⟩ := h; exact WrM.refl _
  | exit id => intro s s' o h; simp only [den, Option.some.injEq, Prod.mk.injEq] at h; obtain ⟨_, rfl⟩ := h; exact WrM.refl _
  | keep l => intro s s' o h; simp only [den, Option.some.injEq, Prod.mk.injEq] at h; obtain ⟨_, rfl⟩ := h; exact WrM.refl _
  | scope c ih => intro s s' o h; simp only [den] at h; exact ih h
  | reg ops => intro s s' o h; simp only [den] at h; exact denIs_wr hK h
  | draw ops slots pairs gc =>
    intro s s' o h
    simp only [den] at h
    split at h <;> try (cases h; done)
    rename_i e m fs hd
    split at h <;> cases h
    exact (WrM.push s.m (List.replicate slots .dead)).trans (denD_wr (K := { call := call, iter := iterN N }) hK hd)
  | seq a b iha ihb =>
    intro s s' o h
    simp only [den] at h
    cases hi : den { call := call, iter := iterN N } a s with
    | none => simp [hi] at h
    | some r =>
      obtain ⟨o1, s1⟩ := r
      rw [hi] at h
      have h1 := iha hi
      cases o1 with
      | norm => exact h1.trans (ihb h)
      | _ => simp only [Option.some.injEq, Prod.mk.injEq] at h; obtain ⟨_, rfl⟩ := h; exact h1
  | cond c a b iha ihb =>
    intro s s' o h
    simp only [den] at h
    split at h <;> try (cases h; done)
    split at h
    · exact iha h
    · exact ihb h
  | block id c ih =>
    intro s s' o h
    simp only [den] at h
    cases hi : den { call := call, iter := iterN N } c s with
    | none => simp [hi] at h
    | some r =>
      obtain ⟨o1, s1⟩ := r
      rw [hi] at h
      have h1 := ih hi
      cases o1 with
      | exit id' => simp only at h; split at h <;> (simp only [Option.some.injEq, Prod.mk.injEq] at h; obtain ⟨_, rfl⟩ := h; exact h1)
      | _ => simp only [Option.some.injEq, Prod.mk.injEq] at h; obtain ⟨_, rfl⟩ := h; exact h1
  | loop live c ih =>
    intro s s' o h
    simp only [den] at h
    exact iterN_wr (b := fun s => den { call := call, iter := iterN N } c { s with env := ekeep live s.env }) (fun s o s' hb => ih (s := { s with env := ekeep live s.env }) hb) h
  | rangeF f ps as bd _ _ =>
    intro s s' o h
    simp only [den] at h
    split at h <;> try (cases h; done)
    split at h <;> try (cases h; done)
    have hp : WrM s.m { s.m with h := loopHeap s ps as bd } := by unfold loopHeap; exact WrM.push _ _
    split at h
    · rename_i v m hc
      split at h <;> try (cases h; done)
      split at h <;> cases h
      exact (hp.trans ((hK _ _ _).1 _ _ hc)).setAt _ _
    · rename_i v m hc
      cases h
      exact hp.trans ((hK _ _ _).2 _ _ hc)
    · cases h

end Go.AM
/- Calls: results, deferred calls, a function's run (own work). -/
namespace Go.AM
section
variable (P : Program)
def chkRes : List ResV → List ResultVar → Bool
  | [], [] => true
  | .tmp t :: l, .tmp u :: r => t == u && chkRes l r
  | .cell t n ag :: l, .cell u ty :: r => t == u && szT P ty n && agT P ty ag && chkRes l r
  | _, _ => false
end

section
variable {P : Program} {K : Nat → AC → Code → Prop} {X : Fr} {c : Cx} {w : World} {h : List Blk} {e : Env} {ts : Array Value}

def resSem (ts : Array Value) : ResultVar → Sem Value
  | .tmp t => pure (ts.getD t undef)
  | .cell a t => do loadVar t (← asAddr (ts.getD a undef))

theorem results_list (hR : Rel K c X h w) (hE : EnvR c e ts) {m : Mem} (hm : m.h = h) : ∀ (l : List ResV) (r : List ResultVar) (vs : List AV), chkRes P l r = true → resAll e m l = some vs →
    ∃ us : List Value, (r.mapM (resSem ts)).run P w = .ok us w ∧ VRs c vs us
  | [], [], vs, _, hr => by
    simp only [resAll, Option.some.injEq] at hr
    subst hr
    exact ⟨[], by simp, trivial⟩
  | [], _ :: _, vs, hc, _ => by simp [chkRes] at hc
  | .tmp _ :: _, [], vs, hc, _ => by simp [chkRes] at hc
  | .cell .. :: _, [], vs, hc, _ => by simp [chkRes] at hc
  | .tmp _ :: _, .cell .. :: _, vs, hc, _ => by simp [chkRes] at hc
  | .cell .. :: _, .tmp _ :: _, vs, hc, _ => by simp [chkRes] at hc
  | .tmp t :: l, .tmp u :: r, vs, hc, hr => by
    simp only [chkRes, Bool.and_eq_true, beq_iff_eq] at hc
    obtain ⟨rfl, hc⟩ := hc
    simp only [resAll] at hr
    split at hr <;> cases hr
    rename_i v vs' h1 h2
    simp only [resOf, Option.some.injEq] at h1
    subst h1
    obtain ⟨us, q1, q2⟩ := results_list hR hE hm l r vs' hc h2
    exact ⟨ts.getD t undef :: us, by simp only [List.mapM_cons, resSem, Sem.run_bind, Sem.run_pure, Result.andThen_ok, q1], hE t, q2⟩
  | .cell t n ag :: l, .cell u ty :: r, vs, hc, hr => by
    simp only [chkRes, Bool.and_eq_true, beq_iff_eq] at hc
    obtain ⟨⟨⟨rfl, hs⟩, hg⟩, hc⟩ := hc
    simp only [resAll] at hr
    split at hr <;> cases hr
    rename_i v vs' h1 h2
    simp only [resOf] at h1
    obtain ⟨us, q1, q2⟩ := results_list hR hE hm l r vs' hc h2
    obtain ⟨b, o, u, e1, e2, e3⟩ := loadV_run (P := P) hR hm hs hg h1 (hE t)
    refine ⟨u :: us, ?_, e3, q2⟩
    have : (asAddr (ts.getD t undef)).run P w = .ok ⟨b, o, none⟩ w := by rw [e1]; simp [asAddr]
    simp only [List.mapM_cons, resSem, Sem.run_bind, Sem.run_pure, Result.andThen_ok, q1, this, e2]

theorem results_ok (hR : Rel K c X h w) (hE : EnvR c e ts) {m : Mem} (hm : m.h = h) {fn : Func} {l : List ResV} {vs : List AV} (hc : chkRes P l fn.results.toList = true) (hr : resAll e m l = some vs) :
    ∃ v, (results fn ts).run P w = .ok v w ∧ VR c (tupOf vs) v := by
  obtain ⟨us, q1, q2⟩ := results_list (P := P) hR hE hm l _ vs hc hr
  have hl := q2.length
  refine ⟨if h : us.toArray.size = 1 then us.toArray[0] else .tuple us.toArray, ?_, ?_⟩
  · show (do let vs ← fn.results.mapM (resSem ts); pure (if h : vs.size = 1 then vs[0] else .tuple vs) : Sem Value).run P w = _
    simp only [Array.mapM_eq_mapM_toList, Sem.run_bind, map_eq_pure_bind]
    rw [q1]
    rfl
  · match vs, us, q2 with
    | [], [], _ => simp only [tupOf, VR]; exact ⟨[], by simp, trivial⟩
    | [v], [u], q2 => simpa [tupOf] using q2.1
    | v :: v' :: vs, u :: u' :: us, q2 =>
      simp only [tupOf, VR]
      exact ⟨u :: u' :: us, by simp, q2⟩

/-! ### leaving -/
def MdR : Md → FrameMode → Prop
  | .returning, u => u = .returning
  | .panicking v, u => ∃ x, v = .lit x ∧ u = .panicking [{ v := x, recovered := false }]

def RecR : Option RV → FrameMode → Prop
  | none, u => u = .returning
  | some v, u => ∃ x, v = .lit x ∧ u = .panicking [{ v := x, recovered := false }]

/-- A deferred call is borne out. -/
def DfrOk (P : Program) (K : Nat → AC → Code → Prop) (d : Option RV → AV → List AV → Mem → Option (CRes × Bool)) : Prop :=
  ∀ rec f args m av m' recd, d rec f args m = some (.ret av m', recd) → ∀ c X w fn first cap vs u, Rel K c X m.h w → VR c f (.func fn first cap) → VRs c args vs → RecR rec u →
    ∃ fid as, (invoke (.fn fn cap) (first ++ vs.toArray)).run P w = .ok (.enter fid as) w ∧
      ∀ n, CallsDIn (FW none) n P fid as u w fun e u' w' => match e with
        | .returned _ => Go.settle u' = (if recd then .returning else u) ∧ ∃ c', Adv X c w c' w' ∧ Rel K c' X m'.h w'
        | _ => False

theorem leaves_sound {d : Option RV → AV → List AV → Mem → Option (CRes × Bool)} (hd : DfrOk P K d) {fn : Func} {R : Ending → World → Prop} {n : Nat} :
    ∀ (l : List ADef) {ds : List Deferred} {md md' : Md} {m m' : Mem} {u : FrameMode} {c : Cx} {w : World}, runDefs d l md m = some (md', m') → All2 (DefR c) l ds → MdR md u → Rel K c X m.h w →
    (∀ c' w', Adv X c w c' w' → Rel K c' X m'.h w' → (md' = .returning → ∃ v, (results fn ts).run P w' = .ok v w' ∧ R (.returned v) w') ∧ (∀ v, md' = .panicking v → ∀ chain, PanR v chain → R (.panicked chain) w')) →
    LeavesInM (FW none) n P fn ts R ds u w := by
  intro l
  induction l with
  | nil =>
    intro ds md md' m m' u c w hr ha hm hR hfin
    cases ha
    simp only [runDefs, Option.some.injEq, Prod.mk.injEq] at hr
    obtain ⟨rfl, rfl⟩ := hr
    obtain ⟨f1, f2⟩ := hfin c w (Adv.refl X c w) hR
    cases md with
    | returning => cases hm; exact f1 rfl
    | panicking v =>
      obtain ⟨x, rfl, rfl⟩ := hm
      exact f2 _ rfl _ ⟨x, rfl, rfl⟩
  | cons x l ih =>
    intro ds md md' m m' u c w hr ha hm hR hfin
    cases ha with
    | cons hx ht =>
    rename_i d0 ds
    have hu : u ≠ .run := by
      cases md with
      | returning => cases hm; intro h; cases h
      | panicking v => obtain ⟨x, _, rfl⟩ := hm; intro h; cases h
    refine ⟨hu, ?_⟩
    cases x with
    | dfr i =>
      simp only [runDefs] at hr
      split at hr <;> try (cases hr; done)
      rename_i hb
      obtain ⟨hi, l0, rfl, hl⟩ := hx
      obtain ⟨o, ho, hg, rfl⟩ := hR.blk i _ hb trivial
      have hl := hl hg
      subst hl
      have hlt : c.β i < w.heap.size := (Array.getElem?_eq_some_iff.1 ho).1
      obtain ⟨A3, R3⟩ := Rel.upd hR (b := .dead) (o := .deferred none) (w' := w.putObj (c.β i) (.deferred none)) hb trivial
        (fun k hk => World.putObj_heap_other hk) (World.putObj_heap_same hlt) (by simp [World.putObj]) rfl rfl rfl trivial
      exact .inl ⟨c.β i, _, rfl, run_takeDeferred ho, ih hr ht hm R3 fun c' w' hA hR' => hfin c' w' (A3.trans hA) hR'⟩
    | call f args =>
      simp only [runDefs] at hr
      obtain ⟨fnv, first, cap, vs, hf, hv, rfl⟩ := hx
      split at hr <;> try (cases hr; done)
      rename_i av m1 recd hcall
      have hrec : RecR md.toRec u := by cases md <;> exact hm
      obtain ⟨fid, as, i1, i2⟩ := hd _ _ _ _ _ _ _ hcall c X w fnv first cap vs u hR hf hv hrec
      refine .inr ⟨fun h => (by cases h), fnv, cap, fid, as, rfl, i1, fun _ _ => trivial, (i2 (n - 1)).mono fun e u' w' he => ?_⟩
      cases e with
      | returned v =>
        obtain ⟨k1, c', k2, k3⟩ := he
        show LeavesInM (FW none) n P fn ts R ds (Go.settle u') w'
        rw [k1]
        refine ih hr (ht.mono fun _ _ => DefR.mono k2.le) ?_ k3 fun c2 w2 hA hR' => hfin c2 w2 (k2.trans hA) hR'
        cases recd
        · exact hm
        · rfl
      | panicked ch => exact he.elim
      | outgrown => exact he.elim

end
end Go.AM
/- Calls, second part: what a call writes is listed (own work). -/
namespace Go.AM

theorem oldWr_wr {m0 m : Mem} (hw : WrM { h := m0.h } m) : WrM m0 { h := m.h, wr := oldWr m0.h.length m.wr ++ m0.wr } := by
  obtain ⟨h1, ws, h2, h3⟩ := hw
  refine ⟨h1, _, rfl, fun i hi hn => h3 i hi fun hm => hn ?_⟩
  simp only [List.append_nil] at h2
  simp [oldWr, h2, hm, hi]

theorem settle_wr {F : Nat} {ka : Bool} {v : AV} {m0 m : Mem} (hw : WrM { h := m0.h } m) : WrM m0 (settle F ka m0 v m).2 := by
  have h0 := oldWr_wr hw
  unfold settle
  simp only
  split
  · exact h0
  · split
    · split
      · obtain ⟨h1, ws, h2, h3⟩ := h0
        refine ⟨by have := hw.1; simp at this ⊢; omega, ws, h2, fun i hi hn => ?_⟩
        rw [← h3 i hi hn]
        simp [List.getElem?_take, hi]
      · exact h0
    · exact h0

theorem runDefs_wr {d : Option RV → AV → List AV → Mem → Option (CRes × Bool)} (hd : ∀ rec f args m v m' b, d rec f args m = some (.ret v m', b) → WrM m m') :
    ∀ (l : List ADef) {md md' : Md} {m m' : Mem}, runDefs d l md m = some (md', m') → WrM m m'
  | [], md, md', m, m', h => by simp only [runDefs, Option.some.injEq, Prod.mk.injEq] at h; obtain ⟨_, rfl⟩ := h; exact WrM.refl _
  | .dfr i :: l, md, md', m, m', h => by
    simp only [runDefs] at h
    split at h <;> try (cases h; done)
    exact (WrM.set m i .dead).trans (runDefs_wr hd l h)
  | .call f args :: l, md, md', m, m', h => by
    simp only [runDefs] at h
    split at h <;> try (cases h; done)
    rename_i hc
    exact (hd _ _ _ _ _ _ _ hc).trans (runDefs_wr hd l h)

def WrF (g : FuncId → List AV → Mem → Option RV → Option (CRes × Bool)) : Prop :=
  ∀ f args m rec, (∀ v m' b, g f args m rec = some (.ret v m', b) → WrM m m') ∧ (∀ v m' b, g f args m rec = some (.pan v m', b) → WrM m m')

theorem runBody_wr {C : Cfg} {call : AV → List AV → Mem → Option CRes} {N : Nat} (hK : WrC call) {d : Option RV → AV → List AV → Mem → Option (CRes × Bool)}
    (hd : ∀ rec f args m v m' b, d rec f args m = some (.ret v m', b) → WrM m m') {f : FuncId} {fn : AFn} {args : List AV} {m : Mem} {rec : Option RV} :
    (∀ v m' b, runBody C { call := call, iter := iterN N } d f fn args m rec = some (.ret v m', b) → WrM m m') ∧
    (∀ v m' b, runBody C { call := call, iter := iterN N } d f fn args m rec = some (.pan v m', b) → WrM m m') := by
  have key : ∀ r b, runBody C { call := call, iter := iterN N } d f fn args m rec = some (r, b) → (match r with | .ret _ m' => WrM m m' | .pan _ m' => WrM m m') := by
    intro r b h
    unfold runBody at h
    split at h <;> try (cases h; done)
    split at h <;> try (cases h; done)
    rename_i o s hden
    have h1 := den_wr hK fn.body hden
    split at h <;> try (cases h; done)
    split at h <;> try (cases h; done)
    · rename_i m' hdefs
      have h2 := h1.trans (runDefs_wr hd _ hdefs)
      split at h <;> cases h
      exact settle_wr h2
    · rename_i v m' hdefs
      have h2 := h1.trans (runDefs_wr hd _ hdefs)
      cases h
      exact oldWr_wr h2
  exact ⟨fun v m' b h => key _ b h, fun v m' b h => key _ b h⟩

theorem runRound_wr {call : AV → List AV → Mem → Option CRes} {N F : Nat} (hK : WrC call) {i : Nat} {args : List AV} {m : Mem} :
    (∀ v m', runRound { call := call, iter := iterN N } F i args m = some (.ret v m') → WrM m m') ∧ (∀ v m', runRound { call := call, iter := iterN N } F i args m = some (.pan v m') → WrM m m') := by
  have key : ∀ r, runRound { call := call, iter := iterN N } F i args m = some r → (match r with | .ret _ m' => WrM m m' | .pan _ m' => WrM m m') := by
    intro r h
    unfold runRound at h
    split at h <;> try (cases h; done)
    split at h <;> try (cases h; done)
    split at h <;> try (cases h; done)
    rename_i s1 hden
    have h1 := den_wr hK _ hden
    unfold roundBody at h
    split at h <;> try (cases h; done)
    split at h <;> try (cases h; done)
    rename_i o s2 _ hden2
    have h2 := den_wr hK _ hden2
    unfold roundEnd at h
    split at h <;> cases h
    exact settle_wr ((h1.setAt _ _).trans (h2.setAt _ _))
  exact ⟨fun v m' h => key _ h, fun v m' h => key _ h⟩

/-- What the functions from elsewhere write is listed. -/
def ExtWr (C : Cfg) : Prop := ∀ f e, C.ext f = some e → ∀ args m, (∀ v m', e args m = some (.ret v m') → WrM m m') ∧ (∀ v m', e args m = some (.pan v m') → WrM m m')

theorem all_wr {C : Cfg} (hE : ExtWr C) : ∀ n, WrC (callN C n) ∧ WrF (funN C n) ∧ (∀ rec f args m v m' b, dfrN C n rec f args m = some (.ret v m', b) → WrM m m')
  | 0 => ⟨fun f args m => ⟨fun v m' h => by simp [callN] at h, fun v m' h => by simp [callN] at h⟩, fun f args m rec => ⟨fun v m' b h => by simp [funN] at h, fun v m' b h => by simp [funN] at h⟩,
      fun rec f args m v m' b h => by simp [dfrN] at h⟩
  | n + 1 => by
    obtain ⟨i1, i2, i3⟩ := all_wr hE n
    refine ⟨fun f args m => ?_, fun f args m rec => ?_, fun rec f args m v m' b h => ?_⟩
    · have key : ∀ r, callN C (n + 1) f args m = some r → (match r with | .ret _ m' => WrM m m' | .pan _ m' => WrM m m') := by
        intro r h
        simp only [callN] at h
        split at h
        · rw [Option.map_eq_some_iff] at h
          obtain ⟨⟨r', b⟩, h1, rfl⟩ := h
          cases r' with
          | ret v m' => exact (i2 _ _ _ _).1 _ _ _ h1
          | pan v m' => exact (i2 _ _ _ _).2 _ _ _ h1
        · rw [Option.map_eq_some_iff] at h
          obtain ⟨⟨r', b⟩, h1, rfl⟩ := h
          cases r' with
          | ret v m' => exact (i2 _ _ _ _).1 _ _ _ h1
          | pan v m' => exact (i2 _ _ _ _).2 _ _ _ h1
        · cases r with
          | ret v m' => exact (runRound_wr i1).1 _ _ h
          | pan v m' => exact (runRound_wr i1).2 _ _ h
        · cases h
      exact ⟨fun v m' h => key _ h, fun v m' h => key _ h⟩
    · have key : ∀ r b, funN C (n + 1) f args m rec = some (r, b) → (match r with | .ret _ m' => WrM m m' | .pan _ m' => WrM m m') := by
        intro r b h
        simp only [funN] at h
        split at h
        · rename_i e he
          rw [Option.map_eq_some_iff] at h
          obtain ⟨r', h1, h2⟩ := h
          cases h2
          cases r with
          | ret v m' => exact (hE _ _ he _ _).1 _ _ h1
          | pan v m' => exact (hE _ _ he _ _).2 _ _ h1
        · split at h <;> try (cases h; done)
          cases r with
          | ret v m' => exact (runBody_wr i1 i3).1 _ _ _ h
          | pan v m' => exact (runBody_wr i1 i3).2 _ _ _ h
      exact ⟨fun v m' b h => key _ b h, fun v m' b h => key _ b h⟩
    · simp only [dfrN] at h
      split at h <;> try (cases h; done)
      · exact (i2 _ _ _ _).1 _ _ _ h
      · exact (i2 _ _ _ _).1 _ _ _ h

end Go.AM
/- Calls, third part: a function's run, a round, calls by induction on fuel (own work). -/
namespace Go.AM

theorem eget_enum (args : List AV) : ∀ (k t : Nat), eget (enumFrom k args) t = if k ≤ t then (match args[t - k]? with | some v => v | none => .dead) else .dead := by
  induction args with
  | nil => intro k t; simp [enumFrom, eget]
  | cons v vs ih =>
    intro k t
    simp only [enumFrom, eget, ih]
    by_cases h : k = t
    · subst h; simp
    · rw [if_neg h]
      by_cases h2 : k ≤ t
      · rw [if_pos h2, if_pos (by omega)]
        have : t - k = (t - (k + 1)) + 1 := by omega
        rw [this, List.getElem?_cons_succ]
      · rw [if_neg h2, if_neg (by omega)]

section
variable {P : Program} {D : DChk} {X : Fr} {c : Cx} {w : World}

theorem env_enter {args : List AV} {vs : List Value} (hv : VRs c args vs) (n : Nat) : EnvR c (enumFrom 0 args) (vs.toArray ++ Array.replicate n undef) := by
  intro t
  rw [eget_enum]
  simp only [Nat.zero_le, if_true, Nat.sub_zero]
  cases h : args[t]? with
  | none => trivial
  | some v =>
    obtain ⟨u, hu, hr⟩ := (vrs_iff.1 hv).get h
    have hlt : t < vs.length := by
      have := List.getElem?_eq_some_iff.1 hu
      exact this.1
    simp only
    have : (vs.toArray ++ Array.replicate n undef).getD t undef = u := by
      rw [Array.getD_eq_getD_getElem?, Array.getElem?_append_left (by simpa using hlt)]
      simp [hu]
    rw [this]
    exact hr

/-- What is asked of a function's text. -/
structure FnOk (P : Program) (D : DChk) (f : FuncId) (fn : AFn) : Prop where
  ok : ∃ F code, P.funcs[f]? = some F ∧ F.body = some code ∧ F.name ≠ "runtime.NumGoroutine" ∧ chk P D F.ntmps fn.body code = true ∧ chkRes P fn.res F.results.toList = true

theorem runBody_sound {C : Cfg} {call : AV → List AV → Mem → Option CRes} {N : Nat} (hD : DrawOk P D) (hK : CallOk P (KC P D) call) (hKw : WrC call) {d : Option RV → AV → List AV → Mem → Option (CRes × Bool)}
    (hd : DfrOk P (KC P D) d) (hdw : ∀ rec f args m v m' b, d rec f args m = some (.ret v m', b) → WrM m m') {f : FuncId} {fn : AFn} (hf : FnOk P D f fn) {args : List AV} {m : Mem} {r : CRes} {b : Bool} {rec : Option RV}
    (h : runBody C { call := call, iter := iterN N } d f fn args m rec = some (r, b)) {vs : List Value} (hR : Rel (KC P D) c X m.h w) (hv : VRs c args vs) :
    ∀ n, CallsIn (FW none) n P f vs.toArray w (RetR (KC P D) X c w r) := by
  intro n
  obtain ⟨F, code, hF, hb, _, hc, hres⟩ := hf.ok
  unfold runBody at h
  split at h <;> try (cases h; done)
  split at h <;> try (cases h; done)
  rename_i o s hden
  have hw1 := den_wr hKw fn.body hden
  refine callsIn_of_wp_marks hF hb trivial (wpIn_mono (den_sound (X := X) (nt := F.ntmps) (N := N) hD hK hKw fn.body code hc (ro := none) (n := n) hden
    (a := { tmps := vs.toArray ++ Array.replicate (F.ntmps - vs.toArray.size) undef, defers := [] }) (w := w) (c := c) ⟨hR, env_enter hv _, by simp; omega, .nil, trivial⟩) fun e a' w' hq => ?_)
  obtain ⟨h1, c1, A1, S1⟩ := hq
  have fin : ∀ (md : Md) (u : FrameMode), MdR md u → (match runDefs d s.defs md s.m with
      | some (.returning, m') =>
        match resAll s.env m' fn.res with
        | some vs => some (CRes.ret (settle C.fz (C.keepAll f) m (tupOf vs) m').1 (settle C.fz (C.keepAll f) m (tupOf vs) m').2, s.recd)
        | none => none
      | some (.panicking v, m') => some (CRes.pan v { h := m'.h, wr := oldWr m.h.length m'.wr ++ m.wr }, s.recd)
      | none => none) = some (r, b) → LeavesInM (FW none) n P F a'.tmps (RetR (KC P D) X c w r) a'.defers u w' := by
    intro md u hm h
    cases hdefs : runDefs d s.defs md s.m with
    | none => simp [hdefs] at h
    | some q =>
    obtain ⟨md', m'⟩ := q
    refine leaves_sound hd s.defs hdefs S1.defs hm S1.rel fun c2 w2 A2 R2 => ?_
    have hwt : WrM { h := m.h } m' := hw1.trans (runDefs_wr hdw _ hdefs)
    rw [hdefs] at h
    refine ⟨fun e => ?_, fun v e chain hp => ?_⟩
    · subst e
      simp only at h
      split at h <;> try (cases h; done)
      rename_i us hus
      simp only [Option.some.injEq, Prod.mk.injEq] at h
      obtain ⟨rfl, rfl⟩ := h
      obtain ⟨v, e1, e2⟩ := results_ok (P := P) (fn := F) R2 (S1.env.mono A2.le) rfl hres hus
      obtain ⟨c3, k1, k2, k3⟩ := settle_ok (F := C.fz) (ka := C.keepAll f) hR (A1.trans A2) R2 e2 hwt
      exact ⟨v, e1, c3, _, _, rfl, k1, k2, k3⟩
    · subst e
      simp only [Option.some.injEq, Prod.mk.injEq] at h
      obtain ⟨rfl, rfl⟩ := h
      exact ⟨c2, v, _, rfl, A1.trans A2, R2, hp⟩
  cases o with
  | norm => cases h1.norm; exact fin .returning .returning rfl h
  | ret =>
    have : e = .ret := by cases e <;> first | rfl | exact h1.elim
    subst this
    exact fin .returning .returning rfl h
  | exit id => cases h
  | pan v =>
    have : ∃ chain, e = .panic chain := by cases e <;> first | exact ⟨_, rfl⟩ | exact h1.elim
    obtain ⟨chain, rfl⟩ := this
    obtain ⟨u, rfl, rfl⟩ := h1
    exact fin (.panicking (.lit u)) _ ⟨u, rfl, rfl⟩ h

theorem put_params {ps : List Nat} : ∀ {args : List AV} {vs : List Value} {env env' : Env} {tm : Array Value}, putParams env ps args = some env' → VRs c args vs → EnvR c env tm → (∀ p ∈ ps, p < tm.size) →
    args.length = ps.length ∧ EnvR c env' ((ps.zip vs).foldl (fun t (p, v) => t.setIfInBounds p v) tm) ∧ ((ps.zip vs).foldl (fun t (p, v) => t.setIfInBounds p v) tm).size = tm.size := by
  induction ps with
  | nil =>
    intro args vs env env' tm h hv hE _
    cases args with
    | cons => simp [putParams] at h
    | nil =>
    cases vs with
    | cons => exact hv.elim
    | nil =>
    simp only [putParams, Option.some.injEq] at h
    subst h
    exact ⟨rfl, hE, rfl⟩
  | cons p ps ih =>
    intro args vs env env' tm h hv hE hp
    cases args with
    | nil => simp [putParams] at h
    | cons v args =>
    cases vs with
    | nil => exact hv.elim
    | cons u vs =>
    simp only [putParams] at h
    have hE' := hE.put hv.1 p (hp p (by simp))
    obtain ⟨i1, i2, i3⟩ := ih h hv.2 hE' (fun q hq => by simpa using hp q (by simp [hq]))
    refine ⟨by simpa using i1, by simpa using i2, by simpa using i3⟩

theorem runRound_sound {call : AV → List AV → Mem → Option CRes} {N F : Nat} (hD : DrawOk P D) (hK : CallOk P (KC P D) call) (hKw : WrC call) {i : Nat} {args : List AV} {m : Mem} {r : CRes}
    (h : runRound { call := call, iter := iterN N } F i args m = some r) {vs : List Value} {l : Nat} (hR : Rel (KC P D) c X m.h w) (hl : c.G i = 0 → l = c.β i) (hv : VRs c args vs) :
    ∃ fn tm as bd, (Instr.yield l vs.toArray).run P w = .ok (.round l fn tm as bd) w ∧ ∀ n, RoundIn (FW none) n P l fn tm as bd w (RetR (KC P D) X c w r) := by
  unfold runRound at h
  split at h <;> try (cases h; done)
  rename_i env ps as bd hb
  split at h <;> try (cases h; done)
  rename_i env' hput
  split at h <;> try (cases h; done)
  rename_i s1 hden
  have hw1 := den_wr hKw as hden
  obtain ⟨o, ho, hg, L, rfl, hst, hpe, hE, hps, hpl, nt, hnt, hA, hB⟩ := hR.blk i _ hb trivial
  have hl := hl hg
  subst hl
  obtain ⟨q1, q2, q3⟩ := put_params hput hv hE hpl
  have hvl : vs.length = args.length := (vrs_iff.1 hv).length.symm
  have hsz : vs.toArray.size = L.params.size := by
    have : L.params.size = ps.length := by rw [← hps]; simp
    simp; omega
  refine ⟨L.fn, _, L.assign, L.body, run_yield ho hsz, fun n => roundIn_of_wpIn trivial ?_⟩
  have htm : (L.params.zip vs.toArray).foldl (fun tmps (t, a) => tmps.setIfInBounds t a) L.tmps = (ps.zip vs).foldl (fun t (p, v) => t.setIfInBounds p v) L.tmps := by
    rw [← hps, ← Array.foldl_toList]
    simp [Array.toList_zip]
  refine wpIn_mono (den_sound (X := X) (nt := nt) (N := N) hD hK hKw as L.assign hA (ro := some (c.β i)) (n := n) hden
    (w := w) (c := c) ⟨hR, by rw [htm]; exact q2, by rw [htm, q3]; exact hnt, .nil, ⟨hR.lt hb, fun _ => rfl⟩⟩) fun e a1 w1 hq => ?_
  obtain ⟨h1, c1, A1, S1⟩ := hq
  cases h1.norm
  unfold roundBody at h
  split at h <;> try (cases h; done)
  rename_i env2 ps2 as2 bd2 hb2
  split at h <;> try (cases h; done)
  rename_i ou s2 hnp hden2
  have hw2 := den_wr hKw bd hden2
  have hi : i < c.n := hR.lt hb
  have hi1 : i < c1.n := S1.rel.lt hb2
  obtain ⟨o1, ho1, hg1, L1, rfl, hst1, hpe1, r1⟩ := S1.rel.blk i _ hb2 trivial
  have e1 : c1.β i = c.β i := (A1.le.same i hi (by omega)).1
  have ho1' : w1.heap[c.β i]? = some (.loop L1) := by rw [← e1]; exact ho1
  have hlt1 : c.β i < w1.heap.size := (Array.getElem?_eq_some_iff.1 ho1').1
  refine ⟨_, run_beginRound ho1' hst1, ?_⟩
  obtain ⟨A2, R2⟩ := Rel.upd S1.rel (b := .loop env2 ps2 as2 bd2 .busy none) (o := .loop { L1 with state := .busy }) (w' := w1.putObj (c.β i) (.loop { L1 with state := .busy })) hb2 trivial
    (fun k hk => by rw [e1] at hk; exact World.putObj_heap_other hk) (by rw [e1]; exact World.putObj_heap_same hlt1) (by simp [World.putObj]) rfl rfl rfl ⟨hg1, _, rfl, rfl, hpe1, r1⟩
  refine wpIn_mono (den_sound (X := X) (nt := nt) (N := N) hD hK hKw bd L.body hB (ro := some (c.β i)) (n := n) hden2
    (w := w1.putObj (c.β i) (.loop { L1 with state := .busy })) (c := c1) ⟨R2, S1.env, S1.size, S1.defs, S1.round⟩) fun e a2 w2 hq => ?_
  obtain ⟨h2, c2, A3, S2⟩ := hq
  unfold roundEnd at h
  split at h <;> try (cases h; done)
  rename_i env3 ps3 as3 bd3 hb3
  simp only [Option.some.injEq] at h
  obtain ⟨o3, ho3, hg3, L3, rfl, hst3, hpe3, r3⟩ := S2.rel.blk i _ hb3 trivial
  have e3 : c2.β i = c.β i := by rw [(A3.le.same i hi1 (by omega)).1, e1]
  have ho3' : w2.heap[c.β i]? = some (.loop L3) := by rw [← e3]; exact ho3
  have hlt3 : c.β i < w2.heap.size := (Array.getElem?_eq_some_iff.1 ho3').1
  have hwt : WrM { h := m.h } { h := s2.m.h.set i (.loop env3 ps3 as3 bd3 (if (outJmp ou).isNone then .ready else .done) (outJmp ou)), wr := i :: s2.m.wr } :=
    (hw1.setAt _ _).trans (hw2.setAt _ _)
  have fin : ∀ j : Option Jmp, j = outJmp ou → ∃ v w', (Instr.endRound (c.β i) (j.map Jmp.code)).run P w2 = .ok v w' ∧ RetR (KC P D) X c w r (.returned v) w' := by
    intro j hj
    have hz : (j.map Jmp.code).isNone = j.isNone := by cases j <;> rfl
    obtain ⟨A4, R4⟩ := Rel.upd S2.rel (b := .loop env3 ps3 as3 bd3 (if j.isNone then .ready else .done) j) (o := .loop { L3 with state := if (j.map Jmp.code).isNone then .ready else .done, pending := j.map Jmp.code })
      (w' := w2.putObj (c.β i) (.loop { L3 with state := if (j.map Jmp.code).isNone then .ready else .done, pending := j.map Jmp.code })) hb3 trivial
      (fun k hk => by rw [e3] at hk; exact World.putObj_heap_other hk) (by rw [e3]; exact World.putObj_heap_same hlt3) (by simp [World.putObj]) rfl rfl rfl
      ⟨hg3, _, rfl, by rw [hz]; cases j <;> rfl, rfl, r3⟩
    refine ⟨_, _, run_endRound _ ho3', ?_⟩
    subst hj
    obtain ⟨c3, k1, k2, k3⟩ := settle_ok (F := F) (ka := false) (v := .r (.lit (.bool (outJmp ou).isNone))) (val := .bool (outJmp ou).isNone) hR (((A1.trans A2).trans A3).trans A4) R4 rfl hwt
    refine ⟨c3, _, _, h.symm, k1, k2, ?_⟩
    rw [hz]
    rfl
  cases ou with
  | norm => cases h2.norm; exact fin none rfl
  | ret =>
    have : e = .ret := by cases e <;> first | rfl | exact h2.elim
    subst this
    exact fin (some .ret) rfl
  | exit id =>
    have : e = .exit id := by cases e <;> first | (cases h2; rfl) | exact h2.elim
    subst this
    exact fin (some (.exit id)) rfl
  | pan v => exact absurd rfl (hnp v)

/-- What is asked of the functions that are given by a law of their own. -/
def ExtOk (P : Program) (K : Nat → AC → Code → Prop) (C : Cfg) : Prop :=
  ∀ f e, C.ext f = some e → (∀ (vs : Array Value) w, (callFunc f vs).run P w = .ok (.enter f vs) w) ∧ ∀ args m r, e args m = some r → ∀ c X w vs, Rel K c X m.h w → VRs c args vs → ∀ n, CallsIn (FW none) n P f vs.toArray w (RetR K X c w r)

structure ProgOk (P : Program) (D : DChk) (C : Cfg) : Prop where
  draw : DrawOk P D
  fns : ∀ f fn, C.prog f = some fn → FnOk P D f fn
  ext : ExtOk P (KC P D) C
  extw : ExtWr C
  dfr : ∀ n, CallOk P (KC P D) (callN C n) → DfrOk P (KC P D) (dfrN C n)

theorem callFunc_enter {f : FuncId} {fn : AFn} (h : FnOk P D f fn) (args : Array Value) (w : World) : (callFunc f args).run P w = .ok (.enter f args) w := by
  obtain ⟨F, code, hF, hb, hn, _⟩ := h.ok
  simp [callFunc, hF, hb, hn]

theorem fun_sound {C : Cfg} (hP : ProgOk P D C) {n : Nat} (hn : ∀ k, k < n → CallOk P (KC P D) (callN C k)) {f : FuncId} {args : List AV} {m : Mem} {r : CRes} {b : Bool} {rec : Option RV} (h : funN C n f args m rec = some (r, b))
    {c : Cx} {X : Fr} {w : World} {vs : List Value} (hR : Rel (KC P D) c X m.h w) (hv : VRs c args vs) :
    (∀ (vs : Array Value) w, (callFunc f vs).run P w = .ok (.enter f vs) w) ∧ ∀ n, CallsIn (FW none) n P f vs.toArray w (RetR (KC P D) X c w r) := by
  cases n with
  | zero => simp [funN] at h
  | succ n =>
    simp only [funN] at h
    split at h
    · rename_i e he
      rw [Option.map_eq_some_iff] at h
      obtain ⟨r', h1, h2⟩ := h
      cases h2
      obtain ⟨k1, k2⟩ := hP.ext f e he
      exact ⟨k1, k2 _ _ _ h1 c X w vs hR hv⟩
    · split at h <;> try (cases h; done)
      rename_i fn hfn
      have hf := hP.fns f fn hfn
      obtain ⟨w1, w2, w3⟩ := all_wr hP.extw n
      exact ⟨fun vs w => callFunc_enter hf vs w, runBody_sound hP.draw (hn n (by omega)) w1 (hP.dfr n (hn n (by omega))) w3 hf h hR hv⟩

/-- Calls are borne out. -/
theorem call_sound {C : Cfg} (hP : ProgOk P D C) : ∀ n, CallOk P (KC P D) (callN C n) := by
  intro n
  induction n using Nat.strongRecOn with
  | ind n ih =>
    intro f args m r h c X w fv vs hR hf hv
    cases n with
    | zero => simp [callN] at h
    | succ n =>
      have enter : ∀ (g : FuncId) (a b : List AV) (as bs : List Value), VRs c a as → VRs c b bs → fv = .func (.func g) as.toArray bs.toArray → (funN C n g (a ++ args ++ b) m none).map (·.1) = some r →
          ∃ d, (∀ w, (Deferred.ofValue fv vs.toArray).run P w = .ok d w) ∧ Goes P (isYld f) (invoke d.target d.args) w (RetR (KC P D) X c w r) := by
        intro g a b as bs ha hb e h
        rw [Option.map_eq_some_iff] at h
        obtain ⟨⟨r', b'⟩, h1, h2⟩ := h
        cases h2
        have hvs : VRs c (a ++ args ++ b) (as ++ vs ++ bs) := by
          rw [vrs_iff] at *
          exact (ha.append hv).append hb
        obtain ⟨k1, k2⟩ := fun_sound hP (fun k hk => ih k (by omega)) h1 hR hvs
        refine ⟨{ target := .fn (.func g) bs.toArray, args := as.toArray ++ vs.toArray }, fun w => by subst e; simp [Deferred.ofValue], .inl ⟨g, (as ++ vs ++ bs).toArray, ?_, k2⟩⟩
        simp only [invoke]
        rw [k1]
        simp
      cases f with
      | r x =>
        cases x with
        | fn g a b =>
          simp only [callN] at h
          simp only [VR, RVR] at hf
          obtain ⟨as, bs, e, ha, hb⟩ := hf
          refine enter g (rs a) (rs b) as bs ?_ ?_ e h
          · rw [vrs_iff]; rw [rvrs_iff] at ha
            exact ha.mapL fun x y hxy => hxy
          · rw [vrs_iff]; rw [rvrs_iff] at hb
            exact hb.mapL fun x y hxy => hxy
        | _ => simp [callN] at h
      | fn g a b =>
        simp only [callN] at h
        simp only [VR] at hf
        obtain ⟨as, bs, e, ha, hb⟩ := hf
        exact enter g a b as bs ha hb e h
      | yld i =>
        simp only [callN] at h
        simp only [VR] at hf
        obtain ⟨hi, l, rfl, hl⟩ := hf
        obtain ⟨fn, tm, as, bd, k1, k2⟩ := runRound_sound hP.draw (ih n (by omega)) (all_wr hP.extw n).1 h hR hl hv
        refine ⟨{ target := .fn (.yield l) #[], args := vs.toArray }, fun w => by simp [Deferred.ofValue], .inr ⟨rfl, l, fn, tm, as, bd, ?_, k2⟩⟩
        simpa [invoke] using k1
      | _ => simp [callN] at h

end
end Go.AM
/- Regions that draw their order, first part: what an operation looks at (own work). -/
namespace Go.AM

def opds : AOp → List Opd
  | .mov x => [x]
  | .pick c a b => [c, a, b]
  | .alloc .. => []
  | .slot .. => []
  | .box _ x => [x]
  | .build _ ps => ps.map (·.2.2)
  | .slit _ _ _ _ ps => ps.map (·.2.2)
  | .load _ _ a => [a]
  | .store _ a v => [a, v]
  | .nilc x => [x]
  | .bin _ x y => [x, y]
  | .beq _ x y => [x, y]
  | .eqs _ _ x y => [x, y]
  | .eqn _ x => [x]
  | .eqnl _ x => [x]
  | .not x => [x]
  | .conv _ x => [x]
  | .s2b x => [x]
  | .mkfn _ a b => a ++ b
  | .slc _ x lo hi mx => x :: (lo.toList ++ hi.toList ++ mx.toList)
  | .slcA _ _ x lo hi => x :: (lo.toList ++ hi.toList)
  | .padd _ x => [x]
  | .fld _ _ _ x => [x]
  | .idxS _ x i => [x, i]
  | .idxA _ _ x i => [x, i]
  | .idxV _ _ _ x i => [x, i]
  | .idxT x i => [x, i]
  | .look _ _ _ m k => [m, k]
  | .mupd _ m k v => [m, k, v]
  | .mkmap => []
  | .mksl _ _ _ _ l c => [l, c]
  | .ext _ x => [x]
  | .call f args => f :: args
  | .app _ _ _ _ x y => [x, y]
  | .lenS x => [x]
  | .lenT x => [x]
  | .lenM x => [x]
  | .min x y => [x, y]
  | .max x y => [x, y]
  | .cpy _ d s => [d, s]
  | .clr _ x => [x]
  | .recov => []
  | .pan x => [x]
  | .mkif _ x => [x]
  | .tass _ _ x => [x]
  | .defr f args => f :: args

theorem omap_congr {e E : Env} {lo : Option Opd} (h : ∀ x ∈ lo.toList, ev E x = ev e x) : lo.map (ev E) = lo.map (ev e) := by
  cases lo with
  | none => rfl
  | some x => simp only [Option.map_some]; rw [h x (by simp)]

theorem evs_congr {e E : Env} {l : List Opd} (h : ∀ x ∈ l, ev E x = ev e x) : evs E l = evs e l := List.map_congr_left h
theorem evp_congr {e E : Env} {l : List (Nat × Nat × Opd)} (h : ∀ x ∈ l.map (·.2.2), ev E x = ev e x) : evp E l = evp e l :=
  List.map_congr_left fun p hp => by rw [h p.2.2 (List.mem_map.2 ⟨p, hp, rfl⟩)]

theorem stepOp_env {e E : Env} {m : Mem} {op : AOp} (h : ∀ x ∈ opds op, ev E x = ev e x) : stepOp E m op = stepOp e m op := by
  cases op <;> simp only [opds, List.mem_cons, List.not_mem_nil, or_false, forall_eq_or_imp, forall_eq] at h <;> simp only [stepOp]
  case build z ps => rw [evp_congr h]
  case slit t z len sz ps => rw [evp_congr h]
  case mkfn f a b => rw [evs_congr (l := a) fun x hx => h x (List.mem_append_left _ hx), evs_congr (l := b) fun x hx => h x (List.mem_append_right _ hx)]
  case slc sz x lo hi mx =>
    rw [h.1, omap_congr (lo := lo) fun x hx => h.2 x (by simp [hx]), omap_congr (lo := hi) fun x hx => h.2 x (by simp [hx]), omap_congr (lo := mx) fun x hx => h.2 x (by simp [hx])]
  case slcA n sz x lo hi =>
    rw [h.1, omap_congr (lo := lo) fun x hx => h.2 x (by simp [hx]), omap_congr (lo := hi) fun x hx => h.2 x (by simp [hx])]
  all_goals (first | rfl | (simp only [h]; done) | (obtain ⟨h1, h2⟩ := h; simp only [h1, h2]; done) | (obtain ⟨h1, h2, h3⟩ := h; simp only [h1, h2, h3]))

/-- Operations that look at no memory. -/
def pureOp : AOp → Bool
  | .mov .. | .pick .. | .build .. | .nilc .. | .bin .. | .beq .. | .eqs .. | .eqn .. | .eqnl .. | .not .. | .conv .. | .s2b .. | .mkfn .. | .padd .. | .fld .. | .idxS .. | .idxA .. | .idxV .. | .idxT .. | .ext ..
  | .lenS .. | .lenT .. | .min .. | .max .. | .mkif .. | .tass .. => true
  | _ => false
/-- Operations that read it. -/
def readOp : AOp → Bool
  | .load .. | .slc .. | .slcA .. | .look .. | .lenM .. => true
  | _ => false
def growOp : AOp → Bool
  | .app .. | .call .. => true
  | _ => false

theorem pure_step {e : Env} {m m' : Mem} {v : AV} {op : AOp} (hp : pureOp op = true) (h : stepOp e m op = some (v, m')) : m' = m ∧ ∀ M, stepOp e M op = some (v, M) := by
  cases op <;> simp only [pureOp, Bool.false_eq_true] at hp <;> simp only [stepOp] at h ⊢ <;>
  (repeat' (split at h)) <;> first | (cases h; done) | (cases h; refine ⟨rfl, fun M => ?_⟩; simp_all; done) | (cases h; refine ⟨rfl, fun M => ?_⟩; simp_all; intros; omega)

theorem read_step {base : Nat} {e : Env} {h H : List Blk} {wr : List Nat} {m' : Mem} {v : AV} {op : AOp} (hp : readOp op = true) (hF : ∀ b ∈ foot e base op, H[b]? = h[b]?) (hs : stepOp e { h := h, wr := wr } op = some (v, m')) :
    m' = { h := h, wr := wr } ∧ ∀ wr', stepOp e { h := H, wr := wr' } op = some (v, { h := H, wr := wr' }) := by
  have hrc : ∀ i g wr', i ∈ foot e base op → rcells { h := H, wr := wr' } i g = rcells { h := h, wr := wr } i g := fun i g wr' hi => by simp only [rcells]; rw [hF i hi]
  cases op <;> simp only [readOp, Bool.false_eq_true] at hp
  case load n ag a =>
    have key : ∀ wr', loadN { h := H, wr := wr' } (ev e a) n = loadN { h := h, wr := wr } (ev e a) n := fun wr' => by
      unfold loadN
      cases hv : ev e a
      case own i g o =>
        show (match rcells { h := H, wr := wr' } i g with | some cs => _ | none => _) = _
        rw [hrc i g wr' (by simp [foot, avIdx, hv])]
        rfl
      case r y => cases y <;> rfl
      all_goals rfl
    simp only [stepOp, loadV] at hs ⊢
    refine ⟨by (repeat' (split at hs)) <;> first | (cases hs; done) | (cases hs; rfl), fun wr' => ?_⟩
    rw [key wr']
    (repeat' (split at hs)) <;> first | (cases hs; done) | (cases hs; simp_all)
  case slc sz x lo hi mx =>
    simp only [stepOp] at hs ⊢
    cases hx : ev e x <;> rw [hx] at hs <;> (try simp only at hs) <;> (try simp only)
    case osl i g o len sz' cap =>
      refine ⟨by (repeat' (split at hs)) <;> first | (cases hs; done) | (cases hs; rfl), fun wr' => ?_⟩
      rw [hrc i g wr' (by simp [foot, avIdx, hx])]
      (repeat' (split at hs)) <;> first | (cases hs; done) | (cases hs; simp_all)
    case r y =>
      cases y <;> (try simp only at hs) <;> (try simp only) <;> refine ⟨by (repeat' (split at hs)) <;> first | (cases hs; done) | (cases hs; rfl), fun wr' => ?_⟩ <;>
      (repeat' (split at hs)) <;> first | (cases hs; done) | (cases hs; simp_all)
    all_goals cases hs
  case slcA n sz x lo hi =>
    simp only [stepOp] at hs ⊢
    cases hx : ev e x <;> rw [hx] at hs <;> (try simp only at hs) <;> (try simp only)
    case own i g o =>
      refine ⟨by (repeat' (split at hs)) <;> first | (cases hs; done) | (cases hs; rfl), fun wr' => ?_⟩
      rw [hrc i g wr' (by simp [foot, avIdx, hx])]
      (repeat' (split at hs)) <;> first | (cases hs; done) | (cases hs; simp_all)
    case r y =>
      cases y <;> (try simp only at hs) <;> (try simp only) <;> refine ⟨by (repeat' (split at hs)) <;> first | (cases hs; done) | (cases hs; rfl), fun wr' => ?_⟩ <;>
      (repeat' (split at hs)) <;> first | (cases hs; done) | (cases hs; simp_all)
    all_goals (exfalso; (repeat' (split at hs)) <;> cases hs)
  case look kn z ok mp k =>
    simp only [stepOp] at hs ⊢
    cases hx : ev e mp <;> rw [hx] at hs <;> (try simp only at hs) <;> (try simp only)
    case omap i =>
      cases hk : ev e k <;> rw [hk] at hs <;> (try simp only at hs) <;> (try simp only)
      case r kv =>
        refine ⟨by (repeat' (split at hs)) <;> first | (cases hs; done) | (cases hs; rfl), fun wr' => ?_⟩
        rw [hF i (by simp [foot, avIdx, hx])]
        (repeat' (split at hs)) <;> first | (cases hs; done) | (cases hs; simp_all)
      all_goals cases hs
    all_goals cases hs
  case lenM x =>
    simp only [stepOp] at hs ⊢
    cases hx : ev e x <;> rw [hx] at hs <;> (try simp only at hs) <;> (try simp only)
    case omap i =>
      refine ⟨by (repeat' (split at hs)) <;> first | (cases hs; done) | (cases hs; rfl), fun wr' => ?_⟩
      rw [hF i (by simp [foot, avIdx, hx])]
      (repeat' (split at hs)) <;> first | (cases hs; done) | (cases hs; simp_all)
    all_goals cases hs

/-- At most one block is written. -/
def patch (p : Option (Nat × Blk)) (h : List Blk) : List Blk :=
  match p with
  | some (i, b) => h.set i b
  | none => h

theorem patch_length (p : Option (Nat × Blk)) (h : List Blk) : (patch p h).length = h.length := by
  cases p with
  | none => rfl
  | some q => simp [patch]

def writeOp : AOp → Bool
  | .store .. | .mupd .. | .app .. => true
  | _ => false

def pw (p : Option (Nat × Blk)) : List Nat := (p.map (·.1)).toList

theorem storeN_loc {h H : List Blk} {a : AV} {vs : List AV} {m' : Mem} (hF : ∀ b ∈ avIdx a, H[b]? = h[b]?) (hs : storeN { h := h } a vs = some m') :
    ∃ p, m' = { h := patch p h, wr := pw p } ∧ storeN { h := H } a vs = some { h := patch p H, wr := pw p } ∧ ∀ q, p = some q → q.1 < h.length ∧ q.1 ∈ avIdx a := by
  unfold storeN at hs ⊢
  cases a <;> simp only at hs ⊢ <;> try (cases hs; done)
  rename_i i g o
  rw [hF i (by simp [avIdx])]
  split at hs <;> try (cases hs; done)
  rename_i cs t g' hb
  split at hs <;> cases hs
  rename_i hk
  refine ⟨some (i, .cells (setN cs o vs) t g), rfl, ?_, fun q hq => ?_⟩
  · simp only [hb, if_pos hk]; rfl
  · cases hq; exact ⟨getElem?_lt hb, by simp [avIdx]⟩

theorem write_step {base : Nat} {e : Env} {h H : List Blk} {m' : Mem} {v : AV} {op : AOp} (hp : writeOp op = true) (hF : ∀ b ∈ foot e base op, H[b]? = h[b]?) (hL : growOp op = true → H.length = h.length)
    (hs : stepOp e { h := h } op = some (v, m')) :
    ∃ p new, m' = { h := patch p h ++ new, wr := pw p } ∧ stepOp e { h := H } op = some (v, { h := patch p H ++ new, wr := pw p }) ∧ (new ≠ [] → growOp op = true) ∧ ∀ q, p = some q → q.1 < h.length ∧ q.1 ∈ foot e base op := by
  cases op <;> simp only [writeOp, Bool.false_eq_true] at hp
  case store n a u =>
    simp only [stepOp] at hs ⊢
    split at hs <;> try (cases hs; done)
    rename_i hk
    split at hs <;> cases hs
    rename_i hst
    obtain ⟨p, e1, e2, e3⟩ := storeN_loc (H := H) (fun b hb => hF b (by simpa [foot] using hb)) hst
    exact ⟨p, [], by simpa using e1, by rw [if_pos hk, e2]; simp, by simp, fun q hq => ⟨(e3 q hq).1, by simpa [foot] using (e3 q hq).2⟩⟩
  case mupd kn mp k u =>
    simp only [stepOp] at hs ⊢
    cases hx : ev e mp <;> rw [hx] at hs <;> (try simp only at hs) <;> (try simp only) <;> try (cases hs; done)
    rename_i i
    cases hk : ev e k <;> rw [hk] at hs <;> (try simp only at hs) <;> (try simp only) <;> try (cases hs; done)
    rename_i kv
    have hi : i ∈ foot e base (.mupd kn mp k u) := by simp [foot, avIdx, hx]
    rw [hF i hi]
    split at hs <;> try (cases hs; done)
    rename_i es hb
    split at hs <;> cases hs
    · rename_i j _ hf
      exact ⟨some (i, .map (es.set j (kv, ev e u))), [], by simp [patch, pw], by simp [hb, hf, patch, pw], by simp, fun q hq => by cases hq; exact ⟨getElem?_lt hb, hi⟩⟩
    · rename_i hf
      exact ⟨some (i, .map (es ++ [(kv, ev e u)])), [], by simp [patch, pw], by simp [hb, hf, patch, pw], by simp, fun q hq => by cases hq; exact ⟨getElem?_lt hb, hi⟩⟩
  case app t z sz bytes x y =>
    have hL := hL rfl
    have hrc : ∀ i g, i ∈ avIdx (ev e y) → rcells { h := H } i g = rcells { h := h } i g := fun i g hi => by simp only [rcells]; rw [hF i (by simp [foot, hi])]
    have hsl : slCells { h := H } (ev e y) sz = slCells { h := h } (ev e y) sz := by
      unfold slCells
      cases hy : ev e y
      case osl i g o len sz' cap =>
        show (match rcells { h := H } i g with | some cs => _ | none => _) = _
        rw [hrc i g (by simp [avIdx, hy])]
        rfl
      case r y => cases y <;> rfl
      all_goals rfl
    simp only [stepOp, appendA] at hs ⊢
    rw [hsl]
    cases hc : slCells { h := h } (ev e y) sz with
    | none => simp [hc] at hs
    | some q =>
    obtain ⟨new, n⟩ := q
    simp only [hc] at hs ⊢
    cases hx : ev e x <;> rw [hx] at hs <;> (try simp only at hs) <;> (try simp only) <;> try (cases hs; done)
    case r xv =>
      cases xv <;> (try simp only at hs) <;> (try simp only) <;> try (cases hs; done)
      case nil =>
        split at hs
        · rename_i h0; cases hs; exact ⟨none, [], by simp [patch, pw], by rw [if_pos h0]; simp [patch, pw], by simp, by simp⟩
        · rename_i h0
          split at hs <;> cases hs
          rename_i h1
          exact ⟨none, [.cells new t 0], by simp [patch, pw], by rw [if_neg h0, if_pos h1, hL]; simp [patch, pw], fun _ => rfl, by simp⟩
      case sl cs len cap =>
        split at hs
        · rename_i h0; cases hs; exact ⟨none, [], by simp [patch, pw], by rw [if_pos h0]; simp [patch, pw], by simp, by simp⟩
        · rename_i h0
          cases cap with
          | none => simp at hs
          | some cp =>
          simp only at hs ⊢
          split at hs <;> cases hs
          rename_i h1
          exact ⟨none, [.cells (rs cs ++ new) t 0], by simp [patch, pw], by rw [if_neg h0, if_pos h1, hL]; simp [patch, pw], fun _ => rfl, by simp⟩
    case osl i g o len sz' cap =>
      cases o with
      | succ o => simp at hs
      | zero =>
      cases cap with
      | some cp =>
        simp only at hs ⊢
        have hi : i ∈ foot e base (.app t z sz bytes x y) := by simp [foot, avIdx, hx]
        rw [hF i hi]
        split at hs <;> try (cases hs; done)
        rename_i cs t' g' hb
        split at hs <;> try (cases hs; done)
        rename_i hk
        split at hs
        · rename_i h0; cases hs; exact ⟨none, [], by simp [patch, pw], by simp [hb, if_pos hk, if_pos h0, patch, pw], by simp, by simp⟩
        · rename_i h0
          split at hs
          · rename_i h1
            cases hs
            exact ⟨some (i, .cells (cs.take (len * sz) ++ new) t g), [], by simp [patch, pw], by simp [hb, if_pos hk, if_neg h0, if_pos h1, patch, pw], by simp, fun q hq => by cases hq; exact ⟨getElem?_lt hb, hi⟩⟩
          · rename_i h1
            cases hs
            exact ⟨none, [.cells (cs.take (len * sz) ++ new) t 0], by simp [patch, pw], by simp [hb, if_pos hk, if_neg h0, if_neg h1, hL, patch, pw], fun _ => rfl, by simp⟩
      | none =>
      simp only at hs ⊢
      have hi : i ∈ foot e base (.app t z sz bytes x y) := by simp [foot, avIdx, hx]
      rw [hF i hi]
      split at hs <;> try (cases hs; done)
      rename_i cs t' g' hb
      split at hs <;> try (cases hs; done)
      rename_i hk
      split at hs
      · rename_i h0; cases hs; exact ⟨none, [], by simp [patch, pw], by simp [hb, if_pos hk, if_pos h0, patch, pw], by simp, by simp⟩
      · rename_i h0
        cases hs
        exact ⟨some (i, .cells (cs.take (len * sz) ++ new) t (g + 1)), [], by simp [patch, pw], by simp [hb, if_pos hk, if_neg h0, patch, pw], by simp, fun q hq => by cases hq; exact ⟨getElem?_lt hb, hi⟩⟩

end Go.AM
/- Regions that draw their order, second part: what lies behind a set of operations (own work). -/
namespace Go.AM

def last (p : Nat → Bool) : Nat → Option Nat
  | 0 => none
  | n + 1 => bif p n then some n else last p n

theorem last_congr {p q : Nat → Bool} : ∀ {n : Nat}, (∀ k, k < n → p k = q k) → last p n = last q n
  | 0, _ => rfl
  | n + 1, h => by simp only [last, h n (by omega), last_congr (n := n) fun k hk => h k (by omega)]

theorem last_below {p : Nat → Bool} {i : Nat} : ∀ {n : Nat}, i ≤ n → last (fun k => decide (k < i) && p k) n = last p i
  | 0, h => by have : i = 0 := by omega
               subst this; rfl
  | n + 1, h => by
    by_cases e : i = n + 1
    · subst e
      exact last_congr fun k hk => by simp [hk]
    · simp only [last]
      rw [show (decide (n < i) && p n) = false by simp; omega]
      simpa using last_below (n := n) (by omega)

theorem last_is {p : Nat → Bool} {k : Nat} : ∀ {n : Nat}, k < n → p k = true → (∀ j, k < j → j < n → p j = false) → last p n = some k
  | 0, h, _, _ => by omega
  | n + 1, h, hk, hj => by
    simp only [last]
    by_cases e : k = n
    · subst e; rw [hk]; rfl
    · rw [hj n (by omega) (by omega)]
      exact last_is (n := n) (by omega) hk fun j h1 h2 => hj j h1 (by omega)

/-- How a region went in its text's order. -/
structure Tr where
  e : Nat → Env
  h : Nat → List Blk
  v : Nat → AV
  on : Nat → Bool
  W : Nat → List Nat
  F : Nat → List Nat

def dput (d : Option Nat) (v : AV) (e : Env) : Env := match d with | some t => (t, v) :: e | none => e

structure StepOk (K : Kit) (base : Nat) (i : AI) (T : Tr) (k : Nat) : Prop where
  want : wants (T.e k) i.g = some (T.on k)
  env : T.e (k + 1) = dput i.dst (T.v k) (T.e k)
  yes : T.on k = true → ∃ wr, stepD K base (T.e k) (T.h k) i.o = some (T.v k, { h := T.h (k + 1), wr := wr }) ∧ T.F k = foot (T.e k) base i.o ∧ T.W k = wrAll (T.h k).length { h := T.h (k + 1), wr := wr }
  no : T.on k = false → T.v k = unit ∧ T.h (k + 1) = T.h k ∧ T.W k = [] ∧ T.F k = []

def consTr (e : Env) (h : List Blk) (v : AV) (on : Bool) (W F : List Nat) (T : Tr) : Tr where
  e := fun | 0 => e | k + 1 => T.e k
  h := fun | 0 => h | k + 1 => T.h k
  v := fun | 0 => v | k + 1 => T.v k
  on := fun | 0 => on | k + 1 => T.on k
  W := fun | 0 => W | k + 1 => T.W k
  F := fun | 0 => F | k + 1 => T.F k

theorem denD_trace {K : Kit} {base : Nat} : ∀ (l : List AI) (e e' : Env) (m m' : Mem) (fs fs' : List (List Nat × List Nat)), denD K base l e m fs = some (e', m', fs') →
    ∃ T : Tr, T.e 0 = e ∧ T.h 0 = m.h ∧ T.e l.length = e' ∧ T.h l.length = m'.h ∧ fs' = fs ++ (List.range l.length).map (fun k => (T.F k, T.W k)) ∧
      ∀ k i, l[k]? = some i → StepOk K base i T k ∧ (T.on k = true → ∀ b, slotOf base i.o = some b → (∀ f ∈ fs, b ∉ f.2) ∧ ∀ j, j < k → b ∉ T.W j) := by
  intro l
  induction l with
  | nil =>
    intro e e' m m' fs fs' h
    simp only [denD, Option.some.injEq, Prod.mk.injEq] at h
    obtain ⟨rfl, rfl, rfl⟩ := h
    exact ⟨⟨fun _ => e, fun _ => m.h, fun _ => .dead, fun _ => false, fun _ => [], fun _ => []⟩, rfl, rfl, rfl, rfl, by simp, fun k i hi => by simp at hi⟩
  | cons i l ih =>
    intro e e' m m' fs fs' h
    simp only [denD] at h
    split at h
    · rename_i hw
      split at h <;> try (cases h; done)
      rename_i v m1 hs
      split at h <;> try (cases h; done)
      rename_i hfree
      obtain ⟨T, t1, t2, t3, t4, t5, t6⟩ := ih _ _ _ _ _ _ h
      refine ⟨consTr e m.h v true (wrAll m.h.length m1) (foot e base i.o) T, rfl, rfl, t3, t4, ?_, ?_⟩
      · rw [t5, List.length_cons, List.range_succ_eq_map]
        simp [consTr, Function.comp_def]
      · intro k j hj
        cases k with
        | zero =>
          simp only [List.getElem?_cons_zero, Option.some.injEq] at hj
          subst hj
          refine ⟨⟨hw, ?_, fun _ => ⟨m1.wr, ?_, rfl, ?_⟩, fun h => by simp [consTr] at h⟩, fun _ b hb => ⟨fun f hf => ?_, fun j hj => by omega⟩⟩
          · show T.e 0 = _
            rw [t1]; rfl
          · show stepD K base e m.h i.o = some (v, { h := T.h 0, wr := m1.wr })
            rw [t2]; exact hs
          · show _ = wrAll m.h.length { h := T.h 0, wr := m1.wr }
            rw [t2]; rfl
          · simp only [slotFree, hb, List.all_eq_true, Bool.not_eq_true'] at hfree
            have := hfree f hf
            simpa using this
        | succ k =>
          simp only [List.getElem?_cons_succ] at hj
          obtain ⟨⟨a1, a2, a3, a4⟩, a5⟩ := t6 k j hj
          refine ⟨⟨a1, a2, a3, a4⟩, fun ho b hb => ?_⟩
          obtain ⟨b1, b2⟩ := a5 ho b hb
          refine ⟨fun f hf => b1 f (by simp [hf]), fun q hq => ?_⟩
          cases q with
          | zero => exact b1 (foot e base i.o, wrAll m.h.length m1) (by simp)
          | succ q => exact b2 q (by omega)
    · rename_i hw
      obtain ⟨T, t1, t2, t3, t4, t5, t6⟩ := ih _ _ _ _ _ _ h
      refine ⟨consTr e m.h unit false [] [] T, rfl, rfl, t3, t4, ?_, ?_⟩
      · rw [t5, List.length_cons, List.range_succ_eq_map]
        simp [consTr, Function.comp_def]
      · intro k j hj
        cases k with
        | zero =>
          simp only [List.getElem?_cons_zero, Option.some.injEq] at hj
          subst hj
          refine ⟨⟨hw, ?_, fun h => by simp [consTr] at h, fun _ => ⟨rfl, ?_, rfl, rfl⟩⟩, fun h => by simp [consTr] at h⟩
          · show T.e 0 = _
            rw [t1]; rfl
          · show T.h 0 = m.h
            rw [t2]
        | succ k =>
          simp only [List.getElem?_cons_succ] at hj
          obtain ⟨⟨a1, a2, a3, a4⟩, a5⟩ := t6 k j hj
          refine ⟨⟨a1, a2, a3, a4⟩, fun ho b hb => ?_⟩
          obtain ⟨b1, b2⟩ := a5 ho b hb
          refine ⟨fun f hf => b1 f (by simp [hf]), fun q hq => ?_⟩
          cases q with
          | zero => exact fun h => by simp [consTr] at h
          | succ q => exact b2 q (by omega)
    · cases h

/-! ### behind a set -/
def envS (dst : Nat → Option Nat) (v : Nat → AV) (e0 : Env) (S : Nat → Bool) : Nat → Env
  | 0 => e0
  | k + 1 => bif S k then dput (dst k) (v k) (envS dst v e0 S k) else envS dst v e0 S k

theorem eget_dput (d : Option Nat) (v : AV) (e : Env) (t : Nat) : eget (dput d v e) t = if d = some t then v else eget e t := by
  cases d with
  | none => simp [dput]
  | some u => simp [dput, eget]

theorem eget_envS {dst : Nat → Option Nat} {v : Nat → AV} {e0 : Env} {S : Nat → Bool} (t : Nat) : ∀ n, eget (envS dst v e0 S n) t = match last (fun k => S k && dst k == some t) n with | some k => v k | none => eget e0 t
  | 0 => rfl
  | n + 1 => by
    simp only [envS, last]
    cases hS : S n with
    | false => exact eget_envS t n
    | true =>
      simp only [cond_true, Bool.true_and, eget_dput]
      by_cases e : dst n = some t
      · simp [e]
      · rw [if_neg e, show (dst n == some t) = false by simpa using e]
        exact eget_envS t n

def heapS (h : Nat → List Blk) (W : Nat → List Nat) (S : Nat → Bool) (n b : Nat) : Option Blk :=
  match last (fun k => S k && (W k).contains b) n with
  | some k => (h (k + 1))[b]?
  | none => (h 0)[b]?

def lenS (h : Nat → List Blk) (g : Nat → Bool) (S : Nat → Bool) (n : Nat) : Nat :=
  match last (fun k => S k && g k) n with
  | some k => (h (k + 1)).length
  | none => (h 0).length

def tmpOf : Opd → List Nat
  | .t n => [n]
  | _ => []
/-- The tmps that an operation looks at. -/
def looks (i : AI) : List Nat := (match i.g with | some (t, _) => [t] | none => []) ++ (opds i.o).flatMap tmpOf

theorem looks_ev {i : AI} {e E : Env} (h : ∀ t ∈ looks i, eget E t = eget e t) : (∀ x ∈ opds i.o, ev E x = ev e x) ∧ wants E i.g = wants e i.g := by
  constructor
  · intro x hx
    cases x with
    | t n => exact h n (by simp only [looks, List.mem_append, List.mem_flatMap]; exact .inr ⟨_, hx, by simp [tmpOf]⟩)
    | k x => rfl
  · cases hg : i.g with
    | none => rfl
    | some q =>
      obtain ⟨t, b⟩ := q
      simp only [wants]
      rw [h t (by simp [looks, hg])]

/-- Two operations that no edge puts in order. -/
structure Apart (dst : Nat → Option Nat) (lk : Nat → List Nat) (T : Tr) (g cl sl : Nat → Bool) (i k : Nat) : Prop where
  d1 : ∀ t, dst i = some t → t ∉ lk k ∧ dst k ≠ some t
  d2 : ∀ t, dst k = some t → t ∉ lk i
  w1 : ∀ b ∈ T.W i, b ∉ T.F k ∧ b ∉ T.W k
  w2 : ∀ b ∈ T.W k, b ∉ T.F i
  gr : g i = true → g k = false
  c1 : cl i = true → T.W k = [] ∨ sl k = true
  c2 : cl k = true → T.W i = []

/-- An operation that may come next, the ones of `S` done. -/
structure Next1 (dst : Nat → Option Nat) (lk : Nat → List Nat) (T : Tr) (g cl sl : Nat → Bool) (n : Nat) (S : Nat → Bool) (i : Nat) : Prop where
  lt : i < n
  un : S i = false
  up : ∀ k, i < k → k < n → S k = true → Apart dst lk T g cl sl i k
  dn : ∀ k, k < i → S k = false → Apart dst lk T g cl sl k i

section
variable {dst : Nat → Option Nat} {lk : Nat → List Nat} {T : Tr} {g cl sl : Nat → Bool} {n i : Nat} {S : Nat → Bool}

/-- What an operation does not share with those that are apart from it is as it was in the text's order. -/
theorem last_agree (hN : Next1 dst lk T g cl sl n S i) {p : Nat → Bool} (hu : ∀ k, Apart dst lk T g cl sl i k → p k = false) (hd : ∀ k, Apart dst lk T g cl sl k i → p k = false) :
    last (fun k => S k && p k) n = last p i := by
  rw [← last_below (Nat.le_of_lt hN.lt)]
  refine last_congr fun k hk => ?_
  rcases Nat.lt_trichotomy k i with h | h | h
  · cases hs : S k with
    | true => simp [h]
    | false => simp [hd k (hN.dn k h hs)]
  · subst h; simp [hN.un]
  · cases hs : S k with
    | true => simp [hu k (hN.up k h hk hs)]
    | false => simp; omega

theorem last_grow (hN : Next1 dst lk T g cl sl n S i) {p : Nat → Bool} (hi : p i = true) (hu : ∀ k, Apart dst lk T g cl sl i k → p k = false) :
    last (fun k => (S k || k == i) && p k) n = some i :=
  last_is hN.lt (by simp [hi]) fun j h1 h2 => by
    cases hs : S j with
    | true => simp [hu j (hN.up j h1 h2 hs)]
    | false => simp; intro h; omega

theorem last_same {p : Nat → Bool} (hi : p i = false) : last (fun k => (S k || k == i) && p k) n = last (fun k => S k && p k) n :=
  last_congr fun k _ => by
    by_cases e : k = i
    · subst e; simp [hi]
    · rw [show (k == i) = false by simpa using e]; simp

theorem env_agree (hN : Next1 dst lk T g cl sl n S i) (hT : ∀ k, k ≤ n → T.e k = envS dst T.v (T.e 0) (fun _ => true) k) {t : Nat} (ht : t ∈ lk i) :
    eget (envS dst T.v (T.e 0) S n) t = eget (T.e i) t := by
  rw [hT i (Nat.le_of_lt hN.lt), eget_envS, eget_envS, last_agree hN (p := fun k => dst k == some t)]
  · simp
  · intro k hA
    simp only [beq_eq_false_iff_ne]
    exact fun h => hA.d2 t h ht
  · intro k hA
    simp only [beq_eq_false_iff_ne]
    exact fun h => (hA.d1 t h).1 ht

theorem heap_agree (hN : Next1 dst lk T g cl sl n S i) (hT : ∀ k b, k ≤ n → (T.h k)[b]? = heapS T.h T.W (fun _ => true) k b) {b : Nat} (hb : b ∈ T.F i) :
    heapS T.h T.W S n b = (T.h i)[b]? := by
  rw [hT i b (Nat.le_of_lt hN.lt)]
  unfold heapS
  rw [last_agree hN (p := fun k => (T.W k).contains b)]
  · simp
  · intro k hA
    cases hc : (T.W k).contains b with
    | false => rfl
    | true => exact absurd hb (hA.w2 b (by simpa using hc))
  · intro k hA
    cases hc : (T.W k).contains b with
    | false => rfl
    | true => exact absurd hb (hA.w1 b (by simpa using hc)).1

theorem len_agree (hN : Next1 dst lk T g cl sl n S i) (hT : ∀ k, k ≤ n → (T.h k).length = lenS T.h g (fun _ => true) k) (hg : g i = true) : lenS T.h g S n = (T.h i).length := by
  rw [hT i (Nat.le_of_lt hN.lt)]
  unfold lenS
  rw [last_agree hN (p := g)]
  · simp
  · intro k hA; exact hA.gr hg
  · intro k hA
    cases hc : g k with
    | false => rfl
    | true => have := hA.gr hc; rw [hg] at this; cases this

theorem env_grow (hN : Next1 dst lk T g cl sl n S i) (t : Nat) : eget (dput (dst i) (T.v i) (envS dst T.v (T.e 0) S n)) t = eget (envS dst T.v (T.e 0) (fun k => S k || k == i) n) t := by
  rw [eget_dput, eget_envS, eget_envS]
  by_cases e : dst i = some t
  · rw [if_pos e, last_grow hN (p := fun k => dst k == some t) (by simp [e]) fun k hA => by simpa using (hA.d1 t e).2]
  · rw [if_neg e, last_same (p := fun k => dst k == some t) (by simpa using e)]

theorem heap_grow (hN : Next1 dst lk T g cl sl n S i) (b : Nat) : (if b ∈ T.W i then (T.h (i + 1))[b]? else heapS T.h T.W S n b) = heapS T.h T.W (fun k => S k || k == i) n b := by
  unfold heapS
  by_cases e : b ∈ T.W i
  · rw [if_pos e, last_grow hN (p := fun k => (T.W k).contains b) (by simp [e]) fun k hA => by simpa using (hA.w1 b e).2]
  · rw [if_neg e, last_same (p := fun k => (T.W k).contains b) (by simpa using e)]

theorem len_grow (hN : Next1 dst lk T g cl sl n S i) : (if g i then (T.h (i + 1)).length else lenS T.h g S n) = lenS T.h g (fun k => S k || k == i) n := by
  unfold lenS
  by_cases e : g i = true
  · rw [if_pos e, last_grow hN (p := g) e fun k hA => hA.gr e]
  · rw [if_neg e, last_same (p := g) (by simpa using e)]

end
end Go.AM
/- Regions that draw their order, third part: slots, hidden blocks (own work). -/
namespace Go.AM
section
variable {K : Nat → AC → Code → Prop} {X X1 X2 : Fr} {c c' : Cx} {w w' : World} {h H : List Blk}

theorem Adv.weaken (hA : Adv X1 c w c' w') (hx : ∀ p, X.x p → X1.x p) (hr : ∀ b, X.r b → X1.r b) : Adv X c w c' w' :=
  ⟨hA.le, fun b hb => hA.frame b (hx b hb), hA.size, hA.os, hA.tape, hA.output, fun i hi h => hA.fix i hi (h.imp (hx _) (hr _))⟩

theorem Rel.refr (hR : Rel K c X h w) (hx : ∀ p, X1.x p → X.x p) (hx' : ∀ (i : Nat) (b : Blk), h[i]? = some b → b.alive → ¬ X.x (c.β i) → ¬ X1.x (c.β i)) (hr : ∀ b, X1.r b → h[b]? = some .dead) : Rel K c X1 h w :=
  ⟨hR.len, hR.blk, hR.inj, fun i b hb ha => ⟨(hR.own i b hb ha).1, hx' i b hb ha (hR.own i b hb ha).2⟩, hR.mem, fun b hb => hR.frm b (hx b hb), hr⟩

/-- Room for the blocks that a region lays. -/
theorem Rel.pad (hR : Rel K c X h w) (n : Nat) :
    Adv X c w { c with n := c.n + n, G := fun i => if i < c.n then c.G i else 0 } w ∧ Rel K { c with n := c.n + n, G := fun i => if i < c.n then c.G i else 0 } X (h ++ List.replicate n .dead) w := by
  have hle : c.Le { c with n := c.n + n, G := fun i => if i < c.n then c.G i else 0 } := ⟨by simp, Msub.refl _, fun i hi => by simp [hi], fun i hi _ => ⟨rfl, rfl⟩⟩
  have hcase : ∀ (i : Nat) (b : Blk), (h ++ List.replicate n .dead)[i]? = some b → b.alive → h[i]? = some b := fun i b hb ha => by
    rcases Nat.lt_or_ge i h.length with h1 | h1
    · rwa [List.getElem?_append_left h1] at hb
    · rw [List.getElem?_append_right h1, List.getElem?_replicate] at hb
      split at hb <;> cases hb
      exact ha.elim
  refine ⟨⟨hle, fun _ _ => rfl, Nat.le_refl _, rfl, rfl, rfl, fun i hi _ => by simp [hi]⟩, ⟨by simp [hR.len], fun i b hb ha => ?_, fun i j b d hb ha hd hda e => hR.inj i j b d (hcase i b hb ha) ha (hcase j d hd hda) hda e,
    fun i b hb ha => hR.own i b (hcase i b hb ha) ha, hR.mem, hR.frm, fun i hi => ?_⟩⟩
  · obtain ⟨o, ho, hr⟩ := hR.blk i b (hcase i b hb ha) ha
    have hi := hR.lt (hcase i b hb ha)
    exact ⟨o, ho, hr.mono hle hi (by simp [hi])⟩
  · rw [List.getElem?_append_left (getElem?_lt (hR.res i hi))]; exact hR.res i hi

def Cx.fillSlot (c : Cx) (b s z : Nat) : Cx := { c with β := AM.upd c.β b s, G := AM.upd c.G b 1, Z := AM.upd c.Z b z }

theorem Cx.fillSlot_le {b s z : Nat} (hg : c.G b = 0) : c.Le (c.fillSlot b s z) :=
  ⟨Nat.le_refl _, Msub.refl _, fun j _ => by
    by_cases e : j = b
    · subst e; simp [Cx.fillSlot, hg]
    · simp [Cx.fillSlot, upd_ne _ _ e], fun j _ h => by
    by_cases e : j = b
    · subst e; simp [Cx.fillSlot, hg] at h
    · simp [Cx.fillSlot, upd_ne _ _ e]⟩

/-- A slot is filled. -/
theorem Rel.slot (hR : Rel K c X1 H w) {b : Nat} (hb : X1.r b) (hg : c.G b = 0) {blk : Blk} {o : Obj} {z : Nat} (hB : BlkR K (c.fillSlot b w.heap.size z) b blk o) (hx : X2.x = X1.x) (hr : ∀ i, X2.r i → X1.r i ∧ i ≠ b) :
    c.Le (c.fillSlot b w.heap.size z) ∧ Rel K (c.fillSlot b w.heap.size z) X2 (H.set b blk) (w.alloc o) := by
  have hd := hR.res b hb
  have hle : c.Le (c.fillSlot b w.heap.size z) := Cx.fillSlot_le hg
  have hβ : ∀ j, j ≠ b → (c.fillSlot b w.heap.size z).β j = c.β j := fun j hj => by simp [Cx.fillSlot, upd_ne _ _ hj]
  have hβb : (c.fillSlot b w.heap.size z).β b = w.heap.size := by simp [Cx.fillSlot]
  have hG : ∀ j, j ≠ b → (c.fillSlot b w.heap.size z).G j = c.G j := fun j hj => by simp [Cx.fillSlot, upd_ne _ _ hj]
  have hold : ∀ i, i < w.heap.size → (w.alloc o).heap[i]? = w.heap[i]? := fun i hi => alloc_old w o hi
  have hcase : ∀ j d, (H.set b blk)[j]? = some d → (j = b ∧ d = blk) ∨ (j ≠ b ∧ H[j]? = some d) := fun j d hj => by
    by_cases e : j = b
    · subst e
      rw [List.getElem?_set_self (getElem?_lt hd)] at hj
      exact .inl ⟨rfl, by simpa using hj.symm⟩
    · rw [List.getElem?_set_ne (fun h => e h.symm)] at hj
      exact .inr ⟨e, hj⟩
  have hne : ∀ (j : Nat) (d : Blk), H[j]? = some d → d.alive → c.β j ≠ w.heap.size := fun j d hj ha => Nat.ne_of_lt (hR.βlt hj ha)
  refine ⟨hle, ?_⟩
  · refine ⟨by simp [Cx.fillSlot, hR.len], fun j d hj ha => ?_, fun j k d e hj ha hk hea heq => ?_, fun j d hj ha => ?_, fun k o' hk => ?_, fun k hk => ?_, fun j hj => ?_⟩
    · rcases hcase j d hj with ⟨rfl, rfl⟩ | ⟨h1, h2⟩
      · exact ⟨o, by rw [hβb]; exact alloc_new w o, hB⟩
      · obtain ⟨o', ho', hr'⟩ := hR.blk j d h2 ha
        exact ⟨o', by rw [hβ j h1, hold _ (hR.βlt h2 ha)]; exact ho', hr'.mono hle (hR.lt h2) (hG j h1)⟩
    · rcases hcase j d hj with ⟨rfl, rfl⟩ | ⟨h1, h2⟩ <;> rcases hcase k e hk with ⟨rfl, rfl⟩ | ⟨h3, h4⟩
      · rfl
      · rw [hβb, hβ k h3] at heq; exact absurd heq.symm (hne k e h4 hea)
      · rw [hβb, hβ j h1] at heq; exact absurd heq (hne j d h2 ha)
      · rw [hβ j h1, hβ k h3] at heq; exact hR.inj j k d e h2 ha h4 hea heq
    · rcases hcase j d hj with ⟨rfl, rfl⟩ | ⟨h1, h2⟩
      · rw [hβb]
        refine ⟨?_, fun hx' => Nat.lt_irrefl _ (hR.frm _ (hx ▸ hx')).1⟩
        show c.M w.heap.size = none
        cases hm : c.M w.heap.size with
        | none => rfl
        | some o' =>
          have := hR.mem _ _ hm
          simp at this
      · rw [hβ j h1, hx]; exact hR.own j d h2 ha
    · have := hR.mem k o' hk
      rw [hold _ (Array.getElem?_eq_some_iff.1 this).1]; exact this
    · have := hR.frm k (hx ▸ hk)
      exact ⟨by rw [alloc_size]; omega, this.2⟩
    · obtain ⟨h1, h2⟩ := hr j hj
      rw [List.getElem?_set_ne (Ne.symm h2)]; exact hR.res j h1

theorem Adv.slot {c0 : Cx} {w0 : World} (hA : Adv X c0 w0 c w) (hX : ∀ p, X.x p → p < w.heap.size) {b z : Nat} {o : Obj} (hg : c.G b = 0) (h0 : c0.n ≤ b) : Adv X c0 w0 (c.fillSlot b w.heap.size z) (w.alloc o) :=
  ⟨hA.le.trans (Cx.fillSlot_le hg), fun p hp => by rw [alloc_old w o (hX p hp)]; exact hA.frame p hp, by rw [alloc_size]; have := hA.size; omega, hA.os, hA.tape, hA.output, fun i hi h => by
    rw [← hA.fix i hi h]
    exact upd_ne _ _ (by omega)⟩

/-- Blocks are hidden: a call is not to touch them. -/
theorem Rel.hide (hR : Rel K c X H w) (Kd : Nat → Prop) (hl : h.length = H.length) (h1 : ∀ b, ¬ Kd b → h[b]? = H[b]?) (h2 : ∀ b, Kd b → h[b]? = some .dead) (h3 : ∀ b, Kd b → ∃ blk, H[b]? = some blk ∧ blk.alive) :
    Rel K c ⟨fun p => X.x p ∨ ∃ b, Kd b ∧ c.β b = p, X.r⟩ h w := by
  have hn : ∀ (i : Nat) (b : Blk), h[i]? = some b → b.alive → ¬ Kd i ∧ H[i]? = some b := fun i b hb ha => by
    have hk : ¬ Kd i := fun hk => by rw [h2 i hk] at hb; cases hb; exact ha.elim
    exact ⟨hk, by rw [← h1 i hk]; exact hb⟩
  refine ⟨by rw [hl]; exact hR.len, fun i b hb ha => hR.blk i b (hn i b hb ha).2 ha, fun i j b d hb ha hd hda e => hR.inj i j b d (hn i b hb ha).2 ha (hn j d hd hda).2 hda e, fun i b hb ha => ?_, hR.mem, fun p hp => ?_, fun i hi => ?_⟩
  · obtain ⟨k1, k2⟩ := hn i b hb ha
    refine ⟨(hR.own i b k2 ha).1, ?_⟩
    rintro (h | ⟨b', hb', he⟩)
    · exact (hR.own i b k2 ha).2 h
    · obtain ⟨blk, e1, e2⟩ := h3 b' hb'
      have := hR.inj b' i blk b e1 e2 k2 ha he
      subst this
      exact k1 hb'
  · rcases hp with h | ⟨b', hb', rfl⟩
    · exact hR.frm p h
    · obtain ⟨blk, e1, e2⟩ := h3 b' hb'
      exact ⟨hR.βlt e1 e2, (hR.own b' blk e1 e2).1⟩
  · have hk : ¬ Kd i := fun hk => by
      obtain ⟨blk, e1, e2⟩ := h3 i hk
      rw [hR.res i hi] at e1; cases e1; exact e2.elim
    rw [h1 i hk]; exact hR.res i hi

/-- Hidden blocks come back as they were. -/
theorem Rel.show (hR : Rel K c X H w) (Kd : Nat → Prop) (h3 : ∀ b, Kd b → ∃ blk, H[b]? = some blk ∧ blk.alive) {m H2 : List Blk}
    (hA : Adv ⟨fun p => X.x p ∨ ∃ b, Kd b ∧ c.β b = p, X.r⟩ c w c' w') (hR' : Rel K c' ⟨fun p => X.x p ∨ ∃ b, Kd b ∧ c.β b = p, X.r⟩ m w')
    (hl : H2.length = m.length) (h1 : ∀ b, ¬ Kd b → H2[b]? = m[b]?) (h2 : ∀ b, Kd b → H2[b]? = H[b]?) : Rel K c' X H2 w' := by
  have hk : ∀ b, Kd b → ∃ blk, H[b]? = some blk ∧ blk.alive ∧ b < c.n ∧ c'.G b = c.G b ∧ c'.β b = c.β b := fun b hb => by
    obtain ⟨blk, e1, e2⟩ := h3 b hb
    have hlt := hR.lt e1
    have hG := hA.fix b hlt (.inl (.inr ⟨b, hb, rfl⟩))
    exact ⟨blk, e1, e2, hlt, hG, (hA.le.same b hlt hG).1⟩
  refine ⟨by rw [hl]; exact hR'.len, fun i b hb ha => ?_, fun i j b d hb ha hd hda e => ?_, fun i b hb ha => ?_, hR'.mem, fun p hp => hR'.frm p (.inl hp), fun i hi => ?_⟩
  · by_cases hi : Kd i
    · obtain ⟨blk, e1, e2, e3, e4, e5⟩ := hk i hi
      rw [h2 i hi] at hb
      obtain ⟨o, ho, hr⟩ := hR.blk i b hb ha
      exact ⟨o, by rw [e5, hA.frame _ (.inr ⟨i, hi, rfl⟩)]; exact ho, hr.mono hA.le e3 e4⟩
    · rw [h1 i hi] at hb; exact hR'.blk i b hb ha
  · by_cases hi : Kd i <;> by_cases hj : Kd j
    · obtain ⟨_, _, _, _, _, e5⟩ := hk i hi
      obtain ⟨_, _, _, _, _, f5⟩ := hk j hj
      rw [h2 i hi] at hb; rw [h2 j hj] at hd
      rw [e5, f5] at e
      exact hR.inj i j b d hb ha hd hda e
    · obtain ⟨_, _, _, _, _, e5⟩ := hk i hi
      rw [h1 j hj] at hd
      exact absurd (.inr ⟨i, hi, by rw [← e5, e]⟩) (hR'.own j d hd hda).2
    · obtain ⟨_, _, _, _, _, e5⟩ := hk j hj
      rw [h1 i hi] at hb
      exact absurd (.inr ⟨j, hj, by rw [← e5, ← e]⟩) (hR'.own i b hb ha).2
    · rw [h1 i hi] at hb; rw [h1 j hj] at hd
      exact hR'.inj i j b d hb ha hd hda e
  · by_cases hi : Kd i
    · obtain ⟨blk, e1, e2, e3, e4, e5⟩ := hk i hi
      rw [h2 i hi] at hb
      refine ⟨(hR'.frm _ (.inr ⟨i, hi, e5.symm⟩)).2, ?_⟩
      rw [e5]; exact (hR.own i b hb ha).2
    · rw [h1 i hi] at hb
      exact ⟨(hR'.own i b hb ha).1, fun h => (hR'.own i b hb ha).2 (.inl h)⟩
  · have hn : ¬ Kd i := fun hn => by
      obtain ⟨blk, e1, e2⟩ := h3 i hn
      rw [hR.res i hi] at e1; cases e1; exact e2.elim
    rw [h1 i hn]; exact hR'.res i hi

end
end Go.AM
/- Regions that draw their order, fourth part: one operation (own work). -/
namespace Go.AM

def isCall : AOp → Bool
  | .call .. => true
  | _ => false
def isSlot : AOp → Bool
  | .slot .. => true
  | _ => false
def isSlit : AOp → Bool
  | .slit .. => true
  | _ => false
/-- Operations that write nothing. -/
def noW (o : AOp) : Bool := pureOp o || readOp o || isSlit o

theorem slit_step {K : Kit} {base : Nat} {e : Env} {h : List Blk} {t : TypeId} {z : List RV} {len sz : Nat} {ps : List (Nat × Nat × Opd)} {v : AV} {m' : Mem}
    (hs : stepD K base e h (.slit t z len sz ps) = some (v, m')) : m' = { h := h } ∧ ∀ M, stepOp e M (.slit t z len sz ps) = some (v, M) := by
  simp only [stepD] at hs
  split at hs <;> cases hs
  rename_i r m' hs
  simp only [stepOp] at hs ⊢
  split at hs <;> try (cases hs; done)
  rename_i cs hf
  split at hs <;> try (cases hs; done)
  rename_i hk
  split at hs <;> cases hs
  rename_i l hl
  exact ⟨rfl, fun M => by simp [hf, hk, hl]⟩

theorem other_step {K : Kit} {base : Nat} {e : Env} {h H : List Blk} {op : AOp} {v : AV} {m' : Mem} (hc : isCall op = false) (hl : isSlot op = false) (hs : stepD K base e h op = some (v, m'))
    (hF : ∀ b ∈ foot e base op, H[b]? = h[b]?) (hL : growOp op = true → H.length = h.length) :
    plainOp op = true ∧ ∃ p new, m' = { h := patch p h ++ new, wr := pw p } ∧ stepOp e { h := H } op = some (v, { h := patch p H ++ new, wr := pw p }) ∧ (new ≠ [] → growOp op = true) ∧
      (∀ q, p = some q → q.1 < h.length ∧ q.1 ∈ foot e base op) ∧ (noW op = true → p = none ∧ new = []) := by
  by_cases h1 : isSlit op = true
  · cases op <;> simp only [isSlit, Bool.false_eq_true] at h1
    obtain ⟨e1, e2⟩ := slit_step hs
    exact ⟨rfl, none, [], by simpa [patch, pw] using e1, by simpa [patch, pw] using e2 _, by simp, by simp, by simp⟩
  · have hs' : stepOp e { h := h } op = some (v, m') := by
      cases op <;> simp only [isSlit, isCall, isSlot, stepD] at * <;> first | (exact hs) | (cases hs; done) | (simp at h1; done) | (simp at hc; done) | (simp at hl; done)
    by_cases h2 : pureOp op = true
    · obtain ⟨e1, e2⟩ := pure_step h2 hs'
      refine ⟨?_, none, [], by simpa [patch, pw] using e1, by simpa [patch, pw] using e2 _, by simp, by simp, by simp⟩
      cases op <;> first | rfl | (simp [pureOp] at h2; done)
    · by_cases h3 : readOp op = true
      · obtain ⟨e1, e2⟩ := read_step h3 hF hs'
        refine ⟨?_, none, [], by simpa [patch, pw] using e1, by simpa [patch, pw] using e2 _, by simp, by simp, by simp⟩
        cases op <;> first | rfl | (simp [readOp] at h3; done)
      · have h4 : writeOp op = true := by
          cases op <;> first | rfl | (simp [pureOp] at h2; done) | (simp [readOp] at h3; done) | (simp [isSlit] at h1; done) | (simp [isCall] at hc; done) | (simp [isSlot] at hl; done) | (simp [stepD] at hs; done) | (simp [stepOp] at hs'; done)
        obtain ⟨p, new, e1, e2, e3, e4⟩ := write_step h4 hF hL hs'
        refine ⟨by cases op <;> first | rfl | (simp [writeOp] at h4; done), p, new, e1, e2, e3, e4, fun h => ?_⟩
        simp [noW, h1, h2, h3] at h

theorem patch_get {p : Option (Nat × Blk)} {new h H : List Blk} (h1 : ∀ q, p = some q → q.1 < h.length ∧ H[q.1]? = h[q.1]?) (h2 : new ≠ [] → H.length = h.length) (b : Nat) :
    (patch p H ++ new)[b]? = if b ∈ wrAll h.length { h := patch p h ++ new, wr := pw p } then (patch p h ++ new)[b]? else H[b]? := by
  have hlen : (patch p h ++ new).length - h.length = new.length := by simp [patch_length]
  simp only [wrAll, hlen, List.mem_append, List.mem_range'_1]
  have key : ∀ (G : List Blk) (i : Nat) (blk : Blk), i < G.length → (G.set i blk)[i]? = some blk := fun G i blk hi => List.getElem?_set_self hi
  by_cases hn : new = []
  · subst hn
    cases p with
    | none => simp [patch, pw]; intro h1 h2; omega
    | some q =>
      obtain ⟨i, blk⟩ := q
      obtain ⟨k1, k2⟩ := h1 _ rfl
      simp only at k1 k2
      have k3 : i < H.length := by
        have : h[i]? = some h[i] := List.getElem?_eq_getElem k1
        rw [← k2] at this
        exact getElem?_lt this
      simp only [patch, pw, List.append_nil, Option.map_some, Option.toList_some, List.mem_singleton, List.length_nil, Nat.add_zero]
      by_cases e : b = i
      · subst e; simp [key _ _ _ k1, key _ _ _ k3]
      · rw [List.getElem?_set_ne (Ne.symm e), if_neg]
        rintro (h | h)
        · exact e h
        · omega
  · have hL := h2 hn
    by_cases hb : h.length ≤ b
    · rw [List.getElem?_append_right (by rw [patch_length]; omega), List.getElem?_append_right (by rw [patch_length]; omega), patch_length, patch_length, hL]
      by_cases hb2 : b < h.length + new.length
      · rw [if_pos (.inr ⟨hb, hb2⟩)]
      · rw [List.getElem?_eq_none (by omega), List.getElem?_eq_none (by omega)]; simp
    · rw [List.getElem?_append_left (by rw [patch_length]; omega), List.getElem?_append_left (by rw [patch_length]; omega)]
      cases p with
      | none => simp [patch, pw]; omega
      | some q =>
        obtain ⟨i, blk⟩ := q
        obtain ⟨k1, k2⟩ := h1 _ rfl
        simp only at k1 k2
        have k3 : i < H.length := by omega
        simp only [patch, pw, Option.map_some, Option.toList_some, List.mem_singleton]
        by_cases e : b = i
        · subst e; simp [key _ _ _ k1, key _ _ _ k3]
        · rw [List.getElem?_set_ne (Ne.symm e), if_neg]
          rintro (h | h)
          · exact e h
          · omega

theorem EnvR.congr {c : Cx} {e e' : Env} {ts : Array Value} (h : EnvR c e ts) (he : ∀ t, eget e' t = eget e t) : EnvR c e' ts := fun t => by rw [he]; exact h t

/-- A region that draws its order, and how it went in its text's order. -/
structure DC (P : Program) (K : Kit) (base n slots nt : Nat) (os : Array Oper) (l : List AI) (T : Tr) : Prop where
  ln : l.length = n
  lo : os.size = n
  chk : ∀ (k : Nat) (i : AI) (o : Oper), l[k]? = some i → os[k]? = some o → chkAI P os nt i o = true
  st : ∀ (k : Nat) (i : AI), l[k]? = some i → StepOk K base i T k
  fresh : ∀ (k : Nat) (i : AI), l[k]? = some i → T.on k = true → ∀ b, slotOf base i.o = some b → ∀ j, j < k → b ∉ T.W j
  slt : ∀ (k : Nat) (i : AI) (b : Nat), l[k]? = some i → slotOf base i.o = some b → b < base + slots

def dstF (l : List AI) (k : Nat) : Option Nat := (l[k]?).bind (·.dst)
def lkF (l : List AI) (k : Nat) : List Nat := match l[k]? with | some i => looks i | none => []
def opF (f : AOp → Bool) (l : List AI) (k : Nat) : Bool := match l[k]? with | some i => f i.o | none => false

section
variable {P : Program} {K : Kit} {base n slots nt : Nat} {os : Array Oper} {l : List AI} {T : Tr}

theorem DC.get (hC : DC P K base n slots nt os l T) {k : Nat} (hk : k < n) : ∃ i, l[k]? = some i := ⟨l[k]'(by rw [hC.ln]; exact hk), List.getElem?_eq_getElem _⟩

/-- What an operation writes: nothing; its slot; what it looks at; or, if it makes memory longer, more. -/
theorem DC.writes (hC : DC P K base n slots nt os l T) (hw : ∀ f args m v m', K.call f args m = some (.ret v m') → WrM m m') {k : Nat} {i : AI} (hi : l[k]? = some i) :
    (∀ b, b ∉ T.W k → (T.h (k + 1))[b]? = (T.h k)[b]?) ∧ (noW i.o = true → T.W k = []) ∧ (growOp i.o = false → (∀ b ∈ T.W k, b ∈ T.F k) ∧ (T.h (k + 1)).length = (T.h k).length) ∧
      (∀ b, T.on k = true → slotOf base i.o = some b → T.W k = [b] ∧ (T.h k)[b]? = some .dead ∧ ∃ t z j, i.o = .slot j t z ∧ b = base + j ∧ T.v k = .own b 1 0 ∧ T.h (k + 1) = (T.h k).set b (.cells (rs z) t 1)) := by
  have hst := hC.st k i hi
  cases hon : T.on k with
  | false =>
    obtain ⟨e1, e2, e3, e4⟩ := hst.no hon
    exact ⟨fun b _ => by rw [e2], fun _ => e3, fun _ => ⟨by rw [e3]; simp, by rw [e2]⟩, fun b h => by cases h⟩
  | true =>
    obtain ⟨wr, hs, hF, hW⟩ := hst.yes hon
    by_cases hc : isCall i.o = true
    · cases ho : i.o <;> simp only [ho, isCall, Bool.false_eq_true] at hc
      rw [ho] at hs
      simp only [stepD] at hs
      split at hs <;> cases hs
      rename_i hcall
      obtain ⟨h1, ws, h2, h3⟩ := hw _ _ _ _ _ hcall
      simp only [List.append_nil] at h2
      refine ⟨fun b hb => ?_, fun h => by simp [ho, noW, pureOp, readOp, isSlit] at h, fun h => by simp [ho, growOp] at h, fun b _ hb => by simp [ho, slotOf] at hb⟩
      rw [hW] at hb
      simp only [wrAll, List.mem_append, List.mem_range'_1, not_or] at hb
      by_cases hlt : b < (T.h k).length
      · exact h3 b hlt (by rw [← h2]; exact hb.1)
      · rw [List.getElem?_eq_none (l := T.h k) (by omega), List.getElem?_eq_none]
        simp only at h1
        have := hb.2
        omega
    · by_cases hsl : isSlot i.o = true
      · cases ho : i.o <;> simp only [ho, isSlot, Bool.false_eq_true] at hsl
        rename_i j t z
        rw [ho] at hs
        simp only [stepD] at hs
        split at hs <;> try (cases hs; done)
        rename_i hd
        simp only [Option.some.injEq, Prod.mk.injEq, Mem.mk.injEq] at hs
        obtain ⟨hv, hh, rfl⟩ := hs
        have hW' : T.W k = [base + j] := by rw [hW, ← hh]; simp [wrAll]
        refine ⟨fun b hb => ?_, fun h => by simp [ho, noW, pureOp, readOp, isSlit] at h, fun _ => ⟨fun b hb => ?_, by rw [← hh]; simp⟩, fun b _ hb => ?_⟩
        · rw [← hh, List.getElem?_set_ne]
          rw [hW'] at hb; simp at hb
          exact fun h => hb h.symm
        · rw [hF, ho]; rw [hW'] at hb; simpa [foot] using hb
        · simp only [ho, slotOf, Option.some.injEq] at hb
          subst hb
          exact ⟨hW', hd, t, z, j, rfl, rfl, hv.symm, hh.symm⟩
      · have hc' : isCall i.o = false := by simpa using hc
        have hsl' : isSlot i.o = false := by simpa using hsl
        obtain ⟨_, p, new, e1, _, e3, e4, e5⟩ := other_step (H := T.h k) hc' hsl' hs (fun _ _ => rfl) (fun _ => rfl)
        simp only [Mem.mk.injEq] at e1
        obtain ⟨e1, rfl⟩ := e1
        have hg := patch_get (p := p) (new := new) (h := T.h k) (H := T.h k) (fun q hq => ⟨(e4 q hq).1, rfl⟩) (fun _ => rfl)
        refine ⟨fun b hb => ?_, fun h => ?_, fun h => ?_, fun b _ hb => by cases ho : i.o <;> simp [ho, slotOf, isSlot] at hb hsl'⟩
        · rw [hW, e1] at hb
          rw [e1, hg b, if_neg hb]
        · obtain ⟨rfl, rfl⟩ := e5 h
          rw [hW, e1]; simp [wrAll, patch, pw]
        · have hn : new = [] := by
            cases new with
            | nil => rfl
            | cons b bs => have := e3 (by simp); rw [h] at this; cases this
          subst hn
          refine ⟨fun b hb => ?_, by rw [e1]; simp [patch_length]⟩
          rw [hW, e1] at hb
          simp [wrAll, patch_length, pw] at hb
          rw [hF]
          cases p with
          | none => simp at hb
          | some q => obtain ⟨i0, blk⟩ := q; simp at hb; subst hb; exact (e4 _ rfl).2

theorem DC.env (hC : DC P K base n slots nt os l T) : ∀ k, k ≤ n → T.e k = envS (dstF l) T.v (T.e 0) (fun _ => true) k
  | 0, _ => rfl
  | k + 1, h => by
    obtain ⟨i, hi⟩ := hC.get (k := k) (by omega)
    rw [(hC.st k i hi).env]
    simp only [envS, cond_true, ← hC.env k (by omega)]
    congr 1
    simp [dstF, hi]

theorem DC.heap (hC : DC P K base n slots nt os l T) (hw : ∀ f args m v m', K.call f args m = some (.ret v m') → WrM m m') (b : Nat) : ∀ k, k ≤ n → (T.h k)[b]? = heapS T.h T.W (fun _ => true) k b
  | 0, _ => rfl
  | k + 1, h => by
    obtain ⟨i, hi⟩ := hC.get (k := k) (by omega)
    simp only [heapS, last, Bool.true_and]
    cases hb : (T.W k).contains b with
    | true => rfl
    | false =>
      have := (hC.writes hw hi).1 b (by simpa using hb)
      rw [this, hC.heap hw b k (by omega)]
      simp [heapS]

theorem DC.len (hC : DC P K base n slots nt os l T) (hw : ∀ f args m v m', K.call f args m = some (.ret v m') → WrM m m') : ∀ k, k ≤ n → (T.h k).length = lenS T.h (opF growOp l) (fun _ => true) k
  | 0, _ => rfl
  | k + 1, h => by
    obtain ⟨i, hi⟩ := hC.get (k := k) (by omega)
    simp only [lenS, last, Bool.true_and]
    cases hb : opF growOp l k with
    | true => rfl
    | false =>
      have := ((hC.writes hw hi).2.2.1 (by simpa [opF, hi] using hb)).2
      rw [this, hC.len hw k (by omega)]
      simp [lenS]

end
end Go.AM
/- Regions that draw their order, fifth part: the state behind a set of operations (own work). -/
namespace Go.AM

/-- A slot that nothing fills. -/
def slotRes (base n slots : Nat) (l : List AI) (T : Tr) (S : Nat → Bool) (b : Nat) : Prop :=
  base ≤ b ∧ b < base + slots ∧ ∀ k i, k < n → S k = true → l[k]? = some i → T.on k = true → slotOf base i.o ≠ some b
def XS (X : Fr) (base n slots : Nat) (l : List AI) (T : Tr) (S : Nat → Bool) : Fr := ⟨X.x, fun b => X.r b ∨ slotRes base n slots l T S b⟩

structure InvS (Kr : Nat → AC → Code → Prop) (X : Fr) (c0 : Cx) (w0 : World) (nt : Nat) (ro : Option Nat) (defs : List ADef) (round : Option Nat) (base n slots : Nat) (l : List AI) (T : Tr) (S : Nat → Bool) (c : Cx) (a : Act) (w : World) : Prop where
  ex : ∃ H : List Blk, (∀ b, H[b]? = heapS T.h T.W S n b) ∧ H.length = lenS T.h (opF growOp l) S n ∧ Rel Kr c (XS X base n slots l T S) H w
  env : EnvR c (envS (dstF l) T.v (T.e 0) S n) a.tmps
  size : nt ≤ a.tmps.size
  defs : All2 (DefR c) defs a.defers
  round : RoundR c round ro
  gz : ∀ b, slotRes base n slots l T S b → c.G b = 0
  adv : Adv X c0 w0 c w

abbrev NextS (l : List AI) (T : Tr) (n : Nat) (S : Nat → Bool) (i : Nat) : Prop := Next1 (dstF l) (lkF l) T (opF growOp l) (opF isCall l) (opF isSlot l) n S i

section
variable {P : Program} {Kr : Nat → AC → Code → Prop} {X : Fr} {c0 : Cx} {w0 : World} {nt : Nat} {ro : Option Nat} {defs : List ADef} {round : Option Nat}
variable {K : Kit} {base n slots : Nat} {os : Array Oper} {l : List AI} {T : Tr} {S : Nat → Bool} {c : Cx} {a : Act} {w : World} {i : Nat} {x : AI} {o : Oper}

theorem slotRes_same (hi : l[i]? = some x) (h : T.on i = true → slotOf base x.o = none) (b : Nat) : slotRes base n slots l T (fun k => S k || k == i) b ↔ slotRes base n slots l T S b := by
  constructor
  · rintro ⟨h1, h2, h3⟩
    exact ⟨h1, h2, fun k y hk hS => h3 k y hk (by simp [hS])⟩
  · rintro ⟨h1, h2, h3⟩
    refine ⟨h1, h2, fun k y hk hS hy hon => ?_⟩
    by_cases e : k = i
    · subst e
      rw [hi] at hy; cases hy
      rw [h hon]; simp
    · exact h3 k y hk (by simpa [e] using hS) hy hon

theorem XS_same (hi : l[i]? = some x) (h : T.on i = true → slotOf base x.o = none) : XS X base n slots l T (fun k => S k || k == i) = XS X base n slots l T S := by
  simp only [XS]
  congr 1
  funext b
  rw [slotRes_same hi h b]

theorem slotOf_none {o : AOp} (h : isSlot o = false) : slotOf base o = none := by cases o <;> first | rfl | (simp [isSlot] at h; done)

variable (hC : DC P K base n slots nt os l T) (hw : ∀ f args m v m', K.call f args m = some (.ret v m') → WrM m m')
include hC hw

theorem skip_step {nn : Nat} {Q : Exit → Act → World → Prop} {next : Act → World → Prop} (hN : NextS l T n S i) (hI : InvS Kr X c0 w0 nt ro defs round base n slots l T S c a w) (hi : l[i]? = some x) (ho : os[i]? = some o)
    (hon : T.on i = false) (hn : ∀ c' a' w', InvS Kr X c0 w0 nt ro defs round base n slots l T (fun k => S k || k == i) c' a' w' → next a' w') (hd : x.dst = o.dst) (hdn : (match o.dst with | some d => decide (d < nt) | none => true) = true) :
    next (a.put o.dst undef) w := by
  have hst := hC.st i x hi
  obtain ⟨e1, e2, e3, e4⟩ := hst.no hon
  refine hn c _ w ?_
  obtain ⟨H, h1, h2, h3⟩ := hI.ex
  have hnone : T.on i = true → slotOf base x.o = none := fun h => by rw [hon] at h; cases h
  refine ⟨⟨H, fun b => ?_, ?_, by rw [XS_same hi hnone]; exact h3⟩, ?_, ?_, ?_, hI.round, fun b hb => hI.gz b ((slotRes_same hi hnone b).1 hb), hI.adv⟩
  · rw [← heap_grow hN b, e3, h1]; simp
  · rw [← len_grow hN, h2]
    split
    · rename_i hg
      rw [e2, len_agree hN (hC.len hw) hg]
    · rfl
  · have hE : EnvR c (dput (dstF l i) (T.v i) (envS (dstF l) T.v (T.e 0) S n)) (a.put o.dst undef).tmps := by
      have hd' : dstF l i = o.dst := by simp [dstF, hi, hd]
      rw [hd', e1]
      cases hdst : o.dst with
      | none => exact hI.env
      | some d =>
        rw [hdst] at hdn
        exact hI.env.put (by simp only [unit, VR]; exact ⟨[], rfl, trivial⟩) d (Nat.lt_of_lt_of_le (by simpa using hdn) hI.size)
    exact hE.congr fun t => (env_grow hN t).symm
  · cases hdst : o.dst <;> simpa [Act.put] using hI.size
  · cases hdst : o.dst <;> exact hI.defs

/-- An operation that is no call and no slot. -/
theorem plain_draw {nn : Nat} {Q : Exit → Act → World → Prop} {next : Act → World → Prop} (hN : NextS l T n S i) (hI : InvS Kr X c0 w0 nt ro defs round base n slots l T S c a w) (hi : l[i]? = some x) (ho : os[i]? = some o)
    (hon : T.on i = true) (hc : isCall x.o = false) (hsl : isSlot x.o = false) (hn : ∀ c' a' w', InvS Kr X c0 w0 nt ro defs round base n slots l T (fun k => S k || k == i) c' a' w' → next a' w') :
    o.wpIn (FW ro) nn P a w next Q := by
  have hst := hC.st i x hi
  obtain ⟨wr, hs, hF, hW⟩ := hst.yes hon
  obtain ⟨H, h1, h2, h3⟩ := hI.ex
  have hck := hC.chk i x o hi ho
  simp only [chkAI, Bool.and_eq_true, beq_iff_eq] at hck
  obtain ⟨⟨⟨hg, hdst⟩, hd⟩, hop⟩ := hck
  have hlk : ∀ t ∈ looks x, eget (envS (dstF l) T.v (T.e 0) S n) t = eget (T.e i) t := fun t ht => env_agree hN hC.env (by simpa [lkF, hi] using ht)
  obtain ⟨hev, _⟩ := looks_ev hlk
  have hFH : ∀ b ∈ foot (T.e i) base x.o, H[b]? = (T.h i)[b]? := fun b hb => by rw [h1, heap_agree hN (fun k b hk => hC.heap hw b k hk) (by rw [hF]; exact hb)]
  have hgw : opF growOp l i = growOp x.o := by simp [opF, hi]
  have hLH : growOp x.o = true → H.length = (T.h i).length := fun h => by rw [h2, len_agree hN (hC.len hw) (by rw [hgw]; exact h)]
  obtain ⟨hp, p, new, e1, e2, e3, e4, e5⟩ := other_step hc hsl hs hFH hLH
  rw [← stepOp_env hev] at e2
  have hnone : T.on i = true → slotOf base x.o = none := fun _ => slotOf_none hsl
  have hS : SimAt Kr (XS X base n slots l T S) { env := envS (dstF l) T.v (T.e 0) S n, m := { h := H }, defs := defs, round := round } c nt ro a w := ⟨h3, hI.env, hI.size, hI.defs, hI.round⟩
  rw [hdst] at hd
  refine plain_step hS hp hop hd e2 fun c' a' w' hA hS' => hn c' a' w' ?_
  simp only [Mem.mk.injEq] at e1
  obtain ⟨e1, rfl⟩ := e1
  refine ⟨⟨patch p H ++ new, fun b => ?_, ?_, by rw [XS_same hi hnone]; simpa [putD] using (by cases hq : o.dst <;> simpa [putD, hq] using hS'.rel)⟩, ?_, hS'.size, by cases hq : o.dst <;> simpa [putD, hq] using hS'.defs, by cases hq : o.dst <;> simpa [putD, hq] using hS'.round,
    fun b hb => ?_, ?_⟩
  · rw [← heap_grow hN b, hW, e1, patch_get (p := p) (new := new) (h := T.h i) (H := H) (fun q hq => ⟨(e4 q hq).1, hFH _ (e4 q hq).2⟩) (fun hne => hLH (e3 hne)) b, h1]
  · rw [← len_grow hN, ← h2, hgw]
    split
    · rename_i hgr
      rw [e1]; simp [patch_length, hLH hgr]
    · rename_i hgr
      have : new = [] := by
        cases new with
        | nil => rfl
        | cons b bs => exact absurd (e3 (by simp)) hgr
      subst this
      simp [patch_length]
  · have hd' : dstF l i = o.dst := by simp [dstF, hi, hdst]
    refine EnvR.congr (e := dput (dstF l i) (T.v i) (envS (dstF l) T.v (T.e 0) S n)) ?_ fun t => (env_grow hN t).symm
    rw [hd']
    have := hS'.env
    cases hq : o.dst <;> simpa [putD, hq, dput] using this
  · have hb' := (slotRes_same hi hnone b).1 hb
    have hlt : b < c.n := h3.lt (h3.res b (.inr hb'))
    rw [hA.fix b hlt (.inr (.inr hb'))]
    exact hI.gz b hb'
  · exact hI.adv.trans (hA.weaken (fun _ h => h) (fun _ h => .inl h))

/-- A slot. -/
theorem slot_draw {nn : Nat} {Q : Exit → Act → World → Prop} {next : Act → World → Prop} (hb0 : c0.n ≤ base) (hN : NextS l T n S i) (hI : InvS Kr X c0 w0 nt ro defs round base n slots l T S c a w) (hi : l[i]? = some x) (ho : os[i]? = some o)
    (hXr : ∀ b, X.r b → b < c0.n) (hon : T.on i = true) (hsl : isSlot x.o = true) (hn : ∀ c' a' w', InvS Kr X c0 w0 nt ro defs round base n slots l T (fun k => S k || k == i) c' a' w' → next a' w') :
    o.wpIn (FW ro) nn P a w next Q := by
  obtain ⟨H, h1, h2, h3⟩ := hI.ex
  have hck := hC.chk i x o hi ho
  simp only [chkAI, Bool.and_eq_true, beq_iff_eq] at hck
  obtain ⟨⟨⟨hg, hdst⟩, hd⟩, hop⟩ := hck
  obtain ⟨b, hb⟩ : ∃ b, slotOf base x.o = some b := by cases hx : x.o <;> simp [hx, isSlot, slotOf] at hsl ⊢
  obtain ⟨hW, hdead, t, z, j, hx, rfl, hv, hh⟩ := (hC.writes hw hi).2.2.2 b hon hb
  have hFi : T.F i = [base + j] := by
    obtain ⟨_, _, hF, _⟩ := (hC.st i x hi).yes hon
    rw [hF, hx]; rfl
  have hHb : H[base + j]? = some .dead := by rw [h1, heap_agree hN (fun k b hk => hC.heap hw b k hk) (by rw [hFi]; simp), hdead]
  have hres : slotRes base n slots l T S (base + j) := by
    refine ⟨by omega, hC.slt i x _ hi hb, fun k y hk hSk hy hon' he => ?_⟩
    rcases Nat.lt_trichotomy k i with h | h | h
    · have hWk := ((hC.writes hw hy).2.2.2 _ hon' he).1
      exact hC.fresh i x hi hon _ hb k h (by rw [hWk]; simp)
    · subst h; rw [hN.un] at hSk; cases hSk
    · exact hC.fresh k y hy hon' _ he i h (by rw [hW]; simp)
  rw [hx] at hop
  cases hoo : o.op <;> simp only [hoo, chkOp] at hop <;> try (cases hop; done)
  rename_i t'
  simp only [Bool.and_eq_true, beq_iff_eq] at hop
  obtain ⟨rfl, hz⟩ := hop
  obtain ⟨ti, zv, q1, q2, q3⟩ := zeT_info hz
  refine ⟨fun _ _ => trivial, ?_⟩
  rw [show (FW ro).round = ro from rfl, Oper.semAt_eq ro _ o (by intro k e; rw [hoo] at e; cases e), eval_rho]
  have hrun : (execOp (rho a.tmps) o).run P w = .ok (.value (.pointer (some ⟨w.heap.size, 0, none⟩))) (w.alloc (.cells zv.cells t)) := by
    simp [execOp, hoo, Instr.alloc, zeroValue, typeInfo, q1, q2, newVar, newRow]
  rw [hrun]
  have hg0 := hI.gz _ hres
  have hlt : base + j < c.n := h3.lt hHb
  obtain ⟨hle, hR⟩ := Rel.slot (X2 := XS X base n slots l T (fun k => S k || k == i)) h3 (b := base + j) (.inr hres) hg0 (blk := .cells (rs z) t 1) (o := .cells zv.cells t (0, 0)) (z := zv.cells.size)
    ⟨by simp [Cx.fillSlot], zv.cells, rfl, by simp [Cx.fillSlot], zv.cells.toList, [], by simp, VRs.mono (Cx.fillSlot_le hg0) _ _ (rs_ok rfl (chkRVs_ok q3)), chkRVs_ones q3⟩ rfl (fun d hd => by
      rcases hd with hd | hd
      · exact ⟨.inl hd, by have := hXr d hd; omega⟩
      · refine ⟨.inr ⟨hd.1, hd.2.1, fun k y hk hS => hd.2.2 k y hk (by simp [hS])⟩, fun e => ?_⟩
        exact hd.2.2 i x hN.lt (by simp) hi hon (by rw [hb, e]))
  refine hn (c.fillSlot (base + j) w.heap.size zv.cells.size) _ _ ⟨⟨H.set (base + j) (.cells (rs z) t 1), fun b => ?_, ?_, hR⟩, ?_, ?_, ?_, hI.round.mono hle, fun b hb' => ?_, ?_⟩
  · rw [← heap_grow hN b, hW, hh]
    by_cases e : b = base + j
    · subst e
      rw [if_pos (by simp), List.getElem?_set_self (getElem?_lt hHb), List.getElem?_set_self (getElem?_lt hdead)]
    · rw [if_neg (by simpa using e), List.getElem?_set_ne (Ne.symm e), h1]
  · rw [← len_grow hN, ← h2, if_neg (by simp [opF, hi, hx, growOp])]; simp
  · have hd' : dstF l i = o.dst := by simp [dstF, hi, hdst]
    refine EnvR.congr (e := dput (dstF l i) (T.v i) (envS (dstF l) T.v (T.e 0) S n)) ?_ fun t => (env_grow hN t).symm
    rw [hd', hv]
    have hE := hI.env.mono hle
    rw [hdst] at hd
    cases hq : o.dst with
    | none => exact hE
    | some d =>
      rw [hq] at hd
      refine hE.put ?_ d (Nat.lt_of_lt_of_le (by simpa using hd) hI.size)
      simp only [VR]
      exact ⟨hlt, by simp [Cx.fillSlot], ⟨_, rfl⟩, fun _ => by simp [Cx.fillSlot]⟩
  · cases hq : o.dst <;> simpa [Act.put] using hI.size
  · cases hq : o.dst <;> exact hI.defs.mono fun _ _ => DefR.mono hle
  · have hne : b ≠ base + j := fun e => hb'.2.2 i x hN.lt (by simp) hi hon (by rw [hb, e])
    simp only [Cx.fillSlot]
    rw [upd_ne _ _ hne]
    exact hI.gz b ⟨hb'.1, hb'.2.1, fun k y hk hS => hb'.2.2 k y hk (by simp [hS])⟩
  · exact hI.adv.slot (fun p hp => (h3.frm p hp).1) hg0 (by omega)

/-- A call. -/
theorem call_draw {nn : Nat} {Q : Exit → Act → World → Prop} {next : Act → World → Prop} (hK : CallOk P Kr K.call) (hN : NextS l T n S i) (hI : InvS Kr X c0 w0 nt ro defs round base n slots l T S c a w) (hi : l[i]? = some x) (ho : os[i]? = some o)
    (hon : T.on i = true) (hcl : isCall x.o = true) (hn : ∀ c' a' w', InvS Kr X c0 w0 nt ro defs round base n slots l T (fun k => S k || k == i) c' a' w' → next a' w') :
    o.wpIn (FW ro) nn P a w next Q := by
  obtain ⟨H, h1, h2, h3⟩ := hI.ex
  have hck := hC.chk i x o hi ho
  simp only [chkAI, Bool.and_eq_true, beq_iff_eq] at hck
  obtain ⟨⟨⟨hg, hdst⟩, hd⟩, hop⟩ := hck
  obtain ⟨wr, hs, hF, hW⟩ := (hC.st i x hi).yes hon
  have hlk : ∀ t ∈ looks x, eget (envS (dstF l) T.v (T.e 0) S n) t = eget (T.e i) t := fun t ht => env_agree hN hC.env (by simpa [lkF, hi] using ht)
  obtain ⟨hev, _⟩ := looks_ev hlk
  obtain ⟨f, args, hx⟩ : ∃ f args, x.o = .call f args := by cases hx : x.o <;> simp [hx, isCall] at hcl ⊢
  rw [hx] at hs hop
  simp only [stepD] at hs
  split at hs <;> try (cases hs; done)
  rename_i v m' hcall
  simp only [Option.some.injEq, Prod.mk.injEq] at hs
  obtain ⟨rfl, rfl⟩ := hs
  have hgi : opF growOp l i = true := by simp [opF, hi, hx, growOp]
  have hcli : opF isCall l i = true := by simp [opF, hi, hx, isCall]
  have hlen : (T.h i).length = H.length := by rw [h2, len_agree hN (hC.len hw) hgi]
  -- the slots that were filled ahead of their turn
  have hslot : ∀ k y b, i < k → k < n → S k = true → l[k]? = some y → T.on k = true → slotOf base y.o = some b →
      (T.h i)[b]? = some .dead ∧ (T.h (i + 1))[b]? = some .dead ∧ b ∉ T.W i ∧ H[b]? = (T.h (k + 1))[b]? ∧ ∃ blk, H[b]? = some blk ∧ blk.alive := by
    intro k y b hik hkn hSk hy honk hb
    obtain ⟨hWk, hdead, t, z, j, hyo, hbj, hvk, hhk⟩ := (hC.writes hw hy).2.2.2 b honk hb
    have hfr := hC.fresh k y hy honk b hb
    have h0 : ∀ q, q ≤ k → (T.h q)[b]? = (T.h 0)[b]? := fun q hq => by
      rw [hC.heap hw b q (by omega)]
      unfold heapS
      have : last (fun k => true && (T.W k).contains b) q = none := by
        have : ∀ m, m ≤ k → last (fun k => true && (T.W k).contains b) m = none := by
          intro m
          induction m with
          | zero => intro _; rfl
          | succ m ih =>
            intro hm
            have := hfr m (by omega)
            simp only [last]
            rw [show (true && (T.W m).contains b) = false by simpa using this]
            exact ih (by omega)
        exact this q hq
      rw [this]
    have hHk : H[b]? = (T.h (k + 1))[b]? := by
      rw [h1]
      unfold heapS
      have : last (fun k => S k && (T.W k).contains b) n = some k := by
        refine last_is hkn (by simp [hSk, hWk]) fun q hq1 hq2 => ?_
        cases hSq : S q with
        | false => rfl
        | true =>
          obtain ⟨yq, hyq⟩ := hC.get hq2
          -- two operations that both write the slot are in order; the later one is not a slot of it
          cases hc : (T.W q).contains b with
          | false => rfl
          | true =>
            exfalso
            have hA := hN.up q (by omega) hq2 hSq
            rcases hA.c1 hcli with h | h
            · rw [h] at hc; simp at hc
            · simp only [opF, hyq] at h
              cases honq : T.on q with
              | false => have := ((hC.st q yq hyq).no honq).2.2.1; rw [this] at hc; simp at hc
              | true =>
                obtain ⟨bq, hbq⟩ : ∃ b, slotOf base yq.o = some b := by cases hx : yq.o <;> simp [hx, isSlot, slotOf] at h ⊢
                have hWq := ((hC.writes hw hyq).2.2.2 bq honq hbq).1
                rw [hWq] at hc
                simp at hc
                subst hc
                exact hC.fresh q yq hyq honq _ hbq k (by omega) (by rw [hWk]; simp)
      rw [this]
    refine ⟨by rw [h0 i (by omega), ← h0 k (by omega), hdead], by rw [h0 (i + 1) (by omega), ← h0 k (by omega), hdead], hfr i hik, hHk, ?_⟩
    rw [hHk, hhk, List.getElem?_set_self (getElem?_lt hdead)]
    exact ⟨_, rfl, trivial⟩
  let Kd : Nat → Prop := fun b => ∃ k y, i < k ∧ k < n ∧ S k = true ∧ l[k]? = some y ∧ T.on k = true ∧ slotOf base y.o = some b
  have hk3 : ∀ b, Kd b → ∃ blk, H[b]? = some blk ∧ blk.alive := fun b ⟨k, y, q1, q2, q3, q4, q5, q6⟩ => (hslot k y b q1 q2 q3 q4 q5 q6).2.2.2.2
  have hk2 : ∀ b, Kd b → (T.h i)[b]? = some .dead := fun b ⟨k, y, q1, q2, q3, q4, q5, q6⟩ => (hslot k y b q1 q2 q3 q4 q5 q6).1
  have hk2' : ∀ b, Kd b → (T.h (i + 1))[b]? = some .dead ∧ b ∉ T.W i := fun b ⟨k, y, q1, q2, q3, q4, q5, q6⟩ => ⟨(hslot k y b q1 q2 q3 q4 q5 q6).2.1, (hslot k y b q1 q2 q3 q4 q5 q6).2.2.1⟩
  have hk1 : ∀ b, ¬ Kd b → (T.h i)[b]? = H[b]? := fun b hnb => by
    rw [h1, hC.heap hw b i (Nat.le_of_lt hN.lt)]
    unfold heapS
    have : last (fun k => S k && (T.W k).contains b) n = last (fun k => true && (T.W k).contains b) i := by
      rw [← last_below (Nat.le_of_lt hN.lt)]
      refine last_congr fun k hk => ?_
      rcases Nat.lt_trichotomy k i with h | h | h
      · cases hSk : S k with
        | true => simp [h]
        | false => simp [(hN.dn k h hSk).c2 hcli]
      · subst h; simp [hN.un]
      · have hdec : (decide (k < i)) = false := by simp; omega
        rw [hdec, Bool.false_and]
        cases hSk : S k with
        | false => rfl
        | true =>
          rw [Bool.true_and]
          cases hc : (T.W k).contains b with
          | false => rfl
          | true =>
            exfalso
            obtain ⟨y, hy⟩ := hC.get hk
            rcases (hN.up k h hk hSk).c1 hcli with h' | h'
            · rw [h'] at hc; simp at hc
            · simp only [opF, hy] at h'
              cases honk : T.on k with
              | false => have := ((hC.st k y hy).no honk).2.2.1; rw [this] at hc; simp at hc
              | true =>
                obtain ⟨bk, hbk⟩ : ∃ b, slotOf base y.o = some b := by cases hx : y.o <;> simp [hx, isSlot, slotOf] at h' ⊢
                have hWk := ((hC.writes hw hy).2.2.2 bk honk hbk).1
                rw [hWk] at hc
                simp at hc
                subst hc
                exact hnb ⟨k, y, h, hk, hSk, hy, honk, hbk⟩
    rw [this]
  have hR := Rel.hide h3 Kd hlen hk1 hk2 hk3
  have hS : SimAt Kr ⟨fun p => (XS X base n slots l T S).x p ∨ ∃ b, Kd b ∧ c.β b = p, (XS X base n slots l T S).r⟩ { env := envS (dstF l) T.v (T.e 0) S n, m := { h := T.h i }, defs := defs, round := round } c nt ro a w :=
    ⟨hR, hI.env, hI.size, hI.defs, hI.round⟩
  rw [hdst] at hd
  have hev1 : ev (envS (dstF l) T.v (T.e 0) S n) f = ev (T.e i) f := hev f (by simp [hx, opds])
  have hev2 : evs (envS (dstF l) T.v (T.e 0) S n) args = evs (T.e i) args := evs_congr fun y hy => hev y (by simp [hx, opds, hy])
  have hnone : T.on i = true → slotOf base x.o = none := fun _ => by rw [hx]; rfl
  refine call_step hK hS hop hd (r := .ret (T.v i) { h := T.h (i + 1), wr := wr }) (by simpa only [hev1, hev2] using hcall) (fun v' m'' he c' a' w' hA hS' => ?_) (fun v' m'' he => by cases he)
  cases he
  have hA' : Adv (XS X base n slots l T S) c w c' w' := hA.weaken (fun _ h => .inl h) (fun _ h => h)
  have hrel : Rel Kr c' ⟨fun p => (XS X base n slots l T S).x p ∨ ∃ b, Kd b ∧ c.β b = p, (XS X base n slots l T S).r⟩ (T.h (i + 1)) w' := by
    have := hS'.rel
    cases hq : o.dst <;> simpa [putD, hq] using this
  -- the hidden blocks come back
  obtain ⟨H2, g1, g2⟩ : ∃ H2 : List Blk, H2.length = (T.h (i + 1)).length ∧ ∀ b, H2[b]? = (open Classical in if Kd b then H[b]? else (T.h (i + 1))[b]?) := by
    refine ⟨(List.range (T.h (i + 1)).length).map fun b => open Classical in if Kd b then (H[b]?).getD .dead else ((T.h (i + 1))[b]?).getD .dead, by simp, fun b => ?_⟩
    rw [List.getElem?_map]
    by_cases hb : b < (T.h (i + 1)).length
    · rw [List.getElem?_range hb]
      simp only [Option.map_some]
      by_cases hkb : Kd b
      · rw [if_pos hkb, if_pos hkb]
        obtain ⟨blk, e1, _⟩ := hk3 b hkb
        rw [e1]; rfl
      · rw [if_neg hkb, if_neg hkb, List.getElem?_eq_getElem hb]; rfl
    · rw [List.getElem?_eq_none (by simpa using hb)]
      have : ¬ Kd b := fun hkb => hb (getElem?_lt (hk2' b hkb).1)
      rw [if_neg this, List.getElem?_eq_none (by omega)]; rfl
  have hfin : Rel Kr c' (XS X base n slots l T S) H2 w' := Rel.show h3 Kd hk3 hA hrel g1 (fun b hb => by rw [g2, if_neg hb]) (fun b hb => by rw [g2, if_pos hb])
  refine hn c' a' w' ⟨⟨H2, fun b => ?_, ?_, by rw [XS_same hi hnone]; exact hfin⟩, ?_, hS'.size, by cases hq : o.dst <;> simpa [putD, hq] using hS'.defs, by cases hq : o.dst <;> simpa [putD, hq] using hS'.round, fun b hb => ?_, ?_⟩
  · rw [← heap_grow hN b, g2]
    by_cases hkb : Kd b
    · rw [if_pos hkb, if_neg (hk2' b hkb).2, h1]
    · rw [if_neg hkb]
      by_cases hbw : b ∈ T.W i
      · rw [if_pos hbw]
      · rw [if_neg hbw, (hC.writes hw hi).1 b hbw, ← h1, hk1 b hkb]
  · rw [← len_grow hN, if_pos hgi, g1]
  · have hd' : dstF l i = o.dst := by simp [dstF, hi, hdst]
    refine EnvR.congr (e := dput (dstF l i) (T.v i) (envS (dstF l) T.v (T.e 0) S n)) ?_ fun t => (env_grow hN t).symm
    rw [hd']
    have := hS'.env
    cases hq : o.dst <;> simpa [putD, hq, dput] using this
  · have hb' := (slotRes_same hi hnone b).1 hb
    have hlt : b < c.n := h3.lt (h3.res b (.inr hb'))
    rw [hA'.fix b hlt (.inr (.inr hb'))]
    exact hI.gz b hb'
  · exact hI.adv.trans (hA'.weaken (fun _ h => h) (fun _ h => .inl h))

/-- One operation, whichever. -/
theorem any_draw {nn : Nat} {Q : Exit → Act → World → Prop} {next : Act → World → Prop} (hK : CallOk P Kr K.call) (hb0 : c0.n ≤ base) (hXr : ∀ b, X.r b → b < c0.n) (hN : NextS l T n S i) (hI : InvS Kr X c0 w0 nt ro defs round base n slots l T S c a w)
    (hn : ∀ c' a' w', InvS Kr X c0 w0 nt ro defs round base n slots l T (fun k => S k || k == i) c' a' w' → next a' w') : wpOpIn (FW ro) nn P os Q i next a w := by
  obtain ⟨x, hi⟩ := hC.get hN.lt
  have ho : os[i]? = some (os[i]'(by rw [hC.lo]; exact hN.lt)) := Array.getElem?_eq_getElem _
  generalize os[i]'(by rw [hC.lo]; exact hN.lt) = o at ho
  unfold wpOpIn
  simp only [ho]
  have hck := hC.chk i x o hi ho
  simp only [chkAI, Bool.and_eq_true, beq_iff_eq] at hck
  obtain ⟨⟨⟨hg, hdst⟩, hd⟩, hop⟩ := hck
  have hlk : ∀ t ∈ looks x, eget (envS (dstF l) T.v (T.e 0) S n) t = eget (T.e i) t := fun t ht => env_agree hN hC.env (by simpa [lkF, hi] using ht)
  have hwant := (looks_ev hlk).2
  rw [(hC.st i x hi).want] at hwant
  rw [wants_ok hI.env hg hwant]
  cases hon : T.on i with
  | false =>
    simp only [Bool.false_eq_true, if_false]
    rw [hdst] at hd
    exact ⟨fun _ _ => trivial, skip_step hC hw (nn := nn) (Q := Q) hN hI hi ho hon hn hdst hd⟩
  | true =>
    simp only [if_true]
    by_cases h1 : isCall x.o = true
    · exact call_draw hC hw hK hN hI hi ho hon h1 hn
    · by_cases h2 : isSlot x.o = true
      · exact slot_draw hC hw hb0 hN hI hi ho hXr hon h2 hn
      · exact plain_draw hC hw hN hI hi ho hon (by simpa using h1) (by simpa using h2) hn

end
end Go.AM
/- Regions that draw their order, sixth part: the check, and all orders (own work). -/
namespace Go.AM

def maskOf (acc : List Nat) (o : Oper) : Nat := o.after.toList.foldl (fun m e => if Region.binds .any e then m ||| (1 <<< e.on) ||| acc.getD e.on 0 else m) 0
def masks : List Oper → List Nat → List Nat
  | [], acc => acc
  | o :: r, acc => masks r (acc ++ [maskOf acc o])

def quiet (o : AOp) : Bool := pureOp o || isSlit o
def stOk (x y : AI) : Bool :=
  (match x.dst with | some t => !(looks y).contains t && y.dst != some t | none => true) && (match y.dst with | some t => !(looks x).contains t | none => true) &&
  !(growOp x.o && growOp y.o) && (!isCall x.o || noW y.o || isSlot y.o) && (!isCall y.o || noW x.o)
def needs (x y : AI) : Bool := !(quiet x.o || quiet y.o || (noW x.o && noW y.o))
def allPairs (n : Nat) (f : Nat → Nat → Bool) : Bool := (List.range n).all fun k => (List.range k).all fun i => f i k
def stPair (l : List AI) (ms : List Nat) (i k : Nat) : Bool := (ms.getD k 0).testBit i || (match l[i]?, l[k]? with | some x, some y => stOk x y | _, _ => false)
def needPair (l : List AI) (ms : List Nat) (i k : Nat) : Bool := !(ms.getD k 0).testBit i && (match l[i]?, l[k]? with | some x, some y => needs x y | _, _ => false)
def needP (l : List AI) (ms : List Nat) (n : Nat) : List (Nat × Nat) := (List.range n).flatMap fun k => ((List.range k).filter fun i => needPair l ms i k).map fun i => (i, k)
def backEdges (os : List Oper) : Nat → Bool := fun k => match os[k]? with | some o => o.after.toList.all fun e => !Region.binds .any e || decide (e.on < k) | none => true

def chkDraw (P : Program) : DChk := fun os nt ops slots pairs _ =>
  chkIs P os nt ops os.toList && (List.range os.size).all (backEdges os.toList) &&
  ops.all (fun i => match i.o with | .slot k _ _ => decide (k < slots) | _ => true) &&
  allPairs os.size (stPair ops (masks os.toList [])) && needP ops (masks os.toList []) os.size == pairs

/-! ### what the check says -/
/-- A set with all that must come ahead. -/
def Closed (os : List Oper) (S : Nat → Bool) : Prop := ∀ (k : Nat) (o : Oper), os[k]? = some o → S k = true → ∀ e ∈ o.after, Region.binds .any e = true → S e.on = true

theorem maskOf_ok {S : Nat → Bool} {acc : List Nat} {o : Oper} (ha : ∀ e ∈ o.after, Region.binds .any e = true → S e.on = true ∧ ∀ j, (acc.getD e.on 0).testBit j = true → S j = true) {j : Nat}
    (h : (maskOf acc o).testBit j = true) : S j = true := by
  have key : ∀ (es : List Edge) (m : Nat), (∀ e ∈ es, Region.binds .any e = true → S e.on = true ∧ ∀ j, (acc.getD e.on 0).testBit j = true → S j = true) → (∀ j, m.testBit j = true → S j = true) →
      ∀ j, (es.foldl (fun m e => if Region.binds .any e then m ||| (1 <<< e.on) ||| acc.getD e.on 0 else m) m).testBit j = true → S j = true := by
    intro es
    induction es with
    | nil => intro m _ hm j hj; exact hm j hj
    | cons e es ih =>
      intro m he hm j hj
      refine ih _ (fun e' he' => he e' (by simp [he'])) ?_ j hj
      intro j hj
      simp only at hj
      split at hj
      · rename_i hb
        obtain ⟨h1, h2⟩ := he e (by simp) hb
        simp only [Nat.testBit_or, Bool.or_eq_true] at hj
        rcases hj with (hj | hj) | hj
        · exact hm j hj
        · have : e.on = j := by
            rw [Nat.one_shiftLeft, Nat.testBit_two_pow] at hj
            simpa using hj
          rw [← this]; exact h1
        · exact h2 j hj
      · exact hm j hj
  exact key o.after.toList 0 (fun e he => ha e (by simpa using he)) (by simp) j h

theorem masks_ok {os : List Oper} {S : Nat → Bool} (hS : Closed os S) (hB : ∀ k, k < os.length → backEdges os k = true) : ∀ (r : List Oper) (acc : List Nat), acc.length + r.length = os.length → (∀ i, r[i]? = os[acc.length + i]?) →
    (∀ k, k < acc.length → S k = true → ∀ j, (acc.getD k 0).testBit j = true → S j = true) → ∀ k, k < os.length → S k = true → ∀ j, ((masks r acc).getD k 0).testBit j = true → S j = true := by
  intro r
  induction r with
  | nil => intro acc hl _ h k hk; exact h k (by simp at hl; omega)
  | cons o r ih =>
    intro acc hl hr h k hk
    simp only [masks]
    have ho : os[acc.length]? = some o := by have := hr 0; simpa using this.symm
    refine ih (acc ++ [maskOf acc o]) (by simp at hl ⊢; omega) (fun i => by have := hr (i + 1); rw [List.getElem?_cons_succ] at this; rw [this]; congr 1; simp; omega) ?_ k hk
    intro q hq hSq j hj
    by_cases e : q < acc.length
    · rw [List.getD_eq_getElem?_getD, List.getElem?_append_left e, ← List.getD_eq_getElem?_getD] at hj
      exact h q e hSq j hj
    · have : q = acc.length := by simp at hq; omega
      subst this
      rw [List.getD_eq_getElem?_getD, List.getElem?_append_right (Nat.le_refl _)] at hj
      simp only [Nat.sub_self, List.getElem?_cons_zero, Option.getD_some] at hj
      refine maskOf_ok (fun e' he hb => ?_) hj
      have h1 := hS _ o ho hSq e' he hb
      have hlt : e'.on < acc.length := by
        have := hB acc.length (by simp at hl; omega)
        simp only [backEdges, ho, List.all_eq_true] at this
        have := this e' (by simpa using he)
        simpa [hb] using this
      exact ⟨h1, h _ hlt h1⟩

section
variable {P : Program} {K : Kit} {base n slots nt : Nat} {os : Array Oper} {l : List AI} {T : Tr}

theorem quiet_F (hC : DC P K base n slots nt os l T) {k : Nat} {x : AI} (hk : l[k]? = some x) (h : quiet x.o = true) : T.F k = [] := by
  have hst := hC.st k x hk
  cases hon : T.on k with
  | false => exact (hst.no hon).2.2.2
  | true =>
    obtain ⟨_, _, hF, _⟩ := hst.yes hon
    rw [hF]
    cases hx : x.o <;> simp [hx, quiet, pureOp, isSlit] at h <;> rfl

theorem quiet_noW {o : AOp} (h : quiet o = true) : noW o = true := by
  simp only [quiet, noW, Bool.or_eq_true] at h ⊢
  rcases h with h | h
  · exact .inl (.inl h)
  · exact .inr h

theorem apart_of (hC : DC P K base n slots nt os l T) (hw : ∀ f args m v m', K.call f args m = some (.ret v m') → WrM m m') {ms : List Nat} (hst : allPairs n (stPair l ms) = true)
    (hdy : pairsOk ((List.range n).map fun k => (T.F k, T.W k)) (needP l ms n) = true) {i k : Nat} (hik : i < k) (hkn : k < n) (hm : (ms.getD k 0).testBit i = false) :
    Apart (dstF l) (lkF l) T (opF growOp l) (opF isCall l) (opF isSlot l) i k := by
  obtain ⟨x, hx⟩ := hC.get (k := i) (by omega)
  obtain ⟨y, hy⟩ := hC.get hkn
  have h1 : stOk x y = true := by
    simp only [allPairs, List.all_eq_true, List.mem_range] at hst
    have := hst k hkn i hik
    simpa only [stPair, hm, hx, hy, Bool.false_or] using this
  simp only [stOk, Bool.and_eq_true] at h1
  obtain ⟨⟨⟨⟨h1, h2⟩, h3⟩, h4⟩, h5⟩ := h1
  have hdy' : needs x y = true → (∀ b ∈ T.W i, b ∉ T.F k) ∧ (∀ b ∈ T.W k, b ∉ T.F i) := by
    intro hn
    have hmem : (i, k) ∈ needP l ms n := by
      simp only [needP, List.mem_flatMap, List.mem_range, List.mem_map, List.mem_filter]
      exact ⟨k, hkn, i, ⟨hik, by simp only [needPair, hm, hx, hy, hn]; rfl⟩, rfl⟩
    simp only [pairsOk, List.all_eq_true] at hdy
    have := hdy _ hmem
    simp only [List.getElem?_map, List.getElem?_range (show i < n by omega), List.getElem?_range hkn, Option.map_some, Bool.and_eq_true, apartL, List.all_eq_true, Bool.not_eq_true'] at this
    exact ⟨fun b hb => by simpa using this.1 b hb, fun b hb => by simpa using this.2 b hb⟩
  have hWx := hC.writes hw hx
  have hWy := hC.writes hw hy
  have hww : (∀ b ∈ T.W i, b ∉ T.F k ∧ b ∉ T.W k) ∧ ∀ b ∈ T.W k, b ∉ T.F i := by
    by_cases hn : needs x y = true
    · obtain ⟨k1, k2⟩ := hdy' hn
      refine ⟨fun b hb => ⟨k1 b hb, fun hb' => ?_⟩, k2⟩
      by_cases hg : growOp x.o = true
      · have hgy : growOp y.o = false := by simpa [hg] using h3
        exact k1 b hb ((hWy.2.2.1 hgy).1 b hb')
      · exact k2 b hb' ((hWx.2.2.1 (by simpa using hg)).1 b hb)
    · simp only [needs, Bool.not_eq_true', Bool.not_eq_false, Bool.or_eq_true, Bool.and_eq_true] at hn
      rcases hn with (hn | hn) | ⟨hn, hn'⟩
      · have e1 := hWx.2.1 (quiet_noW hn)
        have e2 := quiet_F hC hx hn
        simp [e1, e2]
      · have e1 := hWy.2.1 (quiet_noW hn)
        have e2 := quiet_F hC hy hn
        simp [e1, e2]
      · simp [hWx.2.1 hn, hWy.2.1 hn']
  refine ⟨fun t ht => ?_, fun t ht => ?_, hww.1, hww.2, fun hg => ?_, fun hc => ?_, fun hc => ?_⟩
  · simp only [dstF, hx, Option.bind_some] at ht
    rw [ht] at h1
    simp only [Bool.and_eq_true, Bool.not_eq_true', bne_iff_ne] at h1
    exact ⟨by simpa [lkF, hy] using h1.1, by simpa [dstF, hy] using h1.2⟩
  · simp only [dstF, hy, Option.bind_some] at ht
    rw [ht] at h2
    simpa [lkF, hx] using h2
  · simp only [opF, hx, hy] at hg ⊢
    simpa [hg] using h3
  · simp only [opF, hx, hy] at hc ⊢
    simp only [hc, Bool.not_true, Bool.false_or, Bool.or_eq_true] at h4
    exact h4.imp (fun h => hWy.2.1 h) id
  · simp only [opF, hx, hy] at hc ⊢
    simp only [hc, Bool.not_true, Bool.false_or] at h5
    exact hWx.2.1 h5

end

theorem getD_listed {listed : Array Bool} {i : Nat} (hi : i < listed.size) : (fun k => (listed.setIfInBounds i true).getD k false) = fun k => listed.getD k false || k == i := by
  funext k
  by_cases e : k = i
  · subst e
    simp [Array.getD_eq_getD_getElem?, hi]
  · rw [show (k == i) = false by simpa using e]
    simp [Array.getD_eq_getD_getElem?, Array.getElem?_setIfInBounds_ne (Ne.symm e)]

theorem count_set {l : List Bool} {i : Nat} (h : l[i]? = some false) : (l.set i true).count false + 1 = l.count false := by
  induction l generalizing i with
  | nil => simp at h
  | cons x xs ih =>
    cases i with
    | zero => simp at h; subst h; simp
    | succ i =>
      simp at h
      have := ih h
      simp only [List.set_cons_succ, List.count_cons]
      omega

theorem chkIs_get {P : Program} {os : Array Oper} {nt : Nat} : ∀ {l : List AI} {r : List Oper}, chkIs P os nt l r = true → l.length = r.length ∧ ∀ (k : Nat) (i : AI) (o : Oper), l[k]? = some i → r[k]? = some o → chkAI P os nt i o = true
  | [], [], _ => ⟨rfl, fun k i o h => by simp at h⟩
  | [], _ :: _, h => by simp [chkIs] at h
  | _ :: _, [], h => by simp [chkIs] at h
  | x :: l, y :: r, h => by
    simp only [chkIs, Bool.and_eq_true] at h
    obtain ⟨h1, h2⟩ := chkIs_get h.2
    refine ⟨by simp [h1], fun k i o hi ho => ?_⟩
    cases k with
    | zero => simp at hi ho; subst hi; subst ho; exact h.1
    | succ k => exact h2 k i o (by simpa using hi) (by simpa using ho)

theorem draw_ok {P : Program} (hm : P.follows .mixedOrders = true) : DrawOk P (chkDraw P) := by
  intro Kr call iter hK hWC X id os nt ops slots pairs gc hD s s' ou c a w ro nn hs hS
  simp only [chkDraw, Bool.and_eq_true, beq_iff_eq] at hD
  obtain ⟨⟨⟨⟨hD1, hD2⟩, hD3⟩, hD4⟩, rfl⟩ := hD
  obtain ⟨hlen, hchk⟩ := chkIs_get hD1
  have hlen : ops.length = os.size := by simpa using hlen
  simp only [den] at hs
  split at hs <;> try (cases hs; done)
  rename_i e m fs hden
  split at hs <;> try (cases hs; done)
  rename_i hpairs
  simp only [Option.some.injEq, Prod.mk.injEq] at hs
  obtain ⟨rfl, rfl⟩ := hs
  obtain ⟨T, t1, t2, t3, t4, t5, t6⟩ := denD_trace _ _ _ _ _ _ _ hden
  simp only [List.nil_append] at t5
  subst t5
  rw [hlen] at t3 t4 hpairs
  let K : Kit := { call := call, iter := iter }
  let n := os.size
  let base := s.m.h.length
  have hC : DC P K base n slots nt os ops T := by
    refine ⟨hlen, rfl, fun k i o hi ho => hchk k i o hi (by simpa using ho), fun k i hi => (t6 k i hi).1, fun k i hi hon b hb j hj => ((t6 k i hi).2 hon b hb).2 j hj, fun k i b hi hb => ?_⟩
    rw [List.all_eq_true] at hD3
    have := hD3 i (List.mem_of_getElem? hi)
    cases ho : i.o <;> simp [ho, slotOf] at hb this
    omega
  have hw : ∀ f args m v m', K.call f args m = some (.ret v m') → WrM m m' := fun f args m v m' h => (hWC f args m).1 v m' h
  have hcn : s.m.h.length = c.n := hS.rel.len
  have hB : ∀ k, k < os.toList.length → backEdges os.toList k = true := fun k hk => by
    rw [List.all_eq_true] at hD2
    exact hD2 k (by simpa using hk)
  -- the room
  obtain ⟨A1, R1⟩ := Rel.pad hS.rel slots
  have hXr : ∀ b, X.r b → b < c.n := fun b hb => by rw [← hcn]; exact getElem?_lt (hS.rel.res b hb)
  refine wpIn_region_any hm ?_
  have fin : ∀ (S : Nat → Bool) c' a' w', (∀ k, k < n → S k = true) → InvS Kr X c w nt ro s.defs s.round base n slots ops T S c' a' w' → QR Kr X c w nt ro .norm { s with env := e, m := m } .normal a' w' := by
    intro S c' a' w' hall hI
    obtain ⟨H, h1, h2, h3⟩ := hI.ex
    have hH : H = m.h := by
      rw [← t4]
      refine List.ext_getElem? fun b => ?_
      rw [h1, hC.heap hw b n (Nat.le_refl _)]
      unfold heapS
      rw [last_congr (q := fun k => true && (T.W k).contains b) fun k hk => by rw [hall k hk]]
    subst hH
    refine ⟨trivial, c', hI.adv, ⟨h3.refr (fun _ h => h) (fun _ _ _ _ h => h) (fun b hb => h3.res b (.inl hb)), ?_, hI.size, hI.defs, hI.round⟩⟩
    refine hI.env.congr fun t => ?_
    show eget e t = _
    rw [← t3, hC.env n (Nat.le_refl _), eget_envS, eget_envS]
    rw [last_congr (q := fun k => S k && dstF ops k == some t) fun k hk => by rw [hall k hk]]
  have main : ∀ (fuel : Nat) (listed : Array Bool) (c' : Cx) (a' : Act) (w' : World), InvS Kr X c w nt ro s.defs s.round base n slots ops T (fun k => listed.getD k false) c' a' w' → Closed os.toList (fun k => listed.getD k false) →
      listed.size = n → listed.toList.count false ≤ fuel → wpAnyIn (FW ro) nn P .any os (QR Kr X c w nt ro .norm { s with env := e, m := m }) fuel listed a' w' := by
    intro fuel
    have hready : ∀ (listed : Array Bool), listed.size = n → Region.ready .any os listed = [] → ∀ k, k < n → listed.getD k false = true := by
      intro listed hsz hr k
      induction k using Nat.strongRecOn with
      | ind k ih =>
        intro hk
        cases hg : listed.getD k false with
        | true => rfl
        | false =>
          exfalso
          have : k ∈ Region.ready .any os listed := by
            rw [mem_ready]
            refine ⟨?_, os[k], Array.getElem?_eq_getElem _, fun ed he hb => ih ed.on ?_ ?_⟩
            · rw [Array.getD_eq_getD_getElem?, Array.getElem?_eq_getElem (by omega)] at hg ⊢
              simpa using hg
            · have := hB k (by simpa using hk)
              simp only [backEdges, Array.getElem?_toList, Array.getElem?_eq_getElem hk, List.all_eq_true] at this
              have := this ed (by simpa using he)
              simpa [hb] using this
            · have := hB k (by simpa using hk)
              simp only [backEdges, Array.getElem?_toList, Array.getElem?_eq_getElem hk, List.all_eq_true] at this
              have := this ed (by simpa using he)
              have : ed.on < k := by simpa [hb] using this
              omega
          rw [hr] at this
          cases this
    induction fuel with
    | zero =>
      intro listed c' a' w' hI hcl hsz hct
      have hall : ∀ k, k < n → listed.getD k false = true := by
        intro k hk
        cases hg : listed.getD k false with
        | true => rfl
        | false =>
          exfalso
          have hmem : false ∈ listed.toList := by
            rw [Array.getD_eq_getD_getElem?, Array.getElem?_eq_getElem (by omega)] at hg
            have : listed[k]'(by omega) = false := by simpa using hg
            rw [← this]
            simp
          have := List.count_pos_iff.2 hmem
          omega
      refine ⟨?_, fin _ c' a' w' hall hI⟩
      cases hr : Region.ready .any os listed with
      | nil => rfl
      | cons j js =>
        exfalso
        have hj : j ∈ Region.ready .any os listed := by rw [hr]; simp
        rw [mem_ready] at hj
        obtain ⟨h1, o, ho, _⟩ := hj
        have hjn : j < n := (Array.getElem?_eq_some_iff.1 ho).1
        have h2 := hall j hjn
        rw [Array.getD_eq_getD_getElem?, Array.getElem?_eq_getElem (by omega)] at h1 h2
        simp at h1 h2
        rw [h1] at h2; cases h2
    | succ fuel ih =>
      intro listed c' a' w' hI hcl hsz hct
      refine ⟨fun hr => fin _ c' a' w' (hready listed hsz hr) hI, fun i hi => ?_⟩
      rw [mem_ready] at hi
      obtain ⟨h1, o, ho, hall⟩ := hi
      have hin : i < n := (Array.getElem?_eq_some_iff.1 ho).1
      have hun : listed.getD i false = false := by
        rw [Array.getD_eq_getD_getElem?, Array.getElem?_eq_getElem (by omega)] at h1 ⊢
        simpa using h1
      have hcl' : Closed os.toList (fun k => listed.getD k false || k == i) := by
        intro k ok hok hSk ed he hb
        by_cases ek : k = i
        · subst ek
          have : ok = o := by rw [Array.getElem?_toList] at hok; rw [hok] at ho; cases ho; rfl
          subst this
          simp [hall ed he hb]
        · have := hcl k ok hok (by simpa [ek] using hSk) ed he hb
          simp only at this
          simp [this]
      have hmk := fun k hk hSk => masks_ok hcl' hB os.toList [] (by simp) (fun i => by simp) (fun k hk => by simp at hk) k (by simpa using hk) hSk
      have hmk0 := fun k hk hSk => masks_ok hcl hB os.toList [] (by simp) (fun i => by simp) (fun k hk => by simp at hk) k (by simpa using hk) hSk
      have hN : NextS ops T n (fun k => listed.getD k false) i := by
        refine ⟨hin, hun, fun k hik hkn hSk => ?_, fun k hki hSk => ?_⟩
        · refine apart_of hC hw hD4 hpairs hik hkn ?_
          cases ht : ((masks os.toList []).getD k 0).testBit i with
          | false => rfl
          | true =>
            have := hmk0 k hkn hSk i ht
            rw [hun] at this; cases this
        · refine apart_of hC hw hD4 hpairs hki hin ?_
          cases ht : ((masks os.toList []).getD i 0).testBit k with
          | false => rfl
          | true =>
            have := hmk i hin (by simp) k ht
            simp only [Bool.or_eq_true, beq_iff_eq] at this
            rcases this with h | h
            · rw [hSk] at h; cases h
            · omega
      refine any_draw hC hw hK (by omega) hXr hN hI fun c2 a2 w2 hI2 => ?_
      rw [← getD_listed (by omega)] at hI2 hcl'
      refine ih _ c2 a2 w2 hI2 hcl' (by simpa using hsz) ?_
      have : listed.toList[i]? = some false := by
        rw [Array.getElem?_toList, Array.getElem?_eq_getElem (by omega)]
        rw [Array.getD_eq_getD_getElem?, Array.getElem?_eq_getElem (by omega)] at hun
        simpa using hun
      have := count_set this
      rw [Array.toList_setIfInBounds]
      omega
  have hS0 : ∀ k, (Array.replicate os.size false).getD k false = false := fun k => by
    rw [Array.getD_eq_getD_getElem?, Array.getElem?_replicate]
    split <;> rfl
  have hl0 : ∀ (p : Nat → Bool) m, last (fun k => (Array.replicate os.size false).getD k false && p k) m = none := by
    intro p m
    induction m with
    | zero => rfl
    | succ m ih => simp only [last, hS0, Bool.false_and, cond_false]; simpa [hS0] using ih
  refine main os.size _ _ _ _ ⟨⟨s.m.h ++ List.replicate slots .dead, fun b => ?_, ?_, ?_⟩, ?_, hS.size, hS.defs.mono fun _ _ => DefR.mono A1.le, hS.round.mono A1.le, fun b hb => ?_, A1.trans (Adv.drew _ _ _)⟩ ?_ (by simp [n]) ?_
  · unfold heapS; rw [hl0 (fun k => (T.W k).contains b), t2]
  · unfold lenS; rw [hl0 (opF growOp ops), t2]
  · refine Rel.refr (X := X) ?_ (fun _ h => h) (fun _ _ _ _ h => h) (fun b hb => ?_)
    · exact R1.world rfl
    · rcases hb with hb | hb
      · exact R1.res b hb
      · have q1 : s.m.h.length ≤ b := hb.1
        have q2 : b < s.m.h.length + slots := hb.2.1
        rw [List.getElem?_append_right q1, List.getElem?_replicate, if_pos (by omega)]
  · refine (hS.env.mono A1.le).congr fun t => ?_
    rw [eget_envS, hl0 (fun k => dstF ops k == some t), t1]
  · have q1 : s.m.h.length ≤ b := hb.1
    simp only
    rw [if_neg (by omega)]
  · intro k o _ hk
    have hk : (Array.replicate os.size false).getD k false = true := hk
    rw [hS0] at hk; cases hk
  · simp [n]

end Go.AM
/- The check of a function's text (own work). -/
namespace Go.AM

def fnOk (P : Program) (f : FuncId) (fn : AFn) : Bool :=
  match P.funcs[f]? with
  | some F => match F.body with
    | some code => F.name != "runtime.NumGoroutine" && chk P (chkDraw P) F.ntmps fn.body code && chkRes P fn.res F.results.toList
    | none => false
  | none => false

theorem fnOk_ok {P : Program} {f : FuncId} {fn : AFn} (h : fnOk P f fn = true) : FnOk P (chkDraw P) f fn := by
  unfold fnOk at h
  split at h <;> try (cases h; done)
  rename_i F hF
  split at h <;> try (cases h; done)
  rename_i code hb
  simp only [Bool.and_eq_true, bne_iff_ne] at h
  exact ⟨F, code, hF, hb, h.1.1, h.1.2, h.2⟩

end Go.AM
/- From the abstract machine to a row: arguments opened, a run borne out (own work). -/
namespace Go.AM
open Go.RowKit

/-- The shapes of plain data. -/
inductive Sh where
  | int (k : IntKind)
  | bool
  | str
  | sl (e : Sh)
  | agg (fs : List Sh)

mutual
/-- How many cells. -/
def Sh.n : Sh → Nat
  | .agg fs => Sh.ns fs
  | .int _ => 1
  | .bool => 1
  | .str => 1
  | .sl _ => 1
def Sh.ns : List Sh → Nat
  | [] => 0
  | s :: ss => s.n + Sh.ns ss
end

/-- So many parts side by side. -/
def Parts (R : List RV → Prop) : Nat → List RV → Prop
  | 0, xs => xs = []
  | n + 1, xs => ∃ a b, xs = a ++ b ∧ R a ∧ Parts R n b

mutual
/-- The cells of a value of a shape. -/
def Has : Sh → List RV → Prop
  | .int k, xs => ∃ n, xs = [.lit (.int k n)] ∧ (Lit.int k n).wf = true
  | .bool, xs => ∃ b, xs = [.lit (.bool b)]
  | .str, xs => ∃ s : ByteArray, xs = [.lit (.string s)] ∧ s.size ≤ maxLen
  | .sl e, xs => xs = [.nil] ∨ ∃ cs len, xs = [.sl cs len none] ∧ len ≤ maxLen ∧ Parts (Has e) len cs
  | .agg fs, xs => HasAll fs xs
def HasAll : List Sh → List RV → Prop
  | [], xs => xs = []
  | s :: ss, xs => ∃ a b, xs = a ++ b ∧ Has s a ∧ HasAll ss b
end

/-- A type's shape. -/
def shT (P : Program) : Nat → TypeId → Sh → Bool
  | 0, _, _ => false
  | f + 1, t, s =>
    match P.underlying t, s with
    | some (.int k), .int k' => k == k'
    | some .bool, .bool => true
    | some .string, .str => true
    | some (.slice e), .sl s' => shT P f e s' && P.cellsOf e == s'.n && decide (0 < s'.n)
    | some (.struct fs), .agg ss => fs.size == ss.length && ((List.range ss.length).all fun i => match fs[i]?, ss[i]? with
        | some x, some s' => x.offset == Sh.ns (ss.take i) && shT P f x.type s' && P.cellsOf x.type == s'.n
        | _, _ => false) && P.cellsOf t == Sh.ns ss
    | some (.array n e), .agg ss => n == ss.length && ((List.range ss.length).all fun i => match ss[i]? with
        | some s' => i * P.cellsOf e == Sh.ns (ss.take i) && shT P f e s' && P.cellsOf e == s'.n
        | none => false) && P.cellsOf t == Sh.ns ss
    | _, _ => false

theorem rvrs_append {M : Nat → Option Obj} {a b : List RV} {x y : List Value} (h : RVRs M a x) (k : RVRs M b y) : RVRs M (a ++ b) (x ++ y) := by
  rw [rvrs_iff] at *; exact h.append k

theorem open_all {M : Nat → Option Obj} : ∀ (ss : List Sh) (cs : List Value), cs.length = Sh.ns ss →
    (∀ i s, ss[i]? = some s → ∃ xs, RVRs M xs ((cs.drop (Sh.ns (ss.take i))).take s.n) ∧ Ones ((cs.drop (Sh.ns (ss.take i))).take s.n) ∧ Has s xs) → ∃ xs, RVRs M xs cs ∧ Ones cs ∧ HasAll ss xs
  | [], cs, hl, _ => by
    have : cs = [] := by simpa [Sh.ns] using hl
    subst this
    exact ⟨[], trivial, (fun v hv => by cases hv), by simp [HasAll]⟩
  | s :: ss, cs, hl, h => by
    simp only [Sh.ns] at hl
    obtain ⟨a, h1, h2, h3⟩ := h 0 s (by simp)
    simp only [List.take_zero, Sh.ns, List.drop_zero] at h1 h2
    obtain ⟨b, k1, k2, k3⟩ := open_all ss (cs.drop s.n) (by simp; omega) (fun i s' hs => by
      have := h (i + 1) s' (by simpa using hs)
      simpa [Sh.ns, List.drop_drop] using this)
    refine ⟨a ++ b, ?_, ?_, by simp only [HasAll]; exact ⟨a, b, rfl, h3, k3⟩⟩
    · have := rvrs_append h1 k1
      simpa using this
    · have := h2.append k2
      simpa using this

theorem parts_rows {M : Nat → Option Obj} {R : List RV → Prop} {sz : Nat} (f : Nat → List Value) (hsz : ∀ i, (f i).length = sz) : ∀ (n k : Nat), (∀ i, k ≤ i → i < k + n → ∃ xs, RVRs M xs (f i) ∧ Ones (f i) ∧ R xs) →
    ∃ xs, RVRs M xs ((List.range' k n).flatMap f) ∧ Ones ((List.range' k n).flatMap f) ∧ Parts R n xs
  | 0, k, _ => ⟨[], trivial, (fun v hv => by simp at hv), rfl⟩
  | n + 1, k, h => by
    obtain ⟨a, h1, h2, h3⟩ := h k (Nat.le_refl _) (by omega)
    obtain ⟨b, k1, k2, k3⟩ := parts_rows f hsz n (k + 1) (fun i hi hi2 => h i (by omega) (by omega))
    exact ⟨a ++ b, by simpa [List.range'_succ] using rvrs_append h1 k1, by simpa [List.range'_succ] using h2.append k2, a, b, rfl, h3, k3⟩

theorem flat_get {f : Nat → List Value} {sz : Nat} (h0 : 0 < sz) (hsz : ∀ i, (f i).length = sz) : ∀ (n k j : Nat) (v : Value), ((List.range' k n).flatMap f)[j]? = some v → j / sz < n ∧ (f (k + j / sz))[j % sz]? = some v
  | 0, k, j, v, h => by simp at h
  | n + 1, k, j, v, h => by
    rw [List.range'_succ, List.flatMap_cons] at h
    by_cases hj : j < sz
    · rw [List.getElem?_append_left (by rw [hsz]; exact hj)] at h
      rw [Nat.div_eq_of_lt hj, Nat.mod_eq_of_lt hj]
      exact ⟨by omega, by simpa using h⟩
    · rw [List.getElem?_append_right (by rw [hsz]; omega), hsz] at h
      obtain ⟨h1, h2⟩ := flat_get h0 hsz n (k + 1) (j - sz) v h
      have e1 : j / sz = (j - sz) / sz + 1 := by
        have : j = (j - sz) + sz := by omega
        rw [this, Nat.add_div_right _ h0]; simp
      have e2 : j % sz = (j - sz) % sz := by
        have : j = (j - sz) + sz := by omega
        rw [this, Nat.add_mod_right]; simp
      rw [e1, e2]
      exact ⟨by omega, by rw [← h2]; congr 1; congr 1; omega⟩

def heapM (w : World) : Nat → Option Obj := fun b => w.heap[b]?

section
variable {H : Type} {enc : TypeId × Value → H} {P : Program} {w : World}

theorem cell_at {b o : Nat} {v : Value} (h : w.cell? ⟨b, o, none⟩ = some v) : ∃ c t fr, w.heap[b]? = some (.cells c t fr) ∧ c[o]? = some v := by
  unfold World.cell? at h
  split at h <;> try (cases h; done)
  rename_i c t fr hb
  exact ⟨c, t, fr, hb, by simpa using h⟩

theorem cell_spot {a : Addr} {v : Value} (h : w.cell? a = some v) : a = ⟨a.block, a.off, none⟩ := by
  obtain ⟨b, o, s⟩ := a
  cases s with
  | none => rfl
  | some s =>
    unfold World.cell? at h
    split at h <;> simp at h

theorem at_of {b o : Nat} {vs : List Value} (h0 : 0 < vs.length) (h : ∀ i, i < vs.length → w.cell? ⟨b, o + i, none⟩ = vs[i]?) : At (heapM w) b o vs := by
  have hv0 : vs[0]? = some vs[0] := List.getElem?_eq_getElem h0
  obtain ⟨c, t, fr, h1, _⟩ := cell_at (by rw [h 0 h0, hv0] : w.cell? ⟨b, o + 0, none⟩ = some vs[0])
  refine ⟨c, t, fr, h1, fun k v hk => ?_⟩
  have hkl : k < vs.length := (List.getElem?_eq_some_iff.1 hk).1
  obtain ⟨c', t', fr', h2, h3⟩ := cell_at ((h k hkl).trans hk)
  rw [h1] at h2
  cases h2
  exact h3

theorem open_sh : ∀ (fuel f : Nat) (t : TypeId) (cs : List Value) (s : Sh) (d : DataW H × List MemPlace), DataW.trod enc P w 0 (fun _ => true) true fuel t cs = some d → shT P f t s = true →
    ∃ xs, RVRs (heapM w) xs cs ∧ Ones cs ∧ Has s xs := by
  intro fuel
  induction fuel with
  | zero => intro f t cs s d h; simp [DataW.trod] at h
  | succ fuel ih =>
    intro f t cs s d h hs
    cases f with
    | zero => simp [shT] at hs
    | succ f =>
    simp only [shT] at hs
    split at hs <;> try (cases hs; done)
    · rename_i k k' hu
      simp only [beq_iff_eq] at hs
      subst hs
      simp only [DataW.trod, hu] at h
      split at h <;> rename_i h1 <;> (try (cases h1; done)) <;> try (cases h; done)
      cases h1
      split at h <;> try (cases h; done)
      rename_i n hk
      obtain ⟨rfl, hk⟩ := hk
      exact ⟨[.lit (.int _ n)], ⟨rfl, trivial⟩, (fun v hv => by simp at hv; subst hv; rfl), by simp only [Has]; exact ⟨n, rfl, hk⟩⟩
    · rename_i hu
      simp only [DataW.trod, hu] at h
      split at h <;> rename_i h1 <;> (try (cases h1; done)) <;> try (cases h; done)
      rename_i b
      exact ⟨[.lit (.bool b)], by simp [RVRs, RVR], (fun v hv => by simp at hv; subst hv; rfl), by simp [Has]⟩
    · rename_i hu
      simp only [DataW.trod, hu] at h
      split at h <;> rename_i h1 <;> (try (cases h1; done)) <;> try (cases h; done)
      split at h <;> try (cases h; done)
      rename_i b hk
      exact ⟨[.lit (.string b)], by simp [RVRs, RVR], (fun v hv => by simp at hv; subst hv; rfl), by simp only [Has]; exact ⟨b, rfl, hk⟩⟩
    · rename_i e s' hu
      simp only [Bool.and_eq_true, beq_iff_eq, decide_eq_true_eq] at hs
      obtain ⟨⟨hs1, hs2⟩, hs3⟩ := hs
      rcases DataW.trod_slice hu h with ⟨rfl, _⟩ | ⟨a, len, cap, elems, rest, n, hn, rfl, _, _, hl, hm, hlen, hel, _, _⟩
      · exact ⟨[.nil], by simp [RVRs, RVR], (fun v hv => by simp at hv; subst hv; rfl), by simp [Has]⟩
      · have hn : fuel = n := by omega
        subst hn
        rw [hs2] at hel
        have each : ∀ i, i < len → ∃ vs, w.cells? 0 (a.add (i * s'.n)) s'.n = some vs ∧ ∃ xs, RVRs (heapM w) xs vs ∧ Ones vs ∧ Has s' xs := by
          intro i hi
          have h1 := hel i hi
          have h2 : elems[i]? = some (elems[i]'(by omega)) := List.getElem?_eq_getElem _
          rw [h2, Option.bind_eq_some_iff] at h1
          obtain ⟨vs, e1, e2⟩ := h1
          exact ⟨vs, e1, ih f e vs s' _ e2 hs1⟩
        by_cases h0 : len = 0
        · subst h0
          refine ⟨[.sl [] 0 none], ?_, (fun v hv => by simp at hv; subst hv; rfl), ?_⟩
          · simp only [RVRs, RVR, and_true]
            exact ⟨some a, cap, [], rfl, hl, by simp, trivial, (fun v hv => by cases hv), by simp, by simp⟩
          · simp only [Has]; exact .inr ⟨[], 0, rfl, by simp, rfl⟩
        · have ha : a = ⟨a.block, a.off, none⟩ := by
            obtain ⟨vs, e1, _⟩ := each 0 (by omega)
            have h1 := (World.cells?_some e1).2.2 0 hs3
            have h2 := (World.cells?_some e1).2.1
            have h3 : (a.add (0 * s'.n)).add 0 = a := by simp [Addr.add]
            rw [h3, List.getElem?_eq_getElem (by omega)] at h1
            exact cell_spot h1
          generalize hb : a.block = b at ha
          generalize ho : a.off = o at ha
          subst ha
          have fx : ∃ fv : Nat → List Value, (∀ i, (fv i).length = s'.n) ∧ ∀ i, i < len → w.cells? 0 ((⟨b, o, none⟩ : Addr).add (i * s'.n)) s'.n = some (fv i) ∧ ∃ xs, RVRs (heapM w) xs (fv i) ∧ Ones (fv i) ∧ Has s' xs := by
            refine ⟨fun i => if h : i < len then Classical.choose (each i h) else List.replicate s'.n undef, fun i => ?_, fun i hi => ?_⟩
            · simp only
              by_cases hi : i < len
              · rw [dif_pos hi]
                exact (World.cells?_some (Classical.choose_spec (each i hi)).1).2.1
              · rw [dif_neg hi]; simp
            · simp only
              rw [dif_pos hi]; exact Classical.choose_spec (each i hi)
          obtain ⟨fv, hfl, hfv⟩ := fx
          obtain ⟨xs, x1, x2, x3⟩ := parts_rows (M := heapM w) (R := Has s') fv hfl len 0 (fun i _ hi => (hfv i (by omega)).2)
          refine ⟨[.sl xs len none], ?_, (fun v hv => by simp at hv; subst hv; rfl), ?_⟩
          · simp only [RVRs, RVR, and_true]
            refine ⟨some ⟨b, o, none⟩, cap, (List.range' 0 len).flatMap fv, rfl, hl, by simp, x1, x2, fun _ => ⟨b, o, rfl, ?_⟩, by simp⟩
            have hlen2 : ((List.range' 0 len).flatMap fv).length = len * s'.n := by
              have : ∀ (n k : Nat), ((List.range' k n).flatMap fv).length = n * s'.n := by
                intro n
                induction n with
                | zero => intro k; simp
                | succ n ih => intro k; rw [List.range'_succ, List.flatMap_cons, List.length_append, ih, hfl, Nat.succ_mul, Nat.add_comm]
              exact this len 0
            refine at_of (by rw [hlen2]; exact Nat.mul_pos (by omega) hs3) fun i hi => ?_
            have hget : ((List.range' 0 len).flatMap fv)[i]? = some (((List.range' 0 len).flatMap fv)[i]) := List.getElem?_eq_getElem hi
            obtain ⟨g1, g2⟩ := flat_get hs3 hfl len 0 i _ hget
            rw [hget, ← g2]
            simp only [Nat.zero_add]
            have := (World.cells?_some (hfv _ g1).1).2.2 (i % s'.n) (Nat.mod_lt _ hs3)
            rw [add_lit, add_lit] at this
            rw [← this]
            congr 2
            rw [Nat.add_assoc]
            congr 1
            rw [Nat.mul_comm]
            exact (Nat.div_add_mod i s'.n).symm
          · simp only [Has]
            exact .inr ⟨xs, len, rfl, Nat.le_trans hl hm, x3⟩
    · rename_i fs ss hu
      simp only [Bool.and_eq_true, beq_iff_eq, List.all_eq_true, List.mem_range] at hs
      obtain ⟨⟨hs1, hs2⟩, hs3⟩ := hs
      obtain ⟨xs, n, hn, _, hl, _, hx⟩ := DataW.trod_struct hu h
      have hn : fuel = n := by omega
      subst hn
      have := open_all (M := heapM w) ss cs (by rw [hl, hs3]) (fun i s' hi => by
        have hil := (List.getElem?_eq_some_iff.1 hi).1
        have := hs2 i hil
        have hfi : fs[i]? = some (fs[i]'(by omega)) := Array.getElem?_eq_getElem _
        rw [hfi, hi] at this
        simp only [Bool.and_eq_true, beq_iff_eq] at this
        obtain ⟨⟨a1, a2⟩, a3⟩ := this
        have h1 := hx i _ hfi
        rw [a1, a3] at h1
        have h2 : ∃ d, xs[i]? = some d := ⟨xs[i]'(by omega), List.getElem?_eq_getElem _⟩
        obtain ⟨d, hd⟩ := h2
        rw [hd] at h1
        exact ih f _ _ s' d h1 a2)
      obtain ⟨ys, y1, y2, y3⟩ := this
      exact ⟨ys, y1, y2, by simp only [Has]; exact y3⟩
    · rename_i n e ss hu
      simp only [Bool.and_eq_true, beq_iff_eq, List.all_eq_true, List.mem_range] at hs
      obtain ⟨⟨hs1, hs2⟩, hs3⟩ := hs
      obtain ⟨xs, m, hn, _, hl, hxl, hx⟩ := DataW.trod_array hu h
      have hn : fuel = m := by omega
      subst hn
      have := open_all (M := heapM w) ss cs (by rw [hl, hs3]) (fun i s' hi => by
        have hil := (List.getElem?_eq_some_iff.1 hi).1
        have := hs2 i hil
        rw [hi] at this
        simp only [Bool.and_eq_true, beq_iff_eq] at this
        obtain ⟨⟨a1, a2⟩, a3⟩ := this
        have h1 := hx i (by omega)
        rw [a1, a3] at h1
        have h2 : ∃ d, xs[i]? = some d := ⟨xs[i]'(by omega), List.getElem?_eq_getElem _⟩
        obtain ⟨d, hd⟩ := h2
        rw [hd] at h1
        exact ih f _ _ s' d h1 a2)
      obtain ⟨ys, y1, y2, y3⟩ := this
      exact ⟨ys, y1, y2, by simp only [Has]; exact y3⟩

/-- A value of a type that is no struct and no array. -/
theorem open_one {t : TypeId} {v : Value} {d : DataW H} {ps : List MemPlace} (h : DataW.Trod enc P w 0 (fun _ => true) true t v d ps) {f : Nat} {s : Sh} (hs : shT P f t s = true) (h1 : v.oneCell' = true) :
    ∃ x, RVR (heapM w) x v ∧ Has s [x] := by
  obtain ⟨fuel, h⟩ := h
  have hc : v.cells.toList = [v] := by cases v <;> first | rfl | (simp [Value.oneCell'] at h1; done)
  rw [hc] at h
  obtain ⟨xs, k1, _, k3⟩ := open_sh fuel f t [v] s _ h hs
  cases xs with
  | nil => exact k1.elim
  | cons x xs =>
  cases xs with
  | cons y ys => exact k1.2.elim
  | nil => exact ⟨x, k1.1, k3⟩

/-- A struct or an array. -/
theorem open_agg {t : TypeId} {cs : Array Value} {d : DataW H} {ps : List MemPlace} (h : DataW.Trod enc P w 0 (fun _ => true) true t (.agg cs) d ps) {f : Nat} {s : Sh} (hs : shT P f t s = true) :
    ∃ xs, RVR (heapM w) (.agg xs) (.agg cs) ∧ Has s xs := by
  obtain ⟨fuel, h⟩ := h
  obtain ⟨xs, k1, k2, k3⟩ := open_sh fuel f t cs.toList s _ h hs
  exact ⟨xs, by simp only [RVR]; exact ⟨cs.toList, by simp, k1, k2⟩, k3⟩

end

/-- A run of the machine is a call's. -/
theorem row_calls {P : Program} {C : Cfg} (hP : ProgOk P (chkDraw P) C) {f : FuncId} {args : List RV} {N : Nat} {m : Mem} {b : Bool} {v : Value} (h : funN C N f (rs args) { h := [] } none = some (.ret (.r (.lit v)) m, b))
    {w : World} {vs : Array Value} (hv : RVRs (heapM w) args vs.toList) : Calls P f vs w fun e w' => e = .returned v ∧ Below w.heap.size w w' := by
  have hR : Rel (KC P (chkDraw P)) ⟨fun _ => 0, fun _ => 0, fun _ => 0, 0, heapM w⟩ ⟨fun _ => False, fun _ => False⟩ [] w :=
    ⟨rfl, fun i b h => by simp at h, fun i j b d h => by simp at h, fun i b h => by simp at h, fun b o h => h, fun b h => h.elim, fun b h => h.elim⟩
  obtain ⟨_, k⟩ := fun_sound hP (fun k _ => call_sound hP k) h hR (rs_ok rfl hv)
  have := callsIn_wide.1 (k 0)
  refine Calls.mono this fun e w' he => ?_
  cases e with
  | returned u =>
    obtain ⟨c', av, m', e1, A, R, hvr⟩ := he
    cases e1
    have hvr : u = v := hvr
    subst hvr
    refine ⟨rfl, A.os, A.tape, A.output, A.size, fun k hk => ?_⟩
    have : heapM w k = some (w.heap[k]'hk) := Array.getElem?_eq_getElem hk
    rw [R.mem k _ (A.le.M k _ this), ← this]
    rfl
  | panicked ch =>
    obtain ⟨c', x, m', e1, _⟩ := he
    cases e1
  | outgrown => exact he.elim

end Go.AM
/- What code does, without fuel (own work). -/
namespace Go.AM

def Kn (C : Cfg) (n : Nat) : Kit := { call := callN C n, iter := iterN n }

/-- A call ends so. -/
def CallR (C : Cfg) (f : AV) (args : List AV) (m : Mem) (r : CRes) : Prop := ∃ n0, ∀ n, n0 ≤ n → callN C n f args m = some r
def DenI (C : Cfg) (l : List AI) (s : St) (o : Out) (s' : St) : Prop := ∃ n0, ∀ n, n0 ≤ n → denIs (Kn C n) s l = some (o, s')
def Den (C : Cfg) (c : AC) (s : St) (o : Out) (s' : St) : Prop := ∃ n0, ∀ n, n0 ≤ n → den (Kn C n) c s = some (o, s')
def Loop (C : Cfg) (live : List Nat) (c : AC) (s : St) (o : Out) (s' : St) : Prop :=
  ∃ n0, ∀ n, n0 ≤ n → ∀ j, n0 ≤ j → iterN j (fun s => den (Kn C n) c { s with env := ekeep live s.env }) s = some (o, s')

section
variable {C : Cfg} {s s1 s2 : St} {o : Out} {a b c : AC}

theorem DenI.nil : DenI C [] s .norm s := ⟨0, fun n _ => rfl⟩
/-- Operations that make no call. -/
theorem DenI.plain {l r : List AI} (h : ∀ K, denIs K s l = some (.norm, s1)) (k : DenI C r s1 o s2) : DenI C (l ++ r) s o s2 := by
  obtain ⟨n0, k⟩ := k
  refine ⟨n0, fun n hn => ?_⟩
  have : ∀ (l : List AI) (s : St), denIs (Kn C n) s l = some (.norm, s1) → denIs (Kn C n) s (l ++ r) = denIs (Kn C n) s1 r := by
    intro l
    induction l with
    | nil => intro s h; simp only [denIs, Option.some.injEq, Prod.mk.injEq, true_and] at h; subst h; rfl
    | cons i l ih =>
      intro s h
      simp only [denIs, List.cons_append] at h ⊢
      split at h
      · rename_i s' hi; exact ih _ h
      · rename_i h1 h2; rw [h] at h2; exact absurd rfl (h2 s1)
  rw [this l s (h _)]
  exact k n hn
theorem DenI.call {g : Option (Nat × Bool)} {d : Option Nat} {f : Opd} {args : List Opd} {r : List AI} {v : AV} {m : Mem} (hg : wants s.env g = some true) (h : CallR C (ev s.env f) (evs s.env args) s.m (.ret v m))
    (k : DenI C r (putD s d v m) o s2) : DenI C (⟨g, d, .call f args⟩ :: r) s o s2 := by
  obtain ⟨n1, h⟩ := h
  obtain ⟨n2, k⟩ := k
  refine ⟨max n1 n2, fun n hn => ?_⟩
  simp only [denIs, denI, hg, denOp, Kn, h n (by omega)]
  exact k n (by omega)
theorem DenI.callPan {g : Option (Nat × Bool)} {d : Option Nat} {f : Opd} {args : List Opd} {r : List AI} {v : RV} {m : Mem} (hg : wants s.env g = some true) (h : CallR C (ev s.env f) (evs s.env args) s.m (.pan v m)) :
    DenI C (⟨g, d, .call f args⟩ :: r) s (.pan v) { s with m := m } := by
  obtain ⟨n1, h⟩ := h
  refine ⟨n1, fun n hn => ?_⟩
  simp only [denIs, denI, hg, denOp, Kn, h n (by omega)]
theorem DenI.skip {i : AI} {r : List AI} (hg : wants s.env i.g = some false) (k : DenI C r (putD s i.dst unit s.m) o s2) : DenI C (i :: r) s o s2 := by
  obtain ⟨n2, k⟩ := k
  refine ⟨n2, fun n hn => ?_⟩
  simp only [denIs, denI, hg]
  exact k n hn
theorem DenI.op {i : AI} {r : List AI} {v : AV} {m : Mem} (hg : wants s.env i.g = some true) (hp : plainOp i.o = true) (h : stepOp s.env s.m i.o = some (v, m)) (k : DenI C r (putD s i.dst v m) o s2) : DenI C (i :: r) s o s2 := by
  obtain ⟨n2, k⟩ := k
  refine ⟨n2, fun n hn => ?_⟩
  have : denOp (Kn C n) s i.dst i.o = some (.norm, putD s i.dst v m) := by
    cases ho : i.o <;> simp [ho, plainOp] at hp <;> simp [denOp, ← ho, h]
  simp only [denIs, denI, hg, this]
  exact k n hn

theorem Den.reg {l : List AI} (h : DenI C l s o s1) : Den C (.reg l) s o s1 := h
theorem Den.plain {l : List AI} (h : ∀ K, denIs K s l = some (.norm, s1)) : Den C (.reg l) s .norm s1 := ⟨0, fun n _ => h _⟩
theorem Den.skip : Den C .skip s .norm s := ⟨0, fun n _ => rfl⟩
theorem Den.label : Den C .label s .norm s := ⟨0, fun n _ => rfl⟩
theorem Den.ret : Den C .ret s .ret s := ⟨0, fun n _ => rfl⟩
theorem Den.exit {id : Nat} : Den C (.exit id) s (.exit id) s := ⟨0, fun n _ => rfl⟩
theorem Den.keep {live : List Nat} : Den C (.keep live) s .norm { s with env := ekeep live s.env } := ⟨0, fun n _ => rfl⟩
theorem Den.scope (h : Den C c s o s1) : Den C (.scope c) s o s1 := h
theorem Den.seq (h : Den C a s .norm s1) (k : Den C b s1 o s2) : Den C (.seq a b) s o s2 := by
  obtain ⟨n1, h⟩ := h
  obtain ⟨n2, k⟩ := k
  exact ⟨max n1 n2, fun n hn => by simp only [den, h n (by omega), k n (by omega)]⟩
theorem Den.seqX (h : Den C a s o s1) (ho : o ≠ .norm) : Den C (.seq a b) s o s1 := by
  obtain ⟨n1, h⟩ := h
  refine ⟨n1, fun n hn => ?_⟩
  simp only [den, h n hn]
  cases o <;> first | rfl | exact absurd rfl ho
theorem Den.cond {x : Opd} {t : Bool} (hx : ev s.env x = .r (.lit (.bool t))) (h : Den C (if t then a else b) s o s1) : Den C (.cond x a b) s o s1 := by
  obtain ⟨n1, h⟩ := h
  refine ⟨n1, fun n hn => ?_⟩
  simp only [den, hx, AV.bool?]
  have := h n hn
  cases t <;> exact this
theorem Den.condT {x : Opd} (hx : ev s.env x = .r (.lit (.bool true))) (h : Den C a s o s1) : Den C (.cond x a b) s o s1 := Den.cond hx h
theorem Den.condF {x : Opd} (hx : ev s.env x = .r (.lit (.bool false))) (h : Den C b s o s1) : Den C (.cond x a b) s o s1 := Den.cond hx h
theorem Den.block {id : Nat} (h : Den C c s o s1) (ho : ∀ id', o ≠ .exit id') : Den C (.block id c) s o s1 := by
  obtain ⟨n1, h⟩ := h
  refine ⟨n1, fun n hn => ?_⟩
  simp only [den, h n hn]
  cases o <;> first | rfl | exact absurd rfl (ho _)
theorem Den.blockX {id : Nat} (h : Den C c s (.exit id) s1) : Den C (.block id c) s .norm s1 := by
  obtain ⟨n1, h⟩ := h
  exact ⟨n1, fun n hn => by simp only [den, h n hn, if_true]⟩
theorem Den.blockY {id id' : Nat} (h : Den C c s (.exit id') s1) (hn : id' ≠ id) : Den C (.block id c) s (.exit id') s1 := by
  obtain ⟨n1, h⟩ := h
  exact ⟨n1, fun n hn' => by simp only [den, h n hn', if_neg hn]⟩
theorem Den.draw {ops : List AI} {slots : Nat} {pairs : List (Nat × Nat)} {gc : List Nat} {e : Env} {m : Mem} {fs : List (List Nat × List Nat)}
    (h : ∃ n0, ∀ n, n0 ≤ n → denD (Kn C n) s.m.h.length ops s.env { h := s.m.h ++ List.replicate slots .dead, wr := s.m.wr } [] = some (e, m, fs)) (hp : pairsOk fs pairs = true) :
    Den C (.draw ops slots pairs gc) s .norm { s with env := e, m := m } := by
  obtain ⟨n0, h⟩ := h
  exact ⟨n0, fun n hn => by simp only [den, h n hn, hp, if_true]⟩

theorem Loop.more {live : List Nat} (h : Den C c { s with env := ekeep live s.env } .norm s1) (k : Loop C live c s1 o s2) : Loop C live c s o s2 := by
  obtain ⟨n1, h⟩ := h
  obtain ⟨n2, k⟩ := k
  refine ⟨max n1 n2 + 1, fun n hn j hj => ?_⟩
  obtain ⟨j, rfl⟩ : ∃ i, j = i + 1 := ⟨j - 1, by omega⟩
  simp only [iterN, h n (by omega)]
  exact k n (by omega) j (by omega)
theorem Loop.stop {live : List Nat} (h : Den C c { s with env := ekeep live s.env } o s1) (ho : o ≠ .norm) : Loop C live c s o s1 := by
  obtain ⟨n1, h⟩ := h
  refine ⟨n1 + 1, fun n hn j hj => ?_⟩
  obtain ⟨j, rfl⟩ : ∃ i, j = i + 1 := ⟨j - 1, by omega⟩
  simp only [iterN, h n (by omega)]
  cases o <;> first | rfl | exact absurd rfl ho
theorem Den.loop {live : List Nat} (h : Loop C live c s o s1) : Den C (.loop live c) s o s1 := by
  obtain ⟨n1, h⟩ := h
  exact ⟨n1, fun n hn => by simp only [den, Kn]; exact h n hn n hn⟩

/-- A loop: rounds go on while something grows less. -/
theorem Loop.run {C : Cfg} {c : AC} {live : List Nat} (I : Nat → St → Prop) (Post : Out → St → Prop)
    (step : ∀ k s, I k s → ∃ o s', Den C c { s with env := ekeep live s.env } o s' ∧ ((o = .norm ∧ ∃ k', k' < k ∧ I k' s') ∨ (o ≠ .norm ∧ Post o s'))) :
    ∀ k s, I k s → ∃ o s', Loop C live c s o s' ∧ o ≠ .norm ∧ Post o s' := by
  intro k
  induction k using Nat.strongRecOn with
  | ind k ih =>
    intro s hI
    obtain ⟨o, s', hd, ⟨rfl, k', hk, hI'⟩ | ⟨ho, hp⟩⟩ := step k s hI
    · obtain ⟨o2, s2, h1, h2, h3⟩ := ih k' hk s' hI'
      exact ⟨o2, s2, .more hd h1, h2, h3⟩
    · exact ⟨o, s', .stop hd ho, ho, hp⟩

theorem Den.rangeF {f : Opd} {ps : List Nat} {as bd : AC} {v : AV} {m : Mem} {env : Env} {q1 : List Nat} {q2 q3 : AC} {st : LSt} {pend : Option Jmp} (hr : roundOk s = true) (hf : isYld (ev s.env f) = false)
    (h : CallR C (ev s.env f) [.yld (loopAt s)] { s.m with h := loopHeap s ps as bd } (.ret v m)) (hb : m.h[loopAt s]? = some (.loop env q1 q2 q3 st pend)) (hst : st ≠ .busy) :
    Den C (.rangeF f ps as bd) s (jmpOut pend) { s with m := { h := m.h.set (loopAt s) .dead, wr := loopAt s :: m.wr }, defs := loopDefs s } := by
  obtain ⟨n1, h⟩ := h
  refine ⟨n1, fun n hn => ?_⟩
  simp only [den, hr, Bool.true_eq_false, if_false]
  split
  · rename_i hy; rw [hy] at hf; cases hf
  · simp only [Kn, h n hn, hb, if_neg hst]
end

/-- A function's run. -/
theorem CallR.fn {C : Cfg} {f : FuncId} {fn : AFn} {a b args : List AV} {m m1 : Mem} {o : Out} {s : St} {vs : List AV} (hx : C.ext f = none) (hp : C.prog f = some fn) (hl : (a ++ args ++ b).length = fn.nparams)
    (h : Den C fn.body { env := enumFrom 0 (a ++ args ++ b), m := { h := m.h, wr := [] } } o s) (ho : o = .norm ∨ o = .ret) (hd : runDefs (fun _ _ _ _ => none) s.defs .returning s.m = some (.returning, m1))
    (hr : resAll s.env m1 fn.res = some vs) : CallR C (.fn f a b) args m (.ret (settle C.fz (C.keepAll f) m (tupOf vs) m1).1 (settle C.fz (C.keepAll f) m (tupOf vs) m1).2) := by
  obtain ⟨n1, h⟩ := h
  refine ⟨n1 + 2, fun n hn => ?_⟩
  obtain ⟨n, rfl⟩ : ∃ k, n = k + 2 := ⟨n - 2, by omega⟩
  have hrd : ∀ (d : Option RV → AV → List AV → Mem → Option (CRes × Bool)) (l : List ADef) (m : Mem), runDefs (fun _ _ _ _ => none) l .returning m = some (.returning, m1) → runDefs d l .returning m = some (.returning, m1) := by
    intro d l
    induction l with
    | nil => intro m h; exact h
    | cons x l ih =>
      intro m h
      cases x with
      | dfr i =>
        simp only [runDefs] at h ⊢
        split at h <;> try (cases h; done)
        exact ih _ h
      | call f args => simp [runDefs] at h
  have hden := h n (by omega)
  simp only [Kn] at hden
  simp only [callN, funN, hx, hp, runBody, if_pos hl, hden]
  rcases ho with rfl | rfl <;> simp only [hrd _ _ _ hd, hr, Option.map_some]

theorem CallR.fnR {C : Cfg} {f : FuncId} {a b : List RV} {args : List AV} {m : Mem} {r : CRes} (h : CallR C (.fn f (rs a) (rs b)) args m r) : CallR C (.r (.fn f a b)) args m r := by
  obtain ⟨n0, h⟩ := h
  refine ⟨n0, fun n hn => ?_⟩
  have := h n hn
  cases n with
  | zero => simp [callN] at this
  | succ n => simpa only [callN] using this

/-- A run, at last, as a row wants it. -/
theorem CallR.top {C : Cfg} {f : FuncId} {args : List AV} {m : Mem} {r : CRes} (h : CallR C (.r (.fn f [] [])) args m r) : ∃ n b, funN C n f args m none = some (r, b) := by
  obtain ⟨n0, h⟩ := h
  have := h (n0 + 1) (by omega)
  simp only [callN, rs, List.map_nil, List.nil_append, List.append_nil, Option.map_eq_some_iff] at this
  obtain ⟨⟨r', b⟩, h1, h2⟩ := this
  cases h2
  exact ⟨n0, b, h1⟩

/-! ### what a call leaves -/
/-- Nothing of the caller's is written, new blocks are gone. -/
theorem settle_fz {F : Nat} {m : Mem} {v v' : AV} {m1 : Mem} (h : fz m1 m.h.length F v = some v') (ht : m1.h.take m.h.length = m.h) (hw : ∀ i ∈ m1.wr, m.h.length ≤ i) : settle F false m v m1 = (v', m) := by
  have : oldWr m.h.length m1.wr = [] := by
    unfold oldWr
    rw [List.filter_eq_nil_iff]
    intro i hi
    have := hw i hi
    simp; omega
  unfold settle
  simp [h, this, ht]

/-- A function that leaves its caller's memory as it was. -/
theorem CallR.pure {C : Cfg} {f : FuncId} {fn : AFn} {a b : List RV} {args : List AV} {m m1 : Mem} {o : Out} {s : St} {vs : List AV} {v : AV} (hx : C.ext f = none) (hk : C.keepAll f = false) (hp : C.prog f = some fn) (hl : (rs a ++ args ++ rs b).length = fn.nparams)
    (h : Den C fn.body { env := enumFrom 0 (rs a ++ args ++ rs b), m := { h := m.h, wr := [] } } o s) (ho : o = .norm ∨ o = .ret) (hd : runDefs (fun _ _ _ _ => none) s.defs .returning s.m = some (.returning, m1))
    (hr : resAll s.env m1 fn.res = some vs) (hz : fz m1 m.h.length C.fz (tupOf vs) = some v) (ht : m1.h.take m.h.length = m.h) (hw : ∀ i ∈ m1.wr, m.h.length ≤ i) : CallR C (.r (.fn f a b)) args m (.ret v m) := by
  have := CallR.fn hx hp hl h ho hd hr
  rw [hk, settle_fz hz ht hw] at this
  exact CallR.fnR this

theorem settle_r {F : Nat} {m m1 : Mem} {x : RV} (ht : m1.h.take m.h.length = m.h) (hw : ∀ i ∈ m1.wr, m.h.length ≤ i) : settle (F + 1) false m (.r x) m1 = (.r x, m) := settle_fz rfl ht hw

end Go.AM
