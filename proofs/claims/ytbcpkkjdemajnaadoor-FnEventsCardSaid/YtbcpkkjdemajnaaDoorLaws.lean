/-
  The plain law: what the functions answer is true.
-/
import Derived.Test.YtbcpkkjdemajnaaDoorFn
import Derived.Lib.ItoaLen
namespace Go.Pv.Q
/-- A source of drawn numbers, after at most c numbers. -/
structure SrcOk (c : Nat) (s : T_spec_l00Src) : Prop where
  bytes : ∀ n ∈ s.1, 0 ≤ n ∧ n ≤ 255
  at0 : 0 ≤ s.2.1
  at1 : s.2.1 ≤ c
theorem SrcOk.mono {c c' : Nat} {s : T_spec_l00Src} (h : SrcOk c s) (hc : c ≤ c') : SrcOk c' s := ⟨h.bytes, h.at0, by have := h.at1; omega⟩
theorem and255 (x : Int) : 0 ≤ IntKind.i64.wrap (bitsK .and .u64 x 255) ∧ IntKind.i64.wrap (bitsK .and .u64 x 255) ≤ 255 := by
  have h : ∃ n : Nat, bitsK .and .u64 x 255 = (n : Int) ∧ n ≤ 255 := by
    refine ⟨(BitVec.ofInt 64 x &&& BitVec.ofInt 64 255).toNat, ?_, ?_⟩
    · show IntKind.u64.wrap _ = _
      have h1 : IntKind.u64.wrap ((BitVec.ofInt 64 x &&& BitVec.ofInt 64 255).toNat : Int) = ((BitVec.ofInt 64 x &&& BitVec.ofInt 64 255).toNat : Int) % 18446744073709551616 := rfl
      have h2 := (BitVec.ofInt 64 x &&& BitVec.ofInt 64 255).isLt
      refine h1.trans ?_
      omega
    · rw [BitVec.toNat_and]
      exact Nat.le_trans Nat.and_le_right (by decide)
  obtain ⟨n, h1, h2⟩ := h
  rw [h1, w64 (by omega)]
  omega
theorem next_ok {c : Nat} {s : T_spec_l00Src} (h : SrcOk c s) (hc : c < 1000000) : ∃ s' b, spec_l00Src_next s = some (s', b) ∧ SrcOk (c + 1) s' ∧ 0 ≤ b ∧ b ≤ 255 := by
  obtain ⟨code, at_, state⟩ := s
  obtain ⟨h1, h2, h3⟩ := h
  simp only at h1 h2 h3
  have hw : IntKind.i64.wrap (at_ + 1) = at_ + 1 := w64 (by omega)
  have hb : ∃ b, (bcase (decide (at_ < (code.length : Int))) ((idx code at_).bind fun e => some (IntKind.i64.wrap e)) (some 0)) = some b ∧ 0 ≤ b ∧ b ≤ 255 := by
    by_cases hlt : at_ < (code.length : Int)
    · obtain ⟨hi, e⟩ := idx_lt h2 hlt
      have hm := h1 _ (List.getElem_mem hi)
      refine ⟨code[at_.toNat], ?_, hm⟩
      simp only [hlt, decide_true, bcase, e, Option.bind_some, w64 (n := code[at_.toNat]) (by omega)]
    · exact ⟨0, by simp only [hlt, decide_false, bcase], by omega, by omega⟩
  obtain ⟨b, hb1, hb2⟩ := hb
  unfold spec_l00Src_next
  simp only at hb1 ⊢
  rw [hb1]
  simp only [Option.bind_some, hw]
  by_cases hle : at_ + 1 ≤ (code.length : Int)
  · simp only [hle, decide_true, bcase]
    exact ⟨_, _, rfl, ⟨h1, by simp only; omega, by simp only; omega⟩, hb2⟩
  · simp only [hle, decide_false, bcase, shrK]
    rw [if_neg (by omega)]
    simp only [Option.bind_some]
    exact ⟨_, _, rfl, ⟨h1, by simp only; omega, by simp only; omega⟩, and255 _⟩
theorem pick_ok {c : Nat} {s : T_spec_l00Src} {n : Int} (h : SrcOk c s) (hc : c + 1 < 1000000) (hn : 1 ≤ n) (hn2 : n ≤ 65536) : ∃ s' v, spec_l00Src_pick s n = some (s', v) ∧ SrcOk (c + 2) s' ∧ 0 ≤ v ∧ v < n := by
  unfold spec_l00Src_pick
  by_cases h1 : n ≤ 1
  · simp only [h1, decide_true, bcase]
    exact ⟨_, _, rfl, h.mono (by omega), by omega, by omega⟩
  · simp only [h1, decide_false, bcase]
    obtain ⟨s1, b1, e1, k1, l1, l2⟩ := next_ok h (by omega)
    simp only [e1, Option.bind_some]
    by_cases h2 : n > 200
    · obtain ⟨s2, b2, e2, k2, l3, l4⟩ := next_ok k1 (by omega)
      have hw : IntKind.i64.wrap (IntKind.i64.wrap (b1 * 256) + b2) = b1 * 256 + b2 := by rw [w64 (n := b1 * 256) (by omega), w64 (by omega)]
      simp only [h2, decide_true, e2, Option.bind_some, hw, remK_ok (show 0 ≤ b1 * 256 + b2 by omega) (show 0 < n by omega)]
      exact ⟨_, _, rfl, k2, Int.emod_nonneg _ (by omega), Int.emod_lt_of_pos _ (by omega)⟩
    · simp only [h2, decide_false, Option.bind_some, remK_ok l1 (show 0 < n by omega)]
      exact ⟨_, _, rfl, k1.mono (by omega), Int.emod_nonneg _ (by omega), Int.emod_lt_of_pos _ (by omega)⟩
theorem one_ok {c : Nat} {s : T_spec_l00Src} {n : Int} (h : SrcOk c s) (hc : c + 1 < 1000000) (hn : 1 ≤ n) (hn2 : n ≤ 65536) : ∃ s' b, spec_l00Src_one s n = some (s', b) ∧ SrcOk (c + 2) s' := by
  obtain ⟨s1, v, e1, k1, _⟩ := pick_ok h hc hn hn2
  unfold spec_l00Src_one
  simp only [e1, Option.bind_some]
  exact ⟨_, _, rfl, k1⟩
/-- Digits in a base. -/
def Digs (base : Int) (l : List Int) : Prop := ∀ d ∈ l, 0 ≤ d ∧ d < base
theorem drawDigits_ok {c : Nat} {s : T_spec_l00Src} {base : Int} {w : Nat} (h : SrcOk c s) (hc : c + 4 * w + 4 < 1000000) (hb : 2 ≤ base) (hb2 : base ≤ 16) :
    ∃ s' l, spec_l02DrawDigits s base w = some (s', l) ∧ SrcOk (c + 4 * w) s' ∧ l.length = w ∧ Digs base l := by
  unfold spec_l02DrawDigits
  obtain ⟨r, e, q1, q2, q3⟩ := loopL_ind (body := spec_l02DrawDigits_b0 base w) (fun k x => x.2.1 = k ∧ x.1.length = k ∧ Digs base x.1 ∧ SrcOk (c + 4 * k) (x.2.2.1, (x.2.2.2.1, x.2.2.2.2))) (fun x => SrcOk (c + 4 * w) (x.2.2.1, (x.2.2.2.1, x.2.2.2.2)) ∧ x.1.length = w ∧ Digs base x.1) w
    (fun k x hk hx => by
      obtain ⟨out, i, s2, s1, s21⟩ := x
      obtain ⟨rfl, x2, x3, x4⟩ := hx
      simp only at x2 x3 x4
      obtain ⟨sa, va, e1, k1, l1, l2⟩ := pick_ok x4 (by omega) (show 1 ≤ base by omega) (by omega)
      obtain ⟨sb, vb, e2, k2⟩ := one_ok k1 (by omega) (show (1 : Int) ≤ 3 by omega) (by omega)
      have hd : ∃ d, (bcase vb (some (IntKind.i64.wrap (base - 1))) (some va)) = some d ∧ 0 ≤ d ∧ d < base := by
        cases vb with
        | true => exact ⟨base - 1, by simp only [bcase, w64 (n := base - 1) (by omega)], by omega, by omega⟩
        | false => exact ⟨va, rfl, l1, l2⟩
      obtain ⟨d, d1, d2, d3⟩ := hd
      refine .inl ⟨(out ++ [d], (((k + 1 : Nat) : Int), sb)), fun go => ?_, ?_⟩
      · unfold spec_l02DrawDigits_b0
        have hlt : (k : Int) < (w : Int) := by omega
        have hw : IntKind.i64.wrap ((k : Int) + 1) = ((k + 1 : Nat) : Int) := by rw [w64 (by omega)]; omega
        simp only [hlt, decide_true, bcase, e1, e2, Option.bind_some] at d1 ⊢
        rw [d1]
        simp only [Option.bind_some, apd_ok (xs := out) (ys := [d]) (by simp only [List.length_singleton, LIM]; omega), hw]
      · refine ⟨rfl, by simp only [List.length_append, List.length_singleton, x2], fun y hy => ?_, ?_⟩
        · rcases List.mem_append.1 hy with hy | hy
          · exact x3 y hy
          · simp only [List.mem_singleton] at hy; subst hy; exact ⟨d2, d3⟩
        · exact k2.mono (by omega))
    (fun x hx => by
      obtain ⟨out, i, s2, s1, s21⟩ := x
      obtain ⟨rfl, x2, x3, x4⟩ := hx
      refine ⟨_, fun go => by unfold spec_l02DrawDigits_b0; simp only [Int.lt_irrefl, decide_false, bcase], x4, x2, x3⟩)
    (s := (([] : List Int), (0, s))) ⟨rfl, rfl, fun d hd => (by cases hd), by simpa using h⟩
  rw [e]
  obtain ⟨out, i, s2, s1, s21⟩ := r
  exact ⟨_, _, rfl, q1, q2, q3⟩
theorem most_ok {base : Int} (hb : 2 ≤ base) (hb2 : base ≤ 16) : ∃ n, spec_l02Most base = some n ∧ 1 ≤ n ∧ n ≤ 16 := by
  unfold spec_l02Most
  obtain ⟨r, e, q1, q2⟩ := loopL_ind (body := spec_l02Most_b0 base) (fun k x => x.1 = (k : Int) + 1) (fun x => 1 ≤ x.1 ∧ x.1 ≤ 16) 15
    (fun k x hk hx => by
      obtain ⟨n, power⟩ := x
      simp only at hx
      subst hx
      by_cases hp : IntKind.i64.wrap (power - 1) ≤ 1000000000000
      · refine .inl ⟨(((k + 1 : Nat) : Int) + 1, IntKind.i64.wrap (power * base)), fun go => ?_, rfl⟩
        unfold spec_l02Most_b0
        have h1 : ((k : Int) + 1) < 16 := by omega
        have hw : IntKind.i64.wrap ((k : Int) + 1 + 1) = ((k + 1 : Nat) : Int) + 1 := by rw [w64 (by omega)]; omega
        simp only [hp, h1, decide_true, bcase, Option.bind_some, hw]
      · refine .inr ⟨((k : Int) + 1, power), fun go => ?_, ?_⟩
        · unfold spec_l02Most_b0
          simp only [hp, decide_false, bcase, Option.bind_some]
        · simp only; omega)
    (fun x hx => by
      obtain ⟨n, power⟩ := x
      simp only at hx
      subst hx
      refine ⟨((16 : Int), power), fun go => ?_, by simp⟩
      unfold spec_l02Most_b0
      by_cases hp : IntKind.i64.wrap (power - 1) ≤ 1000000000000
      · simp only [hp, decide_true, bcase, Option.bind_some]; rfl
      · simp only [hp, decide_false, bcase, Option.bind_some]; rfl)
    (s := ((1 : Int), IntKind.i64.wrap (base * base))) rfl
  rw [e]
  exact ⟨_, rfl, q1, q2⟩
/-- Two registers, as drawn. -/
structure Regs (a b : T_impl_Register) : Prop where
  base : b.1 = a.1
  b2 : 2 ≤ a.1
  b16 : a.1 ≤ 12
  w1 : 1 ≤ a.2.length
  w7 : a.2.length ≤ 7
  len : b.2.length = a.2.length
  da : Digs a.1 a.2
  db : Digs a.1 b.2
theorem draw_ok {c : Nat} {s : T_spec_l00Src} (h : SrcOk c s) (hc : c < 1000) : ∃ s' a, spec_l02Draw s 7 = some (s', a) ∧ SrcOk (c + 40) s' ∧ 2 ≤ a.1 ∧ a.1 ≤ 12 ∧ 1 ≤ a.2.length ∧ a.2.length ≤ 7 ∧ Digs a.1 a.2 := by
  obtain ⟨s1, v1, e1, k1, l1, l2⟩ := pick_ok h (by omega) (show (1 : Int) ≤ 11 by omega) (by omega)
  obtain ⟨s2, v2, e2, k2⟩ := one_ok k1 (by omega) (show (1 : Int) ≤ 2 by omega) (by omega)
  unfold spec_l02Draw
  simp only [e1, e2, Option.bind_some]
  have hb : ∃ base, (bcase v2 (some (10 : Int)) (some (IntKind.i64.wrap (2 + v1)))) = some base ∧ 2 ≤ base ∧ base ≤ 12 := by
    cases v2 with
    | true => exact ⟨10, rfl, by omega, by omega⟩
    | false => exact ⟨2 + v1, by simp only [bcase, w64 (n := 2 + v1) (by omega)], by omega, by omega⟩
  obtain ⟨base, b1, b2, b3⟩ := hb
  obtain ⟨n, n1, n2, n3⟩ := most_ok b2 (by omega)
  have hm : ∃ q, spec_l00Min 7 n = some q ∧ 1 ≤ q ∧ q ≤ 7 := by
    unfold spec_l00Min
    by_cases h7 : (7 : Int) < n
    · exact ⟨7, by simp only [h7, decide_true, bcase], by omega, by omega⟩
    · exact ⟨n, by simp only [h7, decide_false, bcase], by omega, by omega⟩
  obtain ⟨q, m1, m2, m3⟩ := hm
  obtain ⟨s3, v3, e3, k3, l3, l4⟩ := pick_ok k2 (by omega) m2 (by omega)
  obtain ⟨s4, l, e4, k4, l5, l6⟩ := drawDigits_ok (w := 1 + v3.toNat) (base := base) k3 (by omega) b2 (by omega)
  have hw : IntKind.i64.wrap (1 + v3) = ((1 + v3.toNat : Nat) : Int) := by rw [w64 (by omega)]; omega
  simp only [b1, n1, m1, e3, Option.bind_some, hw, e4]
  exact ⟨_, _, rfl, k4.mono (by omega), b2, b3, by simp only; omega, by simp only; omega, l6⟩
theorem registers_ok {code : List Int} (h : ∀ n ∈ code, 0 ≤ n ∧ n ≤ 255) : ∃ a b, spec_A2Registers code = some (a, b) ∧ Regs a b := by
  have h0 : SrcOk 0 (code, ((0 : Int), (0 : Int))) := ⟨h, by simp, by simp⟩
  obtain ⟨s1, a, e1, k1, q1, q2, q3, q4, q5⟩ := draw_ok h0 (by omega)
  obtain ⟨s2, l, e2, k2, l1, l2⟩ := drawDigits_ok (w := a.2.length) (base := a.1) k1 (by omega) q1 (by omega)
  unfold spec_A2Registers spec_l00From
  simp only [Option.bind_some, e1, e2]
  exact ⟨a, (a.1, l), rfl, rfl, q1, q2, q3, q4, l1, q5, l2⟩
end Go.Pv.Q
namespace Go.Pv.Q
def dg (l : List Int) (k : Nat) : Int := l.getD k 0
theorem idx_dg {l : List Int} {k : Nat} (h : k < l.length) : idx l (k : Int) = some (dg l k) := by
  rw [idx_nat, List.getElem?_eq_getElem h]; simp [dg, h]
theorem dg_mem {l : List Int} {k : Nat} (h : k < l.length) : dg l k ∈ l := by
  simp [dg, h]
theorem Digs.dg {B : Int} {l : List Int} (h : Digs B l) {k : Nat} (hk : k < l.length) : 0 ≤ dg l k ∧ dg l k < B := h _ (dg_mem hk)
def rg {α : Type} (n : Nat) (f : Nat → α) : List α := (List.range n).map f
theorem rg_len {α : Type} (n : Nat) (f : Nat → α) : (rg n f).length = n := by simp [rg]
theorem rg_get {α : Type} {f : Nat → α} {n k : Nat} (h : k < n) : (rg n f)[k]? = some (f k) := by simp [rg, h]
theorem rg_idx {α : Type} {f : Nat → α} {n k : Nat} (h : k < n) : idx (rg n f) (k : Int) = some (f k) := by rw [idx_nat, rg_get h]
theorem rg_snoc {α : Type} (f : Nat → α) (k : Nat) : rg k f ++ [f k] = rg (k + 1) f := by simp [rg, List.range_succ]
theorem rg_set {α : Type} (f : Nat → α) (n j : Nat) (y : α) : (rg n f).set j y = rg n (fun k => if k = j then y else f k) := by
  apply List.ext_getElem?
  intro i
  rw [List.getElem?_set]
  by_cases hi : i < n
  · by_cases hj : j = i
    · subst hj; simp [rg, hi]
    · rw [if_neg hj, rg_get hi, rg_get hi, if_neg (fun e => hj e.symm)]
  · have h1 : (rg n f)[i]? = none := by rw [List.getElem?_eq_none]; rw [rg_len]; omega
    have h2 : (rg n (fun k => if k = j then y else f k))[i]? = none := by rw [List.getElem?_eq_none]; rw [rg_len]; omega
    rw [h1, h2]
    split
    · split
      · rename_i h3; rw [rg_len] at h3; omega
      · rfl
    · rfl
theorem rg_congr {α : Type} {f g : Nat → α} {n : Nat} (h : ∀ k, k < n → f k = g k) : rg n f = rg n g :=
  List.map_congr_left fun k hk => h k (by simpa using hk)
theorem rg_dg (l : List Int) : rg l.length (dg l) = l := by
  apply List.ext_getElem?
  intro i
  by_cases hi : i < l.length
  · rw [rg_get hi]; simp [dg, hi]
  · rw [List.getElem?_eq_none (by rw [rg_len]; omega), List.getElem?_eq_none (by omega)]
/-- A register that is valid, and small. -/
structure RegOk (r : T_impl_Register) : Prop where
  b2 : 2 ≤ r.1
  b16 : r.1 ≤ 12
  w1 : 1 ≤ r.2.length
  w7 : r.2.length ≤ 7
  d : Digs r.1 r.2
theorem Regs.a {a b : T_impl_Register} (h : Regs a b) : RegOk a := ⟨h.b2, h.b16, h.w1, h.w7, h.da⟩
theorem Regs.b {a b : T_impl_Register} (h : Regs a b) : RegOk b := ⟨by rw [h.base]; exact h.b2, by rw [h.base]; exact h.b16, by rw [h.len]; exact h.w1, by rw [h.len]; exact h.w7, by rw [h.base]; exact h.db⟩
def bnd : Nat → Int
  | 0 => 0
  | k + 1 => bnd k * 12 + 11
theorem bnd_mono : ∀ k, 0 ≤ bnd k ∧ bnd k ≤ bnd (k + 1)
  | 0 => by simp [bnd]
  | k + 1 => by
    have := bnd_mono k
    refine ⟨by omega, ?_⟩
    show bnd (k + 1) ≤ bnd (k + 1) * 12 + 11
    omega
theorem bnd_le {k n : Nat} (h : k ≤ n) : bnd k ≤ bnd n := by
  induction n with
  | zero => have : k = 0 := by omega
            subst this; exact Int.le_refl _
  | succ n ih =>
    rcases Nat.lt_or_ge n k with h1 | h1
    · have : k = n + 1 := by omega
      subst this; exact Int.le_refl _
    · exact Int.le_trans (ih h1) (bnd_mono n).2
theorem bnd7 : bnd 7 = 35831807 := rfl
theorem val_step {v B d : Int} {k : Nat} (h0 : 0 ≤ v) (h1 : v ≤ bnd k) (hB : 2 ≤ B) (hB2 : B ≤ 12) (d0 : 0 ≤ d) (d1 : d < B) (hk : k < 7) : 0 ≤ v * B ∧ 0 ≤ v * B + d ∧ v * B + d ≤ bnd (k + 1) ∧ v * B + d ≤ 35831807 := by
  have e0 : 0 ≤ v * B := Int.mul_nonneg h0 (by omega)
  have e1 : v * B ≤ bnd k * 12 := Int.mul_le_mul h1 hB2 (by omega) (by have := (bnd_mono k).1; omega)
  have e2 : bnd (k + 1) = bnd k * 12 + 11 := rfl
  have e3 : bnd (k + 1) ≤ bnd 7 := bnd_le (by omega)
  rw [bnd7] at e3
  omega
theorem between_ok {n l h : Int} (h1 : l ≤ n) (h2 : n ≤ h) : impl_between n l h = some true := by
  unfold impl_between
  simp only [ge_iff_le, h1, h2, decide_true, bcase, Option.bind_some]
theorem in_ok {n l h : Int} (h1 : l ≤ n) (h2 : n ≤ h) : spec_l00In n l h = some true := by
  unfold spec_l00In
  simp only [ge_iff_le, h1, h2, decide_true, bcase, Option.bind_some]
theorem value_impl {r : T_impl_Register} (h : RegOk r) : ∃ v, impl_Register_value r = some v ∧ v ≤ 35831807 := by
  obtain ⟨hb, hb2, hw, hw7, hd⟩ := h
  unfold impl_Register_value
  have hst : IntKind.i64.wrap ((r.2.length : Int) - 1) = (r.2.length : Int) - 1 := w64 (by omega)
  obtain ⟨o, e, q⟩ := loopL_ind (body := impl_Register_value_b0 r) (fun k x => 0 ≤ x.1 ∧ x.1 ≤ bnd k ∧ x.2 = (r.2.length : Int) - 1 - k) (fun o => ∃ v i, o = Out.done (v, i) ∧ v ≤ 35831807) r.2.length
    (fun k x hk hx => by
      obtain ⟨v, i⟩ := x
      obtain ⟨x1, x2, x3⟩ := hx
      simp only at x1 x2 x3
      have hi : i = ((r.2.length - 1 - k : Nat) : Int) := by omega
      have hlt : r.2.length - 1 - k < r.2.length := by omega
      have hdk := hd.dg hlt
      obtain ⟨s1, s2, s3, s4⟩ := val_step (d := dg r.2 (r.2.length - 1 - k)) x1 x2 hb hb2 hdk.1 hdk.2 (by omega)
      refine .inl ⟨(v * r.1 + dg r.2 (r.2.length - 1 - k), i - 1), fun go => ?_, s2, s3, ?_⟩
      · unfold impl_Register_value_b0
        have hge : i ≥ 0 := by omega
        simp only [hge, decide_true, bcase]
        rw [hi, idx_dg hlt]
        simp only [Option.bind_some]
        have hng : ¬ (v * r.1 + dg r.2 (r.2.length - 1 - k) > 1000000000000) := by omega
        rw [w64 (n := v * r.1) (by omega), w64 (n := v * r.1 + _) (by omega), w64 (n := ((r.2.length - 1 - k : Nat) : Int) - 1) (by omega)]
        simp only [hng, decide_false]
      · simp only; omega)
    (fun x hx => by
      obtain ⟨v, i⟩ := x
      obtain ⟨x1, x2, x3⟩ := hx
      simp only at x1 x2 x3
      refine ⟨Out.done (v, i), fun go => ?_, v, i, rfl, ?_⟩
      · unfold impl_Register_value_b0
        have hge : ¬ (i ≥ 0) := by omega
        simp only [hge, decide_false, bcase]
      · have := bnd_le (show r.2.length ≤ 7 by omega); rw [bnd7] at this; omega)
    (s := (0, (r.2.length : Int) - 1)) ⟨by simp, by simp [bnd], by simp⟩
  rw [hst, e]
  obtain ⟨v, i, rfl, hv⟩ := q
  exact ⟨v, rfl, hv⟩
theorem valid_impl {r : T_impl_Register} (h : RegOk r) : impl_ValidRegister r = some true := by
  obtain ⟨v, e1, v2⟩ := value_impl h
  obtain ⟨hb, hb2, hw, hw7, hd⟩ := h
  unfold impl_ValidRegister impl_isBase impl_isRegisterWidth
  rw [between_ok (by omega) (by omega), between_ok (n := (r.2.length : Int)) (by omega) (by omega)]
  simp only [Option.bind_some, Bool.not_true, bcase]
  have hl := loopL_fn (body := impl_ValidRegister_b0 r) (fun k => (k : Int)) r.2.length (Out.done (r.2.length : Int)) (fun k hk go => by
    unfold impl_ValidRegister_b0
    have hlt : (k : Int) < (r.2.length : Int) := by omega
    have hdk := hd.dg hk
    simp only [hlt, decide_true, bcase]
    rw [idx_dg hk]
    simp only [Option.bind_some]
    rw [w64 (n := r.1 - 1) (by omega), between_ok hdk.1 (by omega), w64 (n := (k : Int) + 1) (by omega)]
    simp only [Option.bind_some, Bool.not_true]
    rfl) (fun go => by
    unfold impl_ValidRegister_b0
    simp only [Int.lt_irrefl, decide_false, bcase])
  have hl : loopL (impl_ValidRegister_b0 r) 0 = some (Out.done (r.2.length : Int)) := hl
  rw [hl]
  simp only [Option.bind_some, e1, outK]
  have : v ≤ 1000000000000 := by omega
  simp only [this, decide_true]
theorem value_spec {r : T_impl_Register} (h : RegOk r) : ∃ v, spec_l02Value r.1 r.2 = some v ∧ v ≤ 35831807 := by
  obtain ⟨hb, hb2, hw, hw7, hd⟩ := h
  unfold spec_l02Value
  have hst : IntKind.i64.wrap ((r.2.length : Int) - 1) = (r.2.length : Int) - 1 := w64 (by omega)
  obtain ⟨o, e, q⟩ := loopL_ind (body := spec_l02Value_b0 r.1 r.2) (fun k x => 0 ≤ x.1 ∧ x.1 ≤ bnd k ∧ x.2 = (r.2.length : Int) - 1 - k) (fun o => o.1 ≤ 35831807) r.2.length
    (fun k x hk hx => by
      obtain ⟨v, i⟩ := x
      obtain ⟨x1, x2, x3⟩ := hx
      simp only at x1 x2 x3
      have hi : i = ((r.2.length - 1 - k : Nat) : Int) := by omega
      have hlt : r.2.length - 1 - k < r.2.length := by omega
      have hdk := hd.dg hlt
      obtain ⟨s1, s2, s3, s4⟩ := val_step (d := dg r.2 (r.2.length - 1 - k)) x1 x2 hb hb2 hdk.1 hdk.2 (by omega)
      refine .inl ⟨(v * r.1 + dg r.2 (r.2.length - 1 - k), i - 1), fun go => ?_, s2, s3, ?_⟩
      · unfold spec_l02Value_b0 spec_l00Min
        have hge : i ≥ 0 := by omega
        simp only [hge, decide_true, bcase]
        rw [hi, idx_dg hlt]
        simp only [Option.bind_some]
        have hng : ¬ (1000000000001 < v * r.1 + dg r.2 (r.2.length - 1 - k)) := by omega
        rw [w64 (n := v * r.1) (by omega), w64 (n := v * r.1 + _) (by omega), w64 (n := ((r.2.length - 1 - k : Nat) : Int) - 1) (by omega)]
        simp only [hng, decide_false, Option.bind_some]
      · simp only; omega)
    (fun x hx => by
      obtain ⟨v, i⟩ := x
      obtain ⟨x1, x2, x3⟩ := hx
      simp only at x1 x2 x3
      refine ⟨(v, i), fun go => ?_, ?_⟩
      · unfold spec_l02Value_b0
        have hge : ¬ (i ≥ 0) := by omega
        simp only [hge, decide_false, bcase]
      · have := bnd_le (show r.2.length ≤ 7 by omega); rw [bnd7] at this; simp only; omega)
    (s := (0, (r.2.length : Int) - 1)) ⟨by simp, by simp [bnd], by simp⟩
  rw [hst, e]
  obtain ⟨v, i⟩ := o
  exact ⟨v, rfl, q⟩
theorem ok_spec {r : T_impl_Register} (h : RegOk r) : spec_l02Ok r = some true := by
  obtain ⟨v, e1, v2⟩ := value_spec h
  obtain ⟨hb, hb2, hw, hw7, hd⟩ := h
  unfold spec_l02Ok spec_l02Base spec_l02Digits
  rw [in_ok (by omega) (by omega)]
  simp only [Option.bind_some, bcase]
  have hl := loopL_fn (body := spec_l02Digits_b0 r.1 r.2) (fun k => (k : Int)) r.2.length (Out.done (r.2.length : Int)) (fun k hk go => by
    unfold spec_l02Digits_b0
    have hlt : (k : Int) < (r.2.length : Int) := by omega
    have hdk := hd.dg hk
    simp only [hlt, decide_true, bcase]
    rw [idx_dg hk]
    simp only [Option.bind_some]
    rw [w64 (n := r.1 - 1) (by omega), in_ok hdk.1 (by omega), w64 (n := (k : Int) + 1) (by omega)]
    simp only [Option.bind_some, Bool.not_true]
    rfl) (fun go => by
    unfold spec_l02Digits_b0
    simp only [Int.lt_irrefl, decide_false, bcase])
  have hl : loopL (spec_l02Digits_b0 r.1 r.2) 0 = some (Out.done (r.2.length : Int)) := hl
  rw [hl]
  simp only [Option.bind_some, outK]
  rw [in_ok (by omega) (by omega)]
  simp only [Option.bind_some, e1]
  have : v ≤ 1000000000000 := by omega
  simp only [this, decide_true]
theorem pair_impl {a b : T_impl_Register} (h : Regs a b) : impl_pairCode a b = some 0 := by
  unfold impl_pairCode impl_Register_width
  rw [valid_impl h.a, valid_impl h.b]
  simp only [Option.bind_some, Bool.not_true, bcase, h.base, h.len, bne_self_eq_false]
theorem two_spec {a b : T_impl_Register} (h : Regs a b) : spec_l02Two a b = some 0 := by
  unfold spec_l02Two
  rw [ok_spec h.a, ok_spec h.b]
  simp only [Option.bind_some, Bool.not_true, bcase, h.base, h.len, bne_self_eq_false]
end Go.Pv.Q
namespace Go.Pv.Q
/-- The carry into a digit. -/
def car (a b : T_impl_Register) : Nat → Int
  | 0 => 0
  | k + 1 => (dg a.2 k + dg b.2 k + car a b k) / a.1
def sumD (a b : T_impl_Register) (k : Nat) : Int := (dg a.2 k + dg b.2 k + car a b k) % a.1
def turD (a b : T_impl_Register) (k : Nat) : Int := (dg a.2 k + dg b.2 k) % a.1
def cok (a b : T_impl_Register) (k : Nat) : Bool := decide (dg a.2 k + dg b.2 k ≥ a.1)
def lev (a b : T_impl_Register) (k : Nat) : Bool := decide (car a b (k + 1) = 1)
theorem Regs.dgs {a b : T_impl_Register} (h : Regs a b) {k : Nat} (hk : k < a.2.length) : 0 ≤ dg a.2 k ∧ dg a.2 k < a.1 ∧ 0 ≤ dg b.2 k ∧ dg b.2 k < a.1 := by
  have h1 := h.da.dg hk
  have h2 := h.db.dg (show k < b.2.length by rw [h.len]; exact hk)
  omega
theorem div01 {x B : Int} (hB : 0 < B) (h0 : 0 ≤ x) (h1 : x < 2 * B) : (x / B = 0 ∧ x < B ∧ x % B = x) ∨ (x / B = 1 ∧ B ≤ x ∧ x % B = x - B) := by
  rcases Int.lt_or_le x B with h | h
  · exact .inl ⟨Int.ediv_eq_zero_of_lt h0 h, h, Int.emod_eq_of_lt h0 h⟩
  · refine .inr ?_
    have e : x = (x - B) + B * 1 := by omega
    have e1 : x / B = 1 := by
      rw [e, Int.add_mul_ediv_left _ _ (by omega), Int.ediv_eq_zero_of_lt (by omega) (by omega)]; rfl
    have e2 : x % B = x - B := by
      rw [e, Int.add_mul_emod_self_left, Int.emod_eq_of_lt (by omega) (by omega)]; omega
    exact ⟨e1, h, e2⟩
theorem car01 {a b : T_impl_Register} (h : Regs a b) : ∀ k, k ≤ a.2.length → 0 ≤ car a b k ∧ car a b k ≤ 1
  | 0, _ => by simp [car]
  | k + 1, hk => by
    have ih := car01 h k (by omega)
    have hd := h.dgs (show k < a.2.length by omega)
    have hb := h.b2
    rcases div01 (x := dg a.2 k + dg b.2 k + car a b k) (B := a.1) (by omega) (by omega) (by omega) with h1 | h1
    · simp only [car]; omega
    · simp only [car]; omega
/-- One digit, all told. -/
theorem digit {a b : T_impl_Register} (h : Regs a b) {k : Nat} (hk : k < a.2.length) :
    0 ≤ sumD a b k ∧ sumD a b k < a.1 ∧ 0 ≤ turD a b k ∧ turD a b k < a.1 ∧
    (car a b k = 0 → sumD a b k = turD a b k ∧ lev a b k = cok a b k) ∧
    (car a b k = 1 → (turD a b k + 1 = a.1 → sumD a b k = 0 ∧ lev a b k = true ∧ cok a b k = false) ∧ (turD a b k + 1 ≠ a.1 → sumD a b k = turD a b k + 1 ∧ lev a b k = cok a b k)) := by
  have hc := car01 h k (by omega)
  have hd := h.dgs hk
  have hb := h.b2
  have e1 : car a b (k + 1) = (dg a.2 k + dg b.2 k + car a b k) / a.1 := rfl
  unfold sumD turD lev cok
  rw [e1]
  rcases div01 (x := dg a.2 k + dg b.2 k) (B := a.1) (by omega) (by omega) (by omega) with ⟨p1, p2, p3⟩ | ⟨p1, p2, p3⟩ <;>
  rcases div01 (x := dg a.2 k + dg b.2 k + car a b k) (B := a.1) (by omega) (by omega) (by omega) with ⟨q1, q2, q3⟩ | ⟨q1, q2, q3⟩ <;>
  · rw [p3, q1, q3]
    refine ⟨by omega, by omega, by omega, by omega, fun hc0 => ⟨by omega, ?_⟩, fun hc1 => ⟨fun ht => ⟨by omega, ?_, ?_⟩, fun ht => ⟨by omega, ?_⟩⟩⟩ <;> simp only [decide_eq_decide, decide_eq_true_eq, decide_eq_false_iff_not] <;> (try simp only [true_iff, false_iff]) <;> omega
theorem carries_spec {a b : T_impl_Register} (h : Regs a b) : spec_l02Carries a b = some (rg (a.2.length + 1) (car a b)) := by
  unfold spec_l02Carries
  have hw7 := h.w7
  have hl := loopL_fn (body := spec_l02Carries_b0 a b) (fun k => (car a b k, (rg (k + 1) (car a b), (k : Int)))) a.2.length _ (fun k hk go => by
    unfold spec_l02Carries_b0
    have hlt : (k : Int) < (a.2.length : Int) := by omega
    have hc := car01 h k (by omega)
    have hd := h.dgs hk
    have hb := h.b2
    have hb16 := h.b16
    simp only [hlt, decide_true, bcase]
    rw [idx_dg hk, idx_dg (show k < b.2.length by rw [h.len]; exact hk)]
    simp only [Option.bind_some]
    rw [w64 (n := dg a.2 k + dg b.2 k) (by omega), w64 (n := dg a.2 k + dg b.2 k + car a b k) (by omega), quoK_ok (by omega) (by omega) (by omega), w64 (n := (k : Int) + 1) (by omega)]
    simp only [Option.bind_some]
    rw [apd_ok (by rw [rg_len]; simp only [List.length_singleton, LIM]; omega)]
    simp only [Option.bind_some]
    have e : (dg a.2 k + dg b.2 k + car a b k) / a.1 = car a b (k + 1) := rfl
    rw [e, rg_snoc]
    rfl) (fun go => by
    unfold spec_l02Carries_b0
    simp only [Int.lt_irrefl, decide_false, bcase]; rfl)
  have hl : loopL (spec_l02Carries_b0 a b) (0, (([0] : List Int), 0)) = some (car a b a.2.length, (rg (a.2.length + 1) (car a b), (a.2.length : Int))) := hl
  rw [hl]
  rfl
theorem add_spec {a b : T_impl_Register} (h : Regs a b) : spec_l02Add a b = some ((a.1, rg a.2.length (sumD a b)), car a b a.2.length) := by
  unfold spec_l02Add
  rw [carries_spec h]
  simp only [Option.bind_some]
  have hw7 := h.w7
  have hl := loopL_fn (body := spec_l02Add_b0 a b (rg (a.2.length + 1) (car a b))) (fun k => ((k : Int), rg k (sumD a b))) a.2.length _ (fun k hk go => by
    unfold spec_l02Add_b0
    have hlt : (k : Int) < (a.2.length : Int) := by omega
    have hc := car01 h k (by omega)
    have hd := h.dgs hk
    have hb := h.b2
    have hb16 := h.b16
    simp only [hlt, decide_true, bcase]
    rw [idx_dg hk, idx_dg (show k < b.2.length by rw [h.len]; exact hk), rg_idx (show k < a.2.length + 1 by omega)]
    simp only [Option.bind_some]
    rw [w64 (n := dg a.2 k + dg b.2 k) (by omega), w64 (n := dg a.2 k + dg b.2 k + car a b k) (by omega), remK_ok (by omega) (by omega), w64 (n := (k : Int) + 1) (by omega)]
    simp only [Option.bind_some]
    rw [apd_ok (by rw [rg_len]; simp only [List.length_singleton, LIM]; omega)]
    simp only [Option.bind_some]
    have e : (dg a.2 k + dg b.2 k + car a b k) % a.1 = sumD a b k := rfl
    rw [e, rg_snoc]
    rfl) (fun go => by
    unfold spec_l02Add_b0
    simp only [Int.lt_irrefl, decide_false, bcase]; rfl)
  have hl : loopL (spec_l02Add_b0 a b (rg (a.2.length + 1) (car a b))) (0, ([] : List Int)) = some ((a.2.length : Int), rg a.2.length (sumD a b)) := hl
  rw [hl]
  simp only [Option.bind_some]
  rw [rg_idx (show a.2.length < a.2.length + 1 by omega)]
  simp only [Option.bind_some]
theorem sum_ok {a b : T_impl_Register} (h : Regs a b) : RegOk (a.1, rg a.2.length (sumD a b)) := by
  refine ⟨h.b2, h.b16, by simp only [rg_len]; exact h.w1, by simp only [rg_len]; exact h.w7, fun d hd => ?_⟩
  obtain ⟨k, hk, rfl⟩ := List.mem_map.1 hd
  have := digit h (List.mem_range.1 hk)
  exact ⟨this.1, this.2.1⟩
theorem tur_ok {a b : T_impl_Register} (h : Regs a b) : RegOk (a.1, rg a.2.length (turD a b)) := by
  refine ⟨h.b2, h.b16, by simp only [rg_len]; exact h.w1, by simp only [rg_len]; exact h.w7, fun d hd => ?_⟩
  obtain ⟨k, hk, rfl⟩ := List.mem_map.1 hd
  have := digit h (List.mem_range.1 hk)
  exact ⟨this.2.2.1, this.2.2.2.1⟩
theorem addRegs {a b : T_impl_Register} (h : Regs a b) : spec_AddRegisters a b = some ((a.1, rg a.2.length (sumD a b)), (car a b a.2.length, 0)) := by
  unfold spec_AddRegisters
  rw [two_spec h]
  simp only [Option.bind_some, bne_self_eq_false, bcase]
  rw [add_spec h]
  simp only [Option.bind_some]
  rw [ok_spec (sum_ok h)]
  simp only [Option.bind_some, Bool.not_true]
theorem carriesOf {a b : T_impl_Register} (h : Regs a b) : spec_CarriesOf a b = some (rg (a.2.length + 1) (car a b), 0) := by
  unfold spec_CarriesOf
  rw [two_spec h]
  simp only [Option.bind_some, bne_self_eq_false, bcase]
  rw [carries_spec h]
  simp only [Option.bind_some]
theorem turned_ok {a b : T_impl_Register} (h : Regs a b) : impl_turned a b = some ((a.1, rg a.2.length (turD a b)), rg a.2.length (cok a b)) := by
  unfold impl_turned
  have hw7 := h.w7
  have hl := loopL_fn (body := impl_turned_b0 a b) (fun k => (rg k (cok a b), ((k : Int), rg k (turD a b)))) a.2.length _ (fun k hk go => by
    unfold impl_turned_b0
    have hlt : (k : Int) < (a.2.length : Int) := by omega
    have hd := h.dgs hk
    have hb := h.b2
    have hb16 := h.b16
    simp only [hlt, decide_true, bcase]
    rw [idx_dg hk, idx_dg (show k < b.2.length by rw [h.len]; exact hk)]
    simp only [Option.bind_some]
    rw [w64 (n := dg a.2 k + dg b.2 k) (by omega), remK_ok (by omega) (by omega), w64 (n := (k : Int) + 1) (by omega)]
    simp only [Option.bind_some]
    rw [apd_ok (by rw [rg_len]; simp only [List.length_singleton, LIM]; omega), apd_ok (by rw [rg_len]; simp only [List.length_singleton, LIM]; omega)]
    simp only [Option.bind_some]
    have e : (dg a.2 k + dg b.2 k) % a.1 = turD a b k := rfl
    have e2 : decide (dg a.2 k + dg b.2 k ≥ a.1) = cok a b k := rfl
    rw [e, e2, rg_snoc, rg_snoc]
    rfl) (fun go => by
    unfold impl_turned_b0
    simp only [Int.lt_irrefl, decide_false, bcase]; rfl)
  have hl : loopL (impl_turned_b0 a b) (([] : List Bool), (0, ([] : List Int))) = some (rg a.2.length (cok a b), ((a.2.length : Int), rg a.2.length (turD a b))) := hl
  rw [hl]
  rfl
/-- The levers that are pushed, one after the other. -/
theorem pushed_ok {a b : T_impl_Register} (h : Regs a b) : impl_pushed (a.1, rg a.2.length (turD a b)) (rg a.2.length (cok a b)) = some ((a.1, rg a.2.length (sumD a b)), rg a.2.length (lev a b)) := by
  unfold impl_pushed impl_copyNumbers
  have hw7 := h.w7
  have hw1 := h.w1
  rw [apd_ok (by simp only [rg_len, List.length_nil, LIM]; omega), apd_ok (by simp only [rg_len, List.length_nil, LIM]; omega)]
  simp only [Option.bind_some, List.nil_append]
  generalize hn : a.2.length = n at *
  have hl := loopL_fn (body := impl_pushed_b0 (a.1, rg n (turD a b)) (rg n (cok a b))) (fun i => ((i : Int), (rg n (fun k => if k ≤ i then sumD a b k else turD a b k), rg n (fun k => if k ≤ i then lev a b k else cok a b k)))) n _ (fun i hi go => by
    unfold impl_pushed_b0
    have hlt : (i : Int) < (n : Int) := by omega
    have hb := h.b2
    have hb16 := h.b16
    have hwi : IntKind.i64.wrap ((i : Int) + 1) = ((i + 1 : Nat) : Int) := by rw [w64 (by omega)]; omega
    have hci := car01 h (i + 1) (by omega)
    simp only [rg_len, hlt, decide_true, bcase]
    rw [rg_idx hi, hwi]
    simp only [Option.bind_some, Nat.le_refl, if_true]
    have hlev : lev a b i = decide (car a b (i + 1) = 1) := rfl
    -- where nothing is pushed on, the next digit is right already
    have same : (i + 1 < n → car a b (i + 1) = 0) → (rg n (fun k => if k ≤ i then sumD a b k else turD a b k), rg n (fun k => if k ≤ i then lev a b k else cok a b k)) = (rg n (fun k => if k ≤ i + 1 then sumD a b k else turD a b k), rg n (fun k => if k ≤ i + 1 then lev a b k else cok a b k)) := by
      intro hz
      congr 1
      · refine rg_congr fun k hk => ?_
        by_cases hki : k = i + 1
        · subst hki
          have := (digit h (show i + 1 < a.2.length by omega)).2.2.2.2.1 (hz hk)
          rw [if_neg (by omega), if_pos (by omega), this.1]
        · by_cases h2 : k ≤ i
          · rw [if_pos h2, if_pos (by omega)]
          · rw [if_neg h2, if_neg (by omega)]
      · refine rg_congr fun k hk => ?_
        by_cases hki : k = i + 1
        · subst hki
          have := (digit h (show i + 1 < a.2.length by omega)).2.2.2.2.1 (hz hk)
          rw [if_neg (by omega), if_pos (by omega), this.2]
        · by_cases h2 : k ≤ i
          · rw [if_pos h2, if_pos (by omega)]
          · rw [if_neg h2, if_neg (by omega)]
    by_cases hc : car a b (i + 1) = 1
    · have hl1 : lev a b i = true := by rw [hlev]; simp [hc]
      simp only [hl1, Bool.not_true]
      by_cases hlast : i + 1 = n
      · have : ((i + 1 : Nat) : Int) = (n : Int) := by omega
        simp only [this, BEq.rfl, Option.bind_some]
        rw [same (by omega)]
      · have hne : ((((i + 1 : Nat) : Int)) == (n : Int)) = false := by simp; omega
        simp only [hne, Option.bind_some]
        have hi1 : i + 1 < n := by omega
        rw [rg_idx hi1]
        simp only [Option.bind_some, show ¬ (i + 1 ≤ i) by omega, if_false]
        have hD := digit h (show i + 1 < a.2.length by omega)
        obtain ⟨d1, d2, d3, d4, _, d6⟩ := hD
        obtain ⟨d7, d8⟩ := d6 hc
        rw [w64 (n := turD a b (i + 1) + 1) (by omega), setK_of (k := i + 1) rfl, rg_set, rg_idx hi1]
        simp only [Option.bind_some, if_true]
        by_cases ht : turD a b (i + 1) + 1 = a.1
        · obtain ⟨t1, t2, t3⟩ := d7 ht
          simp only [ht, BEq.rfl]
          rw [rg_idx hi1]
          simp only [Option.bind_some]
          rw [setK_of (k := i + 1) rfl, rg_set, setK_of (k := i + 1) rfl, rg_set]
          congr 2
          congr 1
          · refine rg_congr fun k hk => ?_
            by_cases hki : k = i + 1
            · subst hki; rw [if_pos rfl, if_pos (by omega), t1]
            · by_cases h2 : k ≤ i
              · rw [if_neg hki, if_neg hki, if_pos h2, if_pos (by omega)]
              · rw [if_neg hki, if_neg hki, if_neg h2, if_neg (by omega)]
          · refine rg_congr fun k hk => ?_
            by_cases hki : k = i + 1
            · subst hki; rw [if_pos rfl, if_pos (by omega), t2]
            · by_cases h2 : k ≤ i
              · rw [if_neg hki, if_pos h2, if_pos (by omega)]
              · rw [if_neg hki, if_neg h2, if_neg (by omega)]
        · obtain ⟨t1, t2⟩ := d8 ht
          have hnb : ((turD a b (i + 1) + 1) == a.1) = false := by simp; exact ht
          simp only [hnb, Option.bind_some]
          congr 2
          congr 1
          · refine rg_congr fun k hk => ?_
            by_cases hki : k = i + 1
            · subst hki; rw [if_pos rfl, if_pos (by omega), t1]
            · by_cases h2 : k ≤ i
              · rw [if_neg hki, if_pos h2, if_pos (by omega)]
              · rw [if_neg hki, if_neg h2, if_neg (by omega)]
          · refine rg_congr fun k hk => ?_
            by_cases hki : k = i + 1
            · subst hki; rw [if_neg (by omega), if_pos (by omega), t2]
            · by_cases h2 : k ≤ i
              · rw [if_pos h2, if_pos (by omega)]
              · rw [if_neg h2, if_neg (by omega)]
    · have hl1 : lev a b i = false := by rw [hlev]; simp [hc]
      simp only [hl1, Bool.not_false, Option.bind_some]
      rw [same (fun _ => by omega)]) (fun go => by
    unfold impl_pushed_b0
    simp only [rg_len, Int.lt_irrefl, decide_false, bcase]; rfl)
  have h0 : ((0 : Int), (rg n (turD a b), rg n (cok a b))) = (((0 : Nat) : Int), (rg n (fun k => if k ≤ 0 then sumD a b k else turD a b k), rg n (fun k => if k ≤ 0 then lev a b k else cok a b k))) := by
    have hz := (digit h (show 0 < a.2.length by omega)).2.2.2.2.1 rfl
    congr 2
    · refine rg_congr fun k hk => ?_
      by_cases hk0 : k = 0
      · subst hk0; rw [if_pos (by omega), hz.1]
      · rw [if_neg (by omega)]
    · refine rg_congr fun k hk => ?_
      by_cases hk0 : k = 0
      · subst hk0; rw [if_pos (by omega), hz.2]
      · rw [if_neg (by omega)]
  rw [h0, hl]
  simp only [Option.bind_some]
  congr 2
  · congr 1
    exact rg_congr fun k hk => by rw [if_pos (by omega)]
  · exact rg_congr fun k hk => by rw [if_pos (by omega)]
end Go.Pv.Q
namespace Go.Pv.Q
theorem same_list {l : List Int} (h : l.length ≤ 1000) : spec_l00Same l l = some true := by
  unfold spec_l00Same
  simp only [bne_self_eq_false, bcase]
  have hl := loopL_fn (body := spec_l00Same_b0 l l) (fun k => (k : Int)) l.length (Out.done (l.length : Int)) (fun k hk go => by
    unfold spec_l00Same_b0
    have hlt : (k : Int) < (l.length : Int) := by omega
    simp only [hlt, decide_true, bcase]
    rw [idx_dg hk, w64 (n := (k : Int) + 1) (by omega)]
    simp only [Option.bind_some, bne_self_eq_false]
    rfl) (fun go => by
    unfold spec_l00Same_b0
    simp only [Int.lt_irrefl, decide_false, bcase])
  have hl : loopL (spec_l00Same_b0 l l) 0 = some (Out.done (l.length : Int)) := hl
  rw [hl]
  simp only [Option.bind_some, outK]
theorem same_reg {r : T_impl_Register} (h : r.2.length ≤ 1000) : spec_SameRegister r r = some true := by
  unfold spec_SameRegister spec_l02Same
  simp only [BEq.rfl, bcase]
  rw [same_list h]
  simp only [Option.bind_some]
/-- How many levers are pushed among the first. -/
def cnt (a b : T_impl_Register) : Nat → Int
  | 0 => 0
  | k + 1 => cnt a b k + (if lev a b k then 1 else 0)
theorem cnt_range (a b : T_impl_Register) : ∀ k, 0 ≤ cnt a b k ∧ cnt a b k ≤ k
  | 0 => by simp [cnt]
  | k + 1 => by
    have := cnt_range a b k
    simp only [cnt]
    split <;> omega
theorem lev_car {a b : T_impl_Register} (h : Regs a b) {k : Nat} (hk : k < a.2.length) : car a b (k + 1) = if lev a b k then 1 else 0 := by
  have := car01 h (k + 1) (by omega)
  unfold lev
  by_cases hc : car a b (k + 1) = 1
  · simp [hc]
  · simp [hc]; omega
theorem cok_lev {a b : T_impl_Register} (h : Regs a b) {k : Nat} (hk : k < a.2.length) (hc : cok a b k = true) : lev a b k = true := by
  have h1 := car01 h k (by omega)
  have hd := digit h hk
  rcases (show car a b k = 0 ∨ car a b k = 1 by omega) with h2 | h2
  · rw [(hd.2.2.2.2.1 h2).2]; exact hc
  · by_cases ht : turD a b k + 1 = a.1
    · exact ((hd.2.2.2.2.2 h2).1 ht).2.1
    · rw [((hd.2.2.2.2.2 h2).2 ht).2]; exact hc
def cumC (a b : T_impl_Register) : Nat → Int
  | 0 => 0
  | k + 1 => cumC a b k + car a b k
theorem cum_cnt {a b : T_impl_Register} (h : Regs a b) : ∀ k, k ≤ a.2.length → cumC a b (k + 1) = cnt a b k
  | 0, _ => by simp [cumC, cnt, car]
  | k + 1, hk => by
    have ih := cum_cnt h k (by omega)
    show cumC a b (k + 1) + car a b (k + 1) = cnt a b k + _
    rw [ih, lev_car h (by omega)]
theorem pushes_ok {a b : T_impl_Register} (h : Regs a b) : impl_CountPushes a b = some (cnt a b a.2.length, 0) := by
  unfold impl_CountPushes
  have hw7 := h.w7
  rw [pair_impl h]
  simp only [Option.bind_some, bne_self_eq_false, bcase]
  rw [turned_ok h]
  simp only [Option.bind_some]
  rw [pushed_ok h]
  simp only [Option.bind_some]
  have hl := loopL_fn (body := impl_CountPushes_b0 (rg a.2.length (lev a b))) (fun k => (cnt a b k, (k : Int))) a.2.length (cnt a b a.2.length, (a.2.length : Int)) (fun k hk go => by
    unfold impl_CountPushes_b0
    have hlt : (k : Int) < (a.2.length : Int) := by omega
    have hc := cnt_range a b k
    simp only [rg_len, hlt, decide_true, bcase]
    rw [rg_idx hk, w64 (n := (k : Int) + 1) (by omega), w64 (n := cnt a b k + 1) (by omega)]
    simp only [Option.bind_some, cnt]
    cases lev a b k with
    | true => simp only [Option.bind_some, if_true]; rfl
    | false => simp only [Option.bind_some, Bool.false_eq_true, if_false, Int.add_zero]; rfl) (fun go => by
    unfold impl_CountPushes_b0
    simp only [rg_len, Int.lt_irrefl, decide_false, bcase])
  have hl : loopL (impl_CountPushes_b0 (rg a.2.length (lev a b))) (0, 0) = some (cnt a b a.2.length, (a.2.length : Int)) := hl
  rw [hl]
  rfl
theorem ripple_ok {a b : T_impl_Register} (h : Regs a b) : ∃ m, impl_RippleOf a b = some (m, 0) ∧ 0 ≤ m ∧ m ≤ cnt a b a.2.length ∧ (0 < cnt a b a.2.length → 0 < m) := by
  unfold impl_RippleOf
  have hw7 := h.w7
  rw [pair_impl h]
  simp only [Option.bind_some, bne_self_eq_false, bcase]
  rw [turned_ok h]
  simp only [Option.bind_some]
  rw [pushed_ok h]
  simp only [Option.bind_some]
  obtain ⟨r, e, q⟩ := loopL_ind (body := impl_RippleOf_b0 (rg a.2.length (cok a b)) (rg a.2.length (lev a b))) (fun k x => x.2.2 = k ∧ 0 ≤ x.1 ∧ x.1 ≤ x.2.1 ∧ x.2.1 ≤ cnt a b k ∧ (0 < cnt a b k → 0 < x.2.1)) (fun x => 0 ≤ x.2.1 ∧ x.2.1 ≤ cnt a b a.2.length ∧ (0 < cnt a b a.2.length → 0 < x.2.1)) a.2.length
    (fun k x hk hx => by
      obtain ⟨run, most, i⟩ := x
      obtain ⟨rfl, x1, x2, x3, x4⟩ := hx
      simp only at x1 x2 x3 x4
      have hlt : (k : Int) < (a.2.length : Int) := by omega
      have hc := cnt_range a b k
      have ecnt : cnt a b (k + 1) = cnt a b k + (if lev a b k then 1 else 0) := rfl
      have hstep : ∃ run', (bcase (cok a b k) (some (1 : Int)) (bcase (lev a b k) (some (IntKind.i64.wrap (run + 1))) (some 0))) = some run' ∧ 0 ≤ run' ∧ max most run' ≤ cnt a b (k + 1) ∧ (0 < cnt a b (k + 1) → 0 < max most run') := by
        by_cases hck : cok a b k = true
        · have hl := cok_lev h hk hck
          rw [ecnt, hl, hck]
          refine ⟨1, rfl, by omega, ?_, ?_⟩ <;> simp only [if_true] <;> omega
        · have hck : cok a b k = false := by simpa using hck
          rw [hck]
          cases hl : lev a b k with
          | true =>
            rw [ecnt, hl]
            refine ⟨run + 1, by simp only [bcase, w64 (n := run + 1) (by omega)], by omega, ?_, ?_⟩ <;> simp only [if_true] <;> omega
          | false =>
            rw [ecnt, hl]
            refine ⟨0, rfl, by omega, ?_, ?_⟩ <;> simp only [Bool.false_eq_true, if_false] <;> omega
      obtain ⟨run', r1, r2, r3, r4⟩ := hstep
      refine .inl ⟨(run', (max most run', ((k + 1 : Nat) : Int))), fun go => ?_, rfl, r2, by simp only; omega, r3, r4⟩
      unfold impl_RippleOf_b0
      have hw : IntKind.i64.wrap ((k : Int) + 1) = ((k + 1 : Nat) : Int) := by rw [w64 (by omega)]; omega
      simp only [rg_len, hlt, decide_true, bcase] at r1 ⊢
      rw [rg_idx hk, rg_idx hk]
      simp only [Option.bind_some, hw]
      revert r1
      cases cok a b k with
      | true => intro r1; cases r1; rfl
      | false =>
        cases lev a b k with
        | true => intro r1; cases r1; rfl
        | false => intro r1; cases r1; rfl)
    (fun x hx => by
      obtain ⟨run, most, i⟩ := x
      obtain ⟨rfl, x1, x2, x3, x4⟩ := hx
      simp only at x1 x2 x3 x4
      refine ⟨_, fun go => by unfold impl_RippleOf_b0; simp only [rg_len, Int.lt_irrefl, decide_false, bcase]; rfl, by simp only; omega, x3, x4⟩)
    (s := ((0 : Int), ((0 : Int), (0 : Int)))) ⟨rfl, by simp, by simp, by simp [cnt], by simp [cnt]⟩
  rw [e]
  obtain ⟨run, most, i⟩ := r
  exact ⟨most, rfl, q⟩
theorem wheels_ok {a b : T_impl_Register} (h : Regs a b) : impl_TurnWheels a b = some ((a.1, rg a.2.length (turD a b)), (rg a.2.length (cok a b), 0)) := by
  unfold impl_TurnWheels
  rw [pair_impl h]
  simp only [Option.bind_some, bne_self_eq_false, bcase]
  rw [turned_ok h]
  simp only [Option.bind_some]
  rw [valid_impl (tur_ok h)]
  simp only [Option.bind_some, Bool.not_true]
theorem levers_ok {a b : T_impl_Register} (h : Regs a b) : impl_PushLevers (a.1, rg a.2.length (turD a b)) (rg a.2.length (cok a b)) = some ((a.1, rg a.2.length (sumD a b)), (car a b a.2.length, 0)) := by
  unfold impl_PushLevers impl_Register_width
  have hw7 := h.w7
  have hw1 := h.w1
  rw [valid_impl (tur_ok h)]
  simp only [Option.bind_some, Bool.not_true, bcase, rg_len, bne_self_eq_false]
  rw [pushed_ok h]
  simp only [Option.bind_some]
  have hlast : impl_lastCarry (rg a.2.length (lev a b)) = some (car a b a.2.length) := by
    unfold impl_lastCarry
    have e : IntKind.i64.wrap (((rg a.2.length (lev a b)).length : Int) - 1) = ((a.2.length - 1 : Nat) : Int) := by
      rw [rg_len, w64 (by omega)]; omega
    have hk : a.2.length - 1 < a.2.length := by omega
    have e2 : car a b a.2.length = if lev a b (a.2.length - 1) then 1 else 0 := by
      have := lev_car h hk
      rwa [show a.2.length - 1 + 1 = a.2.length by omega] at this
    rw [e, rg_idx hk, e2]
    simp only [Option.bind_some]
    cases lev a b (a.2.length - 1) <;> rfl
  rw [hlast]
  simp only [Option.bind_some]
  unfold impl_whole
  rw [valid_impl (sum_ok h)]
  simp only [Option.bind_some, Bool.not_true, bcase]
end Go.Pv.Q
namespace Go.Pv.Q
theorem decimal_ok {n : Int} (h0 : -9223372036854775808 ≤ n) (h1 : n ≤ 9223372036854775807) : ∃ s, impl_Decimal n = some s ∧ s.length ≤ 21 := by
  unfold impl_Decimal X_FormatInt
  rw [if_pos ⟨rfl, h0, h1⟩]
  exact ⟨_, rfl, Lib.itoa_length_le n h0 h1⟩
end Go.Pv.Q
namespace Go.Pv.Q
def fl {α : Type} (n : Nat) (f : Nat → List α) : List α := (List.range n).flatMap f
theorem fl_succ {α : Type} (n : Nat) (f : Nat → List α) : fl (n + 1) f = fl n f ++ f n := by simp [fl, List.range_succ, List.flatMap_append]
theorem fl_len {α : Type} {f : Nat → List α} {c : Nat} (h : ∀ j, (f j).length ≤ c) : ∀ n, (fl n f).length ≤ c * n
  | 0 => by simp [fl]
  | n + 1 => by
    rw [fl_succ, List.length_append, Nat.mul_succ]
    have := fl_len h n
    have := h n
    omega
theorem dg_rg {f : Nat → Int} {n k : Nat} (h : k < n) : dg (rg n f) k = f k := by
  unfold dg
  rw [List.getD_eq_getElem?_getD, rg_get h]; rfl
def evA (a b : T_impl_Register) (j : Nat) : List T_impl_CarryEvent := (if dg b.2 j > 0 then [((1 : Int), ((j : Int), dg b.2 j))] else []) ++ (if cok a b j = true then [((2 : Int), ((j : Int), (0 : Int)))] else [])
def evB (a b : T_impl_Register) (j : Nat) : List T_impl_CarryEvent := if lev a b j = true then [((3 : Int), ((j : Int), (0 : Int)))] ++ (if j + 1 < a.2.length ∧ lev a b (j + 1) = true ∧ cok a b (j + 1) = false then [((2 : Int), (((j + 1 : Nat) : Int), (0 : Int)))] else []) else []
theorem evA_len (a b : T_impl_Register) (j : Nat) : (evA a b j).length ≤ 2 := by unfold evA; split <;> split <;> simp
theorem evB_len (a b : T_impl_Register) (j : Nat) : (evB a b j).length ≤ 2 := by
  unfold evB
  split
  · split <;> simp
  · simp
def evs (a b : T_impl_Register) : List T_impl_CarryEvent := fl a.2.length (evA a b) ++ fl a.2.length (evB a b)
theorem events_ok {a b : T_impl_Register} (h : Regs a b) : impl_EventsOf a b = some (evs a b, 0) := by
  unfold impl_EventsOf
  have hw7 := h.w7
  rw [pair_impl h]
  simp only [Option.bind_some, bne_self_eq_false, bcase]
  rw [turned_ok h]
  simp only [Option.bind_some]
  rw [pushed_ok h]
  simp only [Option.bind_some]
  have hl := loopL_fn (body := impl_EventsOf_b0 b (rg a.2.length (cok a b))) (fun k => (fl k (evA a b), (k : Int))) a.2.length (fl a.2.length (evA a b), (a.2.length : Int)) (fun k hk go => by
    unfold impl_EventsOf_b0
    have hkb : k < b.2.length := by rw [h.len]; exact hk
    have hlt : (k : Int) < (b.2.length : Int) := by omega
    have hlen := fl_len (evA_len a b) k
    have hw : IntKind.i64.wrap ((k : Int) + 1) = ((k + 1 : Nat) : Int) := by rw [w64 (by omega)]; omega
    simp only [hlt, decide_true, bcase]
    rw [idx_dg hkb, rg_idx hk, hw, fl_succ]
    simp only [Option.bind_some]
    have ap1 : ∀ e : T_impl_CarryEvent, apd (fl k (evA a b)) [e] = some (fl k (evA a b) ++ [e]) := fun e => apd_ok (by simp only [List.length_singleton, LIM]; omega)
    have ap2 : ∀ e e' : T_impl_CarryEvent, apd (fl k (evA a b) ++ [e]) [e'] = some (fl k (evA a b) ++ [e, e']) := fun e e' => by
      rw [apd_ok (by simp only [List.length_append, List.length_singleton, LIM]; omega), List.append_assoc]; rfl
    by_cases hd : dg b.2 k > 0
    · cases hc : cok a b k with
      | true =>
        have hev : evA a b k = [((1 : Int), ((k : Int), dg b.2 k)), ((2 : Int), ((k : Int), (0 : Int)))] := by unfold evA; rw [if_pos hd, if_pos hc]; rfl
        simp only [hd, decide_true, ap1, ap2, hev, Option.bind_some]
      | false =>
        have hev : evA a b k = [((1 : Int), ((k : Int), dg b.2 k))] := by unfold evA; rw [if_pos hd, if_neg (by rw [hc]; simp)]; rfl
        simp only [hd, decide_true, ap1, hev, Option.bind_some]
    · cases hc : cok a b k with
      | true =>
        have hev : evA a b k = [((2 : Int), ((k : Int), (0 : Int)))] := by unfold evA; rw [if_neg hd, if_pos hc]; rfl
        simp only [hd, decide_false, ap1, hev, Option.bind_some]
      | false =>
        have hev : evA a b k = [] := by unfold evA; rw [if_neg hd, if_neg (by rw [hc]; simp)]; rfl
        simp only [hd, decide_false, hev, Option.bind_some, List.append_nil]) (fun go => by
    unfold impl_EventsOf_b0
    simp only [h.len, Int.lt_irrefl, decide_false, bcase])
  have hl : loopL (impl_EventsOf_b0 b (rg a.2.length (cok a b))) (([] : List T_impl_CarryEvent), 0) = some (fl a.2.length (evA a b), (a.2.length : Int)) := hl
  rw [hl]
  simp only [Option.bind_some]
  generalize hA : fl a.2.length (evA a b) = LA
  have hLA : LA.length ≤ 14 := by rw [← hA]; have := fl_len (evA_len a b) a.2.length; omega
  have hl2 := loopL_fn (body := impl_EventsOf_b2 (rg a.2.length (cok a b)) (rg a.2.length (lev a b))) (fun k => (LA ++ fl k (evB a b), (k : Int))) a.2.length (LA ++ fl a.2.length (evB a b), (a.2.length : Int)) (fun k hk go => by
    unfold impl_EventsOf_b2
    have hlt : (k : Int) < (a.2.length : Int) := by omega
    have hlen := fl_len (evB_len a b) k
    have hw : IntKind.i64.wrap ((k : Int) + 1) = ((k + 1 : Nat) : Int) := by rw [w64 (by omega)]; omega
    simp only [rg_len, hlt, decide_true, bcase]
    rw [rg_idx hk, hw, fl_succ]
    simp only [Option.bind_some]
    have ap1 : ∀ e : T_impl_CarryEvent, apd (LA ++ fl k (evB a b)) [e] = some (LA ++ (fl k (evB a b) ++ [e])) := fun e => by
      rw [apd_ok (by simp only [List.length_append, List.length_singleton, LIM]; omega), List.append_assoc]
    have ap2 : ∀ e e' : T_impl_CarryEvent, apd (LA ++ (fl k (evB a b) ++ [e])) [e'] = some (LA ++ (fl k (evB a b) ++ [e, e'])) := fun e e' => by
      rw [apd_ok (by simp only [List.length_append, List.length_singleton, LIM]; omega), List.append_assoc, List.append_assoc]; rfl
    cases hl1 : lev a b k with
    | false =>
      have hev : evB a b k = [] := by unfold evB; rw [if_neg (by rw [hl1]; simp)]
      simp only [Bool.not_false, hev, List.append_nil]
    | true =>
      simp only [Bool.not_true, ap1, Option.bind_some]
      by_cases hk1 : k + 1 < a.2.length
      · have hlt1 : ((k + 1 : Nat) : Int) < (a.2.length : Int) := by omega
        simp only [hlt1, decide_true]
        rw [rg_idx hk1, rg_idx hk1]
        simp only [Option.bind_some]
        cases hl2 : lev a b (k + 1) with
        | false =>
          have hev : evB a b k = [((3 : Int), ((k : Int), (0 : Int)))] := by unfold evB; rw [if_pos hl1, if_neg (by rw [hl2]; simp)]; rfl
          simp only [Option.bind_some, hev]
        | true =>
          simp only [Option.bind_some]
          cases hc2 : cok a b (k + 1) with
          | true =>
            have hev : evB a b k = [((3 : Int), ((k : Int), (0 : Int)))] := by unfold evB; rw [if_pos hl1, if_neg (by rw [hc2]; simp)]; rfl
            simp only [Bool.not_true, Option.bind_some, hev]
          | false =>
            have hev : evB a b k = [((3 : Int), ((k : Int), (0 : Int))), ((2 : Int), (((k + 1 : Nat) : Int), (0 : Int)))] := by unfold evB; rw [if_pos hl1, if_pos ⟨hk1, hl2, hc2⟩]; rfl
            simp only [Bool.not_false, ap2, Option.bind_some, hev]
      · have hlt1 : ¬ (((k + 1 : Nat) : Int) < (a.2.length : Int)) := by omega
        have hev : evB a b k = [((3 : Int), ((k : Int), (0 : Int)))] := by unfold evB; rw [if_pos hl1, if_neg (fun hh => hk1 hh.1)]; rfl
        simp only [hlt1, decide_false, Option.bind_some, hev]) (fun go => by
    unfold impl_EventsOf_b2
    simp only [rg_len, Int.lt_irrefl, decide_false, bcase])
  have hl2 : loopL (impl_EventsOf_b2 (rg a.2.length (cok a b)) (rg a.2.length (lev a b))) (LA, 0) = some (LA ++ fl a.2.length (evB a b), (a.2.length : Int)) := by
    have : (LA, (0 : Int)) = (LA ++ fl 0 (evB a b), ((0 : Nat) : Int)) := by simp [fl]
    rw [this]; exact hl2
  rw [hl2]
  simp only [Option.bind_some, evs, hA]
end Go.Pv.Q
namespace Go.Pv.Q
def appAt (B : Int) (out : List Int) (w s : Int) : List Int := if w < (out.length : Int) then out.set w.toNat ((dg out w.toNat + s) % B) else out
/-- What one event does. -/
def app (B : Int) (out : List Int) (e : T_impl_CarryEvent) : List Int :=
  if e.1 = 2 then out else appAt B out (if e.1 = 3 then e.2.1 + 1 else e.2.1) (if e.1 = 3 then 1 else e.2.2)
def EvOk (n : Nat) (B : Int) (e : T_impl_CarryEvent) : Prop := 1 ≤ e.1 ∧ e.1 ≤ 3 ∧ 0 ≤ e.2.1 ∧ e.2.1 ≤ (n : Int) - 1 ∧ 0 ≤ e.2.2 ∧ e.2.2 ≤ B - 1
theorem appAt_len {B : Int} {out : List Int} {w s : Int} : (appAt B out w s).length = out.length := by
  unfold appAt
  split
  · simp
  · rfl
theorem appAt_digs {B : Int} (hB : 0 < B) {out : List Int} {w s : Int} (h : Digs B out) : Digs B (appAt B out w s) := by
  unfold appAt
  split
  · intro d hd
    rcases List.mem_or_eq_of_mem_set hd with h1 | h1
    · exact h d h1
    · subst h1; exact ⟨Int.emod_nonneg _ (by omega), Int.emod_lt_of_pos _ hB⟩
  · exact h
theorem app_len {B : Int} {out : List Int} {e : T_impl_CarryEvent} : (app B out e).length = out.length := by
  unfold app
  by_cases h : e.1 = 2
  · rw [if_pos h]
  · rw [if_neg h, appAt_len]
theorem app_digs {B : Int} (hB : 0 < B) {out : List Int} {e : T_impl_CarryEvent} (h : Digs B out) : Digs B (app B out e) := by
  unfold app
  by_cases h2 : e.1 = 2
  · rw [if_pos h2]; exact h
  · rw [if_neg h2]; exact appAt_digs hB h
theorem foldl_len {B : Int} : ∀ {L : List T_impl_CarryEvent} {out : List Int}, (L.foldl (app B) out).length = out.length
  | [], _ => rfl
  | e :: L, out => by rw [List.foldl_cons, foldl_len, app_len]
theorem foldl_digs {B : Int} (hB : 0 < B) : ∀ {L : List T_impl_CarryEvent} {out : List Int}, Digs B out → Digs B (L.foldl (app B) out)
  | [], _, h => h
  | e :: L, out, h => by rw [List.foldl_cons]; exact foldl_digs hB (app_digs hB h)
theorem take_succ_foldl {B : Int} {L : List T_impl_CarryEvent} {out : List Int} {k : Nat} (hk : k < L.length) : (L.take (k + 1)).foldl (app B) out = app B ((L.take k).foldl (app B) out) L[k] := by
  rw [List.take_succ_eq_append_getElem hk, List.foldl_append]; rfl
theorem replay_ok {r : T_impl_Register} (h : RegOk r) {L : List T_impl_CarryEvent} (hL : L.length ≤ 1000) (hev : ∀ e ∈ L, EvOk r.2.length r.1 e) : impl_ReplayEvents r L = some ((r.1, L.foldl (app r.1) r.2), 0) := by
  unfold impl_ReplayEvents impl_copyNumbers
  have hb := h.b2
  have hb16 := h.b16
  have hw7 := h.w7
  rw [valid_impl h]
  simp only [Option.bind_some, Bool.not_true, bcase]
  have hl := loopL_fn (body := impl_ReplayEvents_b0 r L) (fun k => ((k : Int), ((0 : Int), ([] : List Int)))) L.length (Out.done ((L.length : Int), ((0 : Int), ([] : List Int)))) (fun k hk go => by
    unfold impl_ReplayEvents_b0 impl_Register_width
    have hlt : (k : Int) < (L.length : Int) := by omega
    obtain ⟨e1, e2, e3, e4, e5, e6⟩ := hev L[k] (List.getElem_mem hk)
    have hw : IntKind.i64.wrap ((k : Int) + 1) = ((k + 1 : Nat) : Int) := by rw [w64 (by omega)]; omega
    simp only [hlt, decide_true, bcase]
    rw [idx_nat, List.getElem?_eq_getElem hk, hw]
    simp only [Option.bind_some]
    rw [between_ok e1 e2, w64 (n := (r.2.length : Int) - 1) (by omega), between_ok e3 e4, w64 (n := r.1 - 1) (by omega), between_ok e5 e6]
    simp only [Option.bind_some, Bool.not_true]) (fun go => by
    unfold impl_ReplayEvents_b0
    simp only [Int.lt_irrefl, decide_false, bcase])
  have hl : loopL (impl_ReplayEvents_b0 r L) (0, ((0 : Int), ([] : List Int))) = some (Out.done ((L.length : Int), ((0 : Int), ([] : List Int)))) := hl
  rw [hl]
  simp only [Option.bind_some, outK]
  rw [apd_ok (by simp only [List.length_nil, LIM]; omega)]
  simp only [Option.bind_some, List.nil_append]
  have hl2 := loopL_fn (body := impl_ReplayEvents_b2 r L) (fun k => ((k : Int), (L.take k).foldl (app r.1) r.2)) L.length ((L.length : Int), L.foldl (app r.1) r.2) (fun k hk go => by
    unfold impl_ReplayEvents_b2
    have hlt : (k : Int) < (L.length : Int) := by omega
    obtain ⟨e1, e2, e3, e4, e5, e6⟩ := hev L[k] (List.getElem_mem hk)
    have hw : IntKind.i64.wrap ((k : Int) + 1) = ((k + 1 : Nat) : Int) := by rw [w64 (by omega)]; omega
    have hdig : Digs r.1 ((L.take k).foldl (app r.1) r.2) := foldl_digs (by omega) h.d
    have hlen : ((L.take k).foldl (app r.1) r.2).length = r.2.length := foldl_len
    rw [take_succ_foldl hk]
    generalize (L.take k).foldl (app r.1) r.2 = out at hdig hlen
    simp only [hlt, decide_true, bcase]
    rw [idx_nat, List.getElem?_eq_getElem hk, hw]
    simp only [Option.bind_some]
    generalize L[k] = e at e1 e2 e3 e4 e5 e6
    obtain ⟨kind, wheel, steps⟩ := e
    simp only at e1 e2 e3 e4 e5 e6
    unfold app appAt
    simp only
    by_cases h2 : kind = 2
    · subst h2
      simp only [BEq.rfl, if_true]
    · have hb2 : (kind == 2) = false := by simp [h2]
      simp only [hb2, h2, if_false]
      by_cases h3 : kind = 3
      · subst h3
        have hwh : IntKind.i64.wrap (wheel + 1) = wheel + 1 := w64 (by omega)
        simp only [BEq.rfl, if_true, hwh, Option.bind_some]
        by_cases hin : wheel + 1 < (out.length : Int)
        · have hn : wheel + 1 = (((wheel + 1).toNat : Nat) : Int) := by omega
          have hd := hdig.dg (show (wheel + 1).toNat < out.length by omega)
          simp only [hin, decide_true, if_true]
          have hi : idx out (wheel + 1) = some (dg out (wheel + 1).toNat) := by
            have := idx_dg (l := out) (k := (wheel + 1).toNat) (by omega)
            rwa [← hn] at this
          rw [hi]
          simp only [Option.bind_some]
          rw [w64 (n := dg out (wheel + 1).toNat + 1) (by omega), remK_ok (by omega) (by omega)]
          simp only [Option.bind_some, setK]
        · simp only [hin, decide_false, if_false, Option.bind_some]
      · have hb3 : (kind == 3) = false := by simp [h3]
        simp only [hb3, h3, if_false, Option.bind_some]
        by_cases hin : wheel < (out.length : Int)
        · have hn : wheel = ((wheel.toNat : Nat) : Int) := by omega
          have hd := hdig.dg (show wheel.toNat < out.length by omega)
          simp only [hin, decide_true, if_true]
          have hi : idx out wheel = some (dg out wheel.toNat) := by
            have := idx_dg (l := out) (k := wheel.toNat) (by omega)
            rwa [← hn] at this
          rw [hi]
          simp only [Option.bind_some]
          rw [w64 (n := dg out wheel.toNat + steps) (by omega), remK_ok (by omega) (by omega)]
          simp only [Option.bind_some, setK]
        · simp only [hin, decide_false, if_false, Option.bind_some]) (fun go => by
    unfold impl_ReplayEvents_b2
    simp only [Int.lt_irrefl, decide_false, bcase, List.take_length])
  have hl2 : loopL (impl_ReplayEvents_b2 r L) (0, r.2) = some ((L.length : Int), L.foldl (app r.1) r.2) := hl2
  rw [hl2]
  simp only [Option.bind_some]
  unfold impl_sole
  rw [valid_impl (r := (r.1, L.foldl (app r.1) r.2)) ⟨hb, hb16, by simp only [foldl_len]; exact h.w1, by simp only [foldl_len]; exact hw7, foldl_digs (by omega) h.d⟩]
  simp only [Option.bind_some, Bool.not_true, bcase]
theorem evs_ok {a b : T_impl_Register} (h : Regs a b) : ∀ e ∈ evs a b, EvOk a.2.length a.1 e := by
  have hb := h.b2
  intro e he
  unfold evs fl at he
  rcases List.mem_append.1 he with he | he
  · obtain ⟨k, hk, he⟩ := List.mem_flatMap.1 he
    have hk := List.mem_range.1 hk
    have hd := h.dgs hk
    unfold evA at he
    rcases List.mem_append.1 he with he | he
    · split at he
      · simp only [List.mem_singleton] at he; subst he
        unfold EvOk; simp only; omega
      · cases he
    · split at he
      · simp only [List.mem_singleton] at he; subst he
        unfold EvOk; simp only; omega
      · cases he
  · obtain ⟨k, hk, he⟩ := List.mem_flatMap.1 he
    have hk := List.mem_range.1 hk
    unfold evB at he
    split at he
    · rcases List.mem_append.1 he with he | he
      · simp only [List.mem_singleton] at he; subst he
        unfold EvOk; simp only; omega
      · split at he
        · rename_i hc
          simp only [List.mem_singleton] at he; subst he
          unfold EvOk; simp only; omega
        · cases he
    · cases he
theorem app_turn {B n : Int} {out : List Int} {k : Nat} {s : Int} (hk : k < out.length) : app B out (1, ((k : Int), s)) = out.set k ((dg out k + s) % B) := by
  unfold app appAt
  simp only [show ¬ ((1 : Int) = 2) by omega, show ¬ ((1 : Int) = 3) by omega, if_false]
  rw [if_pos (by omega)]
  rfl
theorem app_cock {B : Int} {out : List Int} {w s : Int} : app B out (2, (w, s)) = out := by unfold app; simp
theorem app_push {B : Int} {out : List Int} {k : Nat} {s : Int} : app B out (3, ((k : Int), s)) = if k + 1 < out.length then out.set (k + 1) ((dg out (k + 1) + 1) % B) else out := by
  unfold app appAt
  simp only [show ¬ ((3 : Int) = 2) by omega, if_false, if_true]
  by_cases hk : k + 1 < out.length
  · rw [if_pos hk, if_pos (by omega)]; rfl
  · rw [if_neg hk, if_neg (by omega)]
theorem foldA {a b : T_impl_Register} (h : Regs a b) : ∀ k, k ≤ a.2.length → (fl k (evA a b)).foldl (app a.1) a.2 = rg a.2.length (fun j => if j < k then turD a b j else dg a.2 j)
  | 0, _ => by
    have : rg a.2.length (fun j => if j < 0 then turD a b j else dg a.2 j) = a.2 := (rg_congr fun k _ => by rw [if_neg (by omega)]).trans (rg_dg a.2)
    rw [this]; rfl
  | k + 1, hk => by
    have ih := foldA h k (by omega)
    have hd := h.dgs (show k < a.2.length by omega)
    rw [fl_succ, List.foldl_append, ih]
    have hcock : ∀ out : List Int, (if cok a b k = true then [((2 : Int), ((k : Int), (0 : Int)))] else []).foldl (app a.1) out = out := by
      intro out
      split
      · simp only [List.foldl_cons, List.foldl_nil, app_cock]
      · rfl
    unfold evA
    rw [List.foldl_append, hcock]
    by_cases h0 : dg b.2 k > 0
    · rw [if_pos h0]
      simp only [List.foldl_cons, List.foldl_nil]
      rw [app_turn (n := 0) (by rw [rg_len]; omega), dg_rg (by omega), if_neg (by omega), rg_set]
      refine rg_congr fun j hj => ?_
      by_cases hjk : j = k
      · subst hjk; rw [if_pos rfl, if_pos (by omega)]; rfl
      · rw [if_neg hjk]
        by_cases h1 : j < k
        · rw [if_pos h1, if_pos (by omega)]
        · rw [if_neg h1, if_neg (by omega)]
    · rw [if_neg h0]
      simp only [List.foldl_nil]
      refine rg_congr fun j hj => ?_
      by_cases hjk : j = k
      · subst hjk
        rw [if_neg (by omega), if_pos (by omega)]
        unfold turD
        rw [show dg b.2 j = 0 by omega, Int.add_zero, Int.emod_eq_of_lt hd.1 hd.2.1]
      · by_cases h1 : j < k
        · rw [if_pos h1, if_pos (by omega)]
        · rw [if_neg h1, if_neg (by omega)]
theorem foldB {a b : T_impl_Register} (h : Regs a b) : ∀ k, k ≤ a.2.length → (fl k (evB a b)).foldl (app a.1) (rg a.2.length (turD a b)) = rg a.2.length (fun j => if j ≤ k then sumD a b j else turD a b j)
  | 0, _ => by
    have hw1 := h.w1
    have hz := (digit h (show 0 < a.2.length by omega)).2.2.2.2.1 rfl
    show rg a.2.length (turD a b) = _
    refine rg_congr fun j hj => ?_
    by_cases hj0 : j = 0
    · subst hj0; rw [if_pos (by omega), hz.1]
    · rw [if_neg (by omega)]
  | k + 1, hk => by
    have ih := foldB h k (by omega)
    have hc := car01 h (k + 1) (by omega)
    rw [fl_succ, List.foldl_append, ih]
    have hlev := lev_car h (show k < a.2.length by omega)
    have hcock : ∀ out : List Int, (if k + 1 < a.2.length ∧ lev a b (k + 1) = true ∧ cok a b (k + 1) = false then [((2 : Int), (((k + 1 : Nat) : Int), (0 : Int)))] else []).foldl (app a.1) out = out := by
      intro out
      split
      · simp only [List.foldl_cons, List.foldl_nil, app_cock]
      · rfl
    unfold evB
    by_cases hl : lev a b k = true
    · rw [if_pos hl, List.foldl_append, hcock]
      simp only [List.foldl_cons, List.foldl_nil]
      rw [app_push, rg_len]
      rw [if_pos hl] at hlev
      by_cases hk1 : k + 1 < a.2.length
      · have hD := digit h hk1
        rw [if_pos hk1, dg_rg hk1, if_neg (by omega), rg_set]
        refine rg_congr fun j hj => ?_
        by_cases hjk : j = k + 1
        · subst hjk
          rw [if_pos rfl, if_pos (by omega)]
          obtain ⟨d7, d8⟩ := hD.2.2.2.2.2 hlev
          by_cases ht : turD a b (k + 1) + 1 = a.1
          · rw [(d7 ht).1, ht, Int.emod_self]
          · rw [(d8 ht).1, Int.emod_eq_of_lt (by omega) (by omega)]
        · rw [if_neg hjk]
          by_cases h1 : j ≤ k
          · rw [if_pos h1, if_pos (by omega)]
          · rw [if_neg h1, if_neg (by omega)]
      · rw [if_neg hk1]
        refine rg_congr fun j hj => ?_
        by_cases h1 : j ≤ k
        · rw [if_pos h1, if_pos (by omega)]
        · omega
    · rw [if_neg hl]
      rw [if_neg hl] at hlev
      simp only [List.foldl_nil]
      refine rg_congr fun j hj => ?_
      by_cases hjk : j = k + 1
      · subst hjk
        rw [if_neg (by omega), if_pos (by omega)]
        exact ((digit h hj).2.2.2.2.1 hlev).1.symm
      · by_cases h1 : j ≤ k
        · rw [if_pos h1, if_pos (by omega)]
        · rw [if_neg h1, if_neg (by omega)]
theorem fold_evs {a b : T_impl_Register} (h : Regs a b) : (evs a b).foldl (app a.1) a.2 = rg a.2.length (sumD a b) := by
  unfold evs
  rw [List.foldl_append, foldA h _ (Nat.le_refl _)]
  have e1 : rg a.2.length (fun j => if j < a.2.length then turD a b j else dg a.2 j) = rg a.2.length (turD a b) := rg_congr fun k hk => by rw [if_pos hk]
  rw [e1, foldB h _ (Nat.le_refl _)]
  exact rg_congr fun k hk => by rw [if_pos (by omega)]
end Go.Pv.Q
namespace Go.Pv.Q
def c3 (L : List T_impl_CarryEvent) : Int := ((L.countP (fun e => e.1 == 3) : Nat) : Int)
theorem c3_app (L M : List T_impl_CarryEvent) : c3 (L ++ M) = c3 L + c3 M := by
  unfold c3; rw [List.countP_append]; omega
theorem c3_evA (a b : T_impl_Register) : ∀ k, c3 (fl k (evA a b)) = 0
  | 0 => rfl
  | k + 1 => by
    rw [fl_succ, c3_app, c3_evA a b k]
    unfold evA
    split <;> split <;> simp [c3]
theorem c3_evB (a b : T_impl_Register) : ∀ k, c3 (fl k (evB a b)) = cnt a b k
  | 0 => rfl
  | k + 1 => by
    rw [fl_succ, c3_app, c3_evB a b k]
    unfold evB
    simp only [cnt]
    cases lev a b k with
    | true =>
      simp only [if_true]
      split <;> simp [c3]
    | false => simp [c3]
theorem c3_evs (a b : T_impl_Register) : c3 (evs a b) = cnt a b a.2.length := by
  unfold evs; rw [c3_app, c3_evA, c3_evB]; omega
theorem text_ok {n : Nat} {B : Int} {e : T_impl_CarryEvent} (hn : n ≤ 100) (hB : B ≤ 100) (h : EvOk n B e) : ∃ s, impl_EventText e = some s ∧ (s == ([] : Bytes)) = false := by
  obtain ⟨kind, wheel, steps⟩ := e
  obtain ⟨h1, h2, h3, h4, h5, h6⟩ := h
  simp only at h1 h2 h3 h4 h5 h6
  obtain ⟨s1, d1, l1⟩ := decimal_ok (n := wheel) (by omega) (by omega)
  obtain ⟨s2, d2, l2⟩ := decimal_ok (n := steps) (by omega) (by omega)
  unfold impl_EventText
  rcases (show kind = 1 ∨ kind = 2 ∨ kind = 3 by omega) with rfl | rfl | rfl
  · simp only [BEq.rfl, bcase, d1, d2, Option.bind_some]
    rw [apd_ok (by simp only [List.length_cons, List.length_nil, LIM]; omega)]
    simp only [Option.bind_some]
    rw [apd_ok (by simp only [List.length_append, List.length_cons, List.length_nil, LIM]; omega)]
    simp only [Option.bind_some]
    rw [apd_ok (by simp only [List.length_append, List.length_cons, List.length_nil, LIM]; omega)]
    exact ⟨_, rfl, rfl⟩
  · have e1 : ((2 : Int) == 1) = false := rfl
    simp only [e1, BEq.rfl, bcase, d1, Option.bind_some]
    rw [apd_ok (by simp only [List.length_cons, List.length_nil, LIM]; omega)]
    exact ⟨_, rfl, rfl⟩
  · have e1 : ((3 : Int) == 1) = false := rfl
    have e2 : ((3 : Int) == 2) = false := rfl
    simp only [e1, e2, BEq.rfl, bcase, d1, Option.bind_some]
    rw [apd_ok (by simp only [List.length_cons, List.length_nil, LIM]; omega)]
    exact ⟨_, rfl, rfl⟩
theorem own_loop {n : Nat} {B : Int} {L : List T_impl_CarryEvent} (hn : n ≤ 100) (hB : B ≤ 100) (hL : L.length ≤ 1000) (hev : ∀ e ∈ L, EvOk n B e) : loopL (laws_FnEvents_b2 L) (0, 0) = some (Out.done (c3 L, (L.length : Int))) := by
  have hl := loopL_fn (body := laws_FnEvents_b2 L) (fun k => (c3 (L.take k), (k : Int))) L.length (Out.done (c3 L, (L.length : Int))) (fun k hk go => by
    unfold laws_FnEvents_b2
    have hlt : (k : Int) < (L.length : Int) := by omega
    obtain ⟨s, t1, t2⟩ := text_ok hn hB (hev L[k] (List.getElem_mem hk))
    have hw : IntKind.i64.wrap ((k : Int) + 1) = ((k + 1 : Nat) : Int) := by rw [w64 (by omega)]; omega
    have hc : c3 (L.take k) ≤ k := by
      unfold c3
      have h1 : (L.take k).countP (fun e => e.1 == 3) ≤ (L.take k).length := List.countP_le_length
      rw [List.length_take] at h1
      omega
    have hc0 : 0 ≤ c3 (L.take k) := by unfold c3; omega
    have hstep : c3 (L.take (k + 1)) = c3 (L.take k) + (if L[k].1 == 3 then 1 else 0) := by
      rw [List.take_succ_eq_append_getElem hk, c3_app]
      congr 1
      unfold c3
      cases hh : (L[k].1 == 3) <;> simp [hh]
    simp only [hlt, decide_true, bcase]
    rw [idx_nat, List.getElem?_eq_getElem hk, hw, hstep]
    simp only [Option.bind_some, t1, t2]
    cases hh : (L[k].1 == 3) with
    | true => simp only [Option.bind_some, if_true, w64 (n := c3 (L.take k) + 1) (by omega)]
    | false => simp only [Option.bind_some, Bool.false_eq_true, if_false, Int.add_zero]) (fun go => by
    unfold laws_FnEvents_b2
    simp only [Int.lt_irrefl, decide_false, bcase, List.take_length])
  exact hl
theorem sum_loop {a b : T_impl_Register} (h : Regs a b) : loopL (laws_FnEvents_b0 (rg (a.2.length + 1) (car a b))) (0, 0) = some (cnt a b a.2.length, ((a.2.length + 1 : Nat) : Int)) := by
  have hw7 := h.w7
  have hcum : ∀ k, k ≤ a.2.length → 0 ≤ cumC a b k ∧ cumC a b k ≤ k := by
    intro k hk
    cases k with
    | zero => simp [cumC]
    | succ k => rw [cum_cnt h k (by omega)]; have := cnt_range a b k; omega
  have hl := loopL_fn (body := laws_FnEvents_b0 (rg (a.2.length + 1) (car a b))) (fun k => (cumC a b k, (k : Int))) (a.2.length + 1) (cnt a b a.2.length, ((a.2.length + 1 : Nat) : Int)) (fun k hk go => by
    unfold laws_FnEvents_b0
    have hlt : (k : Int) < ((a.2.length + 1 : Nat) : Int) := by omega
    have hw : IntKind.i64.wrap ((k : Int) + 1) = ((k + 1 : Nat) : Int) := by rw [w64 (by omega)]; omega
    have hc := car01 h k (by omega)
    have hcu := hcum k (by omega)
    simp only [rg_len, hlt, decide_true, bcase]
    rw [rg_idx hk, hw]
    simp only [Option.bind_some]
    rw [w64 (n := cumC a b k + car a b k) (by omega)]
    rfl) (fun go => by
    unfold laws_FnEvents_b0
    simp only [rg_len, Int.lt_irrefl, decide_false, bcase]
    rw [cum_cnt h _ (Nat.le_refl _)])
  exact hl
theorem law_events {code : List Int} (hcode : ∀ n ∈ code, 0 ≤ n ∧ n ≤ 255) : laws_FnEvents code = some true := by
  unfold laws_FnEvents laws_a2Long
  by_cases hlong : (code.length : Int) > 3000
  · simp only [hlong, decide_true, bcase, Option.bind_some]
  · simp only [hlong, decide_false, bcase, Option.bind_some, List.length_nil, show ¬ (((0 : Nat) : Int) > 3000) by omega]
    obtain ⟨a, b, e1, h⟩ := registers_ok hcode
    have hw1 := h.w1
    have hw7 := h.w7
    have hb16 := h.b16
    have hlen : (evs a b).length ≤ 28 := by
      unfold evs
      rw [List.length_append]
      have h1 := fl_len (evA_len a b) a.2.length
      have h2 := fl_len (evB_len a b) a.2.length
      omega
    obtain ⟨m, r1, r2, r3, r4⟩ := ripple_ok h
    have hcnt := cnt_range a b a.2.length
    have hrep := replay_ok h.a (L := evs a b) (by omega) (evs_ok h)
    rw [fold_evs h] at hrep
    have hsame : spec_SameRegister (a.1, rg a.2.length (sumD a b)) (a.1, rg a.2.length (sumD a b)) = some true := same_reg (by simp only [rg_len]; omega)
    rw [e1]
    simp only [Option.bind_some]
    rw [events_ok h]
    simp only [Option.bind_some]
    rw [addRegs h]
    simp only [Option.bind_some]
    rw [carriesOf h]
    simp only [Option.bind_some, bne_self_eq_false]
    rw [hrep]
    simp only [Option.bind_some]
    rw [pushes_ok h]
    simp only [Option.bind_some]
    rw [r1]
    simp only [Option.bind_some]
    rw [sum_loop h]
    simp only [Option.bind_some]
    rw [own_loop (n := a.2.length) (B := a.1) (by omega) (by omega) (by omega) (evs_ok h)]
    simp only [Option.bind_some, outK]
    rw [wheels_ok h]
    simp only [Option.bind_some, bne_self_eq_false]
    rw [hsame]
    simp only [Option.bind_some, Bool.not_true, c3_evs, bne_self_eq_false, rg_len]
    have q1 : ¬ (m > cnt a b a.2.length) := by omega
    have q2 : (!((m == 0) == (cnt a b a.2.length == 0))) = false := by
      by_cases hz : cnt a b a.2.length = 0
      · have : m = 0 := by omega
        rw [hz, this]; rfl
      · have : ¬ m = 0 := by have := r4 (by omega); omega
        have f1 : (m == 0) = false := by simpa using this
        have f2 : (cnt a b a.2.length == 0) = false := by simpa using hz
        rw [f1, f2]; rfl
    simp only [q1, decide_false, q2, Option.bind_some]
    rw [levers_ok h]
    simp only [Option.bind_some, BEq.rfl]
    rw [hsame]
    simp only [Option.bind_some]
    have hidx : IntKind.i64.wrap (((a.2.length + 1 : Nat) : Int) - 1) = ((a.2.length : Nat) : Int) := by rw [w64 (by omega)]; omega
    rw [hidx, rg_idx (show a.2.length < a.2.length + 1 by omega)]
    simp only [Option.bind_some, BEq.rfl]
end Go.Pv.Q
