/-
  The library of the interpreter: its parts Ext, PlainA.
-/
import Derived.Test.YtbcpkkjdemajnaaDoorLib4
import Derived.Shelf.Strconv.Itoa4
import Derived.Laws.BitsLemmas
/-! The library's functions. -/
namespace Go.Pv
variable {P : Program} {W : World}
theorem frame_grow {S : Nat → Nat → Prop} {nt K : Nat} {I0 : Nat → Prop} (k : Nat) (os : Array Obj) : Frame0 ⟨W, S, nt, I0, K⟩ (Sort.grow (W.drewN k) os) := by
  have hh : ∀ b, b < W.heap.size → (Sort.grow (W.drewN k) os).heap[b]? = W.heap[b]? := fun b hb => by
    show (W.heap ++ os)[b]? = W.heap[b]?
    exact Array.getElem?_append_left hb
  exact Frame0.refl.of_old rfl rfl rfl (by show W.heap.size ≤ (W.heap ++ os).size; simp) hh
noncomputable def c_X_FormatInt : Ctr := { args := [.val (.dat (.int .i64)), .val (.dat (.int .i64))], outs := [{ box := .val, ag := false, ks := [.dat .str], τ := Bytes, to := fun l => l.1, of := fun v => (v, ()) }], ρ := Bytes, f := fun x => X_FormatInt x.1.1 x.2.1.1, out := fun r => ((), (r, ())) }
theorem v_FormatInt {f g : Nat} (hgl : P.globalNamed "internal/strconv.uint64pow10" = some g) (h : ∀ (n : Int), -9223372036854775808 ≤ n → n ≤ 9223372036854775807 → ∀ w : World, Lib.TabIs P w "internal/strconv.uint64pow10" .u64 Lib.pow10Tab →
    Calls P f #[.int .i64 n, .int .i64 10] w fun e w' => e = .returned (.string ⟨(Lib.itoa n).toArray⟩) ∧ ∃ k os, w' = Sort.grow (w.drewN k) os) : Valid P f c_X_FormatInt := by
  intro x y hy w I S args hs rs hG hI hargs hal _ _
  obtain ⟨v1, vs1, a1, a2, g1, g2, rfl, rfl, rfl, ⟨rfl, us1, rfl, p1, p2, e1, hr1, e2, e3⟩, v2, vs2, b1, b2, k1, k2, rfl, rfl, rfl, ⟨rfl, us2, rfl, q1, q2, f1, hr2, f2, f3⟩, rfl, rfl, rfl⟩ := hargs
  subst e2; subst e3; subst f2; subst f3
  have hr1 : p1 = [.int .i64 x.1.1] := hr1
  have hr2 : q1 = [.int .i64 x.2.1.1] := hr2
  subst hr1; subst hr2
  rw [List.append_nil] at e1 f1
  subst e1; subst f1
  have hy : X_FormatInt x.1.1 x.2.1.1 = some y := hy
  unfold X_FormatInt at hy
  split at hy
  · rename_i hc
    obtain ⟨hb, h0, h1⟩ := hc
    have hy := Option.some.inj hy
    subst hy
    rcases hG with hG | ⟨b, hb1, hb2, htab⟩
    · rw [hgl] at hG; cases hG
    have := h x.1.1 h0 h1 w (htab w rfl)
    rw [show ([packV (lkAg (.dat (.int .i64))) [.int .i64 x.1.1], packV (lkAg (.dat (.int .i64))) [.int .i64 x.2.1.1]] : List Value).toArray = #[.int .i64 x.1.1, .int .i64 10] by rw [hb]; rfl]
    refine this.mono ?_
    rintro e w' ⟨rfl, k, os, rfl⟩
    have hF := frame_grow (W := w) (S := S) (nt := 0) (K := 0) (I0 := fun _ => True) k os
    refine ⟨_, [.string ⟨(Lib.itoa x.1.1).toArray⟩], I, [], [], [], rfl, rfl, hF, fun _ h => h, fun b hb => ?_, fun b hb => ⟨Nat.lt_of_lt_of_le (hI b hb).1 hF.size, .inl hb⟩, ⟨rfl, rfl⟩, ?_, ?_⟩
    · exact hF.same b (hI b hb).1 (hI b hb).2
    · exact ⟨_, [], [], [], [], [], rfl, rfl, rfl, ⟨rfl, [_], rfl, [_], [], rfl, rfl, rfl, rfl⟩, rfl, rfl, rfl⟩
    · exact ⟨fun p hp => (by cases hp), .nil, fun p hp => (by cases hp), fun r hr => (by cases hr), .nil⟩
  · cases hy
/-! ### Parts of a function's contract -/
def LoopsOk : List (Nat × LAnn) → Prop
  | [] => True
  | p :: r => (∀ x, p.2.of (p.2.to x) = x) ∧ LoopsOk r
def JoinsOk : List (Nat × JAnn) → Prop
  | [] => True
  | p :: r => (∀ y, p.2.of (p.2.to y) = y) ∧ JoinsOk r
theorem LoopsOk.get : ∀ {l : List (Nat × LAnn)}, LoopsOk l → ∀ id an, lk l id = some an → ∀ x, an.of (an.to x) = x
  | [], _, _, _, h => by simp [lk] at h
  | (i, a) :: r, hl, id, an, h => by
    simp only [lk] at h
    split at h
    · cases h; exact hl.1
    · exact LoopsOk.get hl.2 id an h
theorem JoinsOk.get : ∀ {l : List (Nat × JAnn)}, JoinsOk l → ∀ id an, lk l id = some an → ∀ x, an.of (an.to x) = x
  | [], _, _, _, h => by simp [lk] at h
  | (i, a) :: r, hl, id, an, h => by
    simp only [lk] at h
    split at h
    · cases h; exact hl.1
    · exact JoinsOk.get hl.2 id an h
theorem annOk {fc : FC} (h1 : LoopsOk fc.loops) (h2 : JoinsOk fc.joins) : AnnOk fc := ⟨h1.get, h2.get⟩
def RksOk : List RK → Prop
  | [] => True
  | r :: rs => (∀ z, r.of (r.to z) = z) ∧ RksOk rs
theorem RksOk.ok : ∀ {l : List RK}, RksOk l → RKOk l
  | [], _, r, h => by cases h
  | q :: rs, hl, r, h => by
    rcases List.mem_cons.1 h with rfl | h
    · exact hl.1
    · exact RksOk.ok hl.2 r h
theorem callsNil : CallsOk P [] := fun _ _ h => by cases h
theorem callsCons {f : Nat} {s : Ctr} {r : List (Nat × Ctr)} (h1 : Valid P f s) (h2 : Entered P f) (h : CallsOk P r) : CallsOk P ((f, s) :: r) := fun g t hm => by
  rcases List.mem_cons.1 hm with e | hm
  · cases e; exact ⟨h1, h2⟩
  · exact h g t hm
theorem entered {f : Nat} {fn : Func} {c : Code} (hf : P.funcs[f]? = some fn) (hn : (fn.name == "runtime.NumGoroutine") = false) (hb : fn.body = some c) : Entered P f := Go.Proofs.enters_of hf hn hb
end Go.Pv
/-! Plain laws: loops, indices, wrapped numbers. -/
namespace Go.Pv
theorem loopL_of {σ τ : Type} {body : (σ → Option τ) → σ → Option τ} {s : σ} {r : τ} (h : Comes1 body s r) : loopL body s = some r := by
  unfold loopL
  have hx : ∃ r, Comes1 body s r := ⟨r, h⟩
  rw [dif_pos hx]
  obtain ⟨n, hn⟩ := h
  obtain ⟨n', hn'⟩ := hx.choose_spec
  have h1 := hn (max n n') (Nat.le_max_left _ _)
  have h2 := hn' (max n n') (Nat.le_max_right _ _)
  rw [h1] at h2
  exact h2.symm
theorem Comes1.step {σ τ : Type} {body : (σ → Option τ) → σ → Option τ} {s s' : σ} {r : τ} (h : ∀ go, body go s = go s') (h' : Comes1 body s' r) : Comes1 body s r := by
  obtain ⟨n, hn⟩ := h'
  refine ⟨n + 1, fun m hm => ?_⟩
  cases m with
  | zero => omega
  | succ m => simp only [loopS]; rw [h]; exact hn m (by omega)
theorem Comes1.last {σ τ : Type} {body : (σ → Option τ) → σ → Option τ} {s : σ} {r : τ} (h : ∀ go, body go s = some r) : Comes1 body s r :=
  ⟨1, fun m hm => by
    cases m with
    | zero => omega
    | succ m => simp only [loopS]; exact h _⟩
/-- A loop of at most N rounds. -/
theorem loopL_ind {σ τ : Type} {body : (σ → Option τ) → σ → Option τ} (I : Nat → σ → Prop) (Q : τ → Prop) (N : Nat)
    (step : ∀ k s, k < N → I k s → (∃ s', (∀ go, body go s = go s') ∧ I (k + 1) s') ∨ (∃ r, (∀ go, body go s = some r) ∧ Q r))
    (last : ∀ s, I N s → ∃ r, (∀ go, body go s = some r) ∧ Q r) {s : σ} (h : I 0 s) : ∃ r, loopL body s = some r ∧ Q r := by
  have key : ∀ j k s, k + j = N → I k s → ∃ r, Comes1 body s r ∧ Q r := by
    intro j
    induction j with
    | zero =>
      intro k s hk hs
      have : k = N := by omega
      subst this
      obtain ⟨r, h1, h2⟩ := last s hs
      exact ⟨r, .last h1, h2⟩
    | succ j ih =>
      intro k s hk hs
      rcases step k s (by omega) hs with ⟨s', h1, h2⟩ | ⟨r, h1, h2⟩
      · obtain ⟨r, h3, h4⟩ := ih (k + 1) s' (by omega) h2
        exact ⟨r, h3.step h1, h4⟩
      · exact ⟨r, .last h1, h2⟩
  obtain ⟨r, h1, h2⟩ := key N 0 s (by omega) h
  exact ⟨r, loopL_of h1, h2⟩
/-- A loop of just N rounds, its states told. -/
theorem loopL_fn {σ τ : Type} {body : (σ → Option τ) → σ → Option τ} (f : Nat → σ) (N : Nat) (r : τ) (step : ∀ k, k < N → ∀ go, body go (f k) = go (f (k + 1))) (last : ∀ go, body go (f N) = some r) : loopL body (f 0) = some r := by
  obtain ⟨r', h1, h2⟩ := loopL_ind (body := body) (fun k s => s = f k) (fun x => x = r) N (fun k s hk hs => .inl ⟨f (k + 1), by subst hs; exact step k hk, rfl⟩) (fun s hs => ⟨r, by subst hs; exact last, rfl⟩) (s := f 0) rfl
  rw [h1, h2]
theorem w64 {n : Int} (h : -9223372036854775808 ≤ n ∧ n ≤ 9223372036854775807) : IntKind.i64.wrap n = n := by
  rw [IntKind.wrap_i64]; omega
theorem u64_range (n : Int) : 0 ≤ IntKind.u64.wrap n ∧ IntKind.u64.wrap n < 18446744073709551616 := by
  have : IntKind.u64.wrap n = n % 18446744073709551616 := rfl
  rw [this]; omega
theorem idx_nat {α : Type} (xs : List α) (k : Nat) : idx xs (k : Int) = xs[k]? := by
  unfold idx; rw [if_pos (by omega)]; simp
theorem idx_of {α : Type} {xs : List α} {i : Int} {k : Nat} (h : i = k) : idx xs i = xs[k]? := by subst h; exact idx_nat xs k
theorem idx_lt {α : Type} {xs : List α} {i : Int} (h0 : 0 ≤ i) (h1 : i < xs.length) : ∃ h : i.toNat < xs.length, idx xs i = some xs[i.toNat] := by
  have h : i.toNat < xs.length := by omega
  refine ⟨h, ?_⟩
  unfold idx; rw [if_pos h0, List.getElem?_eq_getElem h]
theorem setK_of {α : Type} {xs : List α} {i : Int} {k : Nat} {y : α} (h : i = k) : setK xs i y = xs.set k y := by subst h; simp [setK]
theorem apd_ok {α : Type} {xs ys : List α} (h : xs.length + ys.length ≤ LIM) : apd xs ys = some (xs ++ ys) := by unfold apd; rw [if_pos h]
theorem remK_ok {x y : Int} (hx : 0 ≤ x) (hy : 0 < y) : remK x y = some (x % y) := by
  unfold remK; rw [if_neg (by omega), Int.tmod_eq_emod_of_nonneg hx]
theorem quoK_ok {x y : Int} (hx : 0 ≤ x) (hb : x ≤ 9223372036854775807) (hy : 0 < y) : quoK .i64 x y = some (x / y) := by
  have h1 : x.tdiv y = x / y := Int.tdiv_eq_ediv_of_nonneg hx
  have h2 : x / y ≤ x := Int.ediv_le_self y hx
  have h3 : 0 ≤ x / y := Int.ediv_nonneg hx (by omega)
  unfold quoK; rw [if_neg (by omega), h1, w64 (by omega)]
end Go.Pv
