/-
  The library of the interpreter: its parts Hide, Ios, Outs, Call, OpAll, Region, Region2, Plain, Draw, Draw2, Draw3, Draw4, Locs, Back, Code.
-/
import Derived.Test.YtbcpkkjdemajnaaDoorLib2
import Derived.Orders
/-! The state behind a call, but for the places that it wrote. -/
namespace Go.Pv
variable {P : Program} {cx : Cx} {m m' : Mp} {st st' : St} {a : Act} {w w' : World} {R : Type}
def inH : List (Nat × Nat × Nat) → Nat → Nat → Bool
  | [], _, _ => false
  | q :: r, b, o => (decide (q.1 = b ∧ q.2.1 ≤ o ∧ o < q.2.1 + q.2.2)) || inH r b o
theorem inH_spec : ∀ {H : List (Nat × Nat × Nat)} {b o : Nat}, inH H b o = true ↔ ∃ q ∈ H, q.1 = b ∧ q.2.1 ≤ o ∧ o < q.2.1 + q.2.2
  | [], b, o => by simp [inH]
  | q :: r, b, o => by simp [inH, inH_spec (H := r)]
def hide (H : List (Nat × Nat × Nat)) (st : St) : St := match st with
  | ⟨fs, fc, fo, s, c, o, n⟩ => ⟨fs, fc.filter (fun p => !inH H p.1.1 p.1.2), fo, s, c.filter (fun p => !inH H p.1.1 p.1.2), o, n⟩
theorem lk2_filter {f : Nat → Nat → Bool} : ∀ (l : List ((Nat × Nat) × C)) (b o : Nat), lk2 (l.filter fun p => f p.1.1 p.1.2) b o = if f b o then lk2 l b o else none
  | [], b, o => by simp [lk2]
  | ((x, y), v) :: r, b, o => by
    have ih := lk2_filter (f := f) r b o
    rw [List.filter_cons]
    by_cases hf : f x y = true
    · simp only [hf, if_true]
      rw [lk2_cons, lk2_cons, ih]
      by_cases h : x = b ∧ y = o
      · obtain ⟨rfl, rfl⟩ := h; simp [hf]
      · simp [h]
    · simp only [hf, Bool.false_eq_true, if_false]
      rw [ih, lk2_cons]
      by_cases h : x = b ∧ y = o
      · obtain ⟨rfl, rfl⟩ := h; simp [hf]
      · simp [h]
theorem hide_cell (H : List (Nat × Nat × Nat)) (st : St) (b o : Nat) : (hide H st).cell b o = if inH H b o then none else st.cell b o := by
  cases st with
  | mk fs fc fo s c ob n =>
  simp only [hide, St.cell, lk2_filter (f := fun x y => !inH H x y)]
  cases inH H b o <;> simp
theorem hide_slot (H : List (Nat × Nat × Nat)) (st : St) (i : Nat) : (hide H st).slot i = st.slot i := by cases st; rfl
theorem hide_ob (H : List (Nat × Nat × Nat)) (st : St) (i : Nat) : (hide H st).ob i = st.ob i := by cases st; rfl
theorem hide_n (H : List (Nat × Nat × Nat)) (st : St) : (hide H st).n = st.n := by cases st; rfl
theorem hide_addO (H : List (Nat × Nat × Nat)) (st : St) (ob : Ob) : hide H (st.addO ob) = (hide H st).addO ob := by cases st; rfl
theorem encL_hide {H : List (Nat × Nat × Nat)} : ∀ (ks : List LK) (x : LDen ks) (st : St), encL (hide H st) ks x = ((encL st ks x).1, hide H (encL st ks x).2)
  | [], _, _ => rfl
  | .dat t :: r, x, st => by simp only [encL, encK, encL_hide r x.2 st]
  | .own e t :: r, x, st => by
    simp only [encL, encK, hide_n, ← hide_addO]
    rw [encL_hide r x.2 (st.addO _)]
  | .mp k v :: r, x, st => by
    simp only [encL, encK, hide_n, ← hide_addO]
    rw [encL_hide r x.2 (st.addO _)]
def Mp.withI (m : Mp) (I : Nat → Prop) : Mp := { m with I := I }
theorem Mp.agree_withI (m : Mp) {I : Nat → Prop} (h : ∀ b, m.I b → I b) (n : Nat) : Agree n m (m.withI I) := ⟨fun _ _ => rfl, fun _ _ => rfl, fun _ _ => rfl, h⟩
theorem Frame0.call (h : Frame0 cx w) {S : Nat → Nat → Prop} {n : Nat} {I1 : Nat → Prop} {K1 : Nat} (hS : ∀ b o, S b o → cx.free b o) (hf : Frame0 ⟨w, S, n, I1, K1⟩ w') : Frame0 cx w' := by
  have hn : ∀ b o, b < cx.w0.heap.size → ¬ cx.S b o → ¬ S b o := fun b o h1 h2 h3 => by
    rcases hS b o h3 with h4 | h4
    · omega
    · exact h2 h4
  refine ⟨hf.os.trans h.os, hf.tape.trans h.tape, hf.output.trans h.output, Nat.le_trans h.size hf.size, fun b hb ho => ?_, fun b o hb ho => ?_, fun b o c e hb ho => ?_⟩
  · exact (hf.same b (Nat.lt_of_lt_of_le hb h.size) (fun o => hn b o hb (ho o))).trans (h.same b hb ho)
  · exact (hf.cell b o (Nat.lt_of_lt_of_le hb h.size) (hn b o hb ho)).trans (h.cell b o hb ho)
  · obtain ⟨c', h6⟩ := h.shape b o c e hb ho
    exact hf.shape b o c' e h6 (hn b o (heap_lt hb) ho)
/-- Behind the call: all but what it wrote is told as before. -/
theorem Rel.after (h : Rel cx m st a w) {hs : List (Ob × Value)} {H : List (Nat × Nat × Nat)} {I' : Nat → Prop} (hheld : Held cx m st w hs)
    (hfree : ∀ b o, SS hs (rngs m H) b o → cx.free b o) (hob : ∀ id ob b, st.ob id = some ob → blk (m.hd id) = some b → ∀ o, ¬ SS hs (rngs m H) b o) (hH : ∀ q ∈ H, ∀ j, j < q.2.2 → ∃ c, st.cell q.1 (q.2.1 + j) = some c)
    (hf : Frame0 ⟨w, SS hs (rngs m H), 0, fun _ => True, 0⟩ w') (hI : ∀ b, m.I b → I' b) (hIw : ∀ b, m.I b → w'.heap[b]? = w.heap[b]?) (hI' : ∀ b, I' b → b < w'.heap.size ∧ (m.I b ∨ ∀ o, Cx.free ⟨w, SS hs (rngs m H), 0, fun _ => True, 0⟩ b o)) :
    Rel cx (m.withI I') (hide H st) a w' := by
  have h1 : Rel cx m (hide H st) a w := h.sub (fun n v hv => by rwa [hide_slot] at hv) (fun b off c hc => by rw [hide_cell] at hc; split at hc; cases hc; exact hc) (fun id ob hi => by rwa [hide_ob] at hi) (by rw [hide_n]; exact Nat.le_refl _)
  have hnotS : ∀ b off c, (hide H st).cell b off = some c → ¬ SS hs (rngs m H) (m.bk b) (m.bo b + off) := by
    intro b off c hc
    rw [hide_cell] at hc
    split at hc
    · cases hc
    · rename_i hin
      rintro (⟨p, hp, hb⟩ | ⟨r, hr, e1, e2, e3⟩)
      · exact ((hheld.mem p hp).2.2 _ hb).2 b off c hc rfl
      · obtain ⟨q, hq, rfl⟩ := List.mem_map.1 hr
        simp only at e1 e2 e3
        obtain ⟨c', hc'⟩ := hH q hq (m.bo b + off - (m.bo q.1 + q.2.1)) (by omega)
        have := h.inj _ _ _ _ _ _ hc hc' e1 (by omega)
        exact hin (inH_spec.2 ⟨q, hq, this.1.symm, by omega, by omega⟩)
  have hframe := h.frame.call hfree hf
  have h2 : Rel cx m (hide H st) a w' := by
    refine h1.world ⟨h.frame, hframe, hf.size, hIw⟩ (fun b off c hc => ?_) (fun id ob b hi hb => ?_)
    · have hn := hnotS b off c hc
      refine ⟨hf.cell _ _ (h1.box_lt hc) hn, ?_⟩
      obtain ⟨_, _, cs, e, hsh⟩ := h1.own b off c hc
      obtain ⟨c', hc'⟩ := hf.shape _ _ cs e hsh hn
      exact ⟨c', e, hc'⟩
    · rw [hide_ob] at hi
      exact hf.same b (h.ob_lt hi hb) (hob id ob b hi hb)
  refine h2.agree (m.agree_withI hI _) (fun b off c hc hi => ?_) (fun id ob b hi hb hfz hi' => ?_) (fun b hb => (hI' b hb).1) (fun b hb => ?_)
  · rcases (hI' _ hi).2 with h3 | h3
    · exact (h1.own b off c hc).1 h3
    · rcases h3 (m.bo b + off) with h4 | h4
      · have := h1.box_lt hc; simp only at h4; omega
      · exact hnotS b off c hc h4
  · rw [hide_ob] at hi
    rcases (hI' _ hi').2 with h3 | h3
    · have := (h.objs id ob hi).1.2 b hb
      rw [hfz] at this
      exact this.1 h3
    · rcases h3 0 with h4 | h4
      · have := h.ob_lt hi hb; simp only at h4; omega
      · exact hob id ob b hi hb 0 h4
  · rcases (hI' b hb).2 with h3 | h3
    · exact h.If b h3
    · refine .inr fun o => ?_
      rcases h3 o with h4 | h4
      · exact .inl (Nat.le_trans h.frame.size h4)
      · exact hfree b o h4
/-- A written place is told again. -/
theorem Rel.unhide {q : Nat × Nat × Nat} {H : List (Nat × Nat × Nat)} {cs : List C} {vs : List Value} {c' : List ((Nat × Nat) × C)} (h : Rel cx m (hide (q :: H) st) a w) (hw : Go.Pv.writeC st.c q.1 q.2.1 cs = some c') (hcl : cs.length = q.2.2)
    (hc : CRs cx m w cs vs) (hlt : ∀ c ∈ cs, c.lt st.n) (hrow : Row w (m.bk q.1) (m.bo q.1 + q.2.1) vs) (hqn : q.1 < st.n) (hnI : ¬ m.I (m.bk q.1)) (hfree : ∀ j, j < q.2.2 → cx.free (m.bk q.1) (m.bo q.1 + q.2.1 + j))
    (hsh : ∃ cs e, w.heap[m.bk q.1]? = some (.cells cs e (0, 0))) (hinj : ∀ b o c j, st.cell b o = some c → j < q.2.2 → m.bk b = m.bk q.1 → m.bo b + o = m.bo q.1 + (q.2.1 + j) → b = q.1 ∧ o = q.2.1 + j)
    (hob : ∀ id ob g, st.ob id = some ob → blk (m.hd id) = some g → m.bk q.1 ≠ g) (hfar : ∀ q' ∈ H, far1 q' q = true) (hbox : 0 < q.2.2 → cx.K ≤ q.1 → m.bo q.1 = 0 ∧ ∀ o, cx.free (m.bk q.1) o) : Rel cx m (hide H (st.setCs c')) a w := by
  obtain ⟨g1, g2⟩ := cell_setCs hw
  have hcell : ∀ b o c, (hide H (st.setCs c')).cell b o = some c → (b = q.1 ∧ q.2.1 ≤ o ∧ o < q.2.1 + q.2.2 ∧ cs[o - q.2.1]? = some c) ∨ ((hide (q :: H) st).cell b o = some c ∧ st.cell b o = some c) := by
    intro b o c hc0
    rw [hide_cell, g2] at hc0
    split at hc0
    · cases hc0
    · rename_i hin
      split at hc0
      · rename_i hh; exact .inl ⟨hh.1, hh.2.1, by omega, hc0⟩
      · rename_i hh
        refine .inr ⟨?_, hc0⟩
        rw [hide_cell, if_neg]
        · exact hc0
        · simp only [inH, Bool.or_eq_true, decide_eq_true_eq]
          rintro (h1 | h1)
          · exact hh ⟨h1.1.symm, h1.2.1, by omega⟩
          · exact hin h1
  have hst : ∀ b o c, (hide H (st.setCs c')).cell b o = some c → ∃ c0, st.cell b o = some c0 := by
    intro b o c hc0
    rcases hcell b o c hc0 with ⟨rfl, h1, h2, _⟩ | ⟨_, h1⟩
    · have := g1 (o - q.2.1) (by omega)
      rw [show q.2.1 + (o - q.2.1) = o by omega] at this
      exact Option.isSome_iff_exists.1 this
    · exact ⟨c, h1⟩
  refine { defers := h.defers, size := h.size, slots := fun n v hv => ?_, cells := fun b o c hc0 => ?_, own := fun b o c hc0 => ?_, inj := fun b o c b' o' c2 h1 h2 e1 e2 => ?_, objs := fun id ob hi => ?_, odis := fun id ob id' ob' b h1 h2 => ?_, bdis := fun id ob b o c g h1 h2 h3 => ?_, I := h.I, frame := h.frame, If := h.If, box := fun b o c hc0 hK => (hcell b o c hc0).elim (fun hh => by obtain ⟨rfl, h1, h2, h3⟩ := hh; exact hbox (by omega) hK) (fun hh => h.box b o c hh.1 hK) }
  · rw [hide_slot, St.setCs_slot] at hv
    have := h.slots n v (by rw [hide_slot]; exact hv)
    rw [hide_n] at this
    rw [hide_n, St.setCs_n]; exact this
  · rw [hide_n, St.setCs_n]
    rcases hcell b o c hc0 with ⟨rfl, h1, h2, h3⟩ | ⟨h1, _⟩
    · obtain ⟨cv, v1, v2⟩ := hc.get _ _ h3
      refine ⟨⟨cv, ?_, v2⟩, hlt c (List.mem_of_getElem? h3), hqn⟩
      have := hrow _ cv v1
      rwa [show m.bo q.1 + q.2.1 + (o - q.2.1) = m.bo q.1 + o by omega] at this
    · have := h.cells b o c h1
      rw [hide_n] at this
      exact this
  · rcases hcell b o c hc0 with ⟨rfl, h1, h2, h3⟩ | ⟨h1, _⟩
    · refine ⟨hnI, ?_, hsh⟩
      have := hfree (o - q.2.1) (by omega)
      rwa [show m.bo q.1 + q.2.1 + (o - q.2.1) = m.bo q.1 + o by omega] at this
    · exact h.own b o c h1
  · obtain ⟨c0, h0⟩ := hst b o c h1
    obtain ⟨c0', h0'⟩ := hst b' o' c2 h2
    rcases hcell b o c h1 with ⟨rfl, i1, i2, i3⟩ | ⟨i1, _⟩
    · have := hinj b' o' c0' (o - q.2.1) h0' (by omega) e1.symm (by omega)
      exact ⟨this.1.symm, by omega⟩
    · rcases hcell b' o' c2 h2 with ⟨rfl, j1, j2, j3⟩ | ⟨j1, _⟩
      · have := hinj b o c0 (o' - q.2.1) h0 (by omega) e1 (by omega)
        exact ⟨this.1, by omega⟩
      · exact h.inj _ _ _ _ _ _ i1 j1 e1 e2
  · rw [hide_ob, St.setCs_ob] at hi
    have := h.objs id ob (by rw [hide_ob]; exact hi)
    rw [hide_n] at this
    rw [hide_n, St.setCs_n]; exact this
  · rw [hide_ob, St.setCs_ob] at h1 h2
    exact h.odis id ob id' ob' b (by rw [hide_ob]; exact h1) (by rw [hide_ob]; exact h2)
  · rw [hide_ob, St.setCs_ob] at h1
    rcases hcell b o c h2 with ⟨rfl, i1, i2, i3⟩ | ⟨i1, _⟩
    · exact hob id ob g h1 h3
    · exact h.bdis id ob b o c g (by rw [hide_ob]; exact h1) i1 h3
end Go.Pv
/-! What a call has written, told again; its results. -/
namespace Go.Pv
variable {P : Program} {cx : Cx} {m m' : Mp} {st st' : St} {a : Act} {w w' : World} {R : Type}
theorem encL_length : ∀ {ks : List LK} {x : LDen ks} {st : St}, (encL st ks x).1.length = sizeL ks
  | [], _, _ => rfl
  | .dat t :: r, x, st => by
    have : ∀ (t : Ty) (y : t.den), (cellsOf t y).length = t.size := by
      intro t
      induction t with
      | one t ih => intro y; exact ih y
      | pair p q i1 i2 => intro y; simp [cellsOf, Ty.size, i1, i2]
      | _ => intro y; rfl
    simp only [encL, encK, sizeL, LK.size, List.length_append, this, encL_length (ks := r)]
  | .own e t :: r, x, st => by simp only [encL, encK, sizeL, LK.size, List.length_append, encL_length (ks := r), List.length_singleton]
  | .mp k v :: r, x, st => by simp only [encL, encK, sizeL, LK.size, List.length_append, encL_length (ks := r), List.length_singleton]
/-- What holds of the places that are still to be told. -/
structure HoleOk (cx : Cx) (m : Mp) (st : St) (w : World) (H : List (Nat × Nat × Nat)) (hs : List (Ob × Value)) : Prop where
  cells : ∀ q ∈ H, 0 < q.2.2 ∧ ∀ j, j < q.2.2 → ∃ c, st.cell q.1 (q.2.1 + j) = some c
  lt : ∀ b o c, st.cell b o = some c → b < st.n
  inj : ∀ b o c b' o' c', st.cell b o = some c → st.cell b' o' = some c' → m.bk b = m.bk b' → m.bo b + o = m.bo b' + o' → b = b' ∧ o = o'
  rng : ∀ q ∈ H, ¬ m.I (m.bk q.1) ∧ (∀ j, j < q.2.2 → cx.free (m.bk q.1) (m.bo q.1 + q.2.1 + j)) ∧ ∃ cs e, w.heap[m.bk q.1]? = some (.cells cs e (0, 0))
  obj : ∀ id ob g, st.ob id = some ob → blk (m.hd id) = some g → ∀ q ∈ H, m.bk q.1 ≠ g
  far : ∀ p ∈ hs, ∀ g, blk p.2 = some g → ∀ q ∈ H, m.bk q.1 ≠ g
  nodup : H.Pairwise fun x y => far1 y x = true
  box : ∀ q ∈ H, cx.K ≤ q.1 → m.bo q.1 = 0 ∧ ∀ o, cx.free (m.bk q.1) o
/-- What telling again comes to. -/
structure IosOk (cx : Cx) (m : Mp) (st : St) (a : Act) (w : World) (st' : St) (m' : Mp) (hs hm : List (Ob × Value)) : Prop where
  rel : Rel cx m' st' a w
  agree : Agree st.n m m'
  I : m'.I = m.I
  slot : ∀ i, st'.slot i = st.slot i
  cell : ∀ b off, (st'.cell b off).isSome = (st.cell b off).isSome
  ob : ∀ i, i < st.n → st'.ob i = st.ob i
  n : st.n ≤ st'.n
  held : Held cx m' st' w hs
  fx : Fx st st'
  tr : ∀ b, Tr m' st' b → Tr m st b ∨ ∃ p ∈ hm, blk p.2 = some b
theorem tr_unhide {H : List (Nat × Nat × Nat)} {b : Nat} (h : Tr m (hide H st) b) : Tr m st b := by
  rcases h with h | ⟨id, ob, ho, hb⟩ | ⟨id, off, c, hc, hb⟩
  · exact .inl h
  · rw [hide_ob] at ho; exact .inr (.inl ⟨id, ob, ho, hb⟩)
  · rw [hide_cell] at hc
    split at hc
    · cases hc
    · exact .inr (.inr ⟨id, off, c, hc, hb⟩)
theorem encL_snd_cell : ∀ {ks : List LK} {x : LDen ks} {st : St}, (∀ b off, (encL st ks x).2.cell b off = st.cell b off) ∧ (∀ i, (encL st ks x).2.slot i = st.slot i) ∧ st.n ≤ (encL st ks x).2.n ∧ (∀ i, i < st.n → (encL st ks x).2.ob i = st.ob i) ∧ Fx st (encL st ks x).2
  | [], _, st => ⟨fun _ _ => rfl, fun _ => rfl, Nat.le_refl _, fun _ _ => rfl, Fx.refl _⟩
  | .dat t :: r, x, st => by simp only [encL, encK]; exact encL_snd_cell (ks := r)
  | .own e t :: r, x, st => by
    simp only [encL, encK]
    obtain ⟨h1, h2, h3, h4, h5⟩ := encL_snd_cell (ks := r) (x := x.2) (st := st.addO ⟨false, e, t, x.1, false⟩)
    cases st with
    | mk fs fc fo s c o n =>
    refine ⟨h1, h2, Nat.le_trans (Nat.le_succ _) h3, fun i hi => (h4 i (Nat.lt_succ_of_lt hi)).trans ?_, (Fx.addO _ _).trans h5⟩
    simp only [St.addO, St.ob, lk_cons]; rw [if_neg (Nat.ne_of_gt hi)]
  | .mp kk v :: r, x, st => by
    simp only [encL, encK]
    obtain ⟨h1, h2, h3, h4, h5⟩ := encL_snd_cell (ks := r) (x := x.2) (st := st.addO ⟨true, 0, .pair kk v, x.1, false⟩)
    cases st with
    | mk fs fc fo s c o n =>
    refine ⟨h1, h2, Nat.le_trans (Nat.le_succ _) h3, fun i hi => (h4 i (Nat.lt_succ_of_lt hi)).trans ?_, (Fx.addO _ _).trans h5⟩
    simp only [St.addO, St.ob, lk_cons]; rw [if_neg (Nat.ne_of_gt hi)]
theorem encIos_sound : ∀ {as : List AK} {vs : List V} {y : PDen (ioKs as)} {st st' : St} {m : Mp} {h1 ho : List (Ob × Value)} {rs : List Rng}, encIos st as vs y = some st' → IosR m.I w as y rs h1 → rs = rngs m (ioBs as vs) →
    Rel cx m (hide (ioBs as vs) st) a w → Held cx m (hide (ioBs as vs) st) w (h1 ++ ho) → HoleOk cx m st w (ioBs as vs) (h1 ++ ho) → ∃ m', IosOk cx m st a w st' m' ho h1
  | [], vs, y, st, st', m, h1, ho, rs, he, hi, hrs, h, hh, hk => by
    simp only [encIos, Option.some.injEq] at he
    subst he
    obtain ⟨rfl, rfl⟩ := hi
    have e : ioBs [] vs = [] := by cases vs <;> rfl
    rw [e] at h hh
    have hc : ∀ b o, (hide [] st).cell b o = st.cell b o := fun b o => by rw [hide_cell]; rfl
    refine ⟨m, h.sub (fun n v hv => by rw [hide_slot]; exact hv) (fun b off c hc' => by rw [hc]; exact hc') (fun id ob hi => by rw [hide_ob]; exact hi) (by rw [hide_n]; exact Nat.le_refl _), Agree.refl _ _, rfl, fun _ => rfl, fun _ _ => rfl, fun _ _ => rfl, Nat.le_refl _, ?_, Fx.refl _, fun _ hb => .inl hb⟩
    rw [List.nil_append] at hh
    exact hh.sub (fun b off c hc' => by rw [hc]; exact hc') (fun id ob hi => ⟨ob, by rw [hide_ob]; exact hi⟩)
  | .val k :: as, vs, y, st, st', m, h1, ho, rs, he, hi, hrs, h, hh, hk => by
    cases vs with
    | nil => simp [encIos] at he
    | cons v vs =>
      simp only [encIos] at he
      have e : ioBs (.val k :: as) (v :: vs) = ioBs as vs := by rw [ioBs_cons]; rfl
      rw [e] at h hh hk hrs
      exact encIos_sound he hi hrs h hh hk
  | .ro t :: as, vs, y, st, st', m, h1, ho, rs, he, hi, hrs, h, hh, hk => by
    cases vs with
    | nil => simp [encIos] at he
    | cons v vs =>
      simp only [encIos] at he
      have e : ioBs (.ro t :: as) (v :: vs) = ioBs as vs := by rw [ioBs_cons]; rfl
      rw [e] at h hh hk hrs
      exact encIos_sound he hi hrs h hh hk
  | .fnc f :: as, vs, y, st, st', m, h1, ho, rs, he, hi, hrs, h, hh, hk => by
    cases vs with
    | nil => simp [encIos] at he
    | cons v vs =>
      simp only [encIos] at he
      have e : ioBs (.fnc f :: as) (v :: vs) = ioBs as vs := by rw [ioBs_cons]; rfl
      rw [e] at h hh hk hrs
      exact encIos_sound he hi hrs h hh hk
  | .io ks :: as, vs, y, st, st', m, h1, ho, rs, he, hi, hrs, h, hh, hk => by
    cases vs with
    | nil => simp [encIos] at he
    | cons v vs =>
      simp only [encIos] at he
      split at he
      · rename_i b off
        have e : ioBs (.io ks :: as) (.v false [.ptr b off] :: vs) = (b, off, sizeL ks) :: ioBs as vs := by rw [ioBs_cons]; rfl
        rw [e] at h hh hk hrs
        obtain ⟨r, rs', us, g1, g2, e1, e2, hrow, hlr, hios, _⟩ := hi
        subst e2
        rw [hrs] at e1
        simp only [rngs, List.map_cons, List.cons.injEq] at e1
        obtain ⟨rfl, hrs'⟩ := e1
        simp only at hrow
        split at he
        · rename_i c' hw
          -- the rows that stand in the place
          have hen := encL_hide (H := (b, off, sizeL ks) :: ioBs as vs) ks y.1 st
          obtain ⟨m1, mk⟩ := encL_sound h hen hlr (by rw [← List.append_assoc]; exact hh)
          obtain ⟨c1, c2, c3, c4, c5⟩ := encL_snd_cell (ks := ks) (x := y.1) (st := st)
          have hag : Agree st.n m m1 := by have := mk.agree; rwa [hide_n] at this
          have hbn : b < st.n := by
            obtain ⟨q1, q2⟩ := hk.cells (b, off, sizeL ks) (by simp)
            obtain ⟨c, hc⟩ := q2 0 q1
            exact hk.lt _ _ c hc
          have hqn : ∀ q ∈ (b, off, sizeL ks) :: ioBs as vs, q.1 < st.n := fun q hq => by
            obtain ⟨q1, q2⟩ := hk.cells q hq
            obtain ⟨c, hc⟩ := q2 0 q1
            exact hk.lt _ _ c hc
          have hobj1 : ∀ id ob g, (encL st ks y.1).2.ob id = some ob → blk (m1.hd id) = some g → ∀ q ∈ (b, off, sizeL ks) :: ioBs as vs, m1.bk q.1 ≠ g := by
            intro id ob g hid hg q hq hqe
            rw [hag.bk _ (hqn q hq)] at hqe
            have ht : Tr m1 (hide ((b, off, sizeL ks) :: ioBs as vs) (encL st ks y.1).2) g := .inr (.inl ⟨id, ob, by rw [hide_ob]; exact hid, hg⟩)
            by_cases hlt : id < st.n
            · rw [c4 id hlt] at hid
              rw [hag.hd id hlt] at hg
              exact hk.obj id ob g hid hg q hq hqe
            · rcases mk.tr g ht with h3 | ⟨p, hp, h3⟩
              · -- a number of a new row: it is none of the old ones' blocks
                rcases h3 with h3 | ⟨i, o, h4, h5⟩ | ⟨i, o, c, h4, h5⟩
                · rw [← hqe] at h3; exact (hk.rng q hq).1 h3
                · rw [hide_ob] at h4
                  exact hk.obj i o g h4 h5 q hq hqe
                · rw [hide_cell] at h4
                  split at h4
                  · cases h4
                  · -- an own place and a row share no block
                    have hin := mk.rel.bdis id ob i o c g (by rw [hide_ob]; exact hid)
                    refine hin ?_ hg (by rw [hag.bk i (hk.lt i o c h4)]; exact h5)
                    rename_i hnin
                    rw [hide_cell, if_neg hnin, c1]; exact h4
              · exact hk.far p (List.mem_append_left _ (List.mem_append_left _ hp)) g h3 q hq hqe
          have hrel := Rel.unhide (q := (b, off, sizeL ks)) (H := ioBs as vs) mk.rel hw encL_length mk.crs (by have := mk.lt; rwa [hide_n] at this) (by rw [hag.bk b hbn, hag.bo b hbn]; exact hrow) (Nat.lt_of_lt_of_le hbn c3) (by rw [mk.I, hag.bk b hbn]; exact (hk.rng (b, off, sizeL ks) (by simp)).1)
            (by rw [hag.bk b hbn, hag.bo b hbn]; exact (hk.rng (b, off, sizeL ks) (by simp)).2.1) (by rw [hag.bk b hbn]; exact (hk.rng (b, off, sizeL ks) (by simp)).2.2)
            (fun b' o' c j hc hj e1 e2 => by
              rw [c1] at hc
              have hb' := hk.lt b' o' c hc
              obtain ⟨c0, hc0⟩ := (hk.cells (b, off, sizeL ks) (by simp)).2 j hj
              rw [hag.bk b' hb', hag.bk b hbn] at e1
              rw [hag.bo b' hb', hag.bo b hbn] at e2
              exact hk.inj _ _ _ _ _ _ hc hc0 e1 e2)
            (fun id ob g hid hg => hobj1 id ob g hid hg _ (by simp)) (by
              have := hk.nodup
              cases this with
              | cons p1 p2 => exact p1)
            (fun _ hK => by rw [hag.bk b hbn, hag.bo b hbn]; exact hk.box (b, off, sizeL ks) (by simp) hK)
          obtain ⟨s1, s2⟩ := cell_setCs hw
          have hdom : ∀ b' o', (((encL st ks y.1).2.setCs c').cell b' o').isSome = (st.cell b' o').isSome := by
            intro b' o'
            rw [s2]
            split
            · rename_i hh2
              obtain ⟨rfl, q1, q2⟩ := hh2
              have := s1 (o' - off) (by omega)
              rw [show off + (o' - off) = o' by omega, c1] at this
              rw [this, List.getElem?_eq_getElem (by omega)]; rfl
            · rw [c1]
          have hdom' : ∀ b' o' c, ((encL st ks y.1).2.setCs c').cell b' o' = some c → ∃ c0, st.cell b' o' = some c0 := fun b' o' c hc => by
            have := hdom b' o'
            rw [hc] at this
            exact Option.isSome_iff_exists.1 this.symm
          have hdom2 : ∀ b' o' c, st.cell b' o' = some c → ∃ c0, ((encL st ks y.1).2.setCs c').cell b' o' = some c0 := fun b' o' c hc => by
            have := hdom b' o'
            rw [hc] at this
            exact Option.isSome_iff_exists.1 this
          have hheld2 : Held cx m1 (hide (ioBs as vs) ((encL st ks y.1).2.setCs c')) w (g2 ++ ho) := by
            have hm := mk.held.mem
            refine Held.of (fun p hp => ?_) mk.held.pairwise
            obtain ⟨p1, p2, p3⟩ := hm p hp
            refine ⟨p1, p2, fun g hg => ⟨fun i o hi => (p3 g hg).1 i o (by rw [hide_ob, St.setCs_ob] at hi; rw [hide_ob]; exact hi), fun b' o' c hc => ?_⟩⟩
            rw [hide_cell, s2] at hc
            split at hc
            · cases hc
            · rename_i hnin
              split at hc
              · rename_i hh2
                obtain ⟨rfl, _⟩ := hh2
                rw [hag.bk b' hbn]
                exact hk.far p (by
                  rcases List.mem_append.1 hp with hp | hp
                  · exact List.mem_append_left _ (List.mem_append_right _ hp)
                  · exact List.mem_append_right _ hp) g hg (b', off, sizeL ks) (by simp)
              · rename_i hh2
                refine (p3 g hg).2 b' o' c ?_
                rw [hide_cell, if_neg]
                · exact hc
                · simp only [inH, Bool.or_eq_true, decide_eq_true_eq]
                  rintro (h3 | h3)
                  · exact hh2 ⟨h3.1.symm, h3.2.1, by rw [encL_length]; exact h3.2.2⟩
                  · exact hnin h3
          have hios2 : IosR m1.I w as y.2 rs' g2 := by rw [mk.I]; exact hios
          have hrs2 : rs' = rngs m1 (ioBs as vs) := by
            rw [← hrs']
            refine (List.map_congr_left fun q hq => ?_).symm
            rw [hag.bk _ (hqn q (by simp [hq])), hag.bo _ (hqn q (by simp [hq]))]
          have hk2 : HoleOk cx m1 ((encL st ks y.1).2.setCs c') w (ioBs as vs) (g2 ++ ho) := by
            refine ⟨fun q hq => ?_, fun b' o' c hc => ?_, fun b1 o1 c1' b2 o2 c2' h3 h4 e1 e2 => ?_, fun q hq => ?_, fun id ob g hid hg q hq => ?_, fun p hp g hg q hq => ?_, ?_, fun q hq hK => by rw [hag.bk _ (hqn q (by simp [hq])), hag.bo _ (hqn q (by simp [hq]))]; exact hk.box q (by simp [hq]) hK⟩
            · obtain ⟨q1, q2⟩ := hk.cells q (by simp [hq])
              exact ⟨q1, fun j hj => by obtain ⟨c, hc⟩ := q2 j hj; exact hdom2 _ _ c hc⟩
            · obtain ⟨c0, h3⟩ := hdom' b' o' c hc
              rw [St.setCs_n]
              exact Nat.lt_of_lt_of_le (hk.lt _ _ _ h3) c3
            · obtain ⟨d1, h5⟩ := hdom' _ _ _ h3
              obtain ⟨d2, h6⟩ := hdom' _ _ _ h4
              have l1 := hk.lt _ _ _ h5
              have l2 := hk.lt _ _ _ h6
              rw [hag.bk _ l1, hag.bk _ l2] at e1
              rw [hag.bo _ l1, hag.bo _ l2] at e2
              exact hk.inj _ _ _ _ _ _ h5 h6 e1 e2
            · rw [mk.I, hag.bk _ (hqn q (by simp [hq])), hag.bo _ (hqn q (by simp [hq]))]
              exact hk.rng q (by simp [hq])
            · rw [St.setCs_ob] at hid
              exact hobj1 id ob g hid hg q (by simp [hq])
            · rw [hag.bk _ (hqn q (by simp [hq]))]
              exact hk.far p (by
                rcases List.mem_append.1 hp with hp | hp
                · exact List.mem_append_left _ (List.mem_append_right _ hp)
                · exact List.mem_append_right _ hp) g hg q (by simp [hq])
            · have := hk.nodup; cases this with | cons p1 p2 => exact p2
          obtain ⟨m2, k2⟩ := encIos_sound (h1 := g2) (ho := ho) he hios2 hrs2 hrel hheld2 hk2
          refine ⟨m2, k2.rel, hag.trans k2.agree (by rw [St.setCs_n]; exact c3), k2.I.trans mk.I, fun i => by rw [k2.slot, St.setCs_slot, c2], fun b' o' => by rw [k2.cell, hdom], fun i hi => by rw [k2.ob i (by rw [St.setCs_n]; exact Nat.lt_of_lt_of_le hi c3), St.setCs_ob, c4 i hi], by have := k2.n; rw [St.setCs_n] at this; exact Nat.le_trans c3 this, k2.held, (c5.trans (Fx.writeC hw)).trans k2.fx, fun g hg => ?_⟩
          rcases k2.tr g hg with h3 | ⟨p, hp, h3⟩
          · rcases h3 with h3 | ⟨i, o, h4, h5⟩ | ⟨i, o, c, h4, h5⟩
            · exact .inl (.inl (by rw [← mk.I]; exact h3))
            · rw [St.setCs_ob] at h4
              have ht : Tr m1 (hide ((b, off, sizeL ks) :: ioBs as vs) (encL st ks y.1).2) g := .inr (.inl ⟨i, o, by rw [hide_ob]; exact h4, h5⟩)
              rcases mk.tr g ht with h6 | ⟨p, hp, h6⟩
              · exact .inl (tr_unhide h6)
              · exact .inr ⟨p, List.mem_append_left _ hp, h6⟩
            · obtain ⟨c0, h6⟩ := hdom' i o c h4
              rw [hag.bk i (hk.lt _ _ _ h6)] at h5
              exact .inl (.inr (.inr ⟨i, o, c0, h6, h5⟩))
          · exact .inr ⟨p, List.mem_append_right _ hp, h3⟩
        · cases he
      · cases he
end Go.Pv
/-! The results of a call. -/
namespace Go.Pv
variable {P : Program} {cx : Cx} {m m' : Mp} {st st' : St} {a : Act} {w w' : World} {R : Type}
/-- What holds of the results' blocks that are not told yet. -/
structure GsOk (cx : Cx) (m : Mp) (st : St) (hs : List (Ob × Value)) (gs : List Rng) : Prop where
  free : ∀ r ∈ gs, ¬ Tr m st r.b ∧ ∀ o, cx.free r.b o
  dist : gs.Pairwise fun r s => r.b ≠ s.b
  far : ∀ p ∈ hs, ∀ b, blk p.2 = some b → ∀ r ∈ gs, r.b ≠ b
structure OutsOk (cx : Cx) (m : Mp) (st : St) (a : Act) (w : World) (ps : List (Bool × List C)) (vs : List Value) (st' : St) (m' : Mp) (hm : List (Ob × Value)) (gm : List Rng) : Prop where
  rel : Rel cx m' st' a w
  vrs : VRs cx m' w ps vs
  lt : ∀ p ∈ ps, ∀ c ∈ p.2, c.lt st'.n
  agree : Agree st.n m m'
  I : m'.I = m.I
  slot : ∀ i, st'.slot i = st.slot i
  live : ∀ i, i < st.n → st'.ob i = st.ob i ∧ ∀ off, st'.cell i off = st.cell i off
  n : st.n ≤ st'.n
  fx : Fx st st'
  tr : ∀ b, Tr m' st' b → Tr m st b ∨ (∃ p ∈ hm, blk p.2 = some b) ∨ ∃ r ∈ gm, r.b = b
theorem VRs.agree {n : Nat} (hg : Agree n m m') {ps : List (Bool × List C)} {vs : List Value} (hl : ∀ p ∈ ps, ∀ c ∈ p.2, c.lt n) (h : VRs cx m w ps vs) : VRs cx m' w ps vs := by
  induction h with
  | nil => exact .nil
  | cons h2 _ ih => exact .cons (h2.agree hg (hl _ (by simp))) (ih fun p hp => hl p (by simp [hp]))
theorem Held.addB {g : Nat} {cs : List C} {hs : List (Ob × Value)} (h : Rel cx m st a w) (hh : Held cx m st w hs) (hg : ∀ p ∈ hs, ∀ b, blk p.2 = some b → g ≠ b) : Held cx (m.setBk st.n g 0) (st.addB cs) w hs := by
  refine Held.of (fun p hp => ?_) hh.pairwise
  obtain ⟨p1, p2, p3⟩ := hh.mem p hp
  refine ⟨p1, p2, fun b hb => ⟨fun i o hi => ?_, fun b' off c hc he => ?_⟩⟩
  · rw [St.addB_ob] at hi; exact (p3 b hb).1 i o hi
  · have hag := m.agree_setBk st.n g 0
    cases st with
    | mk fs fc fo s c0 ob n =>
    by_cases hn : b' = n
    · subst hn
      have : g = b := by simpa [Mp.setBk] using he
      exact hg p hp b hb this
    · have h1 : (St.mk fs fc fo s c0 ob n).cell b' off = some c := by
        simp only [St.addB, St.cell, lk2_newC] at hc ⊢
        rw [if_neg (fun hh => hn hh.1.symm)] at hc
        exact hc
      rw [hag.bk b' (h.cells b' off c h1).2.2] at he
      exact (p3 b hb).2 b' off c h1 he
theorem encL_tr_cells {ks : List LK} {x : LDen ks} : ∀ i, i < st.n → (encL st ks x).2.ob i = st.ob i ∧ ∀ off, (encL st ks x).2.cell i off = st.cell i off := by
  intro i hi
  obtain ⟨h1, h2, h3, h4, h5⟩ := encL_snd_cell (ks := ks) (x := x) (st := st)
  exact ⟨h4 i hi, fun off => h1 i off⟩
/-- A result that is a new variable. -/
theorem encBox_sound {ks : List LK} {x : LDen ks} {v : Value} {h1 ho : List (Ob × Value)} {g1 go : List Rng} {b : Nat} {us : List Value} {ccs : Array Value} {e : TypeId} (h : Rel cx m st a w) (hv : v = .pointer (some ⟨b, 0, none⟩)) (hg : g1 = [⟨b, 0, sizeL ks⟩])
    (hrow : Row w b 0 us) (hsh : w.heap[b]? = some (.cells ccs e (0, 0))) (hl : LR m.I w ks x us h1) (hh : Held cx m st w (h1 ++ ho)) (hG : GsOk cx m st (h1 ++ ho) (g1 ++ go)) :
    ∃ m', OutsOk cx m st a w [(false, [.ptr (encL st ks x).2.n 0])] [v] ((encL st ks x).2.addB (encL st ks x).1) m' h1 g1 ∧ Held cx m' ((encL st ks x).2.addB (encL st ks x).1) w ho ∧ GsOk cx m' ((encL st ks x).2.addB (encL st ks x).1) ho go := by
  subst hv; subst hg
  obtain ⟨m1, mk⟩ := encL_sound (cs := (encL st ks x).1) (st' := (encL st ks x).2) h rfl hl hh
  have hb := hG.free ⟨b, 0, sizeL ks⟩ (by simp)
  simp only at hb
  have hnt : ¬ Tr m1 (encL st ks x).2 b := by
    intro ht
    rcases mk.tr b ht with h3 | ⟨p, hp, h3⟩
    · exact hb.1 h3
    · exact hG.far p (by simp [hp]) b h3 ⟨b, 0, sizeL ks⟩ (by simp) rfl
  have hrel := mk.rel.addB' mk.crs mk.lt hsh hrow hnt hb.2
  have hag := m1.agree_setBk (encL st ks x).2.n b 0
  have hself : (m1.setBk (encL st ks x).2.n b 0).bk (encL st ks x).2.n = b := by simp [Mp.setBk]
  have hself0 : (m1.setBk (encL st ks x).2.n b 0).bo (encL st ks x).2.n = 0 := by simp [Mp.setBk]
  have htr : ∀ b', Tr (m1.setBk (encL st ks x).2.n b 0) ((encL st ks x).2.addB (encL st ks x).1) b' → Tr m st b' ∨ (∃ p ∈ h1, blk p.2 = some b') ∨ b' = b := by
    intro b' hb'
    rcases tr_addB mk.rel hb' with h3 | h3
    · rcases mk.tr b' h3 with h4 | h4
      · exact .inl h4
      · exact .inr (.inl h4)
    · exact .inr (.inr h3)
  refine ⟨m1.setBk (encL st ks x).2.n b 0, ⟨hrel, .cons ⟨_, rfl, ?_⟩ .nil, fun p hp c hc => ?_, mk.agree.trans hag mk.n, mk.I, fun i => by rw [St.addB_slot, mk.slot], fun i hi => ?_, by rw [St.addB_n]; exact Nat.le_succ_of_le mk.n, mk.fx.trans (Fx.addB _ _), fun b' hb' => ?_⟩, Held.addB mk.rel mk.held fun p hp b' hb' => ?_, ⟨fun r hr => ⟨fun ht => ?_, (hG.free r (by simp [hr])).2⟩, ?_, fun p hp b' hb' r hr => hG.far p (by simp [hp]) b' hb' r (by simp [hr])⟩⟩
  · simp only [CR, hself, hself0]
  · simp only [List.mem_singleton] at hp; subst hp
    simp only [List.mem_singleton] at hc; subst hc
    simp only [C.lt, St.addB_n]; omega
  · obtain ⟨a1, a2⟩ := encL_tr_cells (ks := ks) (x := x) i hi
    have h3 := mk.n
    have h4 := live_addB (st := (encL st ks x).2) (encL st ks x).1 i (Nat.lt_of_lt_of_le hi h3)
    refine ⟨by rw [St.addB_ob]; exact a1, fun off => ?_⟩
    rw [← a2 off]
    generalize (encL st ks x).2 = st2 at h3
    cases st2 with
    | mk fs fc fo s c o n =>
    simp only [St.addB, St.cell, lk2_newC]
    rw [if_neg (fun hh => by have := hh.1; simp only at h3; omega)]
  · rcases htr b' hb' with h3 | h3 | h3
    · exact .inl h3
    · exact .inr (.inl h3)
    · exact .inr (.inr ⟨⟨b, 0, sizeL ks⟩, by simp, h3.symm⟩)
  · exact hG.far p (by simp [hp]) b' hb' ⟨b, 0, sizeL ks⟩ (by simp)
  · rcases htr _ ht with h3 | ⟨p, hp, h3⟩ | h3
    · exact (hG.free r (by simp [hr])).1 h3
    · exact hG.far p (by simp [hp]) _ h3 r (by simp [hr]) rfl
    · have := hG.dist
      cases this with
      | cons p1 _ => exact p1 r hr h3.symm
  · have := hG.dist
    cases this with
    | cons _ p2 => exact p2
theorem OutsOk.cons {m1 m2 : Mp} {st1 st2 : St} {p : Bool × List C} {v : Value} {ps : List (Bool × List C)} {vs : List Value} {h1 h2 : List (Ob × Value)} {g1 g2 : List Rng} (k1 : OutsOk cx m st a w [p] [v] st1 m1 h1 g1) (k2 : OutsOk cx m1 st1 a w ps vs st2 m2 h2 g2) : OutsOk cx m st a w (p :: ps) (v :: vs) st2 m2 (h1 ++ h2) (g1 ++ g2) where
  rel := k2.rel
  vrs := by
    have := k1.vrs.agree k2.agree k1.lt
    cases this with
    | cons a1 _ => exact .cons a1 k2.vrs
  lt q hq c hc := by
    rcases List.mem_cons.1 hq with rfl | hq
    · exact C.lt_mono k2.n (k1.lt _ (by simp) c hc)
    · exact k2.lt q hq c hc
  agree := k1.agree.trans k2.agree k1.n
  I := k2.I.trans k1.I
  slot i := (k2.slot i).trans (k1.slot i)
  live i hi := by
    obtain ⟨a1, a2⟩ := k1.live i hi
    obtain ⟨b1, b2⟩ := k2.live i (Nat.lt_of_lt_of_le hi k1.n)
    exact ⟨b1.trans a1, fun off => (b2 off).trans (a2 off)⟩
  n := Nat.le_trans k1.n k2.n
  fx := k1.fx.trans k2.fx
  tr b hb := by
    rcases k2.tr b hb with h | ⟨q, hq, h⟩ | ⟨q, hq, h⟩
    · rcases k1.tr b h with h | ⟨q, hq, h⟩ | ⟨q, hq, h⟩
      · exact .inl h
      · exact .inr (.inl ⟨q, by simp [hq], h⟩)
      · exact .inr (.inr ⟨q, by simp [hq], h⟩)
    · exact .inr (.inl ⟨q, by simp [hq], h⟩)
    · exact .inr (.inr ⟨q, by simp [hq], h⟩)
theorem encRs_sound : ∀ {rs : List RK} {x : RDen rs} {st : St} {m : Mp} {vs : List Value} {hs : List (Ob × Value)} {gs : List Rng} {k : List (Bool × List C) → St → Option R} {r : R}, Rel cx m st a w → encRs st rs x k = some r → OutsR m.I w rs x vs hs gs → Held cx m st w hs → GsOk cx m st hs gs →
    ∃ ps st' m', k ps st' = some r ∧ OutsOk cx m st a w ps vs st' m' hs gs
  | [], x, st, m, vs, hs, gs, k, r, h, he, ho, hh, hG => by
    simp only [encRs] at he
    obtain ⟨rfl, rfl, rfl⟩ := ho
    exact ⟨[], st, m, he, h, .nil, fun p hp => (by cases hp), Agree.refl _ _, rfl, fun _ => rfl, fun _ _ => ⟨rfl, fun _ => rfl⟩, Nat.le_refl _, Fx.refl _, fun _ hb => .inl hb⟩
  | ⟨bx, ag, ks, τ, to, of⟩ :: rs, x, st, m, vs, hs, gs, k, r, h, he, ho, hh, hG => by
    obtain ⟨v, vs', h1, h2, g1, g2, rfl, rfl, rfl, o1, o2⟩ := ho
    have fin : ∀ (p : Bool × List C) (st1 : St) (m1 : Mp), (encRs st1 rs x.2 fun ps st'' => k (p :: ps) st'') = some r → OutsOk cx m st a w [p] [v] st1 m1 h1 g1 → Held cx m1 st1 w h2 → GsOk cx m1 st1 h2 g2 →
        ∃ ps st' m', k ps st' = some r ∧ OutsOk cx m st a w ps (v :: vs') st' m' (h1 ++ h2) (g1 ++ g2) := by
      intro p st1 m1 he1 k1 hh1 hG1
      obtain ⟨ps, st', m', e1, e2⟩ := encRs_sound k1.rel he1 (by rw [k1.I]; exact o2) hh1 hG1
      exact ⟨p :: ps, st', m', e1, k1.cons e2⟩
    have boxed : ∀ (y : τ), OutR1 m.I w ⟨.box, ag, ks, τ, to, of⟩ y v h1 g1 → (encRs ((encL st ks (of y)).2.addB (encL st ks (of y)).1) rs x.2 fun ps st'' => k ((false, [.ptr (encL st ks (of y)).2.n 0]) :: ps) st'') = some r →
        ∃ ps st' m', k ps st' = some r ∧ OutsOk cx m st a w ps (v :: vs') st' m' (h1 ++ h2) (g1 ++ g2) := by
      intro y hy he1
      obtain ⟨b, us, cs, e, q1, q2, q3, q4, q5⟩ := hy
      obtain ⟨m1, k1, hh1, hG1⟩ := encBox_sound h q1 q2 q3 q4 q5 hh hG
      exact fin _ _ m1 he1 k1 hh1 hG1
    cases bx with
    | val =>
      simp only [encRs, encRK, encR] at he
      obtain ⟨rfl, us, q1, q2⟩ := o1
      obtain ⟨m1, mk⟩ := encL_sound (cs := (encL st ks (of x.1)).1) (st' := (encL st ks (of x.1)).2) h rfl q2 hh
      refine fin _ _ m1 he ⟨mk.rel, .cons ?_ .nil, fun p hp c hc => ?_, mk.agree, mk.I, mk.slot, fun i hi => encL_tr_cells i hi, mk.n, mk.fx, fun b hb => ?_⟩ mk.held ⟨fun r hr => ⟨fun ht => ?_, (hG.free r (by simpa using hr)).2⟩, by have := hG.dist; simpa using this, fun p hp b hb r hr => hG.far p (by simp [hp]) b hb r (by simpa using hr)⟩
      · simp only [OutR1.VR1sh] at q1
        cases ag with
        | true => simp only at q1; exact ⟨us, q1, mk.crs⟩
        | false =>
          simp only at q1
          subst q1
          have := mk.crs
          generalize (encL st ks (of x.1)).1 = cs at this
          cases this with
          | cons a1 a2 => cases a2; exact ⟨_, rfl, a1⟩
      · simp only [List.mem_singleton] at hp; subst hp; exact mk.lt c hc
      · rcases mk.tr b hb with h3 | h3
        · exact .inl h3
        · exact .inr (.inl h3)
      · rcases mk.tr _ ht with h3 | ⟨p, hp, h3⟩
        · exact (hG.free r (by simpa using hr)).1 h3
        · exact hG.far p (by simp [hp]) _ h3 r (by simpa using hr) rfl
    | box =>
      simp only [encRs, encRK, encR] at he
      split at he
      · cases he
      · exact boxed x.1 o1 he
    | opt =>
      simp only [encRs, encRK, encR] at he
      split at he
      · cases he
      · simp only [OutR] at o1
        have hx : ∃ z : Option τ, (x.1 : Option τ) = z := ⟨_, rfl⟩
        obtain ⟨z, hz⟩ := hx
        cases z with
        | none =>
          simp only [hz, optK] at he
          simp only [hz] at o1
          obtain ⟨q1, rfl, rfl⟩ := o1
          refine fin _ st m he ⟨h, .cons ⟨_, rfl, q1⟩ .nil, fun p hp c hc => ?_, Agree.refl _ _, rfl, fun _ => rfl, fun _ _ => ⟨rfl, fun _ => rfl⟩, Nat.le_refl _, Fx.refl _, fun _ hb => .inl hb⟩ (by simpa using hh) (by simpa using hG)
          simp only [List.mem_singleton] at hp; subst hp
          simp only [List.mem_singleton] at hc; subst hc
          trivial
        | some y =>
          simp only [hz, optK] at he
          simp only [hz] at o1
          exact boxed y o1 he
end Go.Pv
/-! Calls of functions with contracts. -/
namespace Go.Pv
variable {P : Program} {cx : Cx} {m m' : Mp} {st st' : St} {a : Act} {w w' : World} {R : Type}
/-- The new results lie in blocks from their first cell on, of at least one cell. -/
theorem encRs_pos {I : Nat → Prop} : ∀ {rs : List RK} {x : RDen rs} {st : St} {vs : List Value} {hs : List (Ob × Value)} {gs : List Rng} {k : List (Bool × List C) → St → Option R} {r : R}, encRs st rs x k = some r → OutsR I w rs x vs hs gs → ∀ g ∈ gs, g.off = 0 ∧ 0 < g.n
  | [], x, st, vs, hs, gs, k, r, he, ho, g, hg => by
    obtain ⟨_, _, rfl⟩ := ho; cases hg
  | ⟨bx, ag, ks, τ, to, of⟩ :: rs, x, st, vs, hs, gs, k, r, he, ho, g, hg => by
    obtain ⟨v, vs', h1, h2, g1, g2, _, _, rfl, o1, o2⟩ := ho
    have pos : ∀ b : Bool, b = false → Nat.beq (sizeL ks) 0 = b → 0 < sizeL ks := fun b hb hn => by
      rcases Nat.eq_zero_or_pos (sizeL ks) with h0 | h0
      · rw [h0, hb] at hn; cases hn
      · exact h0
    cases bx with
    | val =>
      simp only [encRs, encRK, encR] at he
      obtain ⟨rfl, _⟩ := o1
      exact encRs_pos he o2 g (by simpa using hg)
    | box =>
      simp only [encRs, encRK, encR] at he
      split at he
      · cases he
      · rename_i hb
        obtain ⟨b, us, cs, e, q1, q2, _⟩ := o1
        rcases List.mem_append.1 hg with hg | hg
        · rw [q2] at hg
          simp only [List.mem_singleton] at hg
          subst hg
          exact ⟨rfl, pos _ rfl hb⟩
        · exact encRs_pos he o2 g hg
    | opt =>
      simp only [encRs, encRK, encR] at he
      split at he
      · cases he
      · rename_i hb
        simp only [OutR] at o1
        have hx : ∃ z : Option τ, (x.1 : Option τ) = z := ⟨_, rfl⟩
        obtain ⟨z, hz⟩ := hx
        cases z with
        | none =>
          simp only [hz, optK] at he
          simp only [hz] at o1
          obtain ⟨_, _, rfl⟩ := o1
          exact encRs_pos he o2 g (by simpa using hg)
        | some y =>
          simp only [hz, optK] at he
          simp only [hz] at o1
          obtain ⟨b, us, cs, e, q1, q2, _⟩ := o1
          rcases List.mem_append.1 hg with hg | hg
          · rw [q2] at hg
            simp only [List.mem_singleton] at hg
            subst hg
            exact ⟨rfl, pos _ rfl hb⟩
          · exact encRs_pos he o2 g hg
theorem newA_io1 {dc : DC} {k : AK} {v : V} (h : newA true dc st [k] [v] = true) : ∀ q ∈ ioB k v, dc.old q.1 = false := by
  intro q hq
  unfold ioB at hq
  split at hq
  · simp only [List.mem_singleton] at hq
    subst hq
    simp only [newA, Bool.not_true, Bool.false_or, Bool.and_true, Bool.and_eq_true] at h
    exact newI_old h.1
  · cases hq
theorem newA_io {dc : DC} : ∀ {as : List AK} {vs : List V}, newA true dc st as vs = true → ∀ q ∈ ioBs as vs, dc.old q.1 = false
  | [], vs, _, q, hq => by cases vs <;> simp [ioBs] at hq
  | k :: as, [], _, q, hq => by cases k <;> simp [ioBs] at hq
  | k :: as, v :: vs, h, q, hq => by
    obtain ⟨n1, n2⟩ := newA_cons h
    rw [ioBs_cons] at hq
    rcases List.mem_append.1 hq with hq | hq
    · exact newA_io1 n1 q hq
    · exact newA_io n2 q hq
theorem call_post {s : Ctr} {vs : List V} {us : List Value} {x : PDen (s.args.map AK.ks)} {st1 : St} {m1 : Mp} {hs : List (Ob × Value)} {y : s.ρ} {k : V → St → Option R} {r : R} (h : Rel cx m st a w) (k1 : ArgsOk cx m st a w [] s.args vs us x st1 m1 hs)
    (hap : (nodup1 (ioBs s.args vs) && apart1 (roBs s.args vs) (ioBs s.args vs)) = true) (hk : encOuts st1 s.args vs s.outs (s.out y) k = some r) {e : Ending}
    (hpost : ∃ v vs' I' h1 h2 gs, e = .returned v ∧ v = tupVal vs' ∧ Frame0 ⟨w, SS hs (rngs m (ioBs s.args vs)), 0, fun _ => True, 0⟩ w' ∧ (∀ b, m1.I b → I' b) ∧ (∀ b, m1.I b → w'.heap[b]? = w.heap[b]?) ∧ (∀ b, I' b → b < w'.heap.size ∧ (m1.I b ∨ ∀ o, Cx.free ⟨w, SS hs (rngs m (ioBs s.args vs)), 0, fun _ => True, 0⟩ b o)) ∧
      IosR I' w' s.args (s.out y).1 (rngs m (ioBs s.args vs)) h1 ∧ OutsR I' w' s.outs (s.out y).2 vs' h2 gs ∧ Alone ⟨w, SS hs (rngs m (ioBs s.args vs)), 0, fun _ => True, 0⟩ I' w' (h1 ++ h2) (rngs m (ioBs s.args vs) ++ gs)) :
    ∃ cv, e = .returned cv ∧ ∃ v st' m', k v st' = some r ∧ Rel cx m' st' a w' ∧ VR cx m' w' v cv ∧ v.lt st'.n ∧ Adv cx m st w m' st' w' ∧ (keepsA s.args = true → Keep w w') ∧
      (∀ p : Nat → Prop, (∀ i, p i → i < st.n) → (∀ i ob, st.ob i = some ob → p i → ∃ ob', st1.ob i = some ob') → Live p st st') ∧ (∀ p : Nat → Bool, (∀ i ob, st.ob i = some ob → p i = true → ∃ ob', st1.ob i = some ob') → (∀ q ∈ ioBs s.args vs, p q.1 = false) → Near p cx m st w w') := by
  obtain ⟨v, vs', I', h1, h2, gs, rfl, rfl, q3, q4, q5, q6, q7, q8, q9⟩ := hpost
  have cp := call_pre h k1 hap
  have hheld : Held cx m1 st1 w hs := by have := k1.held; rwa [List.nil_append] at this
  have hrm : rngs m1 (ioBs s.args vs) = rngs m (ioBs s.args vs) := rngs_agree h k1.agree k1.io
  have hcell1 : ∀ q ∈ ioBs s.args vs, ∀ j, j < q.2.2 → ∃ c, st1.cell q.1 (q.2.1 + j) = some c := fun q hq j hj => by
    obtain ⟨c, hc⟩ := (k1.io q hq).2 j hj; exact ⟨c, by rw [k1.le.cell]; exact hc⟩
  rw [← hrm] at cp q3 q6 q7 q9
  -- behind the call
  have R1 := k1.rel.after hheld cp.free cp.ob hcell1 q3 q4 q5 q6
  have hmem := hheld.mem
  have hfr : ∀ b o, Cx.free ⟨w, SS hs (rngs m1 (ioBs s.args vs)), 0, fun _ => True, 0⟩ b o → cx.free b o := by
    rintro b o (h3 | h3)
    · exact .inl (Nat.le_trans h.frame.size h3)
    · exact cp.free b o h3
  have hnotS : ∀ b off c, (hide (ioBs s.args vs) st1).cell b off = some c → ¬ SS hs (rngs m1 (ioBs s.args vs)) (m1.bk b) (m1.bo b + off) := by
    intro b off c hc
    rw [hide_cell] at hc
    split at hc
    · cases hc
    · rename_i hin
      rintro (⟨p, hp, hb⟩ | ⟨r, hr, e1, e2, e3⟩)
      · exact ((hmem p hp).2.2 _ hb).2 b off c hc rfl
      · obtain ⟨q, hq, rfl⟩ := List.mem_map.1 hr
        simp only at e1 e2 e3
        obtain ⟨c', hc'⟩ := hcell1 q hq (m1.bo b + off - (m1.bo q.1 + q.2.1)) (by omega)
        have := k1.rel.inj _ _ _ _ _ _ hc hc' e1 (by omega)
        exact hin (inH_spec.2 ⟨q, hq, this.1.symm, by omega, by omega⟩)
  have hnew : ∀ p ∈ h1 ++ h2, ∀ b, blk p.2 = some b → ¬ I' b ∧ ∀ o, Cx.free ⟨w, SS hs (rngs m1 (ioBs s.args vs)), 0, fun _ => True, 0⟩ b o := by
    intro p hp b hb
    obtain ⟨o1, o2⟩ := q9.ob p hp
    have := o1.2 b hb
    rw [o2] at this
    exact this
  have hheld1 : Held cx (m1.withI I') (hide (ioBs s.args vs) st1) w' (h1 ++ h2) := by
    refine Held.of (fun p hp => ?_) q9.apart
    obtain ⟨o1, o2⟩ := q9.ob p hp
    refine ⟨⟨o1.1, fun b hb => ?_⟩, o2, fun b hb => ⟨fun i o hi he => ?_, fun b' off c hc he => ?_⟩⟩
    · obtain ⟨n1, n2⟩ := hnew p hp b hb
      rw [o2]; exact ⟨n1, fun o => hfr b o (n2 o)⟩
    · rw [hide_ob] at hi
      have he : blk (m1.hd i) = some b := he
      rcases (hnew p hp b hb).2 0 with h3 | h3
      · have := k1.rel.ob_lt hi he; simp only at h3; omega
      · exact cp.ob i o b hi he 0 h3
    · have he : m1.bk b' = b := he
      rcases (hnew p hp b hb).2 (m1.bo b' + off) with h3 | h3
      · rw [hide_cell] at hc
        split at hc
        · cases hc
        · have := k1.rel.box_lt hc; rw [he] at this; simp only at h3; omega
      · exact hnotS b' off c hc (by rw [he]; exact h3)
  have hinr : ∀ q ∈ ioBs s.args vs, (⟨m1.bk q.1, m1.bo q.1 + q.2.1, q.2.2⟩ : Rng) ∈ rngs m1 (ioBs s.args vs) := fun q hq => List.mem_map.2 ⟨q, hq, rfl⟩
  have hshape : ∀ (as : List AK) (y : PDen (ioKs as)) (rs : List Rng) (hh : List (Ob × Value)), IosR I' w' as y rs hh → ∀ r ∈ rs, ∃ cs e, w'.heap[r.b]? = some (.cells cs e (0, 0)) := by
    intro as
    induction as with
    | nil => intro y rs hh hi r hr; obtain ⟨rfl, _⟩ := hi; cases hr
    | cons k as ih =>
      intro y rs hh hi r hr
      cases k with
      | io ks =>
        obtain ⟨r0, rs', us, g1, g2, rfl, _, _, _, h5, h6⟩ := hi
        rcases List.mem_cons.1 hr with rfl | hr
        · exact h6
        · exact ih _ _ _ h5 r hr
      | val k => exact ih _ _ _ hi r hr
      | ro t => exact ih _ _ _ hi r hr
      | fnc f => exact ih _ _ _ hi r hr
  simp only [Bool.and_eq_true] at hap
  unfold encOuts at hk
  split at hk
  · rename_i st2 hio
    obtain ⟨m2, i2⟩ := encIos_sound (a := a) (cx := cx) (h1 := h1) (ho := h2) (m := m1.withI I') hio q7 rfl R1 hheld1 ⟨fun q hq => ⟨(k1.io q hq).1, hcell1 q hq⟩, fun b o c hc => (k1.rel.cells b o c hc).2.2, fun b o c b' o' c' => k1.rel.inj b o c b' o' c', fun q hq => ⟨(q9.rng _ (List.mem_append_left _ (hinr q hq))).1, fun j hj => by
        obtain ⟨c, hc⟩ := hcell1 q hq j hj
        have := (k1.rel.own _ _ c hc).2.1
        rwa [← Nat.add_assoc] at this, hshape _ _ _ _ q7 _ (hinr q hq)⟩, fun id ob g hi hg q hq => by
        obtain ⟨c, hc⟩ := hcell1 q hq 0 (k1.io q hq).1
        exact k1.rel.bdis id ob _ _ c g hi hc hg, fun p hp g hg q hq => q9.far p hp g hg _ (List.mem_append_left _ (hinr q hq)), nodup1_spec hap.1, fun q hq hK => by
        obtain ⟨c, hc⟩ := hcell1 q hq 0 (k1.io q hq).1
        exact k1.rel.box _ _ c hc hK⟩
    have hpos := encRs_pos hk q8
    have hrf : ∀ r ∈ rngs m1 (ioBs s.args vs), ∀ g ∈ gs, ∀ b o, r.has b o → ¬ g.has b o := fun r hr g hg => (List.pairwise_append.1 q9.rfar).2.2 r hr g hg
    -- where a block handed out comes from
    have hwhere : ∀ b, (∀ r ∈ rngs m1 (ioBs s.args vs), ¬ r.has b 0) → Cx.free ⟨w, SS hs (rngs m1 (ioBs s.args vs)), 0, fun _ => True, 0⟩ b 0 → w.heap.size ≤ b ∨ ∃ p ∈ hs, blk p.2 = some b := by
      rintro b hn (h3 | ⟨p, hp, h3⟩ | ⟨r, hr, h3⟩)
      · exact .inl h3
      · exact .inr ⟨p, hp, h3⟩
      · exact absurd h3 (hn r hr)
    have hgw : ∀ g ∈ gs, w.heap.size ≤ g.b ∨ ∃ p ∈ hs, blk p.2 = some g.b := by
      intro g hg
      obtain ⟨p1, p2⟩ := hpos g hg
      refine hwhere g.b (fun r hr hh => hrf r hr g hg g.b 0 hh ⟨rfl, by omega, by omega⟩) ((q9.rng g (List.mem_append_right _ hg)).2 0 (by omega) (by omega))
    have hpw : ∀ p ∈ h1 ++ h2, ∀ b, blk p.2 = some b → w.heap.size ≤ b ∨ ∃ p ∈ hs, blk p.2 = some b := fun p hp b hb =>
      hwhere b (fun r hr hh => q9.far p hp b hb r (List.mem_append_left _ hr) hh.1.symm) ((hnew p hp b hb).2 0)
    have hold : ∀ b, (w.heap.size ≤ b ∨ ∃ p ∈ hs, blk p.2 = some b) → Tr m st b ∨ w.heap.size ≤ b := by
      rintro b (h3 | ⟨p, hp, h3⟩)
      · exact .inr h3
      · obtain ⟨i, ob, h4, h5⟩ := k1.own p hp b h3; exact .inl (.inr (.inl ⟨i, ob, h4, h5⟩))
    have hntr : ∀ b, (w.heap.size ≤ b ∨ ∃ p ∈ hs, blk p.2 = some b) → (∀ i o, st1.ob i = some o → blk (m1.hd i) ≠ some b) ∧ ∀ i off c, st1.cell i off = some c → m1.bk i ≠ b := by
      rintro b (h3 | ⟨p, hp, h3⟩)
      · exact ⟨fun i o hi he => by have := k1.rel.ob_lt hi he; omega, fun i off c hc he => by have := k1.rel.box_lt hc; omega⟩
      · exact (hmem p hp).2.2 b h3
    have hG2 : GsOk cx m2 st2 h2 gs := by
      refine ⟨fun g hg => ⟨fun ht => ?_, fun o => ?_⟩, ?_, fun p hp b hb g hg => q9.far p (List.mem_append_right _ hp) b hb g (List.mem_append_right _ hg)⟩
      · rcases i2.tr _ ht with h3 | ⟨p, hp, h3⟩
        · rcases h3 with h3 | ⟨i, o, h4, h5⟩ | ⟨i, off, c, h4, h5⟩
          · exact (q9.rng g (List.mem_append_right _ hg)).1 h3
          · exact (hntr _ (hgw g hg)).1 i o h4 h5
          · exact (hntr _ (hgw g hg)).2 i off c h4 h5
        · exact q9.far p (List.mem_append_left _ hp) _ h3 g (List.mem_append_right _ hg) rfl
      · rcases hgw g hg with h3 | ⟨p, hp, h3⟩
        · exact .inl (Nat.le_trans h.frame.size h3)
        · obtain ⟨o1, o2, _⟩ := hmem p hp
          have := o1.2 _ h3
          rw [o2] at this
          exact this.2 o
      · have hd := (List.pairwise_append.1 q9.rfar).2.1
        have : ∀ l : List Rng, (∀ g ∈ l, g.off = 0 ∧ 0 < g.n) → (l.Pairwise fun r s => ∀ b o, r.has b o → ¬ s.has b o) → l.Pairwise fun r s => r.b ≠ s.b := by
          intro l
          induction l with
          | nil => intro _ _; exact .nil
          | cons g r ih =>
            intro hl hp
            cases hp with
            | cons p1 p2 =>
              refine .cons (fun s hs he => ?_) (ih (fun g hg => hl g (by simp [hg])) p2)
              obtain ⟨a1, a2⟩ := hl g (by simp)
              obtain ⟨b1, b2⟩ := hl s (by simp [hs])
              exact p1 s hs g.b 0 ⟨rfl, by omega, by omega⟩ ⟨he, by omega, by omega⟩
        exact this gs hpos hd
    obtain ⟨ps, st3, m3, e3, o3⟩ := encRs_sound i2.rel hk (by rw [i2.I]; exact q8) i2.held hG2
    have hn1 : st1.n = st.n := k1.le.n
    have hagree : Agree st.n m m3 := by
      refine (k1.agree.trans ?_ (Nat.le_of_eq hn1.symm))
      refine (m1.agree_withI q4 st1.n).trans ?_ (Nat.le_refl _)
      exact i2.agree.trans o3.agree i2.n
    refine ⟨_, rfl, tupV ps, st3, m3, e3, o3.rel, ?_, ?_, ⟨hagree, (k1.fx.trans i2.fx).trans o3.fx, ?_, fun i => by rw [o3.slot, i2.slot, k1.le.slot], fun b hb => ?_, fun b hb h0 hn => ?_, fun b hb => q5 b (k1.agree.I b hb), q3.size⟩, fun hkp => ?_, fun p hp hgone i hi => ?_, fun p hgone hio2 => ?_⟩
    · have e2 := o3.vrs
      cases e2 with
      | nil => exact ⟨[], rfl, .nil⟩
      | cons a1 a2 =>
        cases a2 with
        | nil => exact a1
        | cons b1 b2 => exact ⟨_, rfl, .cons a1 (.cons b1 b2)⟩
    · have e4 := o3.lt
      match ps, e4 with
      | [], e4 => exact fun p hp => (by cases hp)
      | [(g, cs)], e4 => exact e4 (g, cs) (by simp)
      | p :: q :: r, e4 => exact e4
    · have := i2.n; have := o3.n; omega
    · rcases o3.tr b hb with h3 | ⟨p, hp, h3⟩ | ⟨g, hg, h3⟩
      · rcases i2.tr b h3 with h4 | ⟨p, hp, h4⟩
        · rcases h4 with h4 | h4 | h4
          · have h4 : I' b := h4
            rcases (q6 b h4).2 with h5 | h5
            · exact .inl (k1.tr b (.inl h5))
            · exact hold b (hwhere b (fun r hr hh => (q9.rng r (List.mem_append_left _ hr)).1 (by rw [← hh.1]; exact h4)) (h5 0))
          · exact .inl (k1.tr b (.inr (.inl h4)))
          · exact .inl (k1.tr b (.inr (.inr h4)))
        · exact hold b (hpw p (List.mem_append_left _ hp) b h4)
      · exact hold b (hpw p (List.mem_append_right _ hp) b h3)
      · rw [← h3]; exact hold _ (hgw g hg)
    · refine q3.same b hb fun o hs => hn ?_
      rcases hs with ⟨p, hp, h3⟩ | ⟨r, hr, h3⟩
      · obtain ⟨i, ob, h4, h5⟩ := k1.own p hp b h3; exact .inr (.inl ⟨i, ob, h4, h5⟩)
      · obtain ⟨q, hq, rfl⟩ := List.mem_map.1 hr
        obtain ⟨c, hc⟩ := (k1.io q hq).2 0 (k1.io q hq).1
        refine .inr (.inr ⟨q.1, _, c, hc, ?_⟩)
        have := h3.1
        simp only at this
        rw [this, k1.agree.bk _ (h.cells _ _ c hc).2.2]
    · obtain ⟨e5, e6, _⟩ := k1.keeps hkp
      refine ⟨q3.os, q3.tape, q3.output, q3.size, fun b hb => q3.same b hb fun o => ?_⟩
      rw [e5, e6]
      rintro (⟨p, hp, _⟩ | ⟨r, hr, _⟩)
      · cases hp
      · cases hr
    · have hin := hp i hi
      have hin1 : i < st1.n := by rw [hn1]; exact hin
      obtain ⟨l1, l2⟩ := o3.live i (Nat.lt_of_lt_of_le hin1 i2.n)
      refine ⟨fun off => by rw [l2, i2.cell, k1.le.cell], ?_⟩
      rw [l1, i2.ob i hin1]
      cases hst : st.ob i with
      | none =>
        cases h1' : st1.ob i with
        | none => rfl
        | some o1 => obtain ⟨o2, h2'⟩ := k1.le.ob i o1 h1'; rw [hst] at h2'; cases h2'
      | some ob => obtain ⟨ob', h'⟩ := hgone i ob hst hi; rw [h']; rfl
    · have hF := o3.rel.frame
      refine ⟨q3.size, fun b hb => q5 b (k1.agree.I b hb), fun b o hb hno => ?_, fun b hb hno => ?_, fun id off c hpi hc => ?_, fun id ob b hpi hob hb => ?_⟩
      · rw [hF.cell b o hb hno, h.frame.cell b o hb hno]
      · rw [hF.same b hb hno, h.frame.same b hb hno]
      · have hlt := (h.cells id off c hc).2.2
        refine q3.cell _ _ (h.box_lt hc) ?_
        rintro (⟨p, hp, h3⟩ | ⟨r, hr, h3⟩)
        · have := ((hmem p hp).2.2 _ h3).2 id off c (by rw [k1.le.cell]; exact hc)
          rw [k1.agree.bk _ hlt] at this
          exact this rfl
        · rw [hrm] at hr
          obtain ⟨q, hq, rfl⟩ := List.mem_map.1 hr
          obtain ⟨e1, e2, e3'⟩ := h3
          simp only at e1 e2 e3'
          obtain ⟨c', hc'⟩ := (k1.io q hq).2 (m.bo id + off - (m.bo q.1 + q.2.1)) (by omega)
          have := h.inj _ _ _ _ _ _ hc hc' e1 (by omega)
          have h4 := hio2 q hq
          rw [← this.1, hpi] at h4; cases h4
      · obtain ⟨ob', hob'⟩ := hgone id ob hob hpi
        refine q3.same b (h.ob_lt hob hb) ?_
        exact cp.ob id ob' b hob' (by rw [k1.agree.hd id (h.objs id ob hob).2]; exact hb)
  · cases hk
end Go.Pv
/-! Every operation, carried out as it stands. -/
namespace Go.Pv
variable {P : Program} {cx : Cx} {m m' : Mp} {st st' : St} {a : Act} {w w' : World} {R : Type}
theorem Adv.keep (h : Rel cx m st a w) (hk : Keep w w') : Adv cx m st w m st w' := .of_keep h hk (Agree.refl _ _) (Fx.refl _) (Nat.le_refl _) (fun _ => rfl) (fun _ hb => .inl hb)
theorem HardAns.of_mem {o : Oper} {fc : FC} {dc : DC} {ch : Chk} {k : V → St → Option R} {r : R} (h : Rel cx m st a w) (hr : readsOld fc (fun _ => true) st o.op = true) (hm : MemAns P o fc cx m st a w k r) : HardAns P o fc dc ch cx m st a w k r := by
  obtain ⟨cv, v, h1, h2, h3, h4⟩ := hm
  refine (h4 _ hr w (Near.refl _)).mono fun cv' w'' ⟨e, hk⟩ => ?_
  subst e
  have hs : Same cx m w w'' := ⟨h.frame, (h.keep hk).frame, hk.size, fun b hb => hk.block b (h.I b hb)⟩
  exact ⟨v, st, m, h1, h.keep hk, hs.vr h2, h3, .keep h hk, fun _ => hk, fun _ => Live.refl _ _, fun _ => hk.near h _⟩
theorem PureOk.hard {o : Oper} {fc : FC} {dc : DC} {ch : Chk} {k : V → St → Option R} {r : R} (h : Rel cx m st a w) (hp : PureAns P o cx m st a w k r) : HardAns P o fc dc ch cx m st a w k r := by
  obtain ⟨cv, v, st', m', p⟩ := hp
  refine .value (p.run w) ⟨v, st', m', p.k, p.rel, p.vr, p.lt, ⟨p.agree, p.fx, Nat.le_of_eq p.le.n.symm, p.le.slot, fun b hb => .inl (p.tr b hb), fun _ _ _ _ => rfl, fun _ _ => rfl, Nat.le_refl _⟩, fun _ => Keep.refl _, fun _ => p.live _, fun _ => Near.refl _⟩
theorem oldC_all (c : C) : oldC (fun _ => true) c = true := by cases c <;> rfl
theorem oldCs_all : ∀ cs : List C, oldCs (fun _ => true) cs = true
  | [] => rfl
  | c :: r => by simp only [oldCs, oldC_all, oldCs_all r, Bool.and_self]
theorem decL1_cell {nf : Bool} {t : Ty} {cs r : List C} {y : LDen [.dat t]} (hdl : decL nf st [.dat t] cs = some (y, r, st')) : ∀ b off, st'.cell b off = st.cell b off := by
  simp only [decL, decK] at hdl
  split at hdl
  · rename_i y0 r0 s0 h0
    split at h0
    · rename_i y1 r1 ids h1
      cases nf with
      | true => cases h0; cases hdl; exact fun _ _ => rfl
      | false =>
        simp only at h0
        split at h0
        · rename_i s4 h4
          cases h0; cases hdl
          exact (freezeAll_spec h4).cell
        · cases h0
    · cases h0
  · cases hdl
theorem oldA_all {nf : Bool} : ∀ {as : List AK} {vs : List V} {st st1 st' : St} {x : PDen (as.map AK.ks)}, plainA as = true → (∀ b off, st1.cell b off = st.cell b off) → decArgs nf st1 as vs = some (x, st') → oldA (fun _ => true) st as vs = true
  | [], vs, st, st1, st', x, _, _, hd => by
    simp only [decArgs] at hd
    split at hd
    · rfl
    · cases hd
  | k :: as, vs, st, st1, st', x, hp, hc, hd => by
    simp only [decArgs] at hd
    split at hd
    · rename_i v vs'
      split at hd
      · rename_i x1 s1 hd1
        split at hd
        · rename_i x2 s2 hd2
          have hp2 := (plainA_cons hp).2
          have hcell : ∀ b off, s1.cell b off = st.cell b off := by
            unfold decArg at hd1
            split at hd1
            · rename_i cs hcs
              split at hd1
              · rename_i x' r s3 hdl
                split at hd1
                · simp only [Option.some.injEq, Prod.mk.injEq] at hd1
                  obtain ⟨rfl, rfl⟩ := hd1
                  intro b off
                  cases k with
                  | val k =>
                    cases k with
                    | dat t => exact (decL1_cell hdl b off).trans (hc b off)
                    | own e t => simp [plainA] at hp
                    | mp kt vt => simp [plainA] at hp
                  | ro t => exact (decL1_cell hdl b off).trans (hc b off)
                  | io ks => simp [plainA] at hp
                  | fnc f => simp [plainA] at hp
                · cases hd1
              · cases hd1
            · cases hd1
          have ih := oldA_all (st := st) (st1 := s1) hp2 hcell hd2
          unfold decArg at hd1
          split at hd1
          · rename_i cs hcs
            cases k with
            | val k =>
              simp only [argCells] at hcs
              split at hcs
              · simp only [oldA, oldCs_all, ih, Bool.and_self]
              · cases hcs
            | ro t =>
              simp only [argCells] at hcs
              split at hcs
              · rename_i b off _
                have e1 : readC st b off t.size = some cs := by rw [← hcs]; exact (readC_congr hc b _ _).symm
                simp only [oldA, e1, oldCs_all, ih, Bool.and_self]
              · simp only [oldA, ih, Bool.and_self]
              · cases hcs
            | io ks => simp [plainA] at hp
            | fnc f => simp [plainA] at hp
          · cases hd1
        · cases hd
      · cases hd
    · cases hd
theorem run_callv {o : Oper} {c : Call} {x : Operand} {f : Nat} {caps : Array Value} (ho : o.op = .call c) (hc : c.callee = .value x) (hx : a.eval x = .func (.func f) #[] caps) (he : Entered P f) (w : World) :
    (execOp a.eval o).run P w = .ok (.enter f (c.args.map a.eval ++ caps)) w := by
  simp [execOp, ho, resolve, hc, hx, Deferred.ofValue, invoke, he _ w]
theorem hard_callK {o : Oper} {fc : FC} {dc : DC} {ch : Chk} {f : Nat} {vs : List V} {us : List Value} (hC : CallsOk P fc.cfg.calls) (hG : Glb P cx.S cx.w0) {k : V → St → Option R} {r : R} (h : Rel cx m st a w) (hn0 : dc.n0 ≤ st.n)
    (hv : VsR cx m w st.n vs us) (hrun : ∀ w, Entered P f → (execOp a.eval o).run P w = .ok (.enter f us.toArray) w) (hcls : ch = .keeps → cls fc o.op ≠ .modif)
    (hkeeps : ch = .keeps → ∀ s, lkF fc.cfg.calls f vs = some s → keepsA s.args = true) (htakes : ch = .takes → ∀ s, lkF fc.cfg.calls f vs = some s → newA false dc st s.args vs = true) (hwrites : ch = .writes → ∀ s, lkF fc.cfg.calls f vs = some s → newA true dc st s.args vs = true)
    (hk : (match lkF fc.cfg.calls f vs with
      | none => none
      | some s => match nodup1 (ioBs s.args vs) && apart1 (roBs s.args vs) (ioBs s.args vs) with
        | true => match decArgs false st s.args vs with
          | some (x, st') => (s.f x).bind fun r => encOuts st' s.args vs s.outs (s.out r) k
          | none => none
        | false => none) = some r) : HardAns P o fc dc ch cx m st a w k r := by
  split at hk
  · cases hk
  · rename_i s hs
    obtain ⟨hvalid, hent⟩ := hC f s (lkF_mem hs).1
    split at hk
    · rename_i hap
      split at hk
      · rename_i x st1 hd
        obtain ⟨y, hy, hk⟩ := bind_some hk
        obtain ⟨m1, hs1, k1⟩ := decArgs_sound h hd hv (hs := []) trivial
        have cp := call_pre h k1 hap
        have hcall := hvalid x y hy w m1.I (SS hs1 (rngs m (ioBs s.args vs))) us hs1 (rngs m (ioBs s.args vs)) (h.frame.glb hG cp.free) cp.I cp.args cp.alone cp.hlt cp.rlt
        unfold HardAns Eff
        rw [hrun w hent]
        refine hcall.mono fun e w' hpost => ?_
        obtain ⟨cv, e1, v, st', m', p1, p2, p3, p4, p5, p6, p7, p8⟩ := call_post h k1 hap hk hpost
        have hgone : (ch = .keeps ∧ cls fc o.op ≠ .modif) ∨ ch = .takes ∨ ch = .writes → ∀ i ob, st.ob i = some ob → dc.old i = true → ∃ ob', st1.ob i = some ob' := by
          rintro (hc | hc | hc) i ob hi ho
          · exact (k1.keeps (hkeeps hc.1 s hs)).2.2 i ob hi
          · exact k1.gone dc false (htakes hc s hs) i ob hi ho
          · exact k1.gone dc true (hwrites hc s hs) i ob hi ho
        exact ⟨cv, e1, v, st', m', p1, p2, p3, p4, p5, fun hc => p6 (hkeeps hc.1 s hs), fun hc => p7 _ (fun i hi => DC.old_lt hi hn0) (hgone hc), fun hc => p8 _ (hgone (.inr (.inr hc))) (newA_io (hwrites hc s hs))⟩
      · cases hk
    · cases hk
theorem light_call {o : Oper} {f : Nat} {fc : FC} {vs : List V} {us : List Value} (hC : CallsOk P fc.cfg.calls) (hG : Glb P cx.S cx.w0) {k : V → St → Option R} {r : R} (h : Rel cx m st a w)
    (hv : VsR cx m w st.n vs us) (hrun : ∀ w, Entered P f → (execOp a.eval o).run P w = .ok (.enter f us.toArray) w) {s : Ctr} (hs : lkF fc.cfg.calls f vs = some s) (hl : s.light = true)
    (hk : (match decArgs true st s.args vs with
      | some (x, _) => (s.f x).bind fun r => encRs st s.outs (s.out r).2 fun ps _ => k (tupV ps) st
      | none => none) = some r) : ∃ cv v, k v st = some r ∧ VR cx m w v cv ∧ v.lt st.n ∧ oldA (fun _ => true) st s.args vs = true ∧ ∀ p, oldA p st s.args vs = true → ∀ w', Near p cx m st w w' → Eff P o a w' (fun cv' w'' => cv' = cv ∧ Keep w' w'') := by
  obtain ⟨hmem, _⟩ := lkF_mem hs
  obtain ⟨hvalid, hent⟩ := hC f s hmem
  simp only [Ctr.light, Bool.and_eq_true] at hl
  obtain ⟨hpl, hsc⟩ := hl
  split at hk
  · rename_i x st1 hd
    obtain ⟨y, hy, hk⟩ := bind_some hk
    obtain ⟨ps, e1, e2, e3, e4⟩ := encRs_scal (cx := cx) (m := m) (w := w) hsc st (s.out y).2 (fun ps _ => k (tupV ps) st)
    rw [e1] at hk
    have hvr : VR cx m w (tupV ps) (tupVal (scalOs s.outs (s.out y).2)) := by
      generalize scalOs s.outs (s.out y).2 = us at e2
      cases e2 with
      | nil => exact ⟨[], rfl, .nil⟩
      | cons a1 a2 =>
        cases a2 with
        | nil => rename_i p u; exact a1
        | cons b1 b2 => exact ⟨_, rfl, .cons a1 (.cons b1 b2)⟩
    refine ⟨_, _, hk, hvr, ?_, oldA_all hpl (fun _ _ => rfl) hd, fun p hr w' hn => ?_⟩
    · match ps, e3 with
      | [], e3 => exact fun p hp => (by cases hp)
      | [(g, cs)], e3 => exact e3 _ (g, cs) (by simp)
      | p :: q :: r, e3 => exact e3 _
    · have hargs := light_args h hn hpl hd hr hv
      unfold Eff
      rw [hrun w' hent]
      simp only
      have hcall := hvalid x y hy w' (IP p m st) (fun _ _ => False) us [] [] (hG.sub (fun b hb ho => ⟨(hn.same b hb ho).trans (h.frame.same b hb ho), fun _ h => h⟩) (Nat.le_trans h.frame.size hn.size)) (fun b hb => ⟨?_, fun _ h => h⟩) hargs
        ⟨fun p hp => (by cases hp), .nil, fun p hp => (by cases hp), fun r hr => (by cases hr), .nil⟩ (fun p hp => by cases hp) (fun r hr => by cases hr)
      · refine hcall.mono fun e w'' hpost => ?_
        obtain ⟨v, us, I', h1, h2, gs, q1, q2, q3, q4, q5, q6, q7, q8, q9⟩ := hpost
        refine ⟨v, q1, ?_, ?_⟩
        · rw [q2, outs_scal hsc q8]
        · exact ⟨q3.os, q3.tape, q3.output, q3.size, fun b hb => q3.same b hb (fun _ h => h)⟩
      · rcases hb with hb | ⟨id, ob, _, h2, h3⟩
        · exact Nat.lt_of_lt_of_le (h.I b hb) hn.size
        · exact Nat.lt_of_lt_of_le (h.ob_lt h2 h3) hn.size
  · cases hk
/-- A call, whatever its contract. -/
theorem callK_sound {o : Oper} {fc : FC} {dc : DC} {ch : Chk} {f : Nat} {vs : List V} {us : List Value} (hC : CallsOk P fc.cfg.calls) (hG : Glb P cx.S cx.w0) {k : V → St → Option R} {r : R} (h : Rel cx m st a w) (hn0 : dc.n0 ≤ st.n)
    (hv : VsR cx m w st.n vs us) (hrun : ∀ w, Entered P f → (execOp a.eval o).run P w = .ok (.enter f us.toArray) w) (hcls : ch = .keeps → cls fc o.op ≠ .modif)
    (hkeeps : ch = .keeps → ∀ s, lkF fc.cfg.calls f vs = some s → keepsA s.args = true) (htakes : ch = .takes → ∀ s, lkF fc.cfg.calls f vs = some s → newA false dc st s.args vs = true) (hwrites : ch = .writes → ∀ s, lkF fc.cfg.calls f vs = some s → newA true dc st s.args vs = true)
    (hk : callK fc f vs st k = some r) : HardAns P o fc dc ch cx m st a w k r := by
  unfold callK at hk
  cases hs : lkF fc.cfg.calls f vs with
  | none => rw [hs] at hk; cases hk
  | some s =>
    rw [hs] at hk
    simp only at hk
    cases hl : s.light with
    | true =>
      rw [hl] at hk
      simp only at hk
      obtain ⟨cv, v, h1, h2, h3, h4, h5⟩ := light_call hC hG h hv hrun hs hl hk
      refine (h5 _ h4 w (Near.refl _)).mono fun cv' w'' ⟨e, hk⟩ => ?_
      subst e
      have hsm : Same cx m w w'' := ⟨h.frame, (h.keep hk).frame, hk.size, fun b hb => hk.block b (h.I b hb)⟩
      exact ⟨v, st, m, h1, h.keep hk, hsm.vr h2, h3, .keep h hk, fun _ => hk, fun _ => Live.refl _ _, fun _ => hk.near h _⟩
    | false =>
      rw [hl] at hk
      simp only at hk
      refine hard_callK hC hG h hn0 hv hrun hcls hkeeps htakes hwrites ?_
      rw [hs]
      simp only
      exact hk
theorem VsR.append {n : Nat} {vs vs' : List V} {us us' : List Value} (h : VsR cx m w n vs us) (h' : VsR cx m w n vs' us') : VsR cx m w n (vs ++ vs') (us ++ us') := by
  induction h with
  | nil => exact h'
  | cons h1 h2 _ ih => exact .cons h1 h2 ih
theorem caps_vsr {n : Nat} : ∀ {caps : List Nat}, (∀ b ∈ caps, b < n) → VsR cx m w n (caps.map fun b => one (.ptr b 0)) (caps.map fun b => Value.pointer (some ⟨m.bk b, m.bo b, none⟩))
  | [], _ => .nil
  | b :: r, h => .cons (VR_one (by simp [CR])) (one_lt (h b (by simp))) (caps_vsr fun b' hb' => h b' (by simp [hb']))
/-- **Every operation does what the interpreter does.** -/
theorem opK_sound {o : Oper} {fc : FC} {dc : DC} {ch : Chk} (ht : tysB P fc.cfg.tys = true) (ha : arrsB P fc.cfg.arrs = true) (hC : CallsOk P fc.cfg.calls) (hG : Glb P cx.S cx.w0) {k : V → St → Option R} {r : R} (h : Rel cx m st a w) (hn0 : dc.n0 ≤ st.n)
    (hch : chkOp fc dc st o.op ch = true) (hkc : ch = .keeps → cls fc o.op ≠ .modif) (hk : opK fc o.op o.type st k = some r) : HardAns P o fc dc ch cx m st a w k r := by
  have pure : cls fc o.op = .pure → HardAns P o fc dc ch cx m st a w k r := fun hp => PureOk.hard h (pureK_sound ht ha h hp hk)
  generalize ho : o.op = op at hk
  cases op with
  | move x => exact pure (by rw [ho]; rfl)
  | assign x => exact pure (by rw [ho]; rfl)
  | pick c x y => exact pure (by rw [ho]; rfl)
  | nilCheck x => exact pure (by rw [ho]; rfl)
  | unOp op T x => exact pure (by rw [ho]; rfl)
  | binOp op t x y t' => exact pure (by rw [ho]; rfl)
  | field t x j => exact pure (by rw [ho]; rfl)
  | fieldAddr t x j => exact pure (by rw [ho]; rfl)
  | index t x i => exact pure (by rw [ho]; rfl)
  | indexAddr t x i => exact pure (by rw [ho]; rfl)
  | extract x i => exact pure (by rw [ho]; rfl)
  | slice t x lo hi mx => exact pure (by rw [ho]; rfl)
  | build t parts => exact pure (by rw [ho]; rfl)
  | makeFunc fn first captured => exact pure (by rw [ho]; rfl)
  | load t x =>
    refine .of_mem h ?_ (mem_load ht h ho hk)
    rw [ho]
    simp only [opK] at hk
    split at hk
    · rename_i t' c hty hx
      simp only [readsOld, hx]
      unfold loadK at hk
      split at hk <;> first | rfl | (cases hk; done)
    · cases hk
  | lookup t xm xk okB =>
    refine .of_mem h ?_ (mem_lookup ht h ho hk)
    rw [ho]
    simp only [opK] at hk
    split at hk
    · rename_i hty hx hkx
      simp only [readsOld, hx, oldC_all]
    · cases hk
  | convert s d x =>
    refine .of_mem h ?_ (mem_convert ht h ho hk)
    rw [ho]
    simp only [opK] at hk
    split at hk
    · rename_i h1 h2 hx
      simp only [readsOld, hx, oldC_all]
    · cases hk
  | alloc e =>
    simp only [opK] at hk
    split at hk
    · rename_i t hty; exact hard_alloc ht h hn0 ho hty hk
    · cases hk
  | box e x =>
    simp only [opK] at hk
    split at hk
    · rename_i g cs hx
      split at hk
      · cases hk
      · exact hard_box h hn0 ho hx hk
    · cases hk
  | buildSlice t len parts =>
    simp only [opK] at hk
    split at hk
    · rename_i i hi
      split at hk
      · rename_i e te he
        split at hk
        · rename_i xs ids hel
          split at hk
          · rename_i st1 hfz hl; exact hard_buildSlice ht h hn0 ho hi he hel hfz hl hk
          · cases hk
        · cases hk
      · cases hk
    · cases hk
  | makeMap t rs =>
    cases rs with
    | some _ => simp [opK] at hk
    | none =>
      simp only [opK] at hk
      split at hk
      · rename_i i hi
        split at hk
        · exact hard_makeMap h hn0 ho hk
        · cases hk
      · cases hk
  | makeSlice t l c =>
    simp only [opK] at hk
    split at hk
    · rename_i i ln cp hi hl hc
      split at hk
      · rename_i e te he; exact hard_makeSlice ht h hn0 ho hi hl hc he hk
      · cases hk
    · cases hk
  | store t x y =>
    simp only [opK] at hk
    split at hk
    · rename_i c g cs ty hx hy hty
      split at hk
      · rename_i hok
        cases c with
        | ptr b off =>
          simp only [storeK] at hk
          split at hk
          · rename_i c' hw; exact hard_store_ptr ht h ho hx hy hty hok hw hch hk
          · cases hk
        | sptr id te i off => exact hard_store_sptr ht h ho hx hy hty hok hch hk
        | _ => simp [storeK] at hk
      · cases hk
    · cases hk
  | mapUpdate t xm xk xv =>
    simp only [opK] at hk
    split at hk
    · rename_i kt vt cm ck g cs hty hm hkx hv
      obtain ⟨hg, hk⟩ := whenB_spec hk
      exact hard_mapSet ht h (.inl ho) hty hm hkx hv (by simpa using hg) hch hk
    · cases hk
  | insert t xm xk xv =>
    simp only [opK] at hk
    split at hk
    · rename_i kt vt cm ck g cs hty hm hkx hv
      obtain ⟨hg, hk⟩ := whenB_spec hk
      exact hard_mapSet ht h (.inr ho) hty hm hkx hv (by simpa using hg) hch hk
    · cases hk
  | call c =>
    simp only [opK] at hk
    split at hk
    · rename_i b hb
      split at hk
      · rename_i x hargs
        refine .of_mem h ?_ (mem_len ht h ho hb hargs hk)
        rw [ho]
        split at hk
        · rename_i h1 hx
          simp only [readsOld, hb, hargs, hx, oldC_all]
        · cases hk
      · rename_i x y hargs
        split at hk
        · rename_i t ht0
          split at hk
          · rename_i i hi
            split at hk
            · rename_i e te va vb he hx hy hap; exact hard_append ht h ho hb hargs ht0 hi he hx hy hap hn0 hch hk
            · cases hk
          · cases hk
        · cases hk
      · rename_i x y hargs; exact PureOk.hard h (pure_minmax (mx := false) h ho hb rfl hargs hk)
      · rename_i x y hargs; exact PureOk.hard h (pure_minmax (mx := true) h ho hb rfl hargs hk)
      · cases hk
    · rename_i f hf
      split at hk
      · rename_i vs hvs
        have e5 : (c.args.toList.map a.eval).toArray = c.args.map a.eval := by apply Array.ext'; simp
        refine callK_sound hC hG h hn0 (opds_sound h hvs) (fun w he => by rw [e5]; exact run_call ho hf he w) hkc (fun hc s hs => ?_) (fun hc s hs => ?_) (fun hc s hs => ?_) hk
        · subst hc; rw [ho] at hch; simpa [chkOp, keepsOp, hf, hvs, hs] using hch
        · subst hc; rw [ho] at hch; simpa [chkOp, writesNew, hf, hvs, hs] using hch
        · subst hc; rw [ho] at hch; simpa [chkOp, writesNew, hf, hvs, hs] using hch
      · cases hk
    · rename_i x hne hf
      split at hk
      · rename_i f caps vs hx hvs
        obtain ⟨h1, h2⟩ := opd1_sound h hx
        simp only [CR] at h1
        have hcv : VsR cx m w st.n (caps.map fun b => one (.ptr b 0)) (caps.map fun b => Value.pointer (some ⟨m.bk b, m.bo b, none⟩)) := caps_vsr h2
        refine callK_sound hC hG h hn0 ((opds_sound h hvs).append hcv) (fun w he => ?_) hkc (fun hc s hs => ?_) (fun hc s hs => ?_) (fun hc s hs => ?_) hk
        · rw [run_callv ho hf h1 he w]
          congr 2
          apply Array.ext'
          simp
        · subst hc
          rw [ho] at hch
          simp only [chkOp, keepsOp, hf] at hch
          split at hch
          · rename_i f' heq
            cases heq
            exact absurd rfl (hne _)
          · cases hch
        · subst hc; rw [ho] at hch; simpa [chkOp, writesNew, hf, hx, hvs, hs] using hch
        · subst hc; rw [ho] at hch; simpa [chkOp, writesNew, hf, hx, hvs, hs] using hch
      · cases hk
    · cases hk
  | _ => simp [opK] at hk
end Go.Pv
/-! Regions: the operations one after the other, whatever the order. -/
namespace Go.Pv
variable {P : Program} {cx : Cx} {m m' : Mp} {st st' : St} {a : Act} {w w' : World} {R : Type}
/-- How all goes on, from one point to a later one. -/
structure Evo (m : Mp) (st : St) (a : Act) (w : World) (m' : Mp) (st' : St) (a' : Act) (w' : World) : Prop where
  agree : Agree st.n m m'
  fx : Fx st st'
  keepI : ∀ b, m.I b → w'.heap[b]? = w.heap[b]?
  size : w.heap.size ≤ w'.heap.size
  slots : ∀ n v, lk st.fs n = some v → a'.tmps.getD n undef = a.tmps.getD n undef
theorem Evo.refl (m : Mp) (st : St) (a : Act) (w : World) : Evo m st a w m st a w := ⟨Agree.refl _ _, Fx.refl _, fun _ _ => rfl, Nat.le_refl _, fun _ _ _ => rfl⟩
theorem Evo.trans {m1 m2 : Mp} {st1 st2 : St} {a1 a2 : Act} {w1 w2 : World} (h : Evo m st a w m1 st1 a1 w1) (h' : Evo m1 st1 a1 w1 m2 st2 a2 w2) : Evo m st a w m2 st2 a2 w2 :=
  ⟨h.agree.trans h'.agree h.fx.n, h.fx.trans h'.fx, fun b hb => (h'.keepI b (h.agree.I b hb)).trans (h.keepI b hb), Nat.le_trans h.size h'.size, fun n v hn => (h'.slots n v (by rw [h.fx.fs]; exact hn)).trans (h.slots n v hn)⟩
theorem Evo.keep (h : Rel cx m st a w) (hk : Keep w w') : Evo m st a w m st a w' := ⟨Agree.refl _ _, Fx.refl _, fun b hb => hk.block b (h.I b hb), hk.size, fun _ _ _ => rfl⟩
theorem put_fs {st st' : St} {d : Option Nat} {v : V} (h : st.put d v = some st') : Fx st st' ∧ (∀ n x, lk st.fs n = some x → d ≠ some n) ∧ (∀ b off, st'.cell b off = st.cell b off) ∧ (∀ i, st'.ob i = st.ob i) ∧ st'.n = st.n ∧ ∀ n, st'.slot n = if d = some n then some v else st.slot n := by
  cases d with
  | none => simp only [St.put, Option.some.injEq] at h; subst h; exact ⟨Fx.refl _, fun _ _ _ => by simp, fun _ _ => rfl, fun _ => rfl, rfl, fun n => by simp⟩
  | some k =>
    simp only [St.put] at h
    split at h
    · cases h
    · rename_i hk
      cases st with
      | mk fs fc fo s c o n =>
      simp only [Option.some.injEq] at h
      subst h
      refine ⟨⟨rfl, rfl, rfl, Nat.le_refl _, fun _ _ _ h => h, fun _ _ h => h⟩, fun n x hn he => ?_, fun _ _ => rfl, fun _ => rfl, rfl, fun j => ?_⟩
      · simp only [Option.some.injEq] at he
        subst he
        simp only at hk hn
        rw [hk] at hn; cases hn
      · simp only [St.slot, lk_cons, Option.some.injEq]
        by_cases hj : k = j
        · subst hj; simp
        · simp [hj]
theorem put_tmps {d : Option Nat} {v : Value} {n : Nat} (hd : d ≠ some n) : (a.put d v).tmps.getD n undef = a.tmps.getD n undef := by
  cases d with
  | none => rfl
  | some k =>
    have : k ≠ n := fun e => hd (by rw [e])
    simp only [Act.put, Array.getD_eq_getD_getElem?, Array.getElem?_setIfInBounds_ne this]
theorem Evo.of_adv {v : V} {cv : Value} {d : Option Nat} {st1 : St} (hA : Adv cx m st w m' st1 w') (hp : st1.put d v = some st') : Evo m st a w m' st' (a.put d cv) w' := by
  obtain ⟨h1, h2, _⟩ := put_fs hp
  exact ⟨hA.agree, hA.fx.trans h1, hA.keepI, hA.size, fun n x hn => put_tmps (h2 n x (by rw [hA.fx.fs]; exact hn))⟩
/-- What stays, from the region's begin on. -/
structure Inv (rd : Bool) (old : Nat → Bool) (m0 : Mp) (st0 : St) (m : Mp) (st : St) : Prop where
  agree : Agree st0.n m0 m
  n : st0.n ≤ st.n
  live : rd = true → Live (fun id => old id = true) st0 st
/-- A goal that is reached operation by operation. -/
structure Stepper (fc : FC) (ops : Array Oper) (dc : DC) (cx : Cx) (CO : Nat → Oper → Chk → Prop) (inv : Mp → St → Prop) (G : List Nat → Mp → St → Act → World → Prop) : Prop where
  step : ∀ {i : Nat} {rest : List Nat} {o : Oper} {ch : Chk} {m : Mp} {st : St} {a : Act} {w : World} {R : Type} {kk : St → Option R} {r : R}, ops[i]? = some o → CO i o ch → (∀ d, o.dst = some d → d < cx.nt) → Rel cx m st a w → inv m st → (∀ a' w', Rel cx m st a' w' → Region.wanted o (yielded ops a'.tmps) = true) →
    opC fc dc ch o.op o.type st (fun v st' => match st'.put o.dst v with | some st'' => kk st'' | none => none) = some r →
    (∀ m' st' a' w', Evo m st a w m' st' a' w' → Rel cx m' st' a' w' → inv m' st' → kk st' = some r → G rest m' st' a' w') → G (i :: rest) m st a w
  skip : ∀ {i : Nat} {rest : List Nat} {o : Oper} {ch : Chk} {m : Mp} {st st' : St} {a : Act} {w : World}, ops[i]? = some o → CO i o ch → (∀ d, o.dst = some d → d < cx.nt) → Rel cx m st a w → inv m st → (∀ a' w', Rel cx m st a' w' → Region.wanted o (yielded ops a'.tmps) = false) → o.guard ≠ none →
    st.put o.dst (one .und) = some st' → (∀ a' w', Evo m st a w m st' a' w' → Rel cx m st' a' w' → inv m st' → G rest m st' a' w') → G (i :: rest) m st a w
  weak : ∀ {l : List Nat} {m : Mp} {st st' : St} {a : Act} {w : World}, G l m st' a w → (∀ b, Tr m st' b → Tr m st b) → (∀ n, st.slot n = none → st'.slot n = none) → G l m st a w
/-- The indexes of a row of operations. -/
inductive Idx (ops : Array Oper) (CO : Nat → Oper → Chk → Prop) : List Nat → List (Oper × Chk) → Prop
  | nil : Idx ops CO [] []
  | cons {i o ch l os} : ops[i]? = some o → CO i o ch → Idx ops CO l os → Idx ops CO (i :: l) ((o, ch) :: os)
theorem Idx.split {ops : Array Oper} {CO : Nat → Oper → Chk → Prop} : ∀ {l : List Nat} {os1 os2 : List (Oper × Chk)}, Idx ops CO l (os1 ++ os2) → ∃ l1 l2, l = l1 ++ l2 ∧ Idx ops CO l1 os1 ∧ Idx ops CO l2 os2
  | l, [], os2, h => ⟨[], l, rfl, .nil, h⟩
  | _, p :: os1, os2, .cons h1 h2 h3 => by
    obtain ⟨l1, l2, rfl, h4, h5⟩ := Idx.split h3
    exact ⟨_ :: l1, l2, rfl, .cons h1 h2 h4, h5⟩
theorem cutPick_spec {g : Nat} : ∀ {os A B : List (Oper × Chk)} {p : Oper × Chk}, cutPick g os = some (A, p, B) → os = A ++ p :: B
  | [], _, _, _, h => by simp [cutPick] at h
  | o :: r, A, B, p, h => by
    have rec1 : (match cutPick g r with | some (a, p, b) => some (o :: a, p, b) | none => none) = some (A, p, B) → o :: r = A ++ p :: B := by
      intro h
      split at h
      · rename_i a p' b hc
        cases h
        rw [cutPick_spec hc]; rfl
      · cases h
    unfold cutPick at h
    split at h
    · split at h
      · cases h; rfl
      · exact rec1 h
    · exact rec1 h
theorem lk_app_some {α : Type} {l r : List (Nat × α)} {n : Nat} {v : α} (h : lk l n = some v) : lk (l ++ r) n = some v := by
  induction l with
  | nil => simp [lk] at h
  | cons p l ih =>
    obtain ⟨k, u⟩ := p
    rw [List.cons_append, lk_cons]
    rw [lk_cons] at h
    by_cases hk : k = n
    · simpa [hk] using h
    · simp only [hk, if_false] at h ⊢; exact ih h
theorem lk_app_none {α : Type} {l r : List (Nat × α)} {n : Nat} (h : lk l n = none) : lk (l ++ r) n = lk r n := by
  induction l with
  | nil => rfl
  | cons p l ih =>
    obtain ⟨k, u⟩ := p
    rw [List.cons_append, lk_cons]
    rw [lk_cons] at h
    by_cases hk : k = n
    · simp [hk] at h
    · simp only [hk, if_false] at h ⊢; exact ih h
theorem lk2_app_some {α : Type} {l r : List ((Nat × Nat) × α)} {b o : Nat} {v : α} (h : lk2 l b o = some v) : lk2 (l ++ r) b o = some v := by
  induction l with
  | nil => simp [lk2] at h
  | cons p l ih =>
    obtain ⟨⟨x, y⟩, u⟩ := p
    rw [List.cons_append, lk2_cons]
    rw [lk2_cons] at h
    by_cases hk : x = b ∧ y = o
    · simpa [hk] using h
    · simp only [hk, if_false] at h ⊢; exact ih h
theorem lk2_app_none {α : Type} {l r : List ((Nat × Nat) × α)} {b o : Nat} (h : lk2 l b o = none) : lk2 (l ++ r) b o = lk2 r b o := by
  induction l with
  | nil => rfl
  | cons p l ih =>
    obtain ⟨⟨x, y⟩, u⟩ := p
    rw [List.cons_append, lk2_cons]
    rw [lk2_cons] at h
    by_cases hk : x = b ∧ y = o
    · simp [hk] at h
    · simp only [hk, if_false] at h ⊢; exact ih h
theorem fixAll_look (st : St) (s' : List (Nat × V)) : (∀ b off, (fixAll st s' []).cell b off = st.cell b off) ∧ (∀ i, (fixAll st s' []).ob i = st.ob i) ∧ (fixAll st s' []).n = st.n ∧ (∀ n, (fixAll st s' []).slot n = match lk s' n with | some v => some v | none => st.slot n) ∧
    (∀ n, lk (fixAll st s' []).fs n = st.slot n) ∧ (∀ b off, lk2 (fixAll st s' []).fc b off = st.cell b off) ∧ (∀ i, lk (fixAll st s' []).fo i = st.ob i) ∧ (fixAll st s' []).c = [] ∧ (fixAll st s' []).o = [] := by
  cases st with
  | mk fs fc fo s c o n =>
  simp only [fixAll, St.cell, St.ob, St.slot]
  refine ⟨fun b off => ?_, fun i => ?_, trivial, fun n => ?_, fun n => ?_, fun b off => ?_, fun i => ?_, trivial, trivial⟩
  · simp only [lk2]
    cases h : lk2 c b off with
    | none => rw [lk2_app_none h]
    | some v => rw [lk2_app_some h]
  · simp only [lk]
    cases h : lk o i with
    | none => rw [lk_app_none h]
    | some v => rw [lk_app_some h]
  · cases h' : lk s' n with
    | some v => rfl
    | none =>
      cases h : lk s n with
      | none => simp only [lk_app_none h]
      | some v => simp only [lk_app_some h]
  · cases h : lk s n with
    | none => rw [lk_app_none h]
    | some v => rw [lk_app_some h]
  · cases h : lk2 c b off with
    | none => rw [lk2_app_none h]
    | some v => rw [lk2_app_some h]
  · cases h : lk o i with
    | none => rw [lk_app_none h]
    | some v => rw [lk_app_some h]
theorem yielded_bool {ops : Array Oper} {j g : Nat} {b : Bool} (hd : dstOf ops j = some g) (ht : a.tmps.getD g undef = .bool b) : yielded ops a.tmps j = some b := by
  unfold dstOf at hd
  unfold yielded
  split at hd
  · rename_i o ho
    have : a.tmps[g]? = some (.bool b) := by
      rw [Array.getD_eq_getD_getElem?] at ht
      cases h : a.tmps[g]? with
      | none => rw [h] at ht; cases ht
      | some x => rw [h] at ht; simp at ht; rw [ht]
    simp [ho, hd, this]
  · cases hd
theorem yielded_und {ops : Array Oper} {j g : Nat} (hd : dstOf ops j = some g) (ht : a.tmps.getD g undef = undef) : yielded ops a.tmps j = none := by
  unfold dstOf at hd
  unfold yielded
  split at hd
  · rename_i o ho
    simp only [ho, Option.bind_some, hd]
    cases h : a.tmps[g]? with
    | none => rfl
    | some x =>
      rw [Array.getD_eq_getD_getElem?, h] at ht
      simp at ht
      subst ht
      rfl
  · cases hd
/-- Behind a guarded group: what was there before, and the value told. -/
theorem Rel.group {m1 : Mp} {st1 st2 : St} {a1 : Act} {w1 : World} {s' : List (Nat × V)} {d : Nat} {q : Bool} (h : Rel cx m st a w) (h1 : Rel cx m1 st1 a1 w1) (hE : Evo m (fixAll st s' []) a w m1 st1 a1 w1) (hq : slotB st1 d = some q) (hp : st.put (some d) (one (boolC q)) = some st2) (hd : d < cx.nt) :
    Rel cx m1 st2 a1 w1 ∧ Evo m st a w m1 st2 a1 w1 ∧ (∀ b, Tr m1 st2 b → Tr m1 st1 b) ∧ (∀ n, st1.slot n = none → st2.slot n = none) := by
  obtain ⟨f1, f2, f3, f4, f5, f6, f7, f8, f9⟩ := fixAll_look st s'
  obtain ⟨p1, p2, p3, p4, p5, p6⟩ := put_fs hp
  have hs : Same cx m w w1 := ⟨h.frame, h1.frame, hE.size, hE.keepI⟩
  have hag : Agree st.n m m1 := by have := hE.agree; rwa [f3] at this
  have hn1 : st.n ≤ st1.n := by have := hE.fx.n; rwa [f3] at this
  have hcell : ∀ b off c, st.cell b off = some c → st1.cell b off = some c := by
    intro b off c hc
    have hb := (h.cells b off c hc).2.2
    have h2 := hE.fx.c b off (by rw [f3]; exact hb) (by rw [f8]; rfl)
    unfold St.cell
    rw [h2]
    simp only
    rw [hE.fx.fc, f6]; exact hc
  have hob : ∀ i ob, st.ob i = some ob → st1.ob i = some ob := by
    intro i ob hi
    have hlt := (h.objs i ob hi).2
    have h2 := hE.fx.o i (by rw [f3]; exact hlt) (by rw [f9]; rfl)
    unfold St.ob
    rw [h2]
    simp only
    rw [hE.fx.fo, f7]; exact hi
  have hb0 : a1.tmps.getD d undef = .bool q := by
    unfold slotB at hq
    split at hq
    · rename_i b hsl
      simp only [Option.some.injEq] at hq; subst hq
      obtain ⟨⟨c, e, hc⟩, _⟩ := h1.slots d _ hsl
      cases e
      exact CR_bool hc
    · rename_i b hsl
      simp only [Option.some.injEq] at hq; subst hq
      obtain ⟨⟨c, e, hc⟩, _⟩ := h1.slots d _ hsl
      cases e
      exact hc
    · cases hq
  have hd1 : st1.slot d ≠ none := by
    intro hn
    unfold slotB at hq
    rw [hn] at hq
    cases hq
  refine ⟨{ defers := h1.defers, size := h1.size, slots := fun n v hv => ?_, cells := fun b off c hc => ?_, own := fun b off c hc => ?_, inj := fun b off c b' off' c' hc hc' => ?_, objs := fun i ob hi => ?_, odis := fun i ob i' ob' b hi hi' => ?_, bdis := fun i ob b off c g hi hc => ?_, I := h1.I, frame := h1.frame, If := h1.If, box := fun b off c hc => by rw [p3] at hc; exact h1.box b off c (hcell b off c hc) }, ⟨hag, p1, hE.keepI, hE.size, fun n v hn => ?_⟩, fun b hb => ?_, fun n hn => ?_⟩
  · rw [p6] at hv
    rw [p5]
    split at hv
    · rename_i e
      cases e
      cases hv
      refine ⟨VR_one ?_, one_lt trivial⟩
      rw [hb0]; simp [boolC, CR, RV]
    · rename_i hne
      obtain ⟨v1, v2⟩ := h.slots n v hv
      refine ⟨?_, v2⟩
      rw [hE.slots n v (by rw [f5]; exact hv)]
      exact (hs.vr v1).agree hag v2
  · rw [p3] at hc
    rw [p5]
    obtain ⟨_, c2, c3⟩ := h.cells b off c hc
    exact ⟨(h1.cells b off c (hcell b off c hc)).1, c2, c3⟩
  · rw [p3] at hc; exact h1.own b off c (hcell b off c hc)
  · rw [p3] at hc hc'; exact h1.inj b off c b' off' c' (hcell _ _ _ hc) (hcell _ _ _ hc')
  · rw [p4] at hi
    rw [p5]
    exact ⟨(h1.objs i ob (hob i ob hi)).1, (h.objs i ob hi).2⟩
  · rw [p4] at hi hi'; exact h1.odis i ob i' ob' b (hob _ _ hi) (hob _ _ hi')
  · rw [p4] at hi; rw [p3] at hc; exact h1.bdis i ob b off c g (hob _ _ hi) (hcell _ _ _ hc)
  · have : ∃ v', st.slot n = some v' := by
      unfold St.slot
      cases hh : lk st.s n with
      | none => exact ⟨v, hn⟩
      | some v' => exact ⟨v', rfl⟩
    obtain ⟨v', hv'⟩ := this
    exact hE.slots n v' (by rw [f5]; exact hv')
  · rcases hb with hb | ⟨i, o, ho, hb⟩ | ⟨i, off, c, hc, hb⟩
    · exact .inl hb
    · rw [p4] at ho; exact .inr (.inl ⟨i, o, hob i o ho, hb⟩)
    · rw [p3] at hc; exact .inr (.inr ⟨i, off, c, hcell _ _ _ hc, hb⟩)
  · rw [p6]
    split
    · rename_i e
      cases e
      exact absurd hn hd1
    · cases hh : st.slot n with
      | none => rfl
      | some v =>
        exfalso
        have h3 : lk st1.fs n = some v := by rw [hE.fx.fs, f5]; exact hh
        unfold St.slot at hn
        split at hn
        · cases hn
        · rw [h3] at hn; cases hn
end Go.Pv
namespace Go.Pv
variable {P : Program} {cx : Cx} {m m' : Mp} {st st' : St} {a : Act} {w w' : World} {R : Type}
theorem dstOk_spec {fc : FC} {d : Option Nat} (h : dstOk fc d = true) : ∀ n, d = some n → n < fc.nt := by
  intro n hn
  subst hn
  exact Nat.le_of_ble_eq_true h
theorem Inv.fix {rd : Bool} {old : Nat → Bool} {m0 : Mp} {st0 : St} (h : Inv rd old m0 st0 m st) (hc : ∀ b off, st'.cell b off = st.cell b off) (ho : ∀ i, st'.ob i = st.ob i) (hn : st'.n = st.n) : Inv rd old m0 st0 m st' :=
  ⟨h.agree, by rw [hn]; exact h.n, fun hr id hi => ⟨fun off => by rw [hc]; exact (h.live hr id hi).1 off, by rw [ho]; exact (h.live hr id hi).2⟩⟩
theorem Inv.group {rd : Bool} {old : Nat → Bool} {m0 : Mp} {st0 : St} (h : Inv rd old m0 st0 m st) (hag : Agree st.n m m') (hc : ∀ b off, st'.cell b off = st.cell b off) (ho : ∀ i, st'.ob i = st.ob i) (hn : st'.n = st.n) : Inv rd old m0 st0 m' st' :=
  ⟨h.agree.trans hag h.n, by rw [hn]; exact h.n, fun hr id hi => ⟨fun off => by rw [hc]; exact (h.live hr id hi).1 off, by rw [ho]; exact (h.live hr id hi).2⟩⟩
/-- The row of operations, carried out by such steps. -/
theorem run_sound {fc : FC} {ops : Array Oper} {dc : DC} {CO : Nat → Oper → Chk → Prop} {rd : Bool} {old : Nat → Bool} {m0 : Mp} {st0 : St} {G : List Nat → Mp → St → Act → World → Prop} (hnt : fc.nt = cx.nt) (S : Stepper fc ops dc cx CO (Inv rd old m0 st0) G) :
    ∀ (n : Nat) {l : List Nat} {os : List (Oper × Chk)}, Idx ops CO l os → ∀ {R : Type} {st : St} {kk : St → Option R} {r : R}, runOps fc ops dc n os st kk = some r → ∀ {m : Mp} {a : Act} {w : World} {rest : List Nat}, Rel cx m st a w → Inv rd old m0 st0 m st →
      (∀ m' st' a' w', Evo m st a w m' st' a' w' → Rel cx m' st' a' w' → Inv rd old m0 st0 m' st' → kk st' = some r → G rest m' st' a' w') → G (l ++ rest) m st a w
  | 0, _, _, _, _, _, _, _, hr, _, _, _, _, _, _, _ => by simp [runOps] at hr
  | n + 1, _, _, .nil, _, st, kk, r, hr, m, a, w, rest, h, hI, hK => by
    simp only [runOps] at hr
    exact hK m st a w (Evo.refl _ _ _ _) h hI hr
  | n + 1, _, _, .cons (i := i) (o := o) (ch := ch) (l := l) (os := os) hi hco hx, R', st, kk, r, hr, m, a, w, rest, h, hI, hK => by
    simp only [runOps] at hr
    obtain ⟨hd, hr⟩ := whenB_spec hr
    have hd' : ∀ d, o.dst = some d → d < cx.nt := fun d hdd => by rw [← hnt]; exact dstOk_spec hd d hdd
    rw [List.cons_append]
    -- one operation, carried out
    have one : (∀ a' w', Rel cx m st a' w' → Region.wanted o (yielded ops a'.tmps) = true) → (opC fc dc ch o.op o.type st fun v st' => match st'.put o.dst v with | some st'' => runOps fc ops dc n os st'' kk | none => none) = some r → G (i :: (l ++ rest)) m st a w := by
      intro hw ho
      refine S.step (kk := fun st'' => runOps fc ops dc n os st'' kk) hi hco hd' h hI hw ho fun m1 st1 a1 w1 hE1 h1 hI1 hr1 => ?_
      exact run_sound hnt S n hx hr1 h1 hI1 fun m2 st2 a2 w2 hE2 h2 hI2 hk2 => hK m2 st2 a2 w2 (hE1.trans hE2) h2 hI2 hk2
    have skip : (∀ a' w', Rel cx m st a' w' → Region.wanted o (yielded ops a'.tmps) = false) → o.guard ≠ none → (match st.put o.dst (Go.Pv.one .und) with | some st' => runOps fc ops dc n os st' kk | none => none) = some r → G (i :: (l ++ rest)) m st a w := by
      intro hw hg ho
      split at ho
      · rename_i st1 hp
        exact S.skip hi hco hd' h hI hw hg hp fun a1 w1 hE1 h1 hI1 => run_sound hnt S n hx ho h1 hI1 fun m2 st2 a2 w2 hE2 h2 hI2 hk2 => hK m2 st2 a2 w2 (hE1.trans hE2) h2 hI2 hk2
      · cases ho
    split at hr
    · rename_i hg
      exact one (fun _ _ _ => by simp [Region.wanted, hg]) hr
    · rename_i j want hg
      split at hr
      · cases hr
      · rename_i g hdst
        split at hr
        · rename_i b hsl
          have hy : ∀ a' w', Rel cx m st a' w' → yielded ops a'.tmps j = some b := fun a' w' h' => by
            obtain ⟨⟨c, e, hc⟩, _⟩ := h'.slots g _ hsl
            cases e
            exact yielded_bool hdst hc
          split at hr
          · rename_i hb
            exact one (fun a' w' h' => by simp only [Region.wanted, hg, hy a' w' h']; simpa using hb) hr
          · rename_i hb
            exact skip (fun a' w' h' => by simp only [Region.wanted, hg, hy a' w' h']; simpa using hb) (by rw [hg]; simp) hr
        · rename_i hsl
          have hy : ∀ a' w', Rel cx m st a' w' → yielded ops a'.tmps j = none := fun a' w' h' => by
            obtain ⟨⟨c, e, hc⟩, _⟩ := h'.slots g _ hsl
            cases e
            exact yielded_und hdst hc
          exact skip (fun a' w' h' => by simp [Region.wanted, hg, hy a' w' h']) (by rw [hg]; simp) hr
        · rename_i b hsl
          split at hr
          · rename_i grp p rst hcut
            split at hr
            · rename_i d hpd
              obtain ⟨hpd1, hr⟩ := whenB_spec hr
              obtain ⟨q, hq, hr⟩ := bind_some hr
              have hq' : runOps fc ops dc n (grp ++ [p]) (fixAll st [(g, Go.Pv.one (.lit b))] []) (fun st' => slotB st' d) = some q := by
                cases b <;> exact hq
              split at hr
              · rename_i st2 hp2
                have hos := cutPick_spec hcut
                have hx0 : Idx ops CO (i :: l) ((grp ++ [p]) ++ rst) := by
                  rw [List.append_assoc, List.singleton_append, ← hos]; exact .cons hi hco hx
                obtain ⟨l1, l2, hl, hx1, hx2⟩ := hx0.split
                have hpdst : d < cx.nt := by rw [← hnt]; exact dstOk_spec hpd1 d rfl
                obtain ⟨f1, f2, f3, f4, f5, f6, f7, f8, f9⟩ := fixAll_look st [(g, Go.Pv.one (.lit b))]
                obtain ⟨⟨c, e, hc⟩, hcl⟩ := h.slots g _ hsl
                cases e
                have hgb := CR_bool hc
                have hRf : Rel cx m (fixAll st [(g, Go.Pv.one (.lit b))] []) a w := by
                  refine { defers := h.defers, size := h.size, slots := fun k v hv => ?_, cells := fun b' off c hc => ?_, own := fun b' off c hc => ?_, inj := fun b1 o1 c1 b2 o2 c2 h1 h2 => ?_, objs := fun id ob hi => ?_, odis := fun id ob id' ob' b' h1 h2 => ?_, bdis := fun id ob b' off c g' h1 h2 => ?_, I := h.I, frame := h.frame, If := h.If, box := fun b' off c hc => by rw [f1] at hc; exact h.box b' off c hc }
                  · rw [f4] at hv
                    rw [f3]
                    simp only [lk] at hv
                    by_cases hk : g = k
                    · subst hk
                      simp only [Nat.beq_refl, Option.some.injEq] at hv
                      subst hv
                      exact ⟨VR_one hgb, one_lt trivial⟩
                    · have : Nat.beq g k = false := by
                        cases hb : Nat.beq g k with
                        | false => rfl
                        | true => exact absurd (Nat.eq_of_beq_eq_true hb) hk
                      rw [this] at hv
                      exact h.slots k v hv
                  · rw [f1] at hc; rw [f3]; exact h.cells b' off c hc
                  · rw [f1] at hc; exact h.own b' off c hc
                  · rw [f1] at h1 h2; exact h.inj _ _ _ _ _ _ h1 h2
                  · rw [f2] at hi; rw [f3]; exact h.objs id ob hi
                  · rw [f2] at h1 h2; exact h.odis _ _ _ _ _ h1 h2
                  · rw [f2] at h1; rw [f1] at h2; exact h.bdis _ _ _ _ _ _ h1 h2
                have hweak : G (i :: (l ++ rest)) m (fixAll st [(g, Go.Pv.one (.lit b))] []) a w → G (i :: (l ++ rest)) m st a w := by
                  intro hG
                  refine S.weak hG (fun b' hb' => ?_) fun k hk => ?_
                  · rcases hb' with hb' | ⟨i, o, ho, hb'⟩ | ⟨i, off, c, hc, hb'⟩
                    · exact .inl hb'
                    · rw [f2] at ho; exact .inr (.inl ⟨i, o, ho, hb'⟩)
                    · rw [f1] at hc; exact .inr (.inr ⟨i, off, c, hc, hb'⟩)
                  · rw [f4]
                    simp only [lk]
                    by_cases hk2 : g = k
                    · subst hk2; rw [hsl] at hk; cases hk
                    · have : Nat.beq g k = false := by
                        cases hb : Nat.beq g k with
                        | false => rfl
                        | true => exact absurd (Nat.eq_of_beq_eq_true hb) hk2
                      rw [this]; exact hk
                refine hweak ?_
                have e0 : i :: (l ++ rest) = l1 ++ (l2 ++ rest) := by rw [← List.append_assoc, ← hl]; rfl
                rw [e0]
                refine run_sound hnt S n hx1 hq' hRf (hI.fix f1 f2 f3) fun m1 st1 a1 w1 hE1 h1 hI1 hq1 => ?_
                obtain ⟨g1, g2, g3, g4⟩ := Rel.group h h1 hE1 hq1 hp2 hpdst
                obtain ⟨p1, p2, p3, p4, p5, p6⟩ := put_fs hp2
                refine S.weak (run_sound hnt S n hx2 hr g1 (hI.group g2.agree p3 p4 p5) fun m2 st3 a2 w2 hE2 h2 hI2 hk2 => hK m2 st3 a2 w2 (g2.trans hE2) h2 hI2 hk2) g3 g4
              · cases hr
            · cases hr
          · cases hr
        · cases hr
end Go.Pv
/-! Regions in their own order. -/
namespace Go.Pv
variable {P : Program} {cx : Cx} {m m' : Mp} {st st' : St} {a : Act} {w w' : World} {R : Type}
theorem put_some {d : Option Nat} {v : V} {kk : St → Option R} {r : R} (h : (match st.put d v with | some st'' => kk st'' | none => none) = some r) : ∃ st'', st.put d v = some st'' ∧ kk st'' = some r := by
  split at h
  · rename_i st'' hp; exact ⟨st'', hp, h⟩
  · cases h
theorem opC_spec {fc : FC} {dc : DC} {ch : Chk} {op : Op} {ty : TypeId} {k : V → St → Option R} {r : R} (h : opC fc dc ch op ty st k = some r) : chkOp fc dc st op ch = true ∧ opK fc op ty st k = some r := by
  unfold opC at h
  split at h
  · rename_i hc; exact ⟨hc, h⟩
  · cases h
theorem Inv.put {rd : Bool} {old : Nat → Bool} {m0 : Mp} {st0 st1 : St} {d : Option Nat} {v : V} (h : Inv rd old m0 st0 m st) (hA : Adv cx m st w m' st1 w') (hl : rd = true → Live (fun id => old id = true) st st1) (hp : st1.put d v = some st') : Inv rd old m0 st0 m' st' := by
  obtain ⟨p1, p2, p3, p4, p5, p6⟩ := put_fs hp
  refine ⟨h.agree.trans hA.agree h.n, by rw [p5]; exact Nat.le_trans h.n hA.n, fun hr id hi => ⟨fun off => ?_, ?_⟩⟩
  · rw [p3]; exact ((h.live hr).trans (hl hr) id hi).1 off
  · rw [p4]; exact ((h.live hr).trans (hl hr) id hi).2
theorem plain_stepper {fc : FC} {ops : Array Oper} {m0 : Mp} {st0 : St} {Q : Exit → Act → World → Prop} (ht : tysB P fc.cfg.tys = true) (ha : arrsB P fc.cfg.arrs = true) (hC : CallsOk P fc.cfg.calls) (hG : Glb P cx.S cx.w0) :
    Stepper fc ops ⟨0, []⟩ cx (fun _ _ ch => ch = .no) (Inv false (fun _ => false) m0 st0) (fun l _ _ a w => wpOps P ops Q l a w) where
  step := by
    intro i rest o ch m st a w R kk r hi hco hd h hI hw ho hK
    subst hco
    obtain ⟨hch, hk⟩ := opC_spec ho
    have hA := opK_sound (ch := .no) ht ha hC hG h (Nat.zero_le _) hch (by simp) hk
    show wpOps P ops Q (i :: rest) a w
    rw [wpOps_cons]
    unfold wpOp
    simp only [hi, hw a w h, if_true]
    refine .inl (Eff.wp hA fun cv w' ⟨v, st', m', h1, h2, h3, h4, h5, _⟩ => ?_)
    obtain ⟨st'', hp, hk'⟩ := put_some h1
    exact hK m' st'' _ w' (Evo.of_adv h5 hp) (h2.put hp hd h3 h4) (hI.put h5 (fun h => by cases h) hp) hk'
  skip := by
    intro i rest o ch m st st' a w hi hco hd h hI hw hg hp hK
    show wpOps P ops Q (i :: rest) a w
    rw [wpOps_cons]
    unfold wpOp
    simp only [hi, hw a w h, Bool.false_eq_true, if_false]
    have hA : Adv cx m st w m st w := .keep h (Keep.refl w)
    exact hK _ _ (Evo.of_adv hA hp) (h.put hp hd (VR_one rfl) (one_lt trivial)) (hI.put hA (fun h => by cases h) hp)
  weak h _ _ := h
theorem idx_plain {ops : Array Oper} : ∀ (os : List Oper) (n : Nat), (∀ j o, os[j]? = some o → ops[n + j]? = some o) → Idx ops (fun _ _ ch => ch = .no) (List.range' n os.length) (plainOps os)
  | [], _, _ => .nil
  | o :: r, n, h => by
    simp only [List.length_cons, List.range'_succ, plainOps]
    exact .cons (h 0 o rfl) rfl (idx_plain r (n + 1) fun j o' hj => by
      have := h (j + 1) o' (by simpa using hj)
      rwa [show n + 1 + j = n + (j + 1) by omega])
theorem region_plain {fc : FC} {ops : Array Oper} {id : Nat} {Q : Exit → Act → World → Prop} (ht : tysB P fc.cfg.tys = true) (ha : arrsB P fc.cfg.arrs = true) (hC : CallsOk P fc.cfg.calls) (hG : Glb P cx.S cx.w0) (hnt : fc.nt = cx.nt) {kk : St → Option R} {r : R} (h : Rel cx m st a w)
    (hr : regionK fc id ops false st kk = some r) (hK : ∀ m' st' a' w', Evo m st a w m' st' a' w' → Rel cx m' st' a' w' → kk st' = some r → Q .normal a' w') : (Code.region id ops false).wp P Q a w := by
  unfold regionK at hr
  simp only at hr
  refine wp_region ?_
  have hx := idx_plain (ops := ops) ops.toList 0 (fun j o hj => by simpa using hj)
  have := run_sound (cx := cx) hnt (plain_stepper (Q := Q) (m0 := m) (st0 := st) ht ha hC hG) _ hx hr h ⟨Agree.refl _ _, Nat.le_refl _, fun h => by cases h⟩ (rest := []) fun m' st' a' w' hE h' _ hk => (show wpOps P ops Q [] a' w' from hK m' st' a' w' hE h' hk)
  simpa [List.range_eq_range'] using this
end Go.Pv
/-! Regions that draw their order: whatever order is picked. -/
namespace Go.Pv
variable {P : Program} {cx : Cx} {m m' : Mp} {st st' : St} {a : Act} {w w' : World} {R : Type}
section
variable (P) (fc : FC) (ops : Array Oper) (ms : List Nat) (rd : Bool) (cx : Cx) (m0 : Mp) (st0 : St) (old : Nat → Bool) (Q : Exit → Act → World → Prop)
/-- What an operation's step leaves as it was. -/
def Psi (I : Nat → Prop) (i : Nat) (o : Oper) (w w' : World) : Prop :=
  (cls fc o.op ≠ .modif → Keep w w') ∧ (rd = true → chkOf fc ops ms i o = .writes → Near old cx (m0.withI I) st0 w w')
def stepE (I : Nat → Prop) (i : Nat) (K : Act → World → Prop) (a : Act) (w : World) : Prop :=
  ∃ o, ops[i]? = some o ∧ if Region.wanted o (yielded ops a.tmps) then Eff P o a w (fun v w' => Psi fc ops ms rd cx m0 st0 old I i o w w' ∧ K (a.put o.dst v) w') else K (a.put o.dst undef) w
def wpAnyE (I : Nat → Prop) : Nat → Array Bool → Act → World → Prop
  | 0, L, a, w => Region.ready .any ops L = [] ∧ ∀ w', Keep w w' → Q .normal a w'
  | f + 1, L, a, w => ∀ w', Keep w w' → (Region.ready .any ops L = [] → Q .normal a w') ∧
      ∀ i ∈ Region.ready .any ops L, stepE P fc ops ms rd cx m0 st0 old I i (wpAnyE I f (L.setIfInBounds i true)) a w'
end
variable {fc : FC} {ops : Array Oper} {ms : List Nat} {rd : Bool} {m0 : Mp} {st0 : St} {old : Nat → Bool} {Q : Exit → Act → World → Prop}
theorem stepE.mono {I : Nat → Prop} {i : Nat} {K K' : Act → World → Prop} (hK : ∀ a w, K a w → K' a w) (h : stepE P fc ops ms rd cx m0 st0 old I i K a w) : stepE P fc ops ms rd cx m0 st0 old I i K' a w := by
  obtain ⟨o, ho, h⟩ := h
  refine ⟨o, ho, ?_⟩
  split at h
  · rename_i hw; rw [if_pos hw]; exact h.mono fun v w' ⟨h1, h2⟩ => ⟨h1, hK _ _ h2⟩
  · rename_i hw; rw [if_neg hw]; exact hK _ _ h
theorem wpAnyE.closed {I : Nat → Prop} : ∀ {f : Nat} {L : Array Bool} {a : Act} {w w' : World}, wpAnyE P fc ops ms rd cx m0 st0 old Q I f L a w → Keep w w' → wpAnyE P fc ops ms rd cx m0 st0 old Q I f L a w'
  | 0, _, _, _, _, h, hk => ⟨h.1, fun w'' hk' => h.2 w'' (hk.trans hk')⟩
  | _ + 1, _, _, _, _, h, hk => fun w'' hk' => h w'' (hk.trans hk')
theorem Near.withI {p : Nat → Bool} {I I' : Nat → Prop} (hI : ∀ b, I b → I' b) (h : Near p cx (m.withI I') st w w') : Near p cx (m.withI I) st w w' :=
  ⟨h.size, fun b hb => h.I b (hI b hb), h.out, h.same, h.cell, h.ob⟩
theorem wpAnyE.mono {I I' : Nat → Prop} (hI : ∀ b, I b → I' b) : ∀ {f : Nat} {L : Array Bool} {a : Act} {w : World}, wpAnyE P fc ops ms rd cx m0 st0 old Q I' f L a w → wpAnyE P fc ops ms rd cx m0 st0 old Q I f L a w
  | 0, _, _, _, h => h
  | f + 1, L, a, w, h => fun w' hk => by
    obtain ⟨h1, h2⟩ := h w' hk
    refine ⟨h1, fun i hi => ?_⟩
    obtain ⟨o, ho, h3⟩ := h2 i hi
    refine ⟨o, ho, ?_⟩
    split at h3
    · rename_i hw; rw [if_pos hw]; exact h3.mono fun v w'' ⟨⟨h4, h5⟩, h6⟩ => ⟨⟨h4, fun hr hc => (h5 hr hc).withI hI⟩, wpAnyE.mono hI h6⟩
    · rename_i hw; rw [if_neg hw]; exact wpAnyE.mono hI h3
theorem wpAnyE.any {I : Nat → Prop} : ∀ {f : Nat} {L : Array Bool} {a : Act} {w : World}, wpAnyE P fc ops ms rd cx m0 st0 old Q I f L a w → wpAny P .any ops Q f L a w
  | 0, _, _, w, h => ⟨h.1, h.2 w (Keep.refl w)⟩
  | f + 1, L, a, w, h => by
    obtain ⟨h1, h2⟩ := h w (Keep.refl w)
    refine ⟨h1, fun i hi => ?_⟩
    obtain ⟨o, ho, h3⟩ := h2 i hi
    unfold wpOp
    simp only [ho]
    split
    · rename_i hw
      simp only [hw, if_true] at h3
      exact .inl (h3.wp fun v w' ⟨_, h4⟩ => h4.any)
    · rename_i hw
      simp only [hw, if_false, Bool.false_eq_true] at h3
      exact h3.any
/-! ### What waits for what -/
/-- All that a listed operation waits for is listed. -/
def Closed (ops : Array Oper) (L : Array Bool) : Prop := L.size = ops.size ∧ ∀ (x : Nat) (o : Oper), ops[x]? = some o → L.getD x true = true → ∀ e ∈ o.after, Region.binds .any e = true → L.getD e.on false = true
theorem Closed.set {L : Array Bool} {i : Nat} (h : Closed ops L) (hi : i ∈ Region.ready .any ops L) : Closed ops (L.setIfInBounds i true) := by
  refine ⟨by simpa using h.1, fun x o ho hx e he hb => ?_⟩
  obtain ⟨h0, oi, hoi, hall⟩ := mem_ready.1 hi
  by_cases hxi : i = x
  · subst hxi
    rw [hoi] at ho; cases ho
    exact getD_set_true (hall e he hb)
  · rw [getD_set_ne true hxi] at hx
    exact getD_set_true (h.2 x o ho hx e he hb)
/-- The masks tell what comes before. -/
def MsOk (ops : Array Oper) (ms : List Nat) : Prop := ∀ (x : Nat) (o : Oper), ops[x]? = some o → ∀ j, (ms.getD x 0).testBit j = true → ∃ e ∈ o.after, Region.binds .any e = true ∧ (e.on = j ∨ e.on < x ∧ (ms.getD e.on 0).testBit j = true)
theorem waits_listed (hms : MsOk ops ms) {L : Array Bool} (hc : Closed ops L) {j : Nat} : ∀ (n x : Nat) (o : Oper), x < n → ops[x]? = some o → (∀ e ∈ o.after, Region.binds .any e = true → L.getD e.on false = true) → (ms.getD x 0).testBit j = true → L.getD j false = true
  | 0, _, _, hx, _, _, _ => by omega
  | n + 1, x, o, hx, ho, hall, hb => by
    obtain ⟨e, he, hbind, h1⟩ := hms x o ho j hb
    have hl := hall e he hbind
    rcases h1 with rfl | ⟨h2, h3⟩
    · exact hl
    · have hlt : e.on < L.size := by
        rcases Nat.lt_or_ge e.on L.size with h' | h'
        · exact h'
        · simp [Array.getElem?_eq_none h'] at hl
      have hlt' : e.on < ops.size := by rw [← hc.1]; exact hlt
      obtain ⟨oe, hoe⟩ : ∃ oe, ops[e.on]? = some oe := ⟨ops[e.on], by simp [hlt']⟩
      refine waits_listed hms hc n e.on oe (by omega) hoe (hc.2 e.on oe hoe ?_) h3
      simp [hlt] at hl ⊢; exact hl
theorem ready_waits (hms : MsOk ops ms) {L : Array Bool} (hc : Closed ops L) {x j : Nat} (hx : x ∈ Region.ready .any ops L) (hj : L.getD j true = false) (hb : (ms.getD x 0).testBit j = true) : False := by
  obtain ⟨_, o, ho, hall⟩ := mem_ready.1 hx
  have := waits_listed hms hc (x + 1) x o (by omega) ho hall hb
  rcases Nat.lt_or_ge j L.size with h' | h'
  · simp [h'] at this hj; rw [this] at hj; cases hj
  · simp [Array.getElem?_eq_none h'] at hj
theorem fold_bit {acc : List Nat} {j : Nat} : ∀ (l : List Edge) (s : Nat), (l.foldl (fun s e => match Region.binds .any e with
      | true => s ||| 2 ^ e.on ||| acc.getD e.on 0
      | false => s) s).testBit j = true → s.testBit j = true ∨ ∃ e ∈ l, Region.binds .any e = true ∧ (e.on = j ∨ (acc.getD e.on 0).testBit j = true)
  | [], s, h => .inl h
  | e :: l, s, h => by
    simp only [List.foldl_cons] at h
    rcases fold_bit l _ h with h1 | ⟨e', he', h1⟩
    · cases hb : Region.binds .any e with
      | false => rw [hb] at h1; exact .inl h1
      | true =>
        rw [hb] at h1
        simp only [Nat.testBit_or, Bool.or_eq_true, Nat.testBit_two_pow] at h1
        rcases h1 with (h1 | h1) | h1
        · exact .inl h1
        · exact .inr ⟨e, by simp, hb, .inl (by simpa using h1)⟩
        · exact .inr ⟨e, by simp, hb, .inr h1⟩
    · exact .inr ⟨e', by simp [he'], h1⟩
theorem masks_spec : ∀ (l : List Oper) (acc : List Nat) (pre : List Oper), pre.length = acc.length → (∀ (x : Nat) (o : Oper), pre[x]? = some o → ∀ j, (acc.getD x 0).testBit j = true → ∃ e ∈ o.after, Region.binds .any e = true ∧ (e.on = j ∨ e.on < x ∧ (acc.getD e.on 0).testBit j = true)) →
    ∀ (x : Nat) (o : Oper), (pre ++ l)[x]? = some o → ∀ j, ((masks l acc).getD x 0).testBit j = true → ∃ e ∈ o.after, Region.binds .any e = true ∧ (e.on = j ∨ e.on < x ∧ ((masks l acc).getD e.on 0).testBit j = true)
  | [], acc, pre, hl, h, x, o, hx, j, hb => by
    rw [List.append_nil] at hx
    exact h x o hx j hb
  | o0 :: l, acc, pre, hl, h, x, o, hx, j, hb => by
    simp only [masks] at hb ⊢
    refine masks_spec l _ (pre ++ [o0]) (by simp [hl]) (fun x o hx j hb => ?_) x o (by simpa using hx) j hb
    by_cases hxl : x < acc.length
    · rw [List.getElem?_append_left (by omega)] at hx
      rw [List.getD_eq_getElem?_getD, List.getElem?_append_left hxl, ← List.getD_eq_getElem?_getD] at hb
      obtain ⟨e, he, hbi, h1⟩ := h x o hx j hb
      refine ⟨e, he, hbi, h1.imp (fun h => h) fun ⟨h2, h3⟩ => ⟨h2, ?_⟩⟩
      rw [List.getD_eq_getElem?_getD, List.getElem?_append_left (by omega), ← List.getD_eq_getElem?_getD]
      exact h3
    · have hxe : x = acc.length := by
        have := (List.getElem?_eq_some_iff.1 hx).1
        simp at this; omega
      subst hxe
      rw [List.getElem?_append_right (by omega)] at hx
      have : o = o0 := by
        rw [hl, Nat.sub_self] at hx; simpa using hx.symm
      subst this
      rw [List.getD_eq_getElem?_getD, List.getElem?_append_right (Nat.le_refl _)] at hb
      simp only [Nat.sub_self, List.getElem?_cons_zero, Option.getD_some] at hb
      rcases fold_bit _ _ hb with h1 | ⟨e, he, hbi, h1⟩
      · simp at h1
      · refine ⟨e, by simpa using he, hbi, h1.imp (fun h => h) fun h3 => ?_⟩
        have hlt : e.on < acc.length := by
          rcases Nat.lt_or_ge e.on acc.length with h' | h'
          · exact h'
          · rw [List.getD_eq_getElem?_getD, List.getElem?_eq_none h'] at h3; simp at h3
        refine ⟨hlt, ?_⟩
        rw [List.getD_eq_getElem?_getD, List.getElem?_append_left hlt, ← List.getD_eq_getElem?_getD]
        exact h3
theorem masks_ok (ops : Array Oper) : MsOk ops (masks ops.toList []) := fun x o ho =>
  masks_spec ops.toList [] [] rfl (fun x o hx => by simp at hx) x o (by simpa using ho)
/-! ### What is light may be taken first -/
theorem Eff.of_exec {o : Oper} {Post : Value → World → Prop} {a' : Act} (h : Eff P o a' w Post) (he : execOp a'.eval o = execOp a.eval o) : Eff P o a w Post := by
  unfold Eff at *; rw [he] at h; exact h
theorem first_light {I : Nat → Prop} {i : Nat} {oi : Oper} {v : Value} {Φ : World → Prop} (hms : MsOk ops ms) (hsel : Region.noSelect ops = true) (hi : ops[i]? = some oi) (hcl : cls fc oi.op ≠ .modif) (hchk : chkOf fc ops ms i oi ≠ .writes)
    (hkeep : ∀ w w', Φ w → Keep w w' → Φ w') : ∀ (f : Nat) (L : Array Bool) (a : Act) (w : World), Closed ops L →
      (∀ j oj, ops[j]? = some oj → j ≠ i → L.getD j true = false → (∀ e ∈ oj.after, Region.binds .any e = true → e.on ≠ i) → oi.apart ops oj = true) →
      (∀ j oj, ops[j]? = some oj → j ≠ i → L.getD j true = false → (ms.getD j 0).testBit i = false → ∀ w w', Psi fc ops ms rd cx m0 st0 old I j oj w w' → Φ w → Φ w') →
      i ∈ Region.ready .any ops L → Φ w → ((Region.wanted oi (yielded ops a.tmps) = true ∧ ∀ w', Φ w' → Eff P oi a w' (fun cv w'' => cv = v ∧ Keep w' w'')) ∨ (Region.wanted oi (yielded ops a.tmps) = false ∧ v = undef)) →
      wpAnyE P fc ops ms rd cx m0 st0 old Q I f (L.setIfInBounds i true) (a.put oi.dst v) w → wpAnyE P fc ops ms rd cx m0 st0 old Q I (f + 1) L a w := by
  have hselo := fun j o cs b => Region.noSelect_spec hsel j o cs b
  -- i itself comes up
  have self : ∀ (f : Nat) (L : Array Bool) (a : Act) (w : World), Φ w → ((Region.wanted oi (yielded ops a.tmps) = true ∧ ∀ w', Φ w' → Eff P oi a w' (fun cv w'' => cv = v ∧ Keep w' w'')) ∨ (Region.wanted oi (yielded ops a.tmps) = false ∧ v = undef)) →
      wpAnyE P fc ops ms rd cx m0 st0 old Q I f (L.setIfInBounds i true) (a.put oi.dst v) w → stepE P fc ops ms rd cx m0 st0 old I i (wpAnyE P fc ops ms rd cx m0 st0 old Q I f (L.setIfInBounds i true)) a w := by
    intro f L a w hΦ hy H
    refine ⟨oi, hi, ?_⟩
    rcases hy with ⟨hw, hv⟩ | ⟨hw, rfl⟩
    · rw [if_pos hw]
      refine (hv w hΦ).mono fun cv w' ⟨e, hk⟩ => ?_
      subst e
      exact ⟨⟨fun _ => hk, fun _ hc => absurd hc hchk⟩, H.closed hk⟩
    · rw [if_neg (by rw [hw]; simp)]; exact H
  intro f
  induction f with
  | zero =>
    intro L a w hcl' hfree hstep hr hΦ hy H w1 hk1
    have hΦ1 := hkeep _ _ hΦ hk1
    have H1 := H.closed hk1
    refine ⟨fun h => (by rw [h] at hr; cases hr), fun j hj => ?_⟩
    by_cases hji : j = i
    · subst hji; exact self 0 L a w1 hΦ1 hy H1
    · have := ready_mono hj hji
      rw [H1.1] at this
      cases this
  | succ f ih =>
    intro L a w hcl' hfree hstep hr hΦ hy H w1 hk1
    have hΦ1 := hkeep _ _ hΦ hk1
    have H1 := H.closed hk1
    refine ⟨fun h => (by rw [h] at hr; cases hr), fun j hj => ?_⟩
    by_cases hji : j = i
    · subst hji; exact self (f + 1) L a w1 hΦ1 hy H1
    · obtain ⟨oj, hoj, h1⟩ := (H1 w1 (Keep.refl w1)).2 j (ready_mono hj hji)
      obtain ⟨hjun, oj', hoj', hall⟩ := mem_ready.1 hj
      rw [hoj] at hoj'; cases hoj'
      have hiun := (mem_ready.1 hr).1
      have hnot : ∀ e ∈ oj.after, Region.binds .any e = true → e.on ≠ i := fun e he hb heq => by
        have h1 := hall e he hb
        rw [heq] at h1
        rcases Nat.lt_or_ge i L.size with h' | h'
        · simp [h'] at hiun h1; rw [hiun] at h1; cases h1
        · simp [Array.getElem?_eq_none h'] at h1
      have hnw : (ms.getD j 0).testBit i = false := by
        cases hb : (ms.getD j 0).testBit i with
        | false => rfl
        | true => exact (ready_waits hms hcl' hj hiun hb).elim
      obtain ⟨a1, a2, a3⟩ := Oper.apart_spec (hfree j oj hoj hji hjun hnot)
      have hyk : ∀ u, ((Region.wanted oi (yielded ops (a.put oj.dst u).tmps) = true ∧ ∀ w', Φ w' → Eff P oi (a.put oj.dst u) w' (fun cv w'' => cv = v ∧ Keep w' w'')) ∨ (Region.wanted oi (yielded ops (a.put oj.dst u).tmps) = false ∧ v = undef)) := by
        intro u
        have e1 := execOp_put (ops := ops) oi (fun cs b => hselo i oi cs b hi) a oj.dst u a3
        have e2 := wanted_put (ops := ops) oi a oj.dst u a3
        rw [e2]
        exact hy.imp (fun ⟨h1, h2⟩ => ⟨h1, fun w' hw' => (h2 w' hw').of_exec e1.symm⟩) (fun h => h)
      have hcl2 := hcl'.set hj
      have hunl : ∀ k, (L.setIfInBounds j true).getD k true = false → L.getD k true = false := fun k hun => by
        by_cases hjk : j = k
        · subst hjk; exact hjun
        · rw [getD_set_ne true hjk] at hun; exact hun
      have go : ∀ u w2, Φ w2 → wpAnyE P fc ops ms rd cx m0 st0 old Q I f ((L.setIfInBounds i true).setIfInBounds j true) ((a.put oi.dst v).put oj.dst u) w2 → wpAnyE P fc ops ms rd cx m0 st0 old Q I (f + 1) (L.setIfInBounds j true) (a.put oj.dst u) w2 := by
        intro u w2 hΦ2 H2
        refine ih (L.setIfInBounds j true) (a.put oj.dst u) w2 hcl2 (fun k ok hk hki hun hno => hfree k ok hk hki (hunl k hun) hno) (fun k ok hk hki hun hno => hstep k ok hk hki (hunl k hun) hno) (ready_mono hr (Ne.symm hji)) hΦ2 (hyk u) ?_
        rw [Array.setIfInBounds_comm _ _ hji, ← Act.put_comm a v u a2]
        exact H2
      refine ⟨oj, hoj, ?_⟩
      rw [wanted_put oj a oi.dst v a1] at h1
      split
      · rename_i hw
        rw [if_pos hw] at h1
        refine (h1.of_exec (execOp_put (ops := ops) oj (fun cs b => hselo j oj cs b hoj) a oi.dst v a1)).mono fun u w2 ⟨h2, h3⟩ => ⟨h2, ?_⟩
        exact go u w2 (hstep j oj hoj hji hjun hnw _ _ h2 hΦ1) h3
      · rename_i hw
        rw [if_neg hw] at h1
        exact go undef w1 hΦ1 h1
end Go.Pv
namespace Go.Pv
variable {P : Program} {cx : Cx} {m m' : Mp} {st st' : St} {a : Act} {w w' : World} {R : Type}
variable {fc : FC} {ops : Array Oper} {ms : List Nat} {rd : Bool} {m0 : Mp} {st0 : St} {old : Nat → Bool} {Q : Exit → Act → World → Prop}
/-- An order as the interpreter picks it. -/
def OrdOk (fc : FC) (ops : Array Oper) (ms : List Nat) : Array Bool → List Nat → Prop
  | L, [] => ∀ x : Nat, L.getD x true = true
  | L, i :: r => i ∈ Region.ready .any ops L ∧ ((∃ o, ops[i]? = some o ∧ (cls fc o.op).light = true ∧ Region.free .any ops L i = true) ∨ chain ops ms (Region.ready .any ops L) L i = true) ∧ OrdOk fc ops ms (L.setIfInBounds i true) r
theorem pickFirst_spec {L : Array Bool} : ∀ {l : List Nat} {j : Nat}, pickFirst fc ops L l = some j → j ∈ l ∧ ∃ o, ops[j]? = some o ∧ (cls fc o.op).light = true ∧ Region.free .any ops L j = true
  | [], _, h => by simp [pickFirst] at h
  | i :: r, j, h => by
    simp only [pickFirst] at h
    split at h
    · rename_i o ho
      split at h
      · rename_i hb
        cases h
        simp only [Bool.and_eq_true] at hb
        exact ⟨by simp, o, ho, hb.1, hb.2⟩
      · obtain ⟨h1, h2⟩ := pickFirst_spec h; exact ⟨by simp [h1], h2⟩
    · obtain ⟨h1, h2⟩ := pickFirst_spec h; exact ⟨by simp [h1], h2⟩
theorem hard_sub : ∀ {l : List Nat}, ∀ j ∈ hard ops l, j ∈ l
  | [], j, h => by simp [hard] at h
  | i :: r, j, h => by
    simp only [hard] at h
    split at h
    · split at h
      · exact List.mem_cons_of_mem _ (hard_sub j h)
      · rcases List.mem_cons.1 h with rfl | h
        · simp
        · exact List.mem_cons_of_mem _ (hard_sub j h)
    · rcases List.mem_cons.1 h with rfl | h
      · simp
      · exact List.mem_cons_of_mem _ (hard_sub j h)
theorem mkOrder_ok : ∀ {n : Nat} {L : Array Bool} {l : List Nat}, mkOrder fc ops ms n L = some l → OrdOk fc ops ms L l
  | 0, L, l, h => by
    simp only [mkOrder] at h
    split at h
    · rename_i hn
      cases h
      intro x
      rcases Nat.lt_or_ge x L.size with h' | h'
      · have := List.all_eq_true.1 hn L[x] (by simp)
        simpa [h'] using this
      · simp [Array.getElem?_eq_none h']
    · cases h
  | n + 1, L, l, h => by
    simp only [mkOrder] at h
    split at h
    · rename_i hr; cases h
    · rename_i i r hr
      split at h
      · rename_i j hp
        obtain ⟨h1, h2⟩ := pickFirst_spec hp
        split at h
        · rename_i l' hl
          cases h
          exact ⟨by rw [hr]; exact h1, .inl h2, mkOrder_ok hl⟩
        · cases h
      · split at h
        · rename_i hch
          split at h
          · rename_i l' hl
            cases h
            refine ⟨?_, .inr (by rw [hr]; exact hch), mkOrder_ok hl⟩
            rw [hr]
            split
            · rename_i j r' hh; exact hard_sub j (by rw [hh]; simp)
            · simp
          · cases h
        · cases h
/-- The checks of the operations, as they are laid down before the region. -/
structure COk (fc : FC) (ops : Array Oper) (ms : List Nat) (rd : Bool) (i : Nat) (o : Oper) (ch : Chk) : Prop where
  light : cls fc o.op ≠ .modif → ch = chkOf fc ops ms i o
  wr : chkOf fc ops ms i o = .writes → ch = .writes
  md : cls fc o.op = .modif → ch = .writes ∨ ch = .takes ∨ (ch = .no ∧ rd = false)
  rd : ch = .reads → rd = true
def cnt (ops : Array Oper) (L : Array Bool) : Nat := ((List.range ops.size).filter fun x => !L.getD x true).length
theorem filter_lt {p q : Nat → Bool} {x : Nat} : ∀ {l : List Nat}, (∀ y, q y = true → p y = true) → x ∈ l → p x = true → q x = false → (l.filter q).length < (l.filter p).length
  | [], _, hx, _, _ => by cases hx
  | y :: l, h, hx, h1, h2 => by
    have hle : ∀ l : List Nat, (l.filter q).length ≤ (l.filter p).length := by
      intro l
      induction l with
      | nil => exact Nat.le_refl _
      | cons z l ih =>
        rw [List.filter_cons, List.filter_cons]
        by_cases hz : q z = true
        · simp only [hz, h z hz, if_true, List.length_cons]; omega
        · simp only [hz, Bool.false_eq_true, if_false]
          split <;> (try simp only [List.length_cons]) <;> omega
    rw [List.filter_cons, List.filter_cons]
    rcases List.mem_cons.1 hx with rfl | hx
    · simp only [h1, h2, if_true, Bool.false_eq_true, if_false, List.length_cons]
      have := hle l; omega
    · have ih := filter_lt h hx h1 h2
      by_cases hz : q y = true
      · simp only [hz, h y hz, if_true, List.length_cons]; omega
      · simp only [hz, Bool.false_eq_true, if_false]
        split <;> (try simp only [List.length_cons]) <;> omega
theorem cnt_set {L : Array Bool} {x : Nat} (hx : x ∈ Region.ready .any ops L) : cnt ops (L.setIfInBounds x true) < cnt ops L := by
  obtain ⟨h0, o, ho, _⟩ := mem_ready.1 hx
  have hlt : x < ops.size := (Array.getElem?_eq_some_iff.1 ho).1
  refine filter_lt (x := x) (fun y hy => ?_) (List.mem_range.2 hlt) (by rw [h0]; rfl) ?_
  · by_cases hxy : x = y
    · subst hxy; rw [h0]; rfl
    · rw [getD_set_ne true hxy] at hy; exact hy
  · have : (L.setIfInBounds x true).getD x true = true := by
      rcases Nat.lt_or_ge x L.size with h' | h'
      · simp [h']
      · simp [Array.getElem?_eq_none h'] at h0
    rw [this]; rfl
/-- What an early new thing is. -/
def FVal (P : Program) (fc : FC) (o : Oper) (b : Nat) (w : World) (v : Value) : Prop :=
  (∃ e t, o.op = .alloc e ∧ fc.ty e = some t ∧ w.heap[b]? = some (.cells (zval t).toArray e (0, 0)) ∧ v = .pointer (some ⟨b, 0, none⟩)) ∨
  (∃ t parts i e te, o.op = .buildSlice t 0 parts ∧ lk fc.cfg.tys t = some i ∧ i.el = some (e, te) ∧ w.heap[b]? = some (.cells #[] e (0, 0)) ∧ v = .slice (some ⟨b, 0, none⟩) 0 0)
structure FOK (P : Program) (fc : FC) (ops : Array Oper) (cx : Cx) (F : List (Nat × Nat)) (m : Mp) (st : St) (a : Act) (w : World) : Prop where
  el : ∀ q ∈ F, ∃ o d, ops[q.1]? = some o ∧ floatO o = true ∧ o.dst = some d ∧ FVal P fc o q.2 w (a.tmps.getD d undef) ∧ ¬ Tr m st q.2 ∧ cx.w0.heap.size ≤ q.2 ∧ q.2 < w.heap.size
  dist : F.Pairwise fun q r => q.1 ≠ r.1 ∧ q.2 ≠ r.2
/-- What makes something new has its place free. -/
def FS (fc : FC) (ops : Array Oper) (cx : Cx) (L0 : Array Bool) (st : St) : Prop := ∀ (x : Nat) (o : Oper), ops[x]? = some o → floatO o = true → L0.getD x true = false → ∃ d, o.dst = some d ∧ st.slot d = none ∧ d < cx.nt ∧
  ((∃ e t, o.op = .alloc e ∧ fc.ty e = some t) ∨ ∃ t parts i e te, o.op = .buildSlice t 0 parts ∧ parts.toList = [] ∧ lk fc.cfg.tys t = some i ∧ i.el = some (e, te))
def DstDist (ops : Array Oper) : Prop := ∀ (x y : Nat) (ox oy : Oper) (d : Nat), ops[x]? = some ox → ops[y]? = some oy → ox.dst = some d → oy.dst = some d → x = y
theorem FVal.heap {o : Oper} {b : Nat} {v : Value} (h : FVal P fc o b w v) (hb : w'.heap[b]? = w.heap[b]?) : FVal P fc o b w' v := by
  rcases h with ⟨e, t, h1, h2, h3, h4⟩ | ⟨t, parts, i, e, te, h1, h2, h3, h4, h5⟩
  · exact .inl ⟨e, t, h1, h2, hb.trans h3, h4⟩
  · exact .inr ⟨t, parts, i, e, te, h1, h2, h3, hb.trans h4, h5⟩
theorem FOK.keep {F : List (Nat × Nat)} (h : FOK P fc ops cx F m st a w) (hk : Keep w w') : FOK P fc ops cx F m st a w' :=
  ⟨fun q hq => by obtain ⟨o, d, h1, h2, h3, h4, h5, h6, h7⟩ := h.el q hq; exact ⟨o, d, h1, h2, h3, h4.heap (hk.block _ h7), h5, h6, Nat.lt_of_lt_of_le h7 hk.size⟩, h.dist⟩
theorem FOK.weak {F : List (Nat × Nat)} (h : FOK P fc ops cx F m st a w) (ht : ∀ b, Tr m st' b → Tr m st b) : FOK P fc ops cx F m st' a w :=
  ⟨fun q hq => by obtain ⟨o, d, h1, h2, h3, h4, h5, h6, h7⟩ := h.el q hq; exact ⟨o, d, h1, h2, h3, h4, fun hh => h5 (ht _ hh), h6, h7⟩, h.dist⟩
theorem FOK.step {F : List (Nat × Nat)} {i : Nat} {o : Oper} {cv : Value} {v : V} {st1 : St} (hdd : DstDist ops) (h : FOK P fc ops cx F m st a w) (hi : ops[i]? = some o) (hn : ∀ q ∈ F, q.1 ≠ i) (hA : Adv cx m st w m' st1 w') (hp : st1.put o.dst v = some st') : FOK P fc ops cx F m' st' (a.put o.dst cv) w' := by
  obtain ⟨p1, p2, p3, p4, p5, p6⟩ := put_fs hp
  refine ⟨fun q hq => ?_, h.dist⟩
  obtain ⟨oq, d, h1, h2, h3, h4, h5, h6, h7⟩ := h.el q hq
  refine ⟨oq, d, h1, h2, h3, ?_, fun hh => ?_, h6, Nat.lt_of_lt_of_le h7 hA.size⟩
  · rw [put_tmps (fun e => hn q hq (hdd _ _ _ _ _ h1 hi h3 e))]
    exact h4.heap (hA.same _ h7 h6 h5)
  · have : Tr m' st1 q.2 := by
      rcases hh with hh | ⟨id, ob, ho, hb⟩ | ⟨id, off, c, hc, hb⟩
      · exact .inl hh
      · rw [p4] at ho; exact .inr (.inl ⟨id, ob, ho, hb⟩)
      · rw [p3] at hc; exact .inr (.inr ⟨id, off, c, hc, hb⟩)
    rcases hA.tr _ this with h8 | h8
    · exact h5 h8
    · omega
theorem FS.step {L0 : Array Bool} {i : Nat} {o : Oper} {v : V} {st1 : St} (hdd : DstDist ops) (h : FS fc ops cx L0 st) (hi : ops[i]? = some o) (hsl : ∀ n, st1.slot n = st.slot n) (hp : st1.put o.dst v = some st') : FS fc ops cx (L0.setIfInBounds i true) st' := by
  obtain ⟨p1, p2, p3, p4, p5, p6⟩ := put_fs hp
  intro x ox hx hf hl
  by_cases hix : i = x
  · subst hix
    exfalso
    rcases Nat.lt_or_ge i L0.size with h' | h'
    · simp [h'] at hl
    · simp [Array.getElem?_eq_none h'] at hl
  · rw [getD_set_ne true hix] at hl
    obtain ⟨d, h1, h2, h3, h4⟩ := h x ox hx hf hl
    refine ⟨d, h1, ?_, h3, h4⟩
    rw [p6, if_neg (fun e => hix (hdd _ _ _ _ _ hi hx e h1)), hsl]; exact h2
/-- The goal: whatever order is picked from here on, some new things being there already. -/
def GD (P : Program) (fc : FC) (ops : Array Oper) (ms : List Nat) (rd : Bool) (cx : Cx) (m0 : Mp) (st0 : St) (old : Nat → Bool) (Q : Exit → Act → World → Prop) (l : List Nat) (m : Mp) (st : St) (a : Act) (w : World) : Prop :=
  ∀ (L0 L : Array Bool) (F : List (Nat × Nat)) (f : Nat), OrdOk fc ops ms L0 l → L0.size = ops.size → Closed ops L → (∀ x, L.getD x true = true ↔ (L0.getD x true = true ∨ ∃ q ∈ F, q.1 = x)) → (∀ q ∈ F, L0.getD q.1 true = false) → FS fc ops cx L0 st → FOK P fc ops cx F m st a w → cnt ops L ≤ f →
    wpAnyE P fc ops ms rd cx m0 st0 old Q m.I f L a w
theorem GD.weak {l : List Nat} (h : GD P fc ops ms rd cx m0 st0 old Q l m st' a w) (ht : ∀ b, Tr m st' b → Tr m st b) (hs : ∀ n, st.slot n = none → st'.slot n = none) : GD P fc ops ms rd cx m0 st0 old Q l m st a w := by
  intro L0 L F f h1 h2 h3 h4 h5 h6 h7 h8
  refine h L0 L F f h1 h2 h3 h4 h5 (fun x o hx hf hl => ?_) (h7.weak ht) h8
  obtain ⟨d, g1, g2, g3, g4⟩ := h6 x o hx hf hl
  exact ⟨d, g1, hs d g2, g3, g4⟩
theorem Rel.put_none (h : Rel cx m st a w) {d : Nat} {v : Value} (hd : d < cx.nt) (hn : st.slot d = none) : Rel cx m st (a.put (some d) v) w where
  defers := h.defers
  size := by simp only [Act.put, Array.size_setIfInBounds]; exact h.size
  slots n x hx := by
    have hne : (some d : Option Nat) ≠ some n := fun e => by cases e; rw [hn] at hx; cases hx
    rw [put_tmps hne]; exact h.slots n x hx
  cells := h.cells
  own := h.own
  inj := h.inj
  objs := h.objs
  odis := h.odis
  bdis := h.bdis
  I := h.I
  frame := h.frame
  If := h.If
  box := h.box
theorem Evo.put_none {d : Nat} {v : Value} (hn : st.slot d = none) : Evo m st a w m st (a.put (some d) v) w :=
  ⟨Agree.refl _ _, Fx.refl _, fun _ _ => rfl, Nat.le_refl _, fun n x hx => put_tmps fun e => by
    cases e
    unfold St.slot at hn
    split at hn
    · cases hn
    · rw [hn] at hx; cases hx⟩
/-- Such an operation, carried out early. -/
theorem float_exec (ht : tysB P fc.cfg.tys = true) {o : Oper} (w : World) (h : (∃ e t, o.op = .alloc e ∧ fc.ty e = some t) ∨ ∃ t parts i e te, o.op = .buildSlice t 0 parts ∧ parts.toList = [] ∧ lk fc.cfg.tys t = some i ∧ i.el = some (e, te)) :
    ∃ v oj, (execOp a.eval o).run P w = .ok (.value v) (w.alloc oj) ∧ FVal P fc o w.heap.size (w.alloc oj) v := by
  rcases h with ⟨e, t, h1, h2⟩ | ⟨t, parts, i, e, te, h1, h2, h3, h4⟩
  · obtain ⟨i, d, z, ok⟩ := tyB_spec (ty_ok ht h2)
    refine ⟨.pointer (some ⟨w.heap.size, 0, none⟩), .cells (zval t).toArray e, ?_, .inl ⟨e, t, h1, h2, heap_alloc_new w _, rfl⟩⟩
    simp [execOp, h1, Instr.alloc, zeroValue, typeInfo, ok.info, ok.zero, newVar, newRow, ok.cells]
  · obtain ⟨hu, inf, d, z, ok, _, _⟩ := el_ok ht h3 h4
    have : parts = #[] := by
      apply Array.eq_empty_of_size_eq_zero
      have : parts.toList.length = 0 := by rw [h2]; rfl
      simpa using this
    subst this
    refine ⟨.slice (some ⟨w.heap.size, 0, none⟩) 0 0, .cells #[] e, ?_, .inr ⟨t, #[], i, e, te, h1, h3, h4, heap_alloc_new w _, rfl⟩⟩
    simp [execOp, h1, Instr.buildSlice, run_underlying hu, run_sizeOf' ok.info, Instr.fill, newRow, Array.range_zero']
theorem floatO_spec {o : Oper} (h : floatO o = true) : o.guard = none ∧ (∃ d, o.dst = some d) ∧ floatB o.op = true := by
  unfold floatO at h
  split at h
  · rename_i hg hd; exact ⟨hg, ⟨_, hd⟩, h⟩
  · cases h
theorem float_heavy {o : Oper} (h : floatO o = true) : cls fc o.op = .heavy := by
  have := (floatO_spec h).2.2
  unfold floatB at this
  split at this
  · rename_i e heq; rw [heq]; rfl
  · rename_i t n parts heq; rw [heq]; rfl
  · cases this
/-- What is not light comes up alone, but for what makes something new. -/
theorem hard_ind (ht : tysB P fc.cfg.tys = true) (hms : MsOk ops ms) (hdd : DstDist ops) {L0 : Array Bool} {i : Nat} (hi0 : i ∈ Region.ready .any ops L0) (hch : chain ops ms (Region.ready .any ops L0) L0 i = true) (hsz : L0.size = ops.size) (hFS : FS fc ops cx L0 st) {a0 : Act} {w0 : World}
    (hstep : ∀ (F : List (Nat × Nat)) (f : Nat) (L : Array Bool) (a : Act) (w : World), Evo m st a0 w0 m st a w → Rel cx m st a w → FOK P fc ops cx F m st a w → Closed ops L → (∀ x, L.getD x true = true ↔ (L0.getD x true = true ∨ ∃ q ∈ F, q.1 = x)) → (∀ q ∈ F, L0.getD q.1 true = false ∧ q.1 ≠ i) → i ∈ Region.ready .any ops L → cnt ops (L.setIfInBounds i true) ≤ f →
      stepE P fc ops ms rd cx m0 st0 old m.I i (wpAnyE P fc ops ms rd cx m0 st0 old Q m.I f (L.setIfInBounds i true)) a w) :
    ∀ (f : Nat) (F : List (Nat × Nat)) (L : Array Bool) (a : Act) (w : World), Evo m st a0 w0 m st a w → Rel cx m st a w → FOK P fc ops cx F m st a w → Closed ops L → (∀ x, L.getD x true = true ↔ (L0.getD x true = true ∨ ∃ q ∈ F, q.1 = x)) → (∀ q ∈ F, L0.getD q.1 true = false ∧ q.1 ≠ i) → cnt ops L ≤ f →
      wpAnyE P fc ops ms rd cx m0 st0 old Q m.I f L a w := by
  -- it may come up
  have hready : ∀ (L : Array Bool) (F : List (Nat × Nat)), Closed ops L → (∀ x, L.getD x true = true ↔ (L0.getD x true = true ∨ ∃ q ∈ F, q.1 = x)) → (∀ q ∈ F, L0.getD q.1 true = false ∧ q.1 ≠ i) → i ∈ Region.ready .any ops L := by
    intro L F hcl hL hF
    obtain ⟨h0, o, ho, hall⟩ := mem_ready.1 hi0
    refine mem_ready.2 ⟨?_, o, ho, fun e he hb => ?_⟩
    · cases h1 : L.getD i true with
      | false => rfl
      | true =>
        rcases (hL i).1 h1 with h2 | ⟨q, hq, h2⟩
        · rw [h0] at h2; cases h2
        · exact absurd h2 (hF q hq).2
    · have h1 := hall e he hb
      have hlt : e.on < L0.size := by
        rcases Nat.lt_or_ge e.on L0.size with h' | h'
        · exact h'
        · simp [Array.getElem?_eq_none h'] at h1
      have h2 : L0.getD e.on true = true := by simp [hlt] at h1 ⊢; exact h1
      have h3 := (hL e.on).2 (.inl h2)
      have hlt' : e.on < L.size := by rw [hcl.1, ← hsz]; exact hlt
      simp [hlt'] at h3 ⊢; exact h3
  intro f
  induction f with
  | zero =>
    intro F L a w hE h hF hcl hL hFi hc
    have := cnt_set (hready L F hcl hL hFi)
    omega
  | succ f ih =>
    intro F L a w hE h hF hcl hL hFi hc w1 hk
    have h1 := h.keep hk
    have hE1 := hE.trans (Evo.keep h hk)
    have hF1 := hF.keep hk
    have hr := hready L F hcl hL hFi
    refine ⟨fun he => (by rw [he] at hr; cases hr), fun x hx => ?_⟩
    by_cases hxi : x = i
    · subst hxi
      exact hstep F f L a w1 hE1 h1 hF1 hcl hL hFi hx (by have := cnt_set hx; omega)
    · obtain ⟨hxu, o, ho, hall⟩ := mem_ready.1 hx
      have hx0 : L0.getD x true = false := by
        cases h2 : L0.getD x true with
        | false => rfl
        | true => rw [(hL x).2 (.inl h2)] at hxu; cases hxu
      have hxlt : x < ops.size := (Array.getElem?_eq_some_iff.1 ho).1
      have hiu := (mem_ready.1 hr).1
      unfold chain at hch
      simp only [List.all_eq_true, List.mem_range] at hch
      have h2 := hch x hxlt
      simp only [hx0, Bool.false_or, Bool.or_eq_true, Bool.and_eq_true] at h2
      have hfl : floatO o = true := by
        rcases h2 with (h2 | h2) | ⟨_, h2⟩
        · exact absurd (Nat.eq_of_beq_eq_true h2) hxi
        · exact (ready_waits hms hcl hx hiu h2).elim
        · rw [ho] at h2; exact h2
      obtain ⟨d, hd, hsl, hdn, hty⟩ := hFS x o ho hfl hx0
      obtain ⟨v, oj, hrun, hval⟩ := float_exec (a := a) ht w1 hty
      have hg := (floatO_spec hfl).1
      refine ⟨o, ho, ?_⟩
      rw [if_pos (by simp [Region.wanted, hg])]
      have hk2 := Keep.alloc w1 oj
      refine .value hrun ⟨⟨fun _ => hk2, fun _ hc => ?_⟩, ?_⟩
      · exfalso
        unfold chkOf at hc
        rw [float_heavy hfl] at hc
        cases hc
      · rw [hd]
        have hnew : x ∉ F.map (·.1) := by
          intro hm
          obtain ⟨q, hq, e⟩ := List.mem_map.1 hm
          rw [(hL x).2 (.inr ⟨q, hq, e⟩)] at hxu; cases hxu
        refine ih ((x, w1.heap.size) :: F) (L.setIfInBounds x true) (a.put (some d) v) (w1.alloc oj) ((hE1.trans (Evo.keep h1 hk2)).trans (Evo.put_none hsl)) ((h1.keep hk2).put_none hdn hsl) ⟨fun q hq => ?_, .cons (fun q hq => ⟨fun e => hnew (List.mem_map.2 ⟨q, hq, e.symm⟩), ?_⟩) hF1.dist⟩ (hcl.set hx) (fun y => ?_) (fun q hq => ?_) (by have := cnt_set hx; omega)
        · rcases List.mem_cons.1 hq with rfl | hq
          · refine ⟨o, d, ho, hfl, hd, ?_, h1.not_tr, h1.frame.size, by simp⟩
            rw [getD_put (by rw [h1.size]; exact hdn), if_pos rfl]; exact hval
          · obtain ⟨oq, dq, q1, q2, q3, q4, q5, q6, q7⟩ := (hF1.keep hk2).el q hq
            refine ⟨oq, dq, q1, q2, q3, ?_, q5, q6, q7⟩
            rw [put_tmps (fun e => hnew (by
              cases e
              have := hdd _ _ _ _ _ q1 ho q3 hd
              exact List.mem_map.2 ⟨q, hq, this⟩))]
            exact q4
        · obtain ⟨_, _, _, _, _, _, _, _, q7⟩ := hF1.el q hq
          simp only; omega
        · by_cases hxy : x = y
          · subst hxy
            have : x < L.size := by rw [hcl.1]; exact hxlt
            simp [this]
          · rw [getD_set_ne true hxy, hL y]
            constructor
            · rintro (h3 | ⟨q, hq, h3⟩)
              · exact .inl h3
              · exact .inr ⟨q, by simp [hq], h3⟩
            · rintro (h3 | ⟨q, hq, h3⟩)
              · exact .inl h3
              · rcases List.mem_cons.1 hq with rfl | hq
                · exact absurd h3 hxy
                · exact .inr ⟨q, hq, h3⟩
        · rcases List.mem_cons.1 hq with rfl | hq
          · exact ⟨hx0, hxi⟩
          · exact hFi q hq
end Go.Pv
namespace Go.Pv
variable {P : Program} {cx : Cx} {m m' : Mp} {st st' : St} {a : Act} {w w' : World} {R : Type}
variable {fc : FC} {ops : Array Oper} {ms : List Nat} {rd : Bool} {m0 : Mp} {st0 : St} {old : Nat → Bool} {Q : Exit → Act → World → Prop}
theorem Near.trans {p : Nat → Bool} {w'' : World} (h : Near p cx m st w w') (h' : Near p cx m st w' w'') : Near p cx m st w w'' :=
  ⟨Nat.le_trans h.size h'.size, fun b hb => (h'.I b hb).trans (h.I b hb), fun b o h1 h2 => (h'.out b o h1 h2).trans (h.out b o h1 h2), fun b h1 h2 => (h'.same b h1 h2).trans (h.same b h1 h2), fun id off c h1 h2 => (h'.cell id off c h1 h2).trans (h.cell id off c h1 h2), fun id ob b h1 h2 h3 => (h'.ob id ob b h1 h2 h3).trans (h.ob id ob b h1 h2 h3)⟩
theorem Near.keep {p : Nat → Bool} {w'' : World} (h : Rel cx m st a w) (hn : Near p cx m st w w') (k : Keep w' w'') : Near p cx m st w w'' := by
  have hb : ∀ b, b < w.heap.size → w''.heap[b]? = w'.heap[b]? := fun b hb => k.block b (Nat.lt_of_lt_of_le hb hn.size)
  refine ⟨Nat.le_trans hn.size k.size, fun b h1 => (hb b (h.I b h1)).trans (hn.I b h1), fun b o h1 h2 => ?_, fun b h1 h2 => (hb b (Nat.lt_of_lt_of_le h1 h.frame.size)).trans (hn.same b h1 h2), fun id off c h1 h2 => ?_, fun id ob b h1 h2 h3 => (hb b (h.ob_lt h2 h3)).trans (hn.ob id ob b h1 h2 h3)⟩
  · exact (World.cell?_of_block (w := w') (w' := w'') (a := ⟨b, o, none⟩) (hb b (Nat.lt_of_lt_of_le h1 h.frame.size))).trans (hn.out b o h1 h2)
  · exact (World.cell?_of_block (w := w') (w' := w'') (a := ⟨m.bk id, m.bo id + off, none⟩) (hb _ (h.box_lt h2))).trans (hn.cell id off c h1 h2)
/-- From the region's begin to a later point, and back. -/
theorem Near.conv (hI : Inv true old m0 st0 m st) (hold : ∀ id, old id = true → id < st0.n) (hn : Near old cx m st w w') : Near old cx (m0.withI m.I) st0 w w' where
  size := hn.size
  I := hn.I
  out := hn.out
  same := hn.same
  cell id off c hp hc := by
    have h1 := (hI.live rfl id hp).1 off
    rw [hc] at h1
    obtain ⟨c', hc'⟩ := Option.isSome_iff_exists.1 h1
    have := hn.cell id off c' hp hc'
    rw [hI.agree.bk id (hold id hp), hI.agree.bo id (hold id hp)] at this
    exact this
  ob id ob b hp ho hb := by
    have h1 := (hI.live rfl id hp).2
    rw [ho] at h1
    obtain ⟨o', ho'⟩ := Option.isSome_iff_exists.1 h1
    exact hn.ob id o' b hp ho' (by rw [hI.agree.hd id (hold id hp)]; exact hb)
theorem Near.back (hI : Inv true old m0 st0 m st) (hold : ∀ id, old id = true → id < st0.n) (hn : Near old cx (m0.withI m.I) st0 w w') : Near old cx m st w w' where
  size := hn.size
  I := hn.I
  out := hn.out
  same := hn.same
  cell id off c hp hc := by
    have h1 := (hI.live rfl id hp).1 off
    rw [hc] at h1
    obtain ⟨c', hc'⟩ := Option.isSome_iff_exists.1 h1.symm
    have := hn.cell id off c' hp hc'
    rw [hI.agree.bk id (hold id hp), hI.agree.bo id (hold id hp)]
    exact this
  ob id ob b hp ho hb := by
    have h1 := (hI.live rfl id hp).2
    rw [ho] at h1
    obtain ⟨o', ho'⟩ := Option.isSome_iff_exists.1 h1.symm
    exact hn.ob id o' b hp ho' (by rw [hI.agree.hd id (hold id hp)] at hb; exact hb)
theorem chk_heavy {i : Nat} {o : Oper} (h : cls fc o.op = .heavy) : chkOf fc ops ms i o = .keeps := by unfold chkOf; rw [h]
theorem chk_pure {i : Nat} {o : Oper} (h : cls fc o.op = .pure) : chkOf fc ops ms i o = .no := by unfold chkOf; rw [h]
theorem chk_writes {i : Nat} {o : Oper} (h : chkOf fc ops ms i o = .writes) : cls fc o.op = .modif := by
  unfold chkOf at h
  split at h
  · split at h <;> cases h
  · assumption
  · cases h
  · cases h
/-- One operation of a region that draws its order. -/
theorem opK_draw {i : Nat} {o : Oper} {dc : DC} {ch : Chk} (ht : tysB P fc.cfg.tys = true) (ha : arrsB P fc.cfg.arrs = true) (hC : CallsOk P fc.cfg.calls) (hG : Glb P cx.S cx.w0) {k : V → St → Option R} {r : R} (h : Rel cx m st a w) (hn0 : dc.n0 ≤ st.n)
    (hch : chkOp fc dc st o.op ch = true) (hco : COk fc ops ms rd i o ch) (hk : opK fc o.op o.type st k = some r) :
    Eff P o a w fun cv w' => ∃ v st' m', k v st' = some r ∧ Rel cx m' st' a w' ∧ VR cx m' w' v cv ∧ v.lt st'.n ∧ Adv cx m st w m' st' w' ∧ (cls fc o.op ≠ .modif → Keep w w') ∧ (rd = true → Live (fun id => dc.old id = true) st st') ∧ (chkOf fc ops ms i o = .writes → Near dc.old cx m st w w') := by
  cases hc : cls fc o.op with
  | pure =>
    obtain ⟨cv, v, st', m', p⟩ := pureK_sound (P := P) ht ha h hc hk
    refine .value (p.run w) ⟨v, st', m', p.k, p.rel, p.vr, p.lt, ⟨p.agree, p.fx, Nat.le_of_eq p.le.n.symm, p.le.slot, fun b hb => .inl (p.tr b hb), fun _ _ _ _ => rfl, fun _ _ => rfl, Nat.le_refl _⟩, fun _ => Keep.refl _, fun _ => p.live _, fun _ => Near.refl _⟩
  | mem =>
    have hch' := hco.light (by rw [hc]; simp)
    have : ∃ p0, readsOld fc p0 st o.op = true := by
      unfold chkOf at hch'
      rw [hc] at hch'
      simp only at hch'
      split at hch' <;> subst hch'
      · exact ⟨dc.old, hch⟩
      · exact ⟨fun _ => true, hch⟩
    obtain ⟨p0, hr⟩ := this
    obtain ⟨cv, v, h1, h2, h3, h4⟩ := memK_sound ht hC hG h hc hr hk
    refine (h4 p0 hr w (Near.refl _)).mono fun cv' w'' ⟨e, hk⟩ => ?_
    subst e
    have hs : Same cx m w w'' := ⟨h.frame, (h.keep hk).frame, hk.size, fun b hb => hk.block b (h.I b hb)⟩
    exact ⟨v, st, m, h1, h.keep hk, hs.vr h2, h3, .keep h hk, fun _ => hk, fun _ => Live.refl _ _, fun _ => hk.near h _⟩
  | heavy =>
    have hch' := hco.light (by rw [hc]; simp)
    rw [chk_heavy hc] at hch'
    subst hch'
    refine (opK_sound (dc := dc) (ch := .keeps) ht ha hC hG h hn0 hch (fun _ => by rw [hc]; simp) hk).mono fun cv w' ⟨v, st', m', h1, h2, h3, h4, h5, h6, h7, h8⟩ => ?_
    have hne : cls fc o.op ≠ .modif := by rw [hc]; simp
    exact ⟨v, st', m', h1, h2, h3, h4, h5, fun _ => h6 ⟨rfl, hne⟩, fun _ => h7 (.inl ⟨rfl, hne⟩), fun hw => by rw [chk_heavy hc] at hw; cases hw⟩
  | modif =>
    have hm := hco.md hc
    refine (opK_sound (dc := dc) (ch := ch) ht ha hC hG h hn0 hch (fun e => by rcases hm with h1 | h1 | ⟨h1, _⟩ <;> (rw [e] at h1; cases h1)) hk).mono fun cv w' ⟨v, st', m', h1, h2, h3, h4, h5, h6, h7, h8⟩ => ?_
    refine ⟨v, st', m', h1, h2, h3, h4, h5, fun hne => absurd rfl hne, fun hr => h7 ?_, fun hw => h8 (hco.wr hw)⟩
    rcases hm with h1 | h1 | ⟨_, h1⟩
    · exact .inr (.inr h1)
    · exact .inr (.inl h1)
    · rw [hr] at h1; cases h1
theorem Rel.put_same (h : Rel cx m st a w) {d : Option Nat} {x : V} (hp : st.put d x = some st') (hx : ∀ n, d = some n → VR cx m w x (a.tmps.getD n undef)) (hl : x.lt st.n) : Rel cx m st' a w := by
  obtain ⟨p1, p2, p3, p4, p5, p6⟩ := put_fs hp
  refine { defers := h.defers, size := h.size, slots := fun n v hv => ?_, cells := fun b off c hc => ?_, own := fun b off c hc => ?_, inj := fun b off c b' off' c' hc hc' => ?_, objs := fun i ob hi => ?_, odis := fun i ob i' ob' b hi hi' => ?_, bdis := fun i ob b off c g hi hc => ?_, I := h.I, frame := h.frame, If := h.If, box := fun b off c hc => by rw [p3] at hc; exact h.box b off c hc }
  · rw [p6] at hv
    rw [p5]
    split at hv
    · rename_i e; cases hv; exact ⟨hx n e, hl⟩
    · exact h.slots n v hv
  · rw [p3] at hc; rw [p5]; exact h.cells b off c hc
  · rw [p3] at hc; exact h.own b off c hc
  · rw [p3] at hc hc'; exact h.inj _ _ _ _ _ _ hc hc'
  · rw [p4] at hi; rw [p5]; exact h.objs i ob hi
  · rw [p4] at hi hi'; exact h.odis _ _ _ _ _ hi hi'
  · rw [p4] at hi; rw [p3] at hc; exact h.bdis _ _ _ _ _ _ hi hc
theorem pair_ne {F : List (Nat × Nat)} (h : F.Pairwise fun q r => q.1 ≠ r.1 ∧ q.2 ≠ r.2) : ∀ q ∈ F, ∀ r ∈ F, q.1 ≠ r.1 → q.2 ≠ r.2 := by
  induction h with
  | nil => intro q hq; cases hq
  | cons h1 _ ih =>
    intro q hq r hr hne
    rcases List.mem_cons.1 hq with e1 | hq1
    · rcases List.mem_cons.1 hr with e2 | hr1
      · exact absurd (by rw [e1, e2]) hne
      · rw [e1]; exact (h1 r hr1).2
    · rcases List.mem_cons.1 hr with e2 | hr1
      · rw [e2]; exact (h1 q hq1).2.symm
      · exact ih q hq1 r hr1 hne
/-- What has come up early comes up in the interpreter's order. -/
theorem float_late (ht : tysB P fc.cfg.tys = true) {o : Oper} {b d : Nat} {kk : St → Option R} {r : R} (h : Rel cx m st a w) (hfl : floatO o = true) (hd : o.dst = some d) (hv : FVal P fc o b w (a.tmps.getD d undef)) (hnt : ¬ Tr m st b) (hb0 : cx.w0.heap.size ≤ b)
    (hk : opK fc o.op o.type st (fun v st' => match st'.put o.dst v with | some st'' => kk st'' | none => none) = some r) :
    ∃ m' st' st'' v, Agree st.n m m' ∧ m'.I = m.I ∧ Fx st st' ∧ (∀ n, st'.slot n = st.slot n) ∧ Live (fun id => id < st.n) st st' ∧ st'.put o.dst v = some st'' ∧ kk st'' = some r ∧ Rel cx m' st'' a w ∧ (∀ g, Tr m' st'' g → Tr m st g ∨ g = b) := by
  have hfb := (floatO_spec hfl).2.2
  have fin : ∀ (m' : Mp) (st' : St) (v : V), Agree st.n m m' → m'.I = m.I → Fx st st' → (∀ n, st'.slot n = st.slot n) → Live (fun id => id < st.n) st st' → Rel cx m' st' a w → VR cx m' w v (a.tmps.getD d undef) → v.lt st'.n → (∀ g, Tr m' st' g → Tr m st g ∨ g = b) →
      (match st'.put o.dst v with | some st'' => kk st'' | none => none) = some r → ∃ m' st' st'' v, Agree st.n m m' ∧ m'.I = m.I ∧ Fx st st' ∧ (∀ n, st'.slot n = st.slot n) ∧ Live (fun id => id < st.n) st st' ∧ st'.put o.dst v = some st'' ∧ kk st'' = some r ∧ Rel cx m' st'' a w ∧ (∀ g, Tr m' st'' g → Tr m st g ∨ g = b) := by
    intro m' st' v h1 h2 h3 h4 h5 h6 h7 h8 h9 h10
    obtain ⟨st'', hp, hk'⟩ := put_some h10
    refine ⟨m', st', st'', v, h1, h2, h3, h4, h5, hp, hk', h6.put_same hp (fun n hn => ?_) h8, fun g hg => h9 g ?_⟩
    · rw [hd] at hn; cases hn; exact h7
    · obtain ⟨p1, p2, p3, p4, p5, p6⟩ := put_fs hp
      rcases hg with hg | ⟨i, ob, hi, hg⟩ | ⟨i, off, c, hi, hg⟩
      · exact .inl hg
      · rw [p4] at hi; exact .inr (.inl ⟨i, ob, hi, hg⟩)
      · rw [p3] at hi; exact .inr (.inr ⟨i, off, c, hi, hg⟩)
  have hfree : ∀ o, cx.free b o := fun _ => .inl hb0
  rcases hv with ⟨e, t, h1, h2, h3, h4⟩ | ⟨t, parts, i, e, te, h1, h2, h3, h4, h5⟩
  · rw [h1] at hk
    simp only [opK, h2] at hk
    have hrow : Row w b 0 (zval t) := by
      intro i v hv
      rw [Nat.zero_add, cell_of_row w b i (zval t).toArray e (0, 0) h3]
      simpa using hv
    refine fin (m.setBk st.n b 0) (st.addB (zeroC t)) _ (m.agree_setBk _ _ _) rfl (Fx.addB _ _) (St.addB_slot _ _) (live_addB _) (h.addB' (zeroC_sound t) (zeroC_lt t) h3 hrow hnt hfree) ?_ (one_lt (by simp only [C.lt, St.addB_n]; omega)) (fun g hg => tr_addB h hg) hk
    rw [h4]
    exact VR_one (by simp [CR, Mp.setBk])
  · rw [h1] at hk hfb
    have hnil := isNil_spec (show isNil parts.toList = true by simp only [floatB, Bool.and_eq_true] at hfb; exact hfb.2)
    simp only [opK, h2, h3, hnil, elems, freezeAll, List.length_nil, Nat.zero_mul] at hk
    have hself : (m.setHd st.n (.slice (some ⟨b, 0, none⟩) 0 0)).hd st.n = .slice (some ⟨b, 0, none⟩) 0 0 := by simp [Mp.setHd]
    have hO : ObV cx m.I w ⟨false, e, te, [], false⟩ (.slice (some ⟨b, 0, none⟩) 0 0) := by
      refine ⟨⟨[], ⟨by simp, .inr ⟨b, 0, #[], rfl, Nat.zero_le _, h4, by simp, by simp [maxLen], by simp, by simp⟩⟩, fun j y hy => by simp at hy⟩, fun g hg => ?_⟩
      simp [blk] at hg; subst hg
      exact ⟨fun hi => hnt (.inl hi), hfree⟩
    have hk' : (match (st.addO ⟨false, e, te, [], false⟩).put o.dst (one (.ref st.n)) with | some st'' => kk st'' | none => none) = some r := by
      have : (Nat.beq 0 0 && Nat.ble 0 16777216) = true := rfl
      simp only [this] at hk
      exact hk
    refine fin (m.setHd st.n (.slice (some ⟨b, 0, none⟩) 0 0)) (st.addO ⟨false, e, te, [], false⟩) _ (m.agree_setHd _ _) rfl (Fx.addO _ _) (St.addO_slot _ _) (live_addO _) (h.addO (by unfold ObR; rw [hself]; exact hO) fun g hg => ?_) ?_ (one_lt (by simp only [C.lt, St.addO_n]; omega)) (fun g hg => ?_) hk'
    · simp [blk] at hg; subst hg
      exact ⟨fun i ob hi he => hnt (.inr (.inl ⟨i, ob, hi, he⟩)), fun b' off c hc he => hnt (.inr (.inr ⟨b', off, c, hc, he⟩))⟩
    · rw [h5]; exact VR_one ⟨hself.symm, rfl⟩
    · rcases tr_addO h hg with h6 | h6
      · exact .inl h6
      · simp [blk] at h6; exact .inr h6.symm
end Go.Pv
namespace Go.Pv
variable {P : Program} {cx : Cx} {m m' : Mp} {st st' : St} {a : Act} {w w' : World} {R : Type}
variable {fc : FC} {ops : Array Oper} {ms : List Nat} {rd : Bool} {m0 : Mp} {st0 : St} {old : Nat → Bool} {Q : Exit → Act → World → Prop}
theorem ready_more {L0 L : Array Bool} {F : List (Nat × Nat)} {i : Nat} (hi0 : i ∈ Region.ready .any ops L0) (hsz : L0.size = ops.size) (hcl : Closed ops L) (hL : ∀ x, L.getD x true = true ↔ (L0.getD x true = true ∨ ∃ q ∈ F, q.1 = x)) (hF : ¬ ∃ q ∈ F, q.1 = i) : i ∈ Region.ready .any ops L := by
  obtain ⟨h0, o, ho, hall⟩ := mem_ready.1 hi0
  refine mem_ready.2 ⟨?_, o, ho, fun e he hb => ?_⟩
  · cases h1 : L.getD i true with
    | false => rfl
    | true =>
      rcases (hL i).1 h1 with h2 | h2
      · rw [h0] at h2; cases h2
      · exact absurd h2 hF
  · have h1 := hall e he hb
    have hlt : e.on < L0.size := by
      rcases Nat.lt_or_ge e.on L0.size with h' | h'
      · exact h'
      · simp [Array.getElem?_eq_none h'] at h1
    have h2 : L0.getD e.on true = true := by simp [hlt] at h1 ⊢; exact h1
    have h3 := (hL e.on).2 (.inl h2)
    have hlt' : e.on < L.size := by rw [hcl.1, ← hsz]; exact hlt
    simp [hlt'] at h3 ⊢; exact h3
theorem listed_step {L0 L : Array Bool} {F : List (Nat × Nat)} {i : Nat} (hsz : L0.size = ops.size) (hcl : Closed ops L) (hi : i < ops.size) (hL : ∀ x, L.getD x true = true ↔ (L0.getD x true = true ∨ ∃ q ∈ F, q.1 = x)) :
    ∀ x, (L.setIfInBounds i true).getD x true = true ↔ ((L0.setIfInBounds i true).getD x true = true ∨ ∃ q ∈ F, q.1 = x) := by
  intro x
  by_cases hix : i = x
  · subst hix
    have h1 : i < L.size := by rw [hcl.1]; exact hi
    have h2 : i < L0.size := by rw [hsz]; exact hi
    simp [h1, h2]
  · rw [getD_set_ne true hix, getD_set_ne true hix]; exact hL x
theorem free_more {L0 L : Array Bool} {F : List (Nat × Nat)} {i : Nat} {oi : Oper} (hi : ops[i]? = some oi) (hf : Region.free .any ops L0 i = true) (hL : ∀ x, L.getD x true = true ↔ (L0.getD x true = true ∨ ∃ q ∈ F, q.1 = x)) (j : Nat) (oj : Oper) (hj : ops[j]? = some oj) (hne : j ≠ i) (hun : L.getD j true = false) (hno : ∀ e ∈ oj.after, Region.binds .any e = true → e.on ≠ i) : oi.apart ops oj = true := by
  refine Region.free_spec hi hf j oj hj hne ?_ hno
  cases h : L0.getD j true with
  | false => rfl
  | true => rw [(hL j).2 (.inl h)] at hun; cases hun
theorem beside_spec {c : Cls} {i j : Nat} {oj : Oper} (h : besideB fc ops ms c i = false) (hj : ops[j]? = some oj) : cls fc oj.op ≠ c ∨ ordered ms i j = true := by
  unfold besideB at h
  simp only [Bool.not_eq_false', List.all_eq_true, List.mem_range] at h
  have := h j (Array.getElem?_eq_some_iff.1 hj).1
  rw [hj] at this
  simp only [Bool.or_eq_true, Bool.not_eq_true', decide_eq_false_iff_not] at this
  exact this
/-- **Whatever order is picked.** -/
theorem draw_stepper {dc : DC} (ht : tysB P fc.cfg.tys = true) (ha : arrsB P fc.cfg.arrs = true) (hC : CallsOk P fc.cfg.calls) (hG : Glb P cx.S cx.w0) (hms : MsOk ops ms) (hsel : Region.noSelect ops = true) (hdd : DstDist ops) (hn0 : dc.n0 = st0.n) :
    Stepper fc ops dc cx (COk fc ops ms rd) (Inv rd dc.old m0 st0) (GD P fc ops ms rd cx m0 st0 dc.old Q) where
  weak h ht hs := h.weak ht hs
  skip := by
    intro i rest o ch m st st' a w hi hco hd h hI hw hg hp hK L0 L F f hord hsz hcl hL hF0 hFS hF hc
    obtain ⟨hr0, hkind, hord'⟩ := hord
    have hilt : i < ops.size := (Array.getElem?_eq_some_iff.1 hi).1
    have hiF : ¬ ∃ q ∈ F, q.1 = i := by
      rintro ⟨q, hq, rfl⟩
      obtain ⟨oq, d, q1, q2, _⟩ := hF.el q hq
      rw [hi] at q1; cases q1
      exact hg (floatO_spec q2).1
    have hnF : ∀ q ∈ F, q.1 ≠ i := fun q hq e => hiF ⟨q, hq, e⟩
    have hr := ready_more hr0 hsz hcl hL hiF
    have hcnt := cnt_set hr
    -- behind it
    have next : ∀ (a' : Act) (w' : World) (F' : List (Nat × Nat)) (L' : Array Bool) (f' : Nat), Evo m st a w m st a' w' → Rel cx m st a' w' → FOK P fc ops cx F' m st a' w' → Closed ops L' → (∀ x, L'.getD x true = true ↔ (L0.getD x true = true ∨ ∃ q ∈ F', q.1 = x)) → (∀ q ∈ F', L0.getD q.1 true = false ∧ q.1 ≠ i) → i ∈ Region.ready .any ops L' → cnt ops (L'.setIfInBounds i true) ≤ f' →
        wpAnyE P fc ops ms rd cx m0 st0 dc.old Q m.I f' (L'.setIfInBounds i true) (a'.put o.dst undef) w' := by
      intro a' w' F' L' f' hE h' hF' hcl' hL' hF0' hr' hc'
      have hA : Adv cx m st w' m st w' := .keep h' (Keep.refl w')
      have hE2 : Evo m st a w m st' (a'.put o.dst undef) w' := hE.trans (Evo.of_adv hA hp)
      refine hK _ _ hE2 (h'.put hp hd (VR_one rfl) (one_lt trivial)) (hI.put hA (fun _ => Live.refl _ _) hp) (L0.setIfInBounds i true) (L'.setIfInBounds i true) F' f' hord' (by simpa using hsz) (hcl'.set hr') (listed_step hsz hcl' hilt hL') (fun q hq => ?_) (hFS.step hdd hi (fun _ => rfl) hp) (hF'.step hdd hi (fun q hq => (hF0' q hq).2) hA hp) hc'
      rw [getD_set_ne true (Ne.symm (hF0' q hq).2)]; exact (hF0' q hq).1
    rcases hkind with ⟨o', ho', hlight, hfree⟩ | hchain
    · rw [hi] at ho'; cases ho'
      have hclm : cls fc o.op ≠ .modif := fun e => by rw [e] at hlight; cases hlight
      cases f with
      | zero => omega
      | succ f =>
        refine first_light (Φ := fun _ => True) (v := undef) hms hsel hi hclm (fun e => hclm (chk_writes e)) (fun _ _ _ _ => trivial) f L a w hcl (free_more hi hfree hL) (fun _ _ _ _ _ _ _ _ _ _ => trivial) hr trivial (.inr ⟨hw a w h, rfl⟩) ?_
        exact next a w F L f (Evo.refl _ _ _ _) h hF hcl hL (fun q hq => ⟨hF0 q hq, hnF q hq⟩) hr (by omega)
    · refine hard_ind (a0 := a) (w0 := w) ht hms hdd hr0 hchain hsz hFS (fun F' f' L' a' w' hE h' hF' hcl' hL' hF0' hr' hc' => ?_) f F L a w (Evo.refl _ _ _ _) h hF hcl hL (fun q hq => ⟨hF0 q hq, hnF q hq⟩) hc
      refine ⟨o, hi, ?_⟩
      rw [if_neg (by rw [hw a' w' h']; simp)]
      exact next a' w' F' L' f' hE h' hF' hcl' hL' hF0' hr' hc'
  step := by
    intro i rest o ch m st a w R kk r hi hco hd h hI hw ho hK L0 L F f hord hsz hcl hL hF0 hFS hF hc
    obtain ⟨hr0, hkind, hord'⟩ := hord
    obtain ⟨hch, hk⟩ := opC_spec ho
    have hilt : i < ops.size := (Array.getElem?_eq_some_iff.1 hi).1
    have hn1 : dc.n0 ≤ st.n := by rw [hn0]; exact hI.n
    have hold : ∀ id, dc.old id = true → id < st0.n := fun id hid => DC.old_lt hid (Nat.le_of_eq hn0)
    by_cases hiF : ∃ q ∈ F, q.1 = i
    · -- it has come up already
      obtain ⟨q, hq, hqi⟩ := hiF
      obtain ⟨oq, d, q1, q2, q3, q4, q5, q6, q7⟩ := hF.el q hq
      rw [hqi, hi] at q1; cases q1
      obtain ⟨m1, st1, st2, v, g1, g2, g3, g4, g5, g6, g7, g8, g9⟩ := float_late (kk := kk) ht h q2 q3 q4 q5 q6 hk
      obtain ⟨p1, p2, p3, p4, p5, p6⟩ := put_fs g6
      have hlive : Live (fun id => dc.old id = true) st st2 := fun id hid => by
        obtain ⟨l1, l2⟩ := g5 id (DC.old_lt hid hn1)
        exact ⟨fun off => by rw [p3]; exact l1 off, by rw [p4]; exact l2⟩
      have hG := hK m1 st2 a w ⟨g1, g3.trans p1, fun _ _ => rfl, Nat.le_refl _, fun _ _ _ => rfl⟩ g8 ⟨hI.agree.trans g1 hI.n, Nat.le_trans hI.n (Nat.le_trans g3.n (Nat.le_of_eq p5.symm)), fun hr => (hI.live hr).trans hlive⟩ g7
      have hfin := hG (L0.setIfInBounds i true) L (F.filter fun q => q.1 != i) f hord' (by simpa using hsz) hcl (fun x => ?_) (fun q' hq' => ?_) (hFS.step hdd hi g4 g6) ⟨fun q' hq' => ?_, hF.dist.filter _⟩ hc
      · rw [g2] at hfin; exact hfin
      · rw [hL x]
        by_cases hix : i = x
        · subst hix
          have : i < L0.size := by rw [hsz]; exact hilt
          simp only [Array.getD_eq_getD_getElem?, Array.getElem?_setIfInBounds, this, if_true, Option.getD_some, true_or, iff_true]
          exact .inr ⟨q, hq, hqi⟩
        · rw [getD_set_ne true hix]
          constructor
          · rintro (h3 | ⟨r, hr, h3⟩)
            · exact .inl h3
            · exact .inr ⟨r, List.mem_filter.2 ⟨hr, by simp; rw [h3]; exact Ne.symm hix⟩, h3⟩
          · rintro (h3 | ⟨r, hr, h3⟩)
            · exact .inl h3
            · exact .inr ⟨r, (List.mem_filter.1 hr).1, h3⟩
      · obtain ⟨h3, h4⟩ := List.mem_filter.1 hq'
        simp at h4
        rw [getD_set_ne true (Ne.symm h4)]; exact hF0 q' h3
      · obtain ⟨h3, h4⟩ := List.mem_filter.1 hq'
        simp at h4
        obtain ⟨oq', d', r1, r2, r3, r4, r5, r6, r7⟩ := hF.el q' h3
        refine ⟨oq', d', r1, r2, r3, r4, fun hh => ?_, r6, r7⟩
        rcases g9 _ hh with h5 | h5
        · exact r5 h5
        · exact pair_ne hF.dist q' h3 q hq (by rw [hqi]; exact h4) h5
    · have hnF : ∀ q ∈ F, q.1 ≠ i := fun q hq e => hiF ⟨q, hq, e⟩
      have hr := ready_more hr0 hsz hcl hL hiF
      have hcnt := cnt_set hr
      -- behind it
      have next : ∀ (a' : Act) (w' w'' : World) (F' : List (Nat × Nat)) (L' : Array Bool) (f' : Nat) (cv : Value) (v : V) (st1 : St) (m1 : Mp), Evo m st a w m st a' w' → FOK P fc ops cx F' m st a' w' → Closed ops L' → (∀ x, L'.getD x true = true ↔ (L0.getD x true = true ∨ ∃ q ∈ F', q.1 = x)) → (∀ q ∈ F', L0.getD q.1 true = false ∧ q.1 ≠ i) → i ∈ Region.ready .any ops L' → cnt ops (L'.setIfInBounds i true) ≤ f' →
          (match st1.put o.dst v with | some st'' => kk st'' | none => none) = some r → Rel cx m1 st1 a' w'' → VR cx m1 w'' v cv → v.lt st1.n → Adv cx m st w' m1 st1 w'' → (rd = true → Live (fun id => dc.old id = true) st st1) →
          wpAnyE P fc ops ms rd cx m0 st0 dc.old Q m.I f' (L'.setIfInBounds i true) (a'.put o.dst cv) w'' := by
        intro a' w' w'' F' L' f' cv v st1 m1 hE hF' hcl' hL' hF0' hr' hc' hk1 h1 hv hl hA hlv
        obtain ⟨st2, hp, hk2⟩ := put_some hk1
        refine wpAnyE.mono hA.agree.I ?_
        refine hK m1 st2 _ w'' (hE.trans (Evo.of_adv hA hp)) (h1.put hp hd hv hl) (hI.put hA hlv hp) hk2 (L0.setIfInBounds i true) (L'.setIfInBounds i true) F' f' hord' (by simpa using hsz) (hcl'.set hr') (listed_step hsz hcl' hilt hL') (fun q hq => ?_) (hFS.step hdd hi hA.slot hp) (hF'.step hdd hi (fun q hq => (hF0' q hq).2) hA hp) hc'
        rw [getD_set_ne true (Ne.symm (hF0' q hq).2)]; exact (hF0' q hq).1
      rcases hkind with ⟨o', ho', hlight, hfree⟩ | hchain
      · rw [hi] at ho'; cases ho'
        have hclm : cls fc o.op ≠ .modif := fun e => by rw [e] at hlight; cases hlight
        cases f with
        | zero => omega
        | succ f =>
          cases hcl2 : cls fc o.op with
          | modif => exact absurd hcl2 hclm
          | heavy => rw [hcl2] at hlight; cases hlight
          | pure =>
            obtain ⟨cv, v, st1, m1, p⟩ := pureK_sound (P := P) ht ha h hcl2 hk
            refine first_light (Φ := fun _ => True) (v := cv) hms hsel hi hclm (fun e => hclm (chk_writes e)) (fun _ _ _ _ => trivial) f L a w hcl (free_more hi hfree hL) (fun _ _ _ _ _ _ _ _ _ _ => trivial) hr trivial (.inl ⟨hw a w h, fun w' _ => .value (p.run w') ⟨rfl, Keep.refl _⟩⟩) ?_
            exact next a w w F L f cv v st1 m1 (Evo.refl _ _ _ _) hF hcl hL (fun q hq => ⟨hF0 q hq, hnF q hq⟩) hr (by omega) p.k p.rel p.vr p.lt ⟨p.agree, p.fx, Nat.le_of_eq p.le.n.symm, p.le.slot, fun b hb => .inl (p.tr b hb), fun _ _ _ _ => rfl, fun _ _ => rfl, Nat.le_refl _⟩ (fun _ => p.live _)
          | mem =>
            have hch' := hco.light hclm
            have hun : ∀ j oj, ops[j]? = some oj → L.getD j true = false → (ms.getD j 0).testBit i = false → ordered ms i j = false ∧ ordered ms j i = false := by
              intro j oj hj hju hjb
              have : (ms.getD i 0).testBit j = false := by
                cases hb : (ms.getD i 0).testBit j with
                | false => rfl
                | true => exact (ready_waits hms hcl hr hju hb).elim
              unfold ordered
              rw [hjb, this]; exact ⟨rfl, rfl⟩
            cases hbs : besideB fc ops ms .modif i with
            | true =>
              have hce : ch = .reads := by rw [hch']; unfold chkOf; rw [hcl2]; simp only [hbs]
              have hrd := hco.rd hce
              subst hce
              obtain ⟨cv, v, h1, h2, h3, h4⟩ := memK_sound ht hC hG h hcl2 (p0 := dc.old) hch hk
              have hInv : Inv true dc.old m0 st0 m st := by rw [← hrd]; exact hI
              refine first_light (Φ := fun w' => Near dc.old cx m st w w') (v := cv) hms hsel hi hclm (fun e => hclm (chk_writes e)) (fun w1 w2 hn hk => hn.keep h hk) f L a w hcl (free_more hi hfree hL) (fun j oj hj hji hju hjb w1 w2 hpsi hn => ?_) hr (Near.refl _) (.inl ⟨hw a w h, fun w' hn => h4 dc.old hch w' hn⟩) ?_
              · by_cases hm : cls fc oj.op = .modif
                · have : chkOf fc ops ms j oj = .writes := by
                    unfold chkOf
                    rw [hm]
                    simp only
                    cases hb : besideB fc ops ms .mem j with
                    | true => rfl
                    | false =>
                      rcases beside_spec hb hi with h5 | h5
                      · exact absurd hcl2 h5
                      · rw [(hun j oj hj hju hjb).2] at h5; cases h5
                  exact hn.trans ((hpsi.2 hrd this).back hInv hold)
                · exact hn.keep h (hpsi.1 hm)
              · exact next a w w F L f cv v st m (Evo.refl _ _ _ _) hF hcl hL (fun q hq => ⟨hF0 q hq, hnF q hq⟩) hr (by omega) h1 h h2 h3 (.keep h (Keep.refl _)) (fun _ => Live.refl _ _)
            | false =>
              have hce : ch = .here := by rw [hch']; unfold chkOf; rw [hcl2]; simp only [hbs]
              subst hce
              obtain ⟨cv, v, h1, h2, h3, h4⟩ := memK_sound ht hC hG h hcl2 (p0 := fun _ => true) hch hk
              refine first_light (Φ := fun w' => Keep w w') (v := cv) hms hsel hi hclm (fun e => hclm (chk_writes e)) (fun w1 w2 hn hk => hn.trans hk) f L a w hcl (free_more hi hfree hL) (fun j oj hj hji hju hjb w1 w2 hpsi hn => ?_) hr (Keep.refl _) (.inl ⟨hw a w h, fun w' hn => h4 _ hch w' (hn.near h _)⟩) ?_
              · rcases beside_spec hbs hj with h5 | h5
                · exact hn.trans (hpsi.1 h5)
                · rw [(hun j oj hj hju hjb).1] at h5; cases h5
              · exact next a w w F L f cv v st m (Evo.refl _ _ _ _) hF hcl hL (fun q hq => ⟨hF0 q hq, hnF q hq⟩) hr (by omega) h1 h h2 h3 (.keep h (Keep.refl _)) (fun _ => Live.refl _ _)
      · refine hard_ind (a0 := a) (w0 := w) ht hms hdd hr0 hchain hsz hFS (fun F' f' L' a' w' hE h' hF' hcl' hL' hF0' hr' hc' => ?_) f F L a w (Evo.refl _ _ _ _) h hF hcl hL (fun q hq => ⟨hF0 q hq, hnF q hq⟩) hc
        refine ⟨o, hi, ?_⟩
        rw [if_pos (hw a' w' h')]
        refine (opK_draw (i := i) ht ha hC hG h' hn1 hch hco hk).mono fun cv w'' ⟨v, st1, m1, k1, k2, k3, k4, k5, k6, k7, k8⟩ => ⟨⟨k6, fun hrd hwr => ?_⟩, ?_⟩
        · have hInv : Inv true dc.old m0 st0 m st := by rw [← hrd]; exact hI
          exact (k8 hwr).conv hInv hold
        · exact next a' w' w'' F' L' f' cv v st1 m1 hE hF' hcl' hL' hF0' hr' hc' k1 k2 k3 k4 k5 k7
theorem mem1_spec {l : List Nat} {x : Nat} : mem1 l x = true ↔ x ∈ l := by
  induction l with
  | nil => simp [mem1]
  | cons y r ih =>
    simp only [mem1, Bool.or_eq_true, ih, List.mem_cons]
    constructor
    · rintro (h | h)
      · exact .inl (Nat.eq_of_beq_eq_true h).symm
      · exact .inr h
    · rintro (h | h)
      · subst h; exact .inl (Nat.beq_refl x)
      · exact .inr h
theorem dsts_mem : ∀ {l : List Oper} {x : Nat} {o : Oper} {d : Nat}, l[x]? = some o → o.dst = some d → d ∈ dsts l
  | [], x, o, d, h, _ => by simp at h
  | p :: r, x, o, d, h, hd => by
    simp only [dsts]
    cases x with
    | zero =>
      simp only [List.getElem?_cons_zero, Option.some.injEq] at h
      subst h
      rw [hd]; simp
    | succ x =>
      have := dsts_mem (l := r) (x := x) (by simpa using h) hd
      split
      · exact List.mem_cons_of_mem _ this
      · exact this
theorem dsts_dist : ∀ {l : List Oper}, nodupN (dsts l) = true → ∀ (x y : Nat) (ox oy : Oper) (d : Nat), l[x]? = some ox → l[y]? = some oy → ox.dst = some d → oy.dst = some d → x = y
  | [], _, x, y, ox, oy, d, hx, _, _, _ => by simp at hx
  | p :: r, hn, x, y, ox, oy, d, hx, hy, hdx, hdy => by
    have hr : nodupN (dsts r) = true := by
      simp only [dsts] at hn
      split at hn
      · simp only [nodupN, Bool.and_eq_true] at hn; exact hn.2
      · exact hn
    have hp : ∀ (z : Nat) (oz : Oper), r[z]? = some oz → p.dst = some d → oz.dst = some d → False := by
      intro z oz hz hpd hzd
      have hm := dsts_mem hz hzd
      simp only [dsts, hpd, nodupN, Bool.and_eq_true, Bool.not_eq_true'] at hn
      rw [mem1_spec.2 hm] at hn
      cases hn.1
    cases x with
    | zero =>
      cases y with
      | zero => rfl
      | succ y =>
        simp only [List.getElem?_cons_zero, Option.some.injEq] at hx
        subst hx
        exact (hp y oy (by simpa using hy) hdx hdy).elim
    | succ x =>
      cases y with
      | zero =>
        simp only [List.getElem?_cons_zero, Option.some.injEq] at hy
        subst hy
        exact (hp x ox (by simpa using hx) hdy hdx).elim
      | succ y => rw [dsts_dist hr x y ox oy d (by simpa using hx) (by simpa using hy) hdx hdy]
theorem freshF_spec : ∀ {l : List Oper}, freshF fc st l = true → ∀ (x : Nat) (o : Oper), l[x]? = some o → floatO o = true → ∃ d, o.dst = some d ∧ st.slot d = none ∧ d < fc.nt ∧
    ((∃ e t, o.op = .alloc e ∧ fc.ty e = some t) ∨ ∃ t parts i e te, o.op = .buildSlice t 0 parts ∧ parts.toList = [] ∧ lk fc.cfg.tys t = some i ∧ i.el = some (e, te))
  | [], _, x, o, h, _ => by simp at h
  | p :: r, hf, x, o, h, hfl => by
    simp only [freshF, Bool.and_eq_true] at hf
    cases x with
    | zero =>
      simp only [List.getElem?_cons_zero, Option.some.injEq] at h
      subst h
      obtain ⟨_, ⟨d, hd⟩, hb⟩ := floatO_spec hfl
      have h1 := hf.1
      rw [hfl, hd] at h1
      simp only [Bool.and_eq_true] at h1
      obtain ⟨⟨h2, h3⟩, h4⟩ := h1
      refine ⟨d, hd, ?_, dstOk_spec h3 d rfl, ?_⟩
      · split at h2
        · assumption
        · cases h2
      · unfold floatB at hb
        split at hb
        · rename_i e he
          rw [he] at h4
          simp only at h4
          split at h4
          · rename_i t ht; exact .inl ⟨e, t, he, ht⟩
          · cases h4
        · rename_i t n parts he
          rw [he] at h4
          simp only at h4
          simp only [Bool.and_eq_true] at hb
          have hn := Nat.eq_of_beq_eq_true hb.1
          subst hn
          split at h4
          · rename_i i hi
            split at h4
            · rename_i ete hel
              obtain ⟨e, te⟩ := ete
              exact .inr ⟨t, parts, i, e, te, he, isNil_spec hb.2, hi, hel⟩
            · cases h4
          · cases h4
        · cases hb
    | succ x => exact freshF_spec hf.2 x o (by simpa using h) hfl
theorem chk_modif {i : Nat} {o : Oper} (h : cls fc o.op = .modif) : chkOf fc ops ms i o = .writes ∨ chkOf fc ops ms i o = .no := by
  unfold chkOf
  rw [h]
  simp only
  cases besideB fc ops ms .mem i <;> simp
theorem pickOps_idx : ∀ {l : List Nat} {os : List (Oper × Chk)}, pickOps fc ops ms l = some os → Idx ops (fun i o ch => ch = chkOf fc ops ms i o) l os
  | [], os, h => by simp only [pickOps, Option.some.injEq] at h; subst h; exact .nil
  | i :: r, os, h => by
    simp only [pickOps] at h
    split at h
    · rename_i o ho
      split at h
      · rename_i l' hl
        cases h
        exact .cons ho rfl (pickOps_idx hl)
      · cases h
    · cases h
theorem Idx.setWr : ∀ {l : List Nat} {os : List (Oper × Chk)}, Idx ops (fun i o ch => ch = chkOf fc ops ms i o) l os → Idx ops (COk fc ops ms true) l (Go.Pv.setWr fc os)
  | _, _, .nil => .nil
  | _, _, .cons (i := i) (o := o) (ch := ch) h1 h2 h3 => by
    simp only [Go.Pv.setWr]
    refine .cons h1 ?_ (Idx.setWr h3)
    subst h2
    cases hc : cls fc o.op with
    | modif =>
      rcases chk_modif (ops := ops) (ms := ms) (i := i) hc with h4 | h4
      · rw [h4]; exact ⟨fun h => absurd hc h, fun _ => rfl, fun _ => .inl rfl, fun _ => rfl⟩
      · rw [h4]; exact ⟨fun h => absurd hc h, fun h => (by rw [h4] at h; cases h), fun _ => .inr (.inl rfl), fun _ => rfl⟩
    | pure => exact ⟨fun _ => (by cases chkOf fc ops ms i o <;> rfl), fun h => (by rw [h]), fun h => (by rw [hc] at h; cases h), fun _ => rfl⟩
    | mem => exact ⟨fun _ => (by cases chkOf fc ops ms i o <;> rfl), fun h => (by rw [h]), fun h => (by rw [hc] at h; cases h), fun _ => rfl⟩
    | heavy => exact ⟨fun _ => (by cases chkOf fc ops ms i o <;> rfl), fun h => (by rw [h]), fun h => (by rw [hc] at h; cases h), fun _ => rfl⟩
theorem Idx.noWr : ∀ {l : List Nat} {os : List (Oper × Chk)}, Idx ops (fun i o ch => ch = chkOf fc ops ms i o) l os → anyReads os = false → Idx ops (COk fc ops ms false) l os
  | _, _, .nil, _ => .nil
  | _, _, .cons (i := i) (o := o) (ch := ch) (l := l) (os := os) h1 h2 h3, hn => by
    have hr : anyReads os = false ∧ ch ≠ .reads := by
      clear h2
      cases ch <;> first | exact ⟨hn, by simp⟩ | (simp [anyReads] at hn; done)
    refine .cons h1 ?_ (Idx.noWr h3 hr.1)
    subst h2
    exact ⟨fun _ => rfl, fun h => h, fun hc => (chk_modif hc).imp (fun h => h) fun h => .inr ⟨h, rfl⟩, fun h => absurd h hr.2⟩
/-- A region that draws its order. -/
theorem region_draw {id : Nat} (hm : P.follows .mixedOrders = true) (ht : tysB P fc.cfg.tys = true) (ha : arrsB P fc.cfg.arrs = true) (hC : CallsOk P fc.cfg.calls) (hG : Glb P cx.S cx.w0) (hnt : fc.nt = cx.nt) {kk : St → Option R} {r : R} (h : Rel cx m st a w)
    (hr : regionK fc id ops true st kk = some r) (hK : ∀ m' st' a' w', Evo m st a w m' st' a' w' → Rel cx m' st' a' w' → kk st' = some r → Q .normal a' w') : (Code.region id ops true).wp P Q a w := by
  unfold regionK at hr
  simp only at hr
  split at hr
  · rename_i hb
    simp only [Bool.and_eq_true] at hb
    obtain ⟨⟨hsel, hnd⟩, hfr⟩ := hb
    split at hr
    · rename_i l hl
      split at hr
      · rename_i os hos
        have hk0 : Keep w w.drew := Keep.drew w
        have h0 := h.keep hk0
        have hord := mkOrder_ok hl
        have hx := pickOps_idx hos
        have hdd : DstDist ops := fun x y ox oy d h1 h2 => dsts_dist hnd x y ox oy d (by simpa using h1) (by simpa using h2)
        have main : ∀ (rd : Bool) (os' : List (Oper × Chk)), Idx ops (COk fc ops (masks ops.toList []) rd) l os' → runOps fc ops ⟨st.n, match lk fc.wr id with | some w => w | none => []⟩ (2 * ops.size + 2) os' st kk = some r → (Code.region id ops true).wp P Q a w := by
          intro rd os' hx' hr'
          have S := draw_stepper (P := P) (cx := cx) (rd := rd) (m0 := m) (st0 := st) (Q := Q) (dc := ⟨st.n, match lk fc.wr id with | some w => w | none => []⟩) ht ha hC hG (masks_ok ops) hsel hdd rfl
          have hG2 := run_sound hnt S _ hx' hr' (rest := []) h0 ⟨Agree.refl _ _, Nat.le_refl _, fun _ => Live.refl _ _⟩ fun m' st' a' w' hE h' _ hk L0 L F f hord' _ hcl hL hF0 _ _ _ => ?_
          · rw [List.append_nil] at hG2
            refine wp_region_any hm (wpAnyE.any (hG2 (Array.replicate ops.size false) (Array.replicate ops.size false) [] ops.size hord (by simp) ⟨by simp, fun x o ho hx => ?_⟩ (fun x => by simp) (fun q hq => by cases hq) (fun x o hx hf _ => ?_) ⟨fun q hq => (by cases hq), .nil⟩ ?_))
            · have hlt := (Array.getElem?_eq_some_iff.1 ho).1
              simp [hlt] at hx
            · obtain ⟨d, h1, h2, h3, h4⟩ := freshF_spec hfr x o (by simpa using hx) hf
              exact ⟨d, h1, h2, by rw [← hnt]; exact h3, h4⟩
            · unfold cnt
              have := List.length_filter_le (fun x => !(Array.replicate ops.size false).getD x true) (List.range ops.size)
              rwa [List.length_range] at this
          · have hnil : Region.ready .any ops L = [] := by
              cases hrd : Region.ready .any ops L with
              | nil => rfl
              | cons x r =>
                have hx : x ∈ Region.ready .any ops L := by rw [hrd]; simp
                have h1 := (mem_ready.1 hx).1
                rw [(hL x).2 (.inl (hord' x))] at h1
                cases h1
            have hQ : ∀ w'', Keep w' w'' → Q .normal a' w'' := fun w'' hk2 => hK m' st' a' w'' ((Evo.keep h hk0).trans (hE.trans (Evo.keep h' hk2))) (h'.keep hk2) hk
            cases f with
            | zero => exact ⟨hnil, hQ⟩
            | succ f => exact fun w'' hk2 => ⟨fun _ => hQ w'' hk2, fun x hx => by rw [hnil] at hx; cases hx⟩
        cases hrd : anyReads os with
        | true => rw [hrd] at hr; exact main true _ hx.setWr hr
        | false => rw [hrd] at hr; exact main false _ (hx.noWr hrd) hr
      · cases hr
    · cases hr
  · cases hr
end Go.Pv
/-! Places told as values, and values laid back into places. -/
namespace Go.Pv
variable {P : Program} {cx : Cx} {m m' : Mp} {st st' : St} {a : Act} {w w' : World} {R : Type}
/-- What stands at a place. -/
def LocAt (m : Mp) (a : Act) (w : World) (l : Loc) (k : LK) (us : List Value) : Prop :=
  match l with
  | .slot n => a.tmps.getD n undef = packV (lkAg k) us
  | .cell b off => Row w (m.bk b) (m.bo b + off) us
/-- What stands at places. -/
def LocsR (I : Nat → Prop) (m : Mp) (a : Act) (w : World) : (vs : List (Loc × LK)) → LDen (vs.map (·.2)) → List (Ob × Value) → Prop
  | [], _, hs => hs = []
  | (l, k) :: r, x, hs => ∃ us h1 h2, hs = h1 ++ h2 ∧ LR I w [k] (x.1, ()) us h1 ∧ LocAt m a w l k us ∧ LocsR I m a w r x.2 h2
theorem LocsR.mono {I I' : Nat → Prop} (hI : ∀ b, I b → I' b) : ∀ {vs : List (Loc × LK)} {x : LDen (vs.map (·.2))} {hs : List (Ob × Value)}, LocsR I m a w vs x hs → LocsR I' m a w vs x hs
  | [], _, _, h => h
  | (l, k) :: r, x, hs, h => by
    obtain ⟨us, h1, h2, e, h3, h4, h5⟩ := h
    exact ⟨us, h1, h2, e, LR_mono hI (fun _ _ => rfl) h3, h4, LocsR.mono hI h5⟩
def locH : List (Loc × LK) → List (Nat × Nat × Nat)
  | [] => []
  | (.slot _, _) :: r => locH r
  | (.cell b off, k) :: r => (b, off, k.size) :: locH r
structure LocsOk (cx : Cx) (m : Mp) (st : St) (a : Act) (w : World) (hs : List (Ob × Value)) (vs : List (Loc × LK)) (x : LDen (vs.map (·.2))) (st' : St) (m' : Mp) (hs1 : List (Ob × Value)) : Prop where
  rel : Rel cx m' st' a w
  agree : Agree st.n m m'
  le : StLe st st'
  fx : Fx st st'
  held : Held cx m' st' w (hs ++ hs1)
  tr : ∀ b, Tr m' st' b → Tr m st b
  own : ∀ p ∈ hs1, ∀ b, blk p.2 = some b → ∃ i ob, st.ob i = some ob ∧ blk (m.hd i) = some b
  locs : LocsR m'.I m a w vs x hs1
  cells : ∀ q ∈ locH vs, ∀ j, j < q.2.2 → ∃ c, st.cell q.1 (q.2.1 + j) = some c
theorem decLocs_sound : ∀ {vs : List (Loc × LK)} {x : LDen (vs.map (·.2))} {st st' : St} {m : Mp} {hs : List (Ob × Value)}, Rel cx m st a w → decLocs st vs = some (x, st') → Held cx m st w hs → ∃ m' hs1, LocsOk cx m st a w hs vs x st' m' hs1
  | [], x, st, st', m, hs, h, hd, hh => by
    simp only [decLocs, Option.some.injEq, Prod.mk.injEq] at hd
    obtain ⟨_, rfl⟩ := hd
    exact ⟨m, [], h, Agree.refl _ _, StLe.refl _, Fx.refl _, by rw [List.append_nil]; exact hh, fun _ hb => hb, fun p hp => (by cases hp), rfl, fun q hq => (by simp [locH] at hq)⟩
  | (l, k) :: r, x, st, st', m, hs, h, hd, hh => by
    simp only [decLocs] at hd
    split at hd
    · rename_i cs hcs
      split at hd
      · rename_i y rest s1 hk
        split at hd
        · rename_i hnil
          split at hd
          · rename_i z s2 hr
            simp only [Option.some.injEq, Prod.mk.injEq] at hd
            obtain ⟨rfl, rfl⟩ := hd
            have := isNil_spec hnil
            subst this
            -- the cells there
            have hplace : ∃ us, CRs cx m w cs us ∧ (∀ c ∈ cs, c.lt st.n) ∧ LocAt m a w l k us ∧ (∀ q ∈ locH [(l, k)], ∀ j, j < q.2.2 → ∃ c, st.cell q.1 (q.2.1 + j) = some c) := by
              cases l with
              | slot n =>
                simp only [locCells] at hcs
                split at hcs
                · rename_i g cs0 hsl
                  obtain ⟨hg, hcs⟩ := whenB_spec hcs
                  cases hcs
                  obtain ⟨v1, v2⟩ := h.slots n _ hsl
                  have hg' : g = lkAg k := by simpa using hg
                  subst hg'
                  refine (?_ : ∃ us, _)
                  cases hag : lkAg k with
                  | true =>
                    rw [hag] at v1
                    obtain ⟨us, e, h1⟩ := v1
                    exact ⟨us, h1, v2, by simp only [LocAt, hag]; exact e, fun q hq => by simp [locH] at hq⟩
                  | false =>
                    rw [hag] at v1
                    obtain ⟨c, e, h1⟩ := v1
                    subst e
                    exact ⟨[_], .cons h1 .nil, v2, by simp only [LocAt, hag]; rfl, fun q hq => by simp [locH] at hq⟩
                · cases hcs
              | cell b off =>
                simp only [locCells] at hcs
                obtain ⟨us, r1, r2, r3, r4⟩ := readC_sound h hcs
                refine ⟨us, r3, r4, r1, fun q hq j hj => ?_⟩
                simp only [locH, List.mem_singleton] at hq
                subst hq
                exact readC_cells hcs j hj
            obtain ⟨us, c1, c2, c3, c4⟩ := hplace
            obtain ⟨m1, v1, v2, hs1, t1, l1⟩ := decK_sound h hk c1 c2 hh
            have h0 := t1.rest
            cases h0
            have hvs := t1.vs
            simp only [List.append_nil] at hvs
            subst hvs
            obtain ⟨m2, hs2, k2⟩ := decLocs_sound t1.rel hr t1.held
            have hcells2 : ∀ q ∈ locH r, ∀ j, j < q.2.2 → ∃ c, st.cell q.1 (q.2.1 + j) = some c := fun q hq j hj => by
              obtain ⟨c, hc⟩ := k2.cells q hq j hj; exact ⟨c, by rw [← t1.le.cell]; exact hc⟩
            refine ⟨m2, hs1 ++ hs2, k2.rel, t1.agree.trans k2.agree (Nat.le_of_eq t1.le.n.symm), t1.le.trans k2.le, t1.fx.trans k2.fx, by rw [← List.append_assoc]; exact k2.held, fun b hb => t1.tr b (k2.tr b hb), fun p hp b hb => ?_, ?_, fun q hq => ?_⟩
            · rcases List.mem_append.1 hp with hp | hp
              · obtain ⟨i, ob, q1, q2, _⟩ := t1.own p hp b hb; exact ⟨i, ob, q1, q2⟩
              · obtain ⟨i, ob, q1, q2⟩ := k2.own p hp b hb
                obtain ⟨o', ho'⟩ := t1.le.ob i ob q1
                exact ⟨i, o', ho', by rw [← t1.agree.hd i (h.objs i o' ho').2]; exact q2⟩
            · refine ⟨us, hs1, hs2, rfl, LR_mono k2.agree.I (fun _ _ => rfl) l1, c3, ?_⟩
              -- the maps on old numbers are the same
              have : ∀ {vs : List (Loc × LK)} {x : LDen (vs.map (·.2))} {hs : List (Ob × Value)}, (∀ q ∈ locH vs, ∀ j, j < q.2.2 → ∃ c, st.cell q.1 (q.2.1 + j) = some c) → LocsR m2.I m1 a w vs x hs → LocsR m2.I m a w vs x hs := by
                intro vs
                induction vs with
                | nil => intro _ _ _ h; exact h
                | cons p r ih =>
                  intro x hs hcell hloc
                  obtain ⟨l, k⟩ := p
                  obtain ⟨us, g1, g2, e, q1, q2, q3⟩ := hloc
                  cases l with
                  | slot n => exact ⟨us, g1, g2, e, q1, q2, ih hcell q3⟩
                  | cell b off =>
                    refine ⟨us, g1, g2, e, q1, ?_, ih (fun q hq => hcell q (by simp [locH, hq])) q3⟩
                    simp only [LocAt] at q2 ⊢
                    intro i v hv
                    have hlt : i < us.length := (List.getElem?_eq_some_iff.1 hv).1
                    have hlen := LR_length q1
                    simp only [sizeL, Nat.add_zero] at hlen
                    obtain ⟨c, hc⟩ := hcell (b, off, k.size) (by simp [locH]) i (by simp only; omega)
                    have hb := (h.cells _ _ c hc).2.2
                    rw [← t1.agree.bk b hb, ← t1.agree.bo b hb]
                    exact q2 i v hv
              exact this hcells2 k2.locs
            · cases l with
              | slot n => exact hcells2 q (by simpa [locH] using hq)
              | cell b off =>
                simp only [locH, List.mem_cons] at hq
                rcases hq with rfl | hq
                · exact c4 _ (by simp [locH])
                · exact hcells2 q hq
          · cases hd
        · cases hd
      · cases hd
    · cases hd
/-! ### Laying back -/
def St.addS (st : St) (i : Nat) (v : V) : St := match st with | ⟨fs, fc, fo, s, c, o, n⟩ => ⟨fs, fc, fo, (i, v) :: s, c, o, n⟩
def St.addC (st : St) (b off : Nat) (cs : List C) : St := match st with | ⟨fs, fc, fo, s, c, o, n⟩ => ⟨fs, fc, fo, s, newC b off cs c, o, n⟩
def St.lay (st : St) (l : Loc) (k : LK) (cs : List C) : St := match l with | .slot n => st.addS n (.v (lkAg k) cs) | .cell b off => st.addC b off cs
theorem addS_look (st : St) (i : Nat) (v : V) : (∀ n, (st.addS i v).slot n = if i = n then some v else st.slot n) ∧ (∀ b off, (st.addS i v).cell b off = st.cell b off) ∧ (∀ j, (st.addS i v).ob j = st.ob j) ∧ (st.addS i v).n = st.n := by
  cases st with
  | mk fs fc fo s c o n =>
  refine ⟨fun k => ?_, fun _ _ => rfl, fun _ => rfl, rfl⟩
  simp only [St.addS, St.slot, lk_cons]
  by_cases h : i = k <;> simp [h]
theorem addC_look (st : St) (b off : Nat) (cs : List C) : (∀ n, (st.addC b off cs).slot n = st.slot n) ∧ (∀ b' o', (st.addC b off cs).cell b' o' = if b' = b ∧ off ≤ o' ∧ o' < off + cs.length then cs[o' - off]? else st.cell b' o') ∧ (∀ j, (st.addC b off cs).ob j = st.ob j) ∧ (st.addC b off cs).n = st.n := by
  cases st with
  | mk fs fc fo s c o n =>
  refine ⟨fun _ => rfl, fun b' o' => ?_, fun _ => rfl, rfl⟩
  simp only [St.addC, St.cell, lk2_newC]
  by_cases h : b' = b ∧ off ≤ o' ∧ o' < off + cs.length
  · have h2 : b = b' ∧ off ≤ o' ∧ o' < off + cs.length := ⟨h.1.symm, h.2⟩
    have : o' - off < cs.length := by omega
    rw [if_pos h, if_pos h2, List.getElem?_eq_getElem this]
  · have h2 : ¬ (b = b' ∧ off ≤ o' ∧ o' < off + cs.length) := fun hh => h ⟨hh.1.symm, hh.2⟩
    rw [if_neg h, if_neg h2]
theorem encLocs_cons (st : St) (l : Loc) (k : LK) (r : List (Loc × LK)) (x : LDen (((l, k) :: r).map (·.2))) :
    encLocs st ((l, k) :: r) x = encLocs ((encK st k x.1).2.lay l k (encK st k x.1).1) r x.2 := by
  have : encLocs st ((l, k) :: r) x = match encK st k x.1 with
    | (cs, ⟨fs, fc, fo, s, c, o, n⟩) => match l with
      | .slot m => encLocs ⟨fs, fc, fo, (m, .v (lkAg k) cs) :: s, c, o, n⟩ r x.2
      | .cell b off => encLocs ⟨fs, fc, fo, s, newC b off cs c, o, n⟩ r x.2 := by cases l <;> rfl
  rw [this]
  generalize encK st k x.1 = p
  obtain ⟨cs, fs, fc, fo, s, c, o, n⟩ := p
  cases l <;> rfl
theorem Rel.addS (h : Rel cx m st a w) {i : Nat} {v : V} (hv : VR cx m w v (a.tmps.getD i undef)) (hl : v.lt st.n) : Rel cx m (st.addS i v) a w := by
  obtain ⟨l1, l2, l3, l4⟩ := addS_look st i v
  refine { defers := h.defers, size := h.size, slots := fun n x hx => ?_, cells := fun b off c hc => ?_, own := fun b off c hc => ?_, inj := fun b off c b' off' c' hc hc' => ?_, objs := fun j ob hi => ?_, odis := fun j ob j' ob' b hi hi' => ?_, bdis := fun j ob b off c g hi hc => ?_, I := h.I, frame := h.frame, If := h.If, box := fun b off c hc => by rw [l2] at hc; exact h.box b off c hc }
  · rw [l1] at hx
    rw [l4]
    split at hx
    · rename_i e; subst e; cases hx; exact ⟨hv, hl⟩
    · exact h.slots n x hx
  · rw [l2] at hc; rw [l4]; exact h.cells b off c hc
  · rw [l2] at hc; exact h.own b off c hc
  · rw [l2] at hc hc'; exact h.inj _ _ _ _ _ _ hc hc'
  · rw [l3] at hi; rw [l4]; exact h.objs j ob hi
  · rw [l3] at hi hi'; exact h.odis _ _ _ _ _ hi hi'
  · rw [l3] at hi; rw [l2] at hc; exact h.bdis _ _ _ _ _ _ hi hc
/-- Places of the state, and those that are still to be laid back. -/
def Pos (st : St) (H : List (Nat × Nat × Nat)) (b o : Nat) : Prop := (∃ c, st.cell b o = some c) ∨ ∃ q ∈ H, q.1 = b ∧ q.2.1 ≤ o ∧ o < q.2.1 + q.2.2
structure Hole2 (cx : Cx) (m : Mp) (st : St) (w : World) (H : List (Nat × Nat × Nat)) (hs : List (Ob × Value)) : Prop where
  lt : ∀ q ∈ H, 0 < q.2.2 → q.1 < st.n
  rng : ∀ q ∈ H, 0 < q.2.2 → ¬ m.I (m.bk q.1) ∧ (∀ j, j < q.2.2 → cx.free (m.bk q.1) (m.bo q.1 + q.2.1 + j)) ∧ ∃ cs e, w.heap[m.bk q.1]? = some (.cells cs e (0, 0))
  inj : ∀ b o b' o', Pos st H b o → Pos st H b' o' → m.bk b = m.bk b' → m.bo b + o = m.bo b' + o' → b = b' ∧ o = o'
  obj : ∀ id ob g, st.ob id = some ob → blk (m.hd id) = some g → ∀ q ∈ H, 0 < q.2.2 → m.bk q.1 ≠ g
  far : ∀ p ∈ hs, ∀ g, blk p.2 = some g → ∀ q ∈ H, 0 < q.2.2 → m.bk q.1 ≠ g
  box : ∀ q ∈ H, 0 < q.2.2 → cx.K ≤ q.1 → m.bo q.1 = 0 ∧ ∀ o, cx.free (m.bk q.1) o
theorem Rel.addC (h : Rel cx m st a w) {b off : Nat} {cs : List C} {us : List Value} {H : List (Nat × Nat × Nat)} {hs : List (Ob × Value)} (hk : Hole2 cx m st w ((b, off, cs.length) :: H) hs) (hc : CRs cx m w cs us) (hlt : ∀ c ∈ cs, c.lt st.n) (hrow : Row w (m.bk b) (m.bo b + off) us) :
    Rel cx m (st.addC b off cs) a w := by
  obtain ⟨l1, l2, l3, l4⟩ := addC_look st b off cs
  have hcell : ∀ b' o' c, (st.addC b off cs).cell b' o' = some c → (b' = b ∧ off ≤ o' ∧ o' < off + cs.length ∧ cs[o' - off]? = some c) ∨ st.cell b' o' = some c := by
    intro b' o' c h1
    rw [l2] at h1
    split at h1
    · rename_i hh; exact .inl ⟨hh.1, hh.2.1, hh.2.2, h1⟩
    · exact .inr h1
  have hpos : ∀ b' o' c, (st.addC b off cs).cell b' o' = some c → Pos st ((b, off, cs.length) :: H) b' o' := by
    intro b' o' c h1
    rcases hcell b' o' c h1 with ⟨rfl, i1, i2, _⟩ | h2
    · exact .inr ⟨(b', off, cs.length), by simp, rfl, i1, i2⟩
    · exact .inl ⟨c, h2⟩
  refine { defers := h.defers, size := h.size, slots := fun n x hx => ?_, cells := fun b' o' c hc0 => ?_, own := fun b' o' c hc0 => ?_, inj := fun b1 o1 c1 b2 o2 c2 hc1 hc2 e1 e2 => hk.inj _ _ _ _ (hpos _ _ _ hc1) (hpos _ _ _ hc2) e1 e2, objs := fun j ob hi => ?_, odis := fun j ob j' ob' b hi hi' => ?_, bdis := fun j ob b' o' c g hi hc0 hg => ?_, I := h.I, frame := h.frame, If := h.If, box := fun b' o' c hc0 hK => (hcell b' o' c hc0).elim (fun hh => by obtain ⟨rfl, i1, i2, i3⟩ := hh; exact hk.box (b', off, cs.length) (by simp) (by simp only; omega) hK) (fun h2 => h.box b' o' c h2 hK) }
  · rw [l1] at hx; rw [l4]; exact h.slots n x hx
  · rw [l4]
    rcases hcell b' o' c hc0 with ⟨rfl, i1, i2, i3⟩ | h2
    · obtain ⟨cv, v1, v2⟩ := hc.get _ _ i3
      refine ⟨⟨cv, ?_, v2⟩, hlt c (List.mem_of_getElem? i3), hk.lt (b', off, cs.length) (by simp) (by simp only; omega)⟩
      have := hrow _ cv v1
      rwa [show m.bo b' + off + (o' - off) = m.bo b' + o' by omega] at this
    · exact h.cells b' o' c h2
  · rcases hcell b' o' c hc0 with ⟨rfl, i1, i2, i3⟩ | h2
    · obtain ⟨r1, r2, r3⟩ := hk.rng (b', off, cs.length) (by simp) (by simp only; omega)
      refine ⟨r1, ?_, r3⟩
      have := r2 (o' - off) (by simp only; omega)
      simp only at this
      rwa [show m.bo b' + off + (o' - off) = m.bo b' + o' by omega] at this
    · exact h.own b' o' c h2
  · rw [l3] at hi; rw [l4]; exact h.objs j ob hi
  · rw [l3] at hi hi'; exact h.odis _ _ _ _ _ hi hi'
  · rw [l3] at hi
    rcases hcell b' o' c hc0 with ⟨rfl, i1, i2, i3⟩ | h2
    · exact hk.obj j ob g hi hg (b', off, cs.length) (by simp) (by simp only; omega)
    · exact h.bdis _ _ _ _ _ _ hi h2 hg
theorem encK_len {k : LK} {x : k.den} : (encK st k x).1.length = k.size := by
  have := encL_length (ks := [k]) (x := (x, ())) (st := st)
  simpa [encL, sizeL] using this
theorem encLocs_sound : ∀ {vs : List (Loc × LK)} {x : LDen (vs.map (·.2))} {st : St} {m : Mp} {hs ho : List (Ob × Value)}, Rel cx m st a w → LocsR m.I m a w vs x hs → Held cx m st w (hs ++ ho) → Hole2 cx m st w (locH vs) (hs ++ ho) →
    ∃ m', Rel cx m' (encLocs st vs x) a w ∧ Agree st.n m m' ∧ m'.I = m.I
  | [], x, st, m, hs, ho, h, hl, hh, hk => ⟨m, h, Agree.refl _ _, rfl⟩
  | (l, k) :: r, x, st, m, hs, ho, h, hl, hh, hk => by
    obtain ⟨us, h1, h2, rfl, q1, q2, q3⟩ := hl
    have hlen := LR_length q1
    simp only [sizeL, Nat.add_zero] at hlen
    have hen : encL st [k] (x.1, ()) = ((encK st k x.1).1, (encK st k x.1).2) := by simp [encL]
    obtain ⟨m1, mk⟩ := encL_sound h hen q1 (by rw [← List.append_assoc]; exact hh)
    have hcellEq : ∀ b off, (encK st k x.1).2.cell b off = st.cell b off := by
      have := (encL_snd_cell (ks := [k]) (x := (x.1, ())) (st := st)).1
      rw [hen] at this; exact this
    rw [encLocs_cons]
    -- what stays of the places
    have hq3 : ∀ {vs : List (Loc × LK)} {x : LDen (vs.map (·.2))} {hs : List (Ob × Value)}, (∀ q ∈ locH vs, 0 < q.2.2 → q.1 < st.n) → LocsR m.I m a w vs x hs → LocsR m1.I m1 a w vs x hs := by
      intro vs
      induction vs with
      | nil => intro _ _ _ h; exact h
      | cons p r ih =>
        intro x hs hlt hloc
        obtain ⟨l, k⟩ := p
        obtain ⟨us, g1, g2, e, w1, w2, w3⟩ := hloc
        rw [mk.I] at ih ⊢
        cases l with
        | slot n => exact ⟨us, g1, g2, e, w1, w2, ih hlt w3⟩
        | cell b off =>
          refine ⟨us, g1, g2, e, w1, ?_, ih (fun q hq => hlt q (by simp [locH, hq])) w3⟩
          simp only [LocAt] at w2 ⊢
          intro i v hv
          have hl' : i < us.length := (List.getElem?_eq_some_iff.1 hv).1
          have hlen := LR_length w1
          simp only [sizeL, Nat.add_zero] at hlen
          have hb := hlt (b, off, k.size) (by simp [locH]) (by simp only; omega)
          rw [mk.agree.bk b hb, mk.agree.bo b hb]
          exact w2 i v hv
    -- the places still to be laid back
    have hobj1 : ∀ H : List (Nat × Nat × Nat), (∀ q ∈ H, q ∈ locH ((l, k) :: r)) → ∀ id ob g, (encK st k x.1).2.ob id = some ob → blk (m1.hd id) = some g → ∀ q ∈ H, 0 < q.2.2 → m1.bk q.1 ≠ g := by
      intro H hH id ob g hid hg q hq hpos hqe
      have hqn := hk.lt q (hH q hq) hpos
      rw [mk.agree.bk _ hqn] at hqe
      rcases mk.tr g (.inr (.inl ⟨id, ob, hid, hg⟩)) with h3 | ⟨p, hp, h3⟩
      · rcases h3 with h3 | ⟨i, o, h4, h5⟩ | ⟨i, o, c, h4, h5⟩
        · rw [← hqe] at h3; exact (hk.rng q (hH q hq) hpos).1 h3
        · exact hk.obj i o g h4 h5 q (hH q hq) hpos hqe
        · have := mk.rel.bdis id ob i o c g hid (by rw [hcellEq]; exact h4) hg
          rw [mk.agree.bk i (h.cells i o c h4).2.2] at this
          exact this h5
      · exact hk.far p (by simp [hp]) g h3 q (hH q hq) hpos hqe
    have hhole : ∀ H : List (Nat × Nat × Nat), (∀ q ∈ H, q ∈ locH ((l, k) :: r)) → Hole2 cx m1 (encK st k x.1).2 w H (h2 ++ ho) := by
      intro H hH
      have hposlt : ∀ b o, Pos (encK st k x.1).2 H b o → Pos st (locH ((l, k) :: r)) b o ∧ b < st.n := by
        rintro b o (⟨c, hc⟩ | ⟨q, hq, rfl, i1, i2⟩)
        · rw [hcellEq] at hc; exact ⟨.inl ⟨c, hc⟩, (h.cells b o c hc).2.2⟩
        · exact ⟨.inr ⟨q, hH q hq, rfl, i1, i2⟩, hk.lt q (hH q hq) (by omega)⟩
      refine ⟨fun q hq hp => Nat.lt_of_lt_of_le (hk.lt q (hH q hq) hp) mk.n, fun q hq hp => ?_, fun b o b' o' p1 p2 e1 e2 => ?_, hobj1 H hH, fun p hp g hg q hq hpos => ?_, fun q hq hp hK => by rw [mk.agree.bk _ (hk.lt q (hH q hq) hp), mk.agree.bo _ (hk.lt q (hH q hq) hp)]; exact hk.box q (hH q hq) hp hK⟩
      · rw [mk.I, mk.agree.bk _ (hk.lt q (hH q hq) hp), mk.agree.bo _ (hk.lt q (hH q hq) hp)]
        exact hk.rng q (hH q hq) hp
      · obtain ⟨a1, a2⟩ := hposlt b o p1
        obtain ⟨b1, b2⟩ := hposlt b' o' p2
        rw [mk.agree.bk _ a2, mk.agree.bk _ b2] at e1
        rw [mk.agree.bo _ a2, mk.agree.bo _ b2] at e2
        exact hk.inj _ _ _ _ a1 b1 e1 e2
      · rw [mk.agree.bk _ (hk.lt q (hH q hq) hpos)]
        exact hk.far p (by
          rcases List.mem_append.1 hp with hp | hp
          · simp [hp]
          · simp [hp]) g hg q (hH q hq) hpos
    cases l with
    | slot n =>
      simp only [St.lay]
      have hr1 : Rel cx m1 ((encK st k x.1).2.addS n (.v (lkAg k) (encK st k x.1).1)) a w := by
        refine mk.rel.addS ?_ mk.lt
        simp only [LocAt] at q2
        rw [q2]
        have hcrs := mk.crs
        cases hag : lkAg k with
        | true => exact ⟨us, rfl, hcrs⟩
        | false =>
          have h1s : k.size = 1 := by
            cases k with
            | dat t => exact ag_false_size hag
            | own e t => rfl
            | mp kt vt => rfl
          rw [h1s] at hlen
          generalize (encK st k x.1).1 = cs at hcrs
          cases hcrs with
          | nil => simp at hlen
          | cons a1 a2 => cases a2 with
            | nil => exact ⟨_, rfl, a1⟩
            | cons => simp at hlen
      obtain ⟨l1, l2, l3, l4⟩ := addS_look (encK st k x.1).2 n (.v (lkAg k) (encK st k x.1).1)
      have hH := hhole (locH r) (fun q hq => by simpa [locH] using hq)
      have hheld2 : Held cx m1 ((encK st k x.1).2.addS n (.v (lkAg k) (encK st k x.1).1)) w (h2 ++ ho) := mk.held.sub (fun b off c hc => by rw [l2] at hc; exact hc) (fun id ob hi => ⟨ob, by rw [l3] at hi; exact hi⟩)
      obtain ⟨m2, r1, r2, r3⟩ := encLocs_sound (vs := r) (x := x.2) hr1 (hq3 (fun q hq hp => hk.lt q (by simpa [locH] using hq) hp) q3) hheld2 ⟨fun q hq hp => by rw [l4]; exact hH.lt q hq hp, hH.rng, fun b o b' o' p1 p2 => hH.inj b o b' o' (by unfold Pos at *; rw [l2] at p1; exact p1) (by unfold Pos at *; rw [l2] at p2; exact p2), fun id ob g hi => hH.obj id ob g (by rw [l3] at hi; exact hi), hH.far, hH.box⟩
      exact ⟨m2, r1, mk.agree.trans r2 (by rw [l4]; exact mk.n), r3.trans mk.I⟩
    | cell b off =>
      simp only [St.lay]
      simp only [LocAt] at q2
      have hH0 := hhole (locH ((.cell b off, k) :: r)) (fun q hq => hq)
      have hlk : (encK st k x.1).1.length = k.size := encK_len
      simp only [locH] at hH0
      rw [← hlk] at hH0
      have hrow : Row w (m1.bk b) (m1.bo b + off) us := by
        intro i v hv
        have hl' : i < us.length := (List.getElem?_eq_some_iff.1 hv).1
        have hb := hk.lt (b, off, k.size) (by simp [locH]) (by simp only; omega)
        rw [mk.agree.bk b hb, mk.agree.bo b hb]
        exact q2 i v hv
      have hr1 := mk.rel.addC hH0 mk.crs mk.lt hrow
      obtain ⟨l1, l2, l3, l4⟩ := addC_look (encK st k x.1).2 b off (encK st k x.1).1
      have hH := hhole (locH r) (fun q hq => by simp [locH, hq])
      have hpos2 : ∀ b' o', Pos ((encK st k x.1).2.addC b off (encK st k x.1).1) (locH r) b' o' → Pos (encK st k x.1).2 ((b, off, (encK st k x.1).1.length) :: locH r) b' o' := by
        rintro b' o' (⟨c, hc⟩ | ⟨q, hq, e, i1, i2⟩)
        · rw [l2] at hc
          split at hc
          · rename_i hh; exact .inr ⟨(b, off, (encK st k x.1).1.length), by simp, hh.1.symm, hh.2.1, hh.2.2⟩
          · exact .inl ⟨c, hc⟩
        · exact .inr ⟨q, by simp [hq], e, i1, i2⟩
      have hheld2 : Held cx m1 ((encK st k x.1).2.addC b off (encK st k x.1).1) w (h2 ++ ho) := by
        refine Held.of (fun p hp => ?_) mk.held.pairwise
        obtain ⟨p1, p2, p3⟩ := mk.held.mem p hp
        refine ⟨p1, p2, fun g hg => ⟨fun i o hi => (p3 g hg).1 i o (by rw [l3] at hi; exact hi), fun b' o' c hc => ?_⟩⟩
        rw [l2] at hc
        split at hc
        · rename_i hh
          obtain ⟨rfl, i1, i2⟩ := hh
          exact hH0.far p hp g hg (b', off, (encK st k x.1).1.length) (by simp) (by simp only; omega)
        · exact (p3 g hg).2 b' o' c hc
      obtain ⟨m2, r1, r2, r3⟩ := encLocs_sound (vs := r) (x := x.2) hr1 (hq3 (fun q hq hp => hk.lt q (by simp [locH, hq]) hp) q3) hheld2 ⟨fun q hq hp => by rw [l4]; exact hH.lt q hq hp, hH.rng, fun b1 o1 b2 o2 p1 p2 => hH0.inj b1 o1 b2 o2 (hpos2 _ _ p1) (hpos2 _ _ p2), fun id ob g hi => hH.obj id ob g (by rw [l3] at hi; exact hi), hH.far, hH.box⟩
      exact ⟨m2, r1, mk.agree.trans r2 (by rw [l4]; exact mk.n), r3.trans mk.I⟩
end Go.Pv
namespace Go.Pv
variable {P : Program} {cx : Cx} {m m' : Mp} {st st' : St} {a : Act} {w w' : World} {R : Type}
/-- What has not been told of is as it was. -/
theorem Rel.base {B st2 : St} {a' : Act} (hB : Rel cx m B a w) (h2 : Rel cx m' st2 a' w') (hag : Agree B.n m m') (hkeep : ∀ b, m.I b → w'.heap[b]? = w.heap[b]?) (hsize : w.heap.size ≤ w'.heap.size)
    (hs : ∀ n v, B.slot n = some v → a'.tmps.getD n undef = a.tmps.getD n undef) (hc : ∀ b off c, B.cell b off = some c → st2.cell b off = some c) (ho : ∀ i ob, B.ob i = some ob → st2.ob i = some ob) : Rel cx m' B a' w' where
  defers := h2.defers
  size := h2.size
  slots n v hv := by
    have hsm : Same cx m w w' := ⟨hB.frame, h2.frame, hsize, hkeep⟩
    obtain ⟨v1, v2⟩ := hB.slots n v hv
    refine ⟨?_, v2⟩
    rw [hs n v hv]
    exact (hsm.vr v1).agree hag v2
  cells b off c hb := ⟨(h2.cells b off c (hc _ _ _ hb)).1, (hB.cells b off c hb).2⟩
  own b off c hb := h2.own b off c (hc _ _ _ hb)
  inj b off c b' off' c' h3 h4 := h2.inj _ _ _ _ _ _ (hc _ _ _ h3) (hc _ _ _ h4)
  objs i ob hi := ⟨(h2.objs i ob (ho _ _ hi)).1, (hB.objs i ob hi).2⟩
  odis i ob i' ob' b h3 h4 := h2.odis _ _ _ _ _ (ho _ _ h3) (ho _ _ h4)
  bdis i ob b off c g h3 h4 := h2.bdis _ _ _ _ _ _ (ho _ _ h3) (hc _ _ _ h4)
  I := h2.I
  frame := h2.frame
  If := h2.If
  box b off c hb := h2.box b off c (hc _ _ _ hb)
theorem LocsR.agree {I : Nat → Prop} {n : Nat} (hg : Agree n m m') : ∀ {vs : List (Loc × LK)} {x : LDen (vs.map (·.2))} {hs : List (Ob × Value)}, (∀ q ∈ locH vs, 0 < q.2.2 → q.1 < n) → LocsR I m a w vs x hs → LocsR I m' a w vs x hs
  | [], _, _, _, h => h
  | (l, k) :: r, x, hs, hlt, h => by
    obtain ⟨us, g1, g2, e, w1, w2, w3⟩ := h
    cases l with
    | slot n => exact ⟨us, g1, g2, e, w1, w2, LocsR.agree hg hlt w3⟩
    | cell b off =>
      refine ⟨us, g1, g2, e, w1, ?_, LocsR.agree hg (fun q hq => hlt q (by simp [locH, hq])) w3⟩
      simp only [LocAt] at w2 ⊢
      intro i v hv
      have hl' : i < us.length := (List.getElem?_eq_some_iff.1 hv).1
      have hlen := LR_length w1
      simp only [sizeL, Nat.add_zero] at hlen
      have hb := hlt (b, off, k.size) (by simp [locH]) (by simp only; omega)
      rw [hg.bk b hb, hg.bo b hb]
      exact w2 i v hv
/-- Values told of places, laid back into them. -/
theorem lay_back {B st2 : St} {m0 : Mp} {vs : List (Loc × LK)} {y : LDen (vs.map (·.2))} {hs : List (Ob × Value)} (h : Rel cx m0 st a w) (k : LocsOk cx m0 st a w [] vs y st2 m hs) (hB : Rel cx m B a w) (hc : ∀ b off c, B.cell b off = some c → st2.cell b off = some c) (ho : ∀ i ob, B.ob i = some ob → st2.ob i = some ob)
    (hlt : ∀ q ∈ locH vs, 0 < q.2.2 → q.1 < B.n) : ∃ m', Rel cx m' (encLocs B vs y) a w ∧ Agree B.n m m' ∧ m'.I = m.I := by
  have hheld : Held cx m st2 w hs := by have := k.held; rwa [List.nil_append] at this
  have hlt0 : ∀ q ∈ locH vs, 0 < q.2.2 → q.1 < st.n := fun q hq hp => by
    obtain ⟨c, hcc⟩ := k.cells q hq 0 hp
    exact (h.cells _ _ c hcc).2.2
  have hcell2 : ∀ q ∈ locH vs, ∀ j, j < q.2.2 → ∃ c, st2.cell q.1 (q.2.1 + j) = some c := fun q hq j hj => by
    obtain ⟨c, hcc⟩ := k.cells q hq j hj; exact ⟨c, by rw [k.le.cell]; exact hcc⟩
  have hpos : ∀ b o, Pos B (locH vs) b o → ∃ c, st2.cell b o = some c := by
    rintro b o (⟨c, hb⟩ | ⟨q, hq, rfl, i1, i2⟩)
    · exact ⟨c, hc _ _ _ hb⟩
    · obtain ⟨c, hcc⟩ := hcell2 q hq (o - q.2.1) (by omega)
      exact ⟨c, by rwa [show q.2.1 + (o - q.2.1) = o by omega] at hcc⟩
  refine encLocs_sound (ho := []) hB (LocsR.agree k.agree hlt0 k.locs) (by rw [List.append_nil]; exact hheld.sub hc (fun id ob hi => ⟨ob, ho _ _ hi⟩)) ⟨hlt, fun q hq hp => ?_, fun b o b' o' p1 p2 e1 e2 => ?_, fun id ob g hi hg q hq hp => ?_, fun p hp g hg q hq hp0 => ?_, fun q hq hp hK => by
      obtain ⟨c, hcc⟩ := hcell2 q hq 0 hp
      exact k.rel.box _ _ c hcc hK⟩
  · obtain ⟨c, hcc⟩ := hcell2 q hq 0 hp
    obtain ⟨o1, _, o3⟩ := k.rel.own _ _ c hcc
    refine ⟨o1, fun j hj => ?_, o3⟩
    obtain ⟨c', hcc'⟩ := hcell2 q hq j hj
    have := (k.rel.own _ _ c' hcc').2.1
    rwa [← Nat.add_assoc] at this
  · obtain ⟨c1, h1⟩ := hpos b o p1
    obtain ⟨c2, h2⟩ := hpos b' o' p2
    exact k.rel.inj _ _ _ _ _ _ h1 h2 e1 e2
  · obtain ⟨c, hcc⟩ := hcell2 q hq 0 hp
    exact k.rel.bdis _ _ _ _ _ _ (ho _ _ hi) hcc hg
  · obtain ⟨c, hcc⟩ := hcell2 q hq 0 hp0
    rw [List.append_nil] at hp
    exact ((hheld.mem p hp).2.2 g hg).2 _ _ c hcc
/-! ### The lookups of what is laid back -/
theorem encK_look (st : St) (k : LK) (x : k.den) : (encK st k x).2.fs = st.fs ∧ (encK st k x).2.fc = st.fc ∧ (encK st k x).2.fo = st.fo ∧ st.n ≤ (encK st k x).2.n ∧ (encK st k x).2.c = st.c ∧ (∀ i, i < st.n → lk (encK st k x).2.o i = lk st.o i) ∧ (encK st k x).2.s = st.s := by
  cases st with
  | mk fs fc fo s c o n =>
  cases k with
  | dat t => exact ⟨rfl, rfl, rfl, Nat.le_refl _, rfl, fun _ _ => rfl, rfl⟩
  | own e t =>
    refine ⟨rfl, rfl, rfl, Nat.le_succ _, rfl, fun i hi => ?_, rfl⟩
    simp only [encK, St.addO, lk_cons]
    rw [if_neg (by simp only at hi; omega)]
  | mp kt vt =>
    refine ⟨rfl, rfl, rfl, Nat.le_succ _, rfl, fun i hi => ?_, rfl⟩
    simp only [encK, St.addO, lk_cons]
    rw [if_neg (by simp only at hi; omega)]
theorem encLocs_look : ∀ (vs : List (Loc × LK)) (x : LDen (vs.map (·.2))) (st : St), (encLocs st vs x).fs = st.fs ∧ (encLocs st vs x).fc = st.fc ∧ (encLocs st vs x).fo = st.fo ∧ st.n ≤ (encLocs st vs x).n ∧
    (∀ b o, (∀ q ∈ locH vs, ¬ (q.1 = b ∧ q.2.1 ≤ o ∧ o < q.2.1 + q.2.2)) → lk2 (encLocs st vs x).c b o = lk2 st.c b o) ∧ (∀ i, i < st.n → lk (encLocs st vs x).o i = lk st.o i)
  | [], _, st => ⟨rfl, rfl, rfl, Nat.le_refl _, fun _ _ _ => rfl, fun _ _ => rfl⟩
  | (l, k) :: r, x, st => by
    rw [encLocs_cons]
    obtain ⟨e1, e2, e3, e4, e5, e6, _⟩ := encK_look st k x.1
    have hlen := encK_len (st := st) (k := k) (x := x.1)
    generalize (encK st k x.1).1 = cs at hlen
    generalize (encK st k x.1).2 = s1 at e1 e2 e3 e4 e5 e6
    obtain ⟨i1, i2, i3, i4, i5, i6⟩ := encLocs_look r x.2 (s1.lay l k cs)
    have hl : (s1.lay l k cs).fs = s1.fs ∧ (s1.lay l k cs).fc = s1.fc ∧ (s1.lay l k cs).fo = s1.fo ∧ (s1.lay l k cs).n = s1.n ∧ (s1.lay l k cs).o = s1.o := by
      cases s1; cases l <;> exact ⟨rfl, rfl, rfl, rfl, rfl⟩
    obtain ⟨j1, j2, j3, j4, j5⟩ := hl
    refine ⟨i1.trans (j1.trans e1), i2.trans (j2.trans e2), i3.trans (j3.trans e3), by rw [j4] at i4; omega, fun b o hno => ?_, fun i hi => by rw [i6 i (by rw [j4]; omega), j5, e6 i hi]⟩
    cases l with
    | slot n =>
      rw [i5 b o (fun q hq => hno q (by simpa [locH] using hq)), ← e5]
      cases s1; rfl
    | cell b0 off =>
      rw [i5 b o (fun q hq => hno q (by simp [locH, hq])), ← e5]
      cases s1 with
      | mk fs fc fo s c o' n =>
      simp only [St.lay, St.addC, lk2_newC]
      rw [if_neg]
      intro hh
      exact hno (b0, off, k.size) (by simp [locH]) (by rw [← hlen]; exact hh)
theorem chkLocs_spec : ∀ {vs : List (Loc × LK)}, chkLocs st vs = true → ∀ q ∈ locH vs, ∀ j, j < q.2.2 → ∃ c, lk2 st.c q.1 (q.2.1 + j) = some c
  | [], _, q, hq => by simp [locH] at hq
  | (.slot n, k) :: r, h, q, hq => chkLocs_spec (vs := r) (by simpa [chkLocs] using h) q (by simpa [locH] using hq)
  | (.cell b off, k) :: r, h, q, hq => by
    simp only [chkLocs, Bool.and_eq_true, List.all_eq_true, List.mem_range] at h
    simp only [locH, List.mem_cons] at hq
    rcases hq with rfl | hq
    · exact fun j hj => Option.isSome_iff_exists.1 (h.1 j hj)
    · exact chkLocs_spec h.2 q hq
/-- Behind it, the state goes on. -/
theorem Fx.laid {B : St} {vs : List (Loc × LK)} {y : LDen (vs.map (·.2))} (hk : chkLocs st vs = true) (h1 : B.fs = st.fs) (h2 : B.fc = st.fc) (h3 : B.fo = st.fo) (h4 : B.n = st.n) (h5 : ∀ b o, b < st.n → lk2 st.c b o = none → lk2 B.c b o = none) (h6 : ∀ i, i < st.n → lk st.o i = none → lk B.o i = none) : Fx st (encLocs B vs y) := by
  obtain ⟨e1, e2, e3, e4, e5, e6⟩ := encLocs_look vs y B
  refine ⟨e1.trans h1, e2.trans h2, e3.trans h3, by rw [← h4]; exact e4, fun b off hbn hn => ?_, fun i hi hn => by rw [e6 i (by rw [h4]; exact hi)]; exact h6 i hi hn⟩
  rw [e5 b off]
  · exact h5 b off hbn hn
  · rintro q hq ⟨rfl, i1, i2⟩
    obtain ⟨c, hc⟩ := chkLocs_spec hk q hq (off - q.2.1) (by omega)
    rw [show q.2.1 + (off - q.2.1) = off by omega, hn] at hc
    cases hc
end Go.Pv
/-! Code: what the interpreter answers, the model comes to. -/
namespace Go.Pv
variable {P : Program} {cx : Cx} {m m' : Mp} {st st' : St} {a : Act} {w w' : World} {R : Type}
def inS (ls : List Loc) (n : Nat) : Bool := ls.any (fun l => match l with | .slot m => Nat.beq m n | _ => false)
def inC (ls : List Loc) (b o : Nat) : Bool := ls.any (fun l => match l with | .cell b' m => Nat.beq b' b && Nat.beq m o | _ => false)
theorem rmS_spec {ls : List Loc} : ∀ {l l' : List (Nat × V)}, rmS ls l = some l' → ∀ n, lk l' n = if inS ls n then none else lk l n
  | [], l', h, n => by simp only [rmS, Option.some.injEq] at h; subst h; simp [lk]
  | (k, v) :: r, l', h, n => by
    simp only [rmS] at h
    split at h
    · rename_i r' hr
      have ih := rmS_spec hr n
      split at h
      · rename_i hin
        cases h
        rw [ih, lk_cons]
        by_cases hk : k = n
        · subst hk
          have : inS ls k = true := hin
          simp [this]
        · simp [hk]
      · rename_i hin
        cases h
        rw [lk_cons, lk_cons, ih]
        by_cases hk : k = n
        · subst hk
          have : inS ls k = false := hin
          simp [this]
        · simp [hk]
    · cases h
theorem rmC_spec {ls : List Loc} : ∀ {l l' : List ((Nat × Nat) × C)}, rmC ls l = some l' → ∀ b o, lk2 l' b o = if inC ls b o then none else lk2 l b o
  | [], l', h, b, o => by simp only [rmC, Option.some.injEq] at h; subst h; simp [lk2]
  | ((x, y), v) :: r, l', h, b, o => by
    simp only [rmC] at h
    split at h
    · rename_i r' hr
      have ih := rmC_spec hr b o
      split at h
      · rename_i hin
        cases h
        rw [ih, lk2_cons]
        by_cases hk : x = b ∧ y = o
        · obtain ⟨rfl, rfl⟩ := hk
          have : inC ls x y = true := hin
          simp [this]
        · simp [hk]
      · rename_i hin
        cases h
        rw [lk2_cons, lk2_cons, ih]
        by_cases hk : x = b ∧ y = o
        · obtain ⟨rfl, rfl⟩ := hk
          have : inC ls x y = false := hin
          simp [this]
        · simp [hk]
    · cases h
theorem clearOf_spec : ∀ {ls : List Loc}, clearOf st ls = true → (∀ n, inS ls n = true → lk st.fs n = none) ∧ ∀ b o, inC ls b o = true → lk2 st.fc b o = none
  | [], _ => ⟨fun n h => by simp [inS] at h, fun b o h => by simp [inC] at h⟩
  | .slot k :: r, h => by
    simp only [clearOf, Bool.and_eq_true] at h
    obtain ⟨i1, i2⟩ := clearOf_spec h.2
    refine ⟨fun n hn => ?_, fun b o hb => i2 b o (by simpa [inC] using hb)⟩
    simp only [inS, List.any_cons, Bool.or_eq_true] at hn
    rcases hn with hn | hn
    · have := Nat.eq_of_beq_eq_true hn
      subst this
      have h1 := h.1
      split at h1
      · cases h1
      · assumption
    · exact i1 n hn
  | .cell x y :: r, h => by
    simp only [clearOf, Bool.and_eq_true] at h
    obtain ⟨i1, i2⟩ := clearOf_spec h.2
    refine ⟨fun n hn => i1 n (by simpa [inS] using hn), fun b o hb => ?_⟩
    simp only [inC, List.any_cons, Bool.or_eq_true] at hb
    rcases hb with hb | hb
    · obtain ⟨rfl, rfl⟩ := beq2.1 hb
      have h1 := h.1
      split at h1
      · cases h1
      · assumption
    · exact i2 b o hb
structure RestOk (st : St) (ls : List Loc) (st' : St) : Prop where
  slot : ∀ n, st'.slot n = if inS ls n then none else st.slot n
  cell : ∀ b o, st'.cell b o = if inC ls b o then none else st.cell b o
  ob : ∀ i, st'.ob i = st.ob i
  n : st'.n = st.n
  fs : st'.fs = st.fs
  fc : st'.fc = st.fc
  fo : st'.fo = st.fo
  c : ∀ b o, lk2 st.c b o = none → lk2 st'.c b o = none
  o : st'.o = st.o
  fsn : ∀ n v, lk st.fs n = some v → ∃ v', st'.slot n = some v'
theorem rest_spec {ls : List Loc} (h : rest st ls = some st') : RestOk st ls st' := by
  unfold rest at h
  split at h
  · rename_i s c hcl hs hc
    obtain ⟨c1, c2⟩ := clearOf_spec hcl
    cases st with
    | mk fs fc fo s0 c0 o n =>
    simp only [Option.some.injEq] at h
    subst h
    refine ⟨fun k => ?_, fun b o' => ?_, fun _ => rfl, rfl, rfl, rfl, rfl, fun b o' hn => ?_, rfl, fun k v hv => ?_⟩
    · simp only [St.slot, rmS_spec hs k]
      by_cases hk : inS ls k = true
      · have := c1 k hk; simp only at this; simp [hk, this]
      · simp [hk]
    · simp only [St.cell, rmC_spec hc b o']
      by_cases hk : inC ls b o' = true
      · have := c2 b o' hk; simp only at this; simp [hk, this]
      · simp [hk]
    · simp only at hn
      simp only [rmC_spec hc b o', hn]; simp
    · simp only at hv
      simp only [St.slot, rmS_spec hs k]
      by_cases hk : inS ls k = true
      · have := c1 k hk; simp only at this; rw [this] at hv; cases hv
      · simp only [hk, Bool.false_eq_true, if_false]
        cases hl : lk s0 k with
        | none => exact ⟨v, hv⟩
        | some u => exact ⟨u, rfl⟩
  · cases h
theorem inC_locs : ∀ {vs : List (Loc × LK)} {ls : List Loc} {b o : Nat}, inC (locsOf vs ++ ls) b o = false → ∀ q ∈ locH vs, ¬ (q.1 = b ∧ q.2.1 ≤ o ∧ o < q.2.1 + q.2.2)
  | [], _, _, _, _, q, hq => by simp [locH] at hq
  | (.slot n, k) :: r, ls, b, o, h, q, hq => inC_locs (vs := r) (by simpa [locsOf, inC] using h) q (by simpa [locH] using hq)
  | (.cell b0 off, k) :: r, ls, b, o, h, q, hq => by
    simp only [locsOf, List.flatMap_cons, List.append_assoc] at h
    simp only [inC, List.any_append, Bool.or_eq_false_iff] at h
    simp only [locH, List.mem_cons] at hq
    rcases hq with rfl | hq
    · rintro ⟨rfl, i1, i2⟩
      simp only at i1 i2
      have h1 := h.1
      rw [List.any_eq_false] at h1
      have := h1 (.cell b0 (off + (o - off))) (List.mem_map.2 ⟨o - off, List.mem_range.2 (by omega), rfl⟩)
      simp only [Nat.beq_refl, Bool.true_and] at this
      rw [show off + (o - off) = o by omega] at this
      simp at this
    · refine inC_locs (vs := r) (ls := ls) ?_ q hq
      simp only [inC, List.any_append, Bool.or_eq_false_iff]
      exact h.2
/-! ### A branch's own state -/
theorem keepS_look {ls : List Loc} (n : Nat) : lk (keepS ls st) n = if inS ls n then lk st.s n else none := by
  unfold keepS
  induction ls with
  | nil => simp [lk, inS]
  | cons l r ih =>
    cases l with
    | cell b o => simpa [List.filterMap_cons, inS] using ih
    | slot k =>
      simp only [List.filterMap_cons]
      have hin : inS (.slot k :: r) n = (Nat.beq k n || inS r n) := by simp [inS]
      cases hk : lk st.s k with
      | none =>
        simp only [Option.map_none]
        rw [ih, hin]
        by_cases hkn : k = n
        · subst hkn; simp [hk]
        · have : Nat.beq k n = false := by
            cases hb : Nat.beq k n with
            | false => rfl
            | true => exact absurd (Nat.eq_of_beq_eq_true hb) hkn
          simp [this]
      | some v =>
        simp only [Option.map_some]
        rw [lk_cons, ih, hin]
        by_cases hkn : k = n
        · subst hkn; simp [hk]
        · have : Nat.beq k n = false := by
            cases hb : Nat.beq k n with
            | false => rfl
            | true => exact absurd (Nat.eq_of_beq_eq_true hb) hkn
          simp [this, hkn]
theorem keepC_look {ls : List Loc} (b o : Nat) : lk2 (keepC ls st) b o = if inC ls b o then lk2 st.c b o else none := by
  unfold keepC
  induction ls with
  | nil => simp [lk2, inC]
  | cons l r ih =>
    cases l with
    | slot k => simpa [List.filterMap_cons, inC] using ih
    | cell x y =>
      simp only [List.filterMap_cons]
      have hin : inC (.cell x y :: r) b o = ((Nat.beq x b && Nat.beq y o) || inC r b o) := by simp [inC]
      cases hk : lk2 st.c x y with
      | none =>
        simp only [Option.map_none]
        rw [ih, hin]
        by_cases hkn : x = b ∧ y = o
        · obtain ⟨rfl, rfl⟩ := hkn; simp [hk]
        · have : (Nat.beq x b && Nat.beq y o) = false := by
            cases hb : (Nat.beq x b && Nat.beq y o) with
            | false => rfl
            | true => exact absurd (beq2.1 hb) hkn
          simp [this]
      | some v =>
        simp only [Option.map_some]
        rw [lk2_cons, ih, hin]
        by_cases hkn : x = b ∧ y = o
        · obtain ⟨rfl, rfl⟩ := hkn; simp [hk]
        · have : (Nat.beq x b && Nat.beq y o) = false := by
            cases hb : (Nat.beq x b && Nat.beq y o) with
            | false => rfl
            | true => exact absurd (beq2.1 hb) hkn
          simp [this, hkn]
theorem clearO_spec {fo : List (Nat × Ob)} : ∀ {l : List (Nat × Ob)}, clearO fo l = true → ∀ i ob, lk l i = some ob → lk fo i = none
  | [], _, i, ob, h => by simp [lk] at h
  | (k, v) :: r, hc, i, ob, h => by
    simp only [clearO, Bool.and_eq_true] at hc
    rw [lk_cons] at h
    split at h
    · rename_i hk
      subst hk
      have h1 := hc.1
      split at h1
      · cases h1
      · assumption
    · exact clearO_spec hc.2 i ob h
theorem splitO_look {ids : List Nat} : ∀ {o a b : List (Nat × Ob)}, splitO ids o = (a, b) → ∀ i, lk a i = (if mem1 ids i then lk o i else none) ∧ lk b i = (if mem1 ids i then none else lk o i)
  | [], a, b, h, i => by simp only [splitO, Prod.mk.injEq] at h; obtain ⟨rfl, rfl⟩ := h; simp [lk]
  | (k, ob) :: r, a, b, h, i => by
    simp only [splitO] at h
    generalize hs : splitO ids r = p at h
    obtain ⟨a1, b1⟩ := p
    obtain ⟨i1, i2⟩ := splitO_look hs i
    simp only at h
    split at h
    · rename_i hm
      simp only [Prod.mk.injEq] at h
      obtain ⟨rfl, rfl⟩ := h
      rw [lk_cons, lk_cons, i1, i2]
      by_cases hk : k = i
      · subst hk; simp [hm]
      · simp [hk]
    · rename_i hm
      simp only [Prod.mk.injEq] at h
      obtain ⟨rfl, rfl⟩ := h
      rw [lk_cons, lk_cons, i1, i2]
      by_cases hk : k = i
      · subst hk; simp [hm]
      · simp [hk]
structure EnterOk (st st0 st1 : St) : Prop where
  slot0 : ∀ n v, st0.slot n = some v → st.slot n = some v
  cell0 : ∀ b o c, st0.cell b o = some c → st.cell b o = some c
  ob0 : ∀ i ob, st0.ob i = some ob → st.ob i = some ob
  n0 : st0.n = st.n
  slot1 : ∀ n v, st1.slot n = some v → lk st0.fs n = some v ∧ st.slot n = some v
  cell1 : ∀ b o c, st1.cell b o = some c → lk2 st0.fc b o = some c ∧ lk2 st0.c b o = none ∧ st.cell b o = some c
  ob1 : ∀ i ob, st1.ob i = some ob → lk st0.fo i = some ob ∧ lk st0.o i = none ∧ st.ob i = some ob
  n1 : st1.n = st.n
  fs : st1.fs = st.fs
  fc : st1.fc = st.fc
  fo : st1.fo = st.fo
  c : ∀ b o, lk2 st.c b o = none → lk2 st1.c b o = none
  o : ∀ i, lk st.o i = none → lk st1.o i = none
  fsn : ∀ n v, lk st.fs n = some v → ∃ v', lk st0.fs n = some v'
theorem enterJ_spec {ls : List Loc} {st0 st1 : St} (h : enterJ st ls = some (st0, st1)) : EnterOk st st0 st1 := by
  unfold enterJ at h
  split at h
  · rename_i s' c' hcl hs hc
    obtain ⟨k1, k2⟩ := clearOf_spec hcl
    have hs := rmS_spec hs
    have hc := rmC_spec hc
    cases st with
    | mk fs fc fo s c o n =>
    simp only at h hs hc k1 k2
    generalize hp : splitO (refsS (keepS ls ⟨fs, fc, fo, s, c, o, n⟩) ++ refsC (keepC ls ⟨fs, fc, fo, s, c, o, n⟩)) o = p at h
    obtain ⟨mine, ro⟩ := p
    obtain ⟨hclo, h⟩ := whenB_spec h
    simp only [Option.some.injEq, Prod.mk.injEq] at h
    obtain ⟨rfl, rfl⟩ := h
    have hclo := clearO_spec hclo
    have hsp := splitO_look hp
    generalize refsS (keepS ls ⟨fs, fc, fo, s, c, o, n⟩) ++ refsC (keepC ls ⟨fs, fc, fo, s, c, o, n⟩) = ids at hsp
    have hks := fun k => keepS_look (st := ⟨fs, fc, fo, s, c, o, n⟩) (ls := ls) k
    have hkc := fun b o' => keepC_look (st := ⟨fs, fc, fo, s, c, o, n⟩) (ls := ls) b o'
    simp only at hks hkc
    -- lookups in the joined lists
    have fs1 : ∀ k, lk (s' ++ fs) k = if inS ls k then none else (match lk s k with | some v => some v | none => lk fs k) := by
      intro k
      by_cases hk : inS ls k = true
      · rw [lk_app_none (by rw [hs k]; simp [hk]), k1 k hk]; simp [hk]
      · cases hl : lk s k with
        | none => rw [lk_app_none (by rw [hs k]; simp [hk, hl])]; simp [hk]
        | some v => rw [lk_app_some (v := v) (by rw [hs k]; simp [hk, hl])]; simp [hk]
    have fc1 : ∀ b o', lk2 (c' ++ fc) b o' = if inC ls b o' then none else (match lk2 c b o' with | some v => some v | none => lk2 fc b o') := by
      intro b o'
      by_cases hk : inC ls b o' = true
      · rw [lk2_app_none (by rw [hc b o']; simp [hk]), k2 b o' hk]; simp [hk]
      · cases hl : lk2 c b o' with
        | none => rw [lk2_app_none (by rw [hc b o']; simp [hk, hl])]; simp [hk]
        | some v => rw [lk2_app_some (v := v) (by rw [hc b o']; simp [hk, hl])]; simp [hk]
    refine ⟨fun k v hv => ?_, fun b o' cc hv => ?_, fun i ob hi => ?_, rfl, fun k v hv => ?_, fun b o' cc hv => ?_, fun i ob hi => ?_, rfl, rfl, rfl, rfl, fun b o' hn => ?_, fun i hn => ?_, fun k v hv => ?_⟩
    · simp only [St.slot, hks, fs1] at hv ⊢
      by_cases hk : inS ls k = true
      · simp only [hk, if_true] at hv
        cases hl : lk s k with
        | none => rw [hl] at hv; cases hv
        | some u => rw [hl] at hv; exact hv
      · simp only [hk, Bool.false_eq_true, if_false] at hv; exact hv
    · simp only [St.cell, hkc, fc1] at hv ⊢
      by_cases hk : inC ls b o' = true
      · simp only [hk, if_true] at hv
        cases hl : lk2 c b o' with
        | none => rw [hl] at hv; cases hv
        | some u => rw [hl] at hv; exact hv
      · simp only [hk, Bool.false_eq_true, if_false] at hv; exact hv
    · simp only [St.ob, (hsp i).1] at hi ⊢
      by_cases hm : mem1 ids i = true
      · simp only [hm, if_true] at hi
        cases hl : lk o i with
        | some u => rw [hl] at hi; exact hi
        | none =>
          rw [hl] at hi
          rw [lk_app_none (by rw [(hsp i).2]; simp [hm])] at hi
          exact hi
      · simp only [hm, Bool.false_eq_true, if_false] at hi
        cases hl : lk o i with
        | some u => rw [lk_app_some (v := u) (by rw [(hsp i).2]; simp [hm, hl])] at hi; exact hi
        | none => rw [lk_app_none (by rw [(hsp i).2]; simp [hm, hl])] at hi; exact hi
    · simp only [St.slot, hs k] at hv
      simp only [fs1, St.slot]
      by_cases hk : inS ls k = true
      · simp only [hk, if_true] at hv
        rw [k1 k hk] at hv; cases hv
      · simp only [hk, Bool.false_eq_true, if_false] at hv ⊢; exact ⟨hv, hv⟩
    · simp only [St.cell, hc b o'] at hv
      simp only [fc1, St.cell, hkc]
      by_cases hk : inC ls b o' = true
      · simp only [hk, if_true] at hv
        rw [k2 b o' hk] at hv; cases hv
      · simp only [hk, Bool.false_eq_true, if_false] at hv ⊢; exact ⟨hv, trivial, hv⟩
    · simp only [St.ob, (hsp i).2] at hi
      simp only [(hsp i).1, St.ob]
      by_cases hm : mem1 ids i = true
      · simp only [hm, if_true] at hi ⊢
        rw [lk_app_none (by rw [(hsp i).2]; simp [hm])]
        cases hl : lk o i with
        | none => exact ⟨hi, rfl, hi⟩
        | some u =>
          have := hclo i u (by rw [(hsp i).1]; simp [hm, hl])
          rw [this] at hi; cases hi
      · simp only [hm, Bool.false_eq_true, if_false] at hi ⊢
        refine ⟨?_, trivial, hi⟩
        cases hl : lk o i with
        | some u => rw [lk_app_some (v := u) (by rw [(hsp i).2]; simp [hm, hl])]; rw [hl] at hi; exact hi
        | none => rw [lk_app_none (by rw [(hsp i).2]; simp [hm, hl])]; rw [hl] at hi; exact hi
    · simp only [hc b o']; simp only at hn; simp [hn]
    · simp only [(hsp i).2]; simp only at hn; simp [hn]
    · simp only at hv
      simp only [fs1]
      by_cases hk : inS ls k = true
      · rw [k1 k hk] at hv; cases hv
      · simp only [hk, Bool.false_eq_true, if_false]
        cases hl : lk s k with
        | some u => exact ⟨u, rfl⟩
        | none => exact ⟨v, hv⟩
  · cases h
end Go.Pv
