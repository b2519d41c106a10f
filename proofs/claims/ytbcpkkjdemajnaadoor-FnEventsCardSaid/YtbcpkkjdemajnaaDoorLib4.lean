/-
  The library of the interpreter: its parts Sound, Exit, Entry, Body, Law.
-/
import Derived.Test.YtbcpkkjdemajnaaDoorLib3
import Derived.Laws.Sem
import Derived.ChangeSame
import Derived.ChangeSlices
import Derived.OpenShut
import Derived.RowKit
/-! **The interpreter is sound.** -/
namespace Go.Pv
variable {P : Program} {cx : Cx} {m m' : Mp} {st st' : St} {a : Act} {w w' : World} {R : Type}
/-- What is told of loops and joins can be told back. -/
structure AnnOk (fc : FC) : Prop where
  loop : ∀ id an, lk fc.loops id = some an → ∀ x, an.of (an.to x) = x
  join : ∀ id j, lk fc.joins id = some j → ∀ y, j.of (j.to y) = y
/-- How all goes on up to a return. -/
structure Evr (m : Mp) (st : St) (w : World) (m' : Mp) (w' : World) : Prop where
  agree : Agree st.n m m'
  keepI : ∀ b, m.I b → w'.heap[b]? = w.heap[b]?
  size : w.heap.size ≤ w'.heap.size
theorem Evr.of {m1 : Mp} {st1 : St} {w1 : World} (h1 : Agree st.n m m1) (hn : st.n ≤ st1.n) (h2 : ∀ b, m.I b → w1.heap[b]? = w.heap[b]?) (h3 : w.heap.size ≤ w1.heap.size) (h : Evr m1 st1 w1 m' w') : Evr m st w m' w' :=
  ⟨h1.trans h.agree hn, fun b hb => (h.keepI b (h1.I b hb)).trans (h2 b hb), Nat.le_trans h3 h.size⟩
theorem Evr.refl (m : Mp) (st : St) (w : World) : Evr m st w m w := ⟨Agree.refl _ _, fun _ _ => rfl, Nat.le_refl _⟩
theorem Evo.evr {m1 : Mp} {st1 : St} {a1 : Act} {w1 : World} (h : Evo m st a w m1 st1 a1 w1) (h' : Evr m1 st1 w1 m' w') : Evr m st w m' w' := Evr.of h.agree h.fx.n h.keepI h.size h'
theorem loopL_spec {σ τ : Type} {body : (σ → Option τ) → σ → Option τ} {s : σ} {t : τ} (h : loopL body s = some t) : ∃ n, loopS body n s = some t := by
  unfold loopL at h
  split at h
  · rename_i hx
    cases h
    obtain ⟨n, hn⟩ := hx.choose_spec
    exact ⟨n, hn n (Nat.le_refl _)⟩
  · cases h
theorem fixAll_rel (h : Rel cx m st a w) : Rel cx m (fixAll st [] []) a w := by
  obtain ⟨f1, f2, f3, f4, _⟩ := fixAll_look st []
  exact h.sub (fun n v hv => by rw [f4] at hv; exact hv) (fun b off c hc => by rwa [f1] at hc) (fun id ob hi => by rwa [f2] at hi) (Nat.le_of_eq f3.symm)
theorem whenB_some {α : Type} {b : Bool} {x : Option α} {r : α} (h : whenB b x = some r) : b = true ∧ x = some r := whenB_spec h
/-- What a round, or a branch, hands back: told, and laid back into what was there. -/
theorem tell_back {B S : St} {m0 m1 m2 : Mp} {a0 a1 a2 : Act} {w0 w1 w2 : World} {st2 st3 : St} {vs : List (Loc × LK)} {y : LDen (vs.map (·.2))}
    (hB : Rel cx m0 B a0 w0) (hag : Agree B.n m0 m1) (hkeep : ∀ b, m0.I b → w1.heap[b]? = w0.heap[b]?) (hsize : w0.heap.size ≤ w1.heap.size) (hsl : ∀ n v, B.slot n = some v → a1.tmps.getD n undef = a0.tmps.getD n undef)
    (hE : Evo m1 S a1 w1 m2 st2 a2 w2) (h2 : Rel cx m2 st2 a2 w2) (hn : B.n ≤ S.n)
    (hS1 : ∀ n v, B.slot n = some v → lk S.fs n = some v) (hS2 : ∀ b off c, B.cell b off = some c → lk2 S.fc b off = some c ∧ lk2 S.c b off = none) (hS3 : ∀ i ob, B.ob i = some ob → lk S.fo i = some ob ∧ lk S.o i = none)
    (hlt : ∀ q ∈ locH vs, 0 < q.2.2 → q.1 < B.n) (hd : decLocs st2 vs = some (y, st3)) :
    ∃ m4, Rel cx m4 (encLocs B vs y) a2 w2 ∧ Agree B.n m0 m4 ∧ (∀ b, m0.I b → w2.heap[b]? = w0.heap[b]?) ∧ w0.heap.size ≤ w2.heap.size ∧ (∀ n v, B.slot n = some v → a2.tmps.getD n undef = a0.tmps.getD n undef) := by
  obtain ⟨m3, hs, k⟩ := decLocs_sound h2 hd (hs := []) trivial
  have hag3 : Agree B.n m0 m3 := (hag.trans hE.agree hn).trans (k.agree.mono (Nat.le_trans hn hE.fx.n)) (Nat.le_refl _)
  have hkeep2 : ∀ b, m0.I b → w2.heap[b]? = w0.heap[b]? := fun b hb => (hE.keepI b (hag.I b hb)).trans (hkeep b hb)
  have hsize2 := Nat.le_trans hsize hE.size
  have hsl2 : ∀ n v, B.slot n = some v → a2.tmps.getD n undef = a0.tmps.getD n undef := fun n v hv => (hE.slots n v (hS1 n v hv)).trans (hsl n v hv)
  have hc : ∀ b off c, B.cell b off = some c → st3.cell b off = some c := by
    intro b off c hb
    have hbn := (hB.cells b off c hb).2.2
    obtain ⟨q1, q2⟩ := hS2 b off c hb
    rw [k.le.cell]
    unfold St.cell
    rw [hE.fx.c b off (Nat.lt_of_lt_of_le hbn hn) q2]
    simp only
    rw [hE.fx.fc]; exact q1
  have ho : ∀ i ob, B.ob i = some ob → st3.ob i = some ob := by
    intro i ob hi
    have hin := (hB.objs i ob hi).2
    obtain ⟨q1, q2⟩ := hS3 i ob hi
    have h5 := hE.fx.o i (Nat.lt_of_lt_of_le hin hn) q2
    have h6 := k.fx.o i (Nat.lt_of_lt_of_le hin (Nat.le_trans hn hE.fx.n)) h5
    unfold St.ob
    rw [h6]
    simp only
    rw [k.fx.fo, hE.fx.fo]; exact q1
  have hB3 := hB.base k.rel hag3 hkeep2 hsize2 hsl2 hc ho
  obtain ⟨m4, r1, r2, r3⟩ := lay_back h2 k hB3 hc ho hlt
  exact ⟨m4, r1, hag3.trans r2 (Nat.le_refl _), hkeep2, hsize2, hsl2⟩
/-- What the interpreter answers of this code, the model comes to. -/
def Snd (P : Program) (cx : Cx) (fc : FC) (ρ : Type) (fin : fc.OD → ρ) (c : Code) : Prop :=
  ∀ (R : Type) (st : St) (kn : St → Option R) (kr : ρ → Option R) (ke : Nat → St → Option R) (r : R) (m : Mp) (a : Act) (w : World) (Q : Exit → Act → World → Prop), interp fc ρ fin c st kn kr ke = some r → Rel cx m st a w →
      (∀ m' st' a' w', Evo m st a w m' st' a' w' → Rel cx m' st' a' w' → kn st' = some r → Q .normal a' w') →
      (∀ m' st' a' w' y, Evr m st w m' w' → Rel cx m' st' a' w' → decRet fc st' = some y → kr (fin y) = some r → Q .ret a' w') →
      (∀ j m' st' a' w', Evo m st a w m' st' a' w' → Rel cx m' st' a' w' → ke j st' = some r → Q (.exit j) a' w') → c.wp P Q a w
def interpBlock : Code → Bool
  | .loop _ => false
  | _ => true
theorem loop_sound {fc : FC} {ρ : Type} {fin : fc.OD → ρ} (hA : AnnOk fc) {id : Nat} {body : Code} (ih : Snd P cx fc ρ fin body) : Snd P cx fc ρ fin (.block id (.loop body)) := by
    intro R st kn kr ke r m a w Q hi h hn hr he
    simp only [interp] at hi
    split at hi
    · rename_i an hlp
      split at hi
      · rename_i x st0 hd0
        split at hi
        · rename_i st1 hrs
          obtain ⟨hck, hi⟩ := whenB_spec hi
          have hof := hA.loop id an hlp
          have rk := rest_spec hrs
          obtain ⟨m1, hs, k⟩ := decLocs_sound h hd0 (hs := []) trivial
          have hlt : ∀ q ∈ locH an.vars, 0 < q.2.2 → q.1 < st1.n := fun q hq hp => by
            obtain ⟨c, hcc⟩ := k.cells q hq 0 hp
            rw [rk.n, k.le.n]; exact (h.cells _ _ c hcc).2.2
          have hR1 : Rel cx m1 st1 a w := k.rel.sub (fun n v hv => by rw [rk.slot] at hv; split at hv; cases hv; exact hv) (fun b o c hc => by rw [rk.cell] at hc; split at hc; cases hc; exact hc) (fun i ob hi => by rwa [rk.ob] at hi) (Nat.le_of_eq rk.n.symm)
          have hF := fixAll_rel hR1
          obtain ⟨f1, f2, f3, f4, f5, f6, f7, f8, f9⟩ := fixAll_look st1 []
          have f4' : ∀ n, (fixAll st1 [] []).slot n = st1.slot n := fun n => by rw [f4]; rfl
          obtain ⟨m2, s1, s2, s3⟩ := lay_back (B := fixAll st1 [] []) h k hF (fun b o c hc => by rw [f1, rk.cell] at hc; split at hc; cases hc; exact hc) (fun i ob hi => by rwa [f2, rk.ob] at hi) (by rw [f3]; exact hlt)
          -- one round
          have round : ∀ {τ : Type} (s : an.σ) (t : τ) (kn' : St → Option τ) (kr' : ρ → Option τ) (ke' : Nat → St → Option τ) (m3 : Mp) (a3 : Act) (w3 : World) (Q' : Exit → Act → World → Prop), interp fc ρ fin body (encLocs (fixAll st1 [] []) an.vars (an.of s)) kn' kr' ke' = some t → Rel cx m3 (encLocs (fixAll st1 [] []) an.vars (an.of s)) a3 w3 → Evo m1 (fixAll st1 [] []) a w m3 (fixAll st1 [] []) a3 w3 →
              (∀ m4 st4 a4 w4, kn' st4 = some t → (∀ y st5, decLocs st4 an.vars = some (y, st5) → ∃ m5, Rel cx m5 (encLocs (fixAll st1 [] []) an.vars y) a4 w4 ∧ Evo m1 (fixAll st1 [] []) a w m5 (fixAll st1 [] []) a4 w4) → Rel cx m4 st4 a4 w4 → Q' .normal a4 w4) →
              (∀ m4 st4 a4 w4 y, Evr m st w m4 w4 → Rel cx m4 st4 a4 w4 → decRet fc st4 = some y → kr' (fin y) = some t → Q' .ret a4 w4) →
              (∀ j m4 st4 a4 w4, ke' j st4 = some t → (∀ y st5, decLocs st4 an.vars = some (y, st5) → ∃ m5, Rel cx m5 (encLocs st1 an.vars y) a4 w4 ∧ Evo m st a w m5 (encLocs st1 an.vars y) a4 w4) → Rel cx m4 st4 a4 w4 → Q' (.exit j) a4 w4) → body.wp P Q' a3 w3 := by
            intro τ s t kn' kr' ke' m3 a3 w3 Q' hib h3 hE3 hqn hqr hqe
            obtain ⟨l1, l2, l3, l4, l5, l6⟩ := encLocs_look an.vars (an.of s) (fixAll st1 [] [])
            have hnot : ∀ b off c, st1.cell b off = some c → lk2 (encLocs (fixAll st1 [] []) an.vars (an.of s)).c b off = none := by
              intro b off c hc
              rw [l5 b off, f8]
              · rfl
              · rw [rk.cell] at hc
                split at hc
                · cases hc
                · rename_i hin
                  exact inC_locs (by simpa using hin)
            have hnoto : ∀ i ob, st1.ob i = some ob → lk (encLocs (fixAll st1 [] []) an.vars (an.of s)).o i = none := by
              intro i ob hi
              rw [l6 i (by rw [f3]; exact (hR1.objs i ob hi).2), f9]; rfl
            have back : ∀ (B : St), (∀ n, B.slot n = st1.slot n) → (∀ b o, B.cell b o = st1.cell b o) → (∀ i, B.ob i = st1.ob i) → B.n = st1.n → ∀ m4 st4 a4 w4, Evo m3 (encLocs (fixAll st1 [] []) an.vars (an.of s)) a3 w3 m4 st4 a4 w4 → Rel cx m4 st4 a4 w4 → ∀ y st5, decLocs st4 an.vars = some (y, st5) →
                ∃ m5, Rel cx m5 (encLocs B an.vars y) a4 w4 ∧ Agree B.n m1 m5 ∧ (∀ b, m1.I b → w4.heap[b]? = w.heap[b]?) ∧ w.heap.size ≤ w4.heap.size ∧ (∀ n v, B.slot n = some v → a4.tmps.getD n undef = a.tmps.getD n undef) := by
              intro B b1 b2 b3 b4 m4 st4 a4 w4 hE4 h4 y st5 hd
              have hRB : Rel cx m1 B a w := hR1.sub (fun n v hv => by rwa [b1] at hv) (fun b o c hc => by rwa [b2] at hc) (fun i ob hi => by rwa [b3] at hi) (Nat.le_of_eq b4.symm)
              refine tell_back hRB (by have := hE3.agree; rw [f3] at this; rw [b4]; exact this) hE3.keepI hE3.size (fun n v hv => hE3.slots n v (by rw [f5]; rw [b1] at hv; exact hv)) hE4 h4 (by rw [b4]; rw [f3] at l4; exact l4) (fun n v hv => by rw [l1, f5]; rw [b1] at hv; exact hv) (fun b o c hc => by rw [b2] at hc; exact ⟨by rw [l2, f6]; exact hc, hnot b o c hc⟩) (fun i ob hi => by rw [b3] at hi; exact ⟨by rw [l3, f7]; exact hi, hnoto i ob hi⟩) (by rw [b4]; exact hlt) hd
            refine ih _ _ _ _ _ _ _ _ _ _ hib h3 (fun m4 st4 a4 w4 hE4 h4 hk4 => hqn m4 st4 a4 w4 hk4 (fun y st5 hd => ?_) h4) (fun m4 st4 a4 w4 y hE4 h4 hdr hk4 => hqr m4 st4 a4 w4 y ?_ h4 hdr hk4) (fun j m4 st4 a4 w4 hE4 h4 hk4 => hqe j m4 st4 a4 w4 hk4 (fun y st5 hd => ?_) h4)
            · obtain ⟨m5, q1, q2, q3, q4, q5⟩ := back (fixAll st1 [] []) f4' f1 f2 f3 m4 st4 a4 w4 hE4 h4 y st5 hd
              exact ⟨m5, q1, ⟨q2, Fx.refl _, q3, q4, fun n v hv => q5 n v (by rw [f4']; rwa [f5] at hv)⟩⟩
            · refine Evr.of (st1 := st1) (k.agree) (by rw [rk.n, k.le.n]; exact Nat.le_refl _) (fun _ _ => rfl) (Nat.le_refl _) ?_
              refine Evr.of (st1 := encLocs (fixAll st1 [] []) an.vars (an.of s)) (by have := hE3.agree; rwa [f3] at this) (by rw [f3] at l4; exact l4) hE3.keepI hE3.size hE4
            · obtain ⟨m5, q1, q2, q3, q4, q5⟩ := back st1 (fun _ => rfl) (fun _ _ => rfl) (fun _ => rfl) rfl m4 st4 a4 w4 hE4 h4 y st5 hd
              refine ⟨m5, q1, ⟨?_, ?_, fun b hb => q3 b (k.agree.I b hb), q4, fun n v hv => ?_⟩⟩
              · rw [rk.n, k.le.n] at q2
                exact k.agree.trans q2 (Nat.le_refl _)
              · exact Fx.laid hck (rk.fs.trans k.fx.fs) (rk.fc.trans k.fx.fc) (rk.fo.trans k.fx.fo) (rk.n.trans k.le.n) (fun b o hb hn => rk.c b o (k.fx.c b o hb hn)) (fun i hi hn => by rw [rk.o]; exact k.fx.o i hi hn)
              · obtain ⟨v', hv'⟩ := rk.fsn n v (by rw [k.fx.fs]; exact hv)
                exact q5 n v' hv'
          have start : Evo m1 (fixAll st1 [] []) a w m2 (fixAll st1 [] []) a w := ⟨s2, Fx.refl _, fun _ _ => rfl, Nat.le_refl _, fun _ _ _ => rfl⟩
          split at hi
          · -- breaks, and no return
            obtain ⟨t, hl, hkn⟩ := bind_some hi
            obtain ⟨n0, hn0⟩ := loopL_spec hl
            refine wp_block (wp_loop_ghost (fun n a' w' => ∃ s m', loopS (fun rec s => interp fc ρ fin body (encLocs (fixAll st1 [] []) an.vars (an.of s))
                (fun st' => match decLocs st' an.vars with | some (y, _) => rec (an.to y) | none => none)
                (fun _ => none)
                (fun j st' => match Nat.beq j id with
                  | true => match decLocs st' an.vars with | some (y, _) => some (an.to y) | none => none
                  | false => none)) n s = some t ∧ Rel cx m' (encLocs (fixAll st1 [] []) an.vars (an.of s)) a' w' ∧ Evo m1 (fixAll st1 [] []) a w m' (fixAll st1 [] []) a' w') n0 ⟨an.to x, m2, hn0, by rw [hof]; exact s1, start⟩ ?_)
            rintro n a3 w3 ⟨s, m3, hls, h3, hE3⟩
            cases n with
            | zero => simp [loopS] at hls
            | succ n =>
              simp only [loopS] at hls
              refine round s t _ _ _ m3 a3 w3 _ hls h3 hE3 (fun m4 st4 a4 w4 hk4 hb _ => ?_) (fun m4 st4 a4 w4 y _ _ _ hk4 => by cases hk4) (fun j m4 st4 a4 w4 hk4 hb _ => ?_)
              · split at hk4
                · rename_i y st5 hd
                  obtain ⟨m5, p1, p2⟩ := hb y st5 hd
                  exact ⟨n, Nat.lt_succ_self n, an.to y, m5, hk4, by rw [hof]; exact p1, p2⟩
                · cases hk4
              · split at hk4
                · rename_i hj
                  have hj := Nat.eq_of_beq_eq_true hj
                  subst hj
                  split at hk4
                  · rename_i y st5 hd
                    cases hk4
                    obtain ⟨m5, p1, p2⟩ := hb y st5 hd
                    simp only [Exit.then, Exit.inBlock, if_true]
                    rw [hof] at hkn
                    exact hn m5 _ a4 w4 p2 p1 hkn
                  · cases hk4
                · cases hk4
          · -- breaks and returns
            obtain ⟨t, hl, hkn⟩ := bind_some hi
            obtain ⟨n0, hn0⟩ := loopL_spec hl
            refine wp_block (wp_loop_ghost (fun n a' w' => ∃ s m', loopS (τ := Out an.σ ρ) (fun rec s => interp fc ρ fin body (encLocs (fixAll st1 [] []) an.vars (an.of s))
                (fun st' => match decLocs st' an.vars with | some (y, _) => rec (an.to y) | none => none)
                (fun y => some (.ret y))
                (fun j st' => match Nat.beq j id with
                  | true => match decLocs st' an.vars with | some (y, _) => some (.done (an.to y)) | none => none
                  | false => none)) n s = some t ∧ Rel cx m' (encLocs (fixAll st1 [] []) an.vars (an.of s)) a' w' ∧ Evo m1 (fixAll st1 [] []) a w m' (fixAll st1 [] []) a' w') n0 ⟨an.to x, m2, hn0, by rw [hof]; exact s1, start⟩ ?_)
            rintro n a3 w3 ⟨s, m3, hls, h3, hE3⟩
            cases n with
            | zero => simp [loopS] at hls
            | succ n =>
              simp only [loopS] at hls
              refine round s t _ _ _ m3 a3 w3 _ hls h3 hE3 (fun m4 st4 a4 w4 hk4 hb _ => ?_) (fun m4 st4 a4 w4 y hE4 h4 hdr hk4 => ?_) (fun j m4 st4 a4 w4 hk4 hb _ => ?_)
              · split at hk4
                · rename_i y st5 hd
                  obtain ⟨m5, p1, p2⟩ := hb y st5 hd
                  exact ⟨n, Nat.lt_succ_self n, an.to y, m5, hk4, by rw [hof]; exact p1, p2⟩
                · cases hk4
              · simp only [Option.some.injEq] at hk4
                subst hk4
                simp only [outK] at hkn
                exact hr m4 st4 a4 w4 y hE4 h4 hdr hkn
              · split at hk4
                · rename_i hj
                  have hj := Nat.eq_of_beq_eq_true hj
                  subst hj
                  split at hk4
                  · rename_i y st5 hd
                    cases hk4
                    obtain ⟨m5, p1, p2⟩ := hb y st5 hd
                    simp only [Exit.then, Exit.inBlock, if_true]
                    simp only [outK] at hkn
                    rw [hof] at hkn
                    exact hn m5 _ a4 w4 p2 p1 hkn
                  · cases hk4
                · cases hk4
        · cases hi
      · cases hi
    · cases hi
theorem interp_sound {fc : FC} {ρ : Type} {fin : fc.OD → ρ} (hm : P.follows .mixedOrders = true) (ht : tysB P fc.cfg.tys = true) (ha : arrsB P fc.cfg.arrs = true) (hC : CallsOk P fc.cfg.calls) (hG : Glb P cx.S cx.w0) (hnt : fc.nt = cx.nt) (hA : AnnOk fc) : ∀ (c : Code), Snd P cx fc ρ fin c
  | .skip => by
    intro R st kn kr ke r m a w Q hi h hn hr he
    simp only [interp] at hi
    exact wp_skip (hn m st a w (Evo.refl _ _ _ _) h hi)
  | .region id ops d => by
    intro R st kn kr ke r m a w Q hi h hn hr he
    simp only [interp] at hi
    cases d with
    | false => exact region_plain ht ha hC hG hnt h hi hn
    | true => exact region_draw hm ht ha hC hG hnt h hi hn
  | .seq x y => by
    intro R st kn kr ke r m a w Q hi h hn hr he
    simp only [interp] at hi
    refine wp_seq (interp_sound hm ht ha hC hG hnt hA x _ _ _ _ _ _ _ _ _ _ hi h (fun m1 st1 a1 w1 hE1 h1 hi1 => ?_) hr he)
    exact interp_sound hm ht ha hC hG hnt hA y _ _ _ _ _ _ _ _ _ _ hi1 h1 (fun m2 st2 a2 w2 hE2 h2 hk => hn m2 st2 a2 w2 (hE1.trans hE2) h2 hk) (fun m2 st2 a2 w2 z hE2 h2 hd hk => hr m2 st2 a2 w2 z (hE1.evr hE2) h2 hd hk)
      (fun j m2 st2 a2 w2 hE2 h2 hk => he j m2 st2 a2 w2 (hE1.trans hE2) h2 hk)
  | .cond c x y => by
    intro R st kn kr ke r m a w Q hi h hn hr he
    simp only [interp] at hi
    split at hi
    · rename_i b hc
      have hb : a.eval c = .bool b := CR_bool (opd1_sound h hc).1
      refine wp_cond hb ?_
      split at hi
      · rename_i j hj
        have hjl : ∃ id, lk fc.joins id = some j := by
          split at hj
          · rename_i i _; exact ⟨i, hj⟩
          · cases hj
        obtain ⟨jid, hjl⟩ := hjl
        split at hi
        · rename_i st0 st1 hen
          obtain ⟨hck, hi⟩ := whenB_spec hi
          obtain ⟨z, hz, hi⟩ := bind_some hi
          have e := enterJ_spec hen
          have h0 : Rel cx m st0 a w := h.sub e.slot0 e.cell0 e.ob0 (Nat.le_of_eq e.n0.symm)
          have h1 : Rel cx m st1 a w := h.sub (fun n v hv => (e.slot1 n v hv).2) (fun b o c hc => (e.cell1 b o c hc).2.2) (fun i ob hi => (e.ob1 i ob hi).2.2) (Nat.le_of_eq e.n1.symm)
          have branch : ∀ c' : Code, (∀ (m' : Mp) (st' : St) (a' : Act) (w' : World), Evo m st0 a w m' st' a' w' → Rel cx m' st' a' w' → (match decLocs st' j.out with | some (y, _) => some (j.to y) | none => none) = some z → Q .normal a' w') →
              Snd P cx fc ρ fin c' →
              interp fc ρ fin c' st0 (fun st' => match decLocs st' j.out with | some (y, _) => some (j.to y) | none => none) (fun _ => none) (fun _ _ => none) = some z → c'.wp P Q a w := by
            intro c' hk ih hic
            exact ih _ _ _ _ _ _ _ _ _ _ hic h0 hk (fun m' st' a' w' y _ _ _ hk => by cases hk) (fun j m' st' a' w' _ _ hk => by cases hk)
          have back : ∀ (m' : Mp) (st' : St) (a' : Act) (w' : World), Evo m st0 a w m' st' a' w' → Rel cx m' st' a' w' → (match decLocs st' j.out with | some (y, _) => some (j.to y) | none => none) = some z → Q .normal a' w' := by
            intro m2 st2 a2 w2 hE h2 hk
            split at hk
            · rename_i y' st3 hd
              cases hk
              rw [hA.join jid j hjl y'] at hi
              obtain ⟨m4, r1, r2, r3, r4, r5⟩ := tell_back h1 (Agree.refl _ m) (fun _ _ => rfl) (Nat.le_refl _) (fun _ _ _ => rfl) hE h2 (by rw [e.n0, e.n1]; exact Nat.le_refl _) (fun n v hv => (e.slot1 n v hv).1) (fun b o c hc => ⟨(e.cell1 b o c hc).1, (e.cell1 b o c hc).2.1⟩) (fun i ob hi => ⟨(e.ob1 i ob hi).1, (e.ob1 i ob hi).2.1⟩)
                (fun q hq hp => by
                  obtain ⟨c, hcc⟩ := chkLocs_spec hck q hq 0 hp
                  have : st.cell q.1 (q.2.1 + 0) = some c := by unfold St.cell; rw [hcc]
                  rw [e.n1]; exact (h.cells _ _ c this).2.2) hd
              refine hn m4 _ a2 w2 ⟨by rw [e.n1] at r2; exact r2, Fx.laid hck e.fs e.fc e.fo e.n1 (fun b o _ => e.c b o) (fun i _ => e.o i), r3, r4, fun n v hv => ?_⟩ r1 hi
              obtain ⟨v', hv'⟩ := e.fsn n v hv
              exact hE.slots n v' hv'
            · cases hk
          cases b with
          | true => exact branch x back (interp_sound hm ht ha hC hG hnt hA x) hz
          | false => exact branch y back (interp_sound hm ht ha hC hG hnt hA y) hz
        · cases hi
      · cases b with
        | true => exact interp_sound hm ht ha hC hG hnt hA x _ _ _ _ _ _ _ _ _ _ hi h hn hr he
        | false => exact interp_sound hm ht ha hC hG hnt hA y _ _ _ _ _ _ _ _ _ _ hi h hn hr he
    · rename_i hc
      have hb : a.eval c = .bool true := (opd1_sound h hc).1
      exact wp_cond hb (interp_sound hm ht ha hC hG hnt hA x _ _ _ _ _ _ _ _ _ _ hi h hn hr he)
    · rename_i hc
      have hb : a.eval c = .bool false := (opd1_sound h hc).1
      exact wp_cond hb (interp_sound hm ht ha hC hG hnt hA y _ _ _ _ _ _ _ _ _ _ hi h hn hr he)
    · cases hi
  | .block id c => by
    have gen : interpBlock c = true → Snd P cx fc ρ fin c → Snd P cx fc ρ fin (.block id c) := by
      intro hnl ih R st kn kr ke r m a w Q hi h hn hr he
      have hi' : interp fc ρ fin c st kn kr (keB id kn ke) = some r := by
        cases c <;> first | (cases hnl; done) | (simpa only [interp] using hi)
      refine wp_block (ih _ _ _ _ _ _ _ _ _ _ hi' h hn hr fun j m' st' a' w' hE h' hk => ?_)
      unfold keB at hk
      split at hk
      · rename_i hj
        have hj := Nat.eq_of_beq_eq_true hj
        simp only [Exit.inBlock, hj, if_true]
        exact hn m' st' a' w' hE h' hk
      · rename_i hj
        have hne : j ≠ id := fun e => by rw [e, Nat.beq_refl] at hj; cases hj
        simp only [Exit.inBlock, hne, if_false]
        exact he j m' st' a' w' hE h' hk
    cases hb : interpBlock c with
    | true => exact gen hb (interp_sound hm ht ha hC hG hnt hA c)
    | false =>
      cases c with
      | loop body => exact loop_sound hA (interp_sound hm ht ha hC hG hnt hA body)
      | _ => cases hb
  | .exit j => by
    intro R st kn kr ke r m a w Q hi h hn hr he
    simp only [interp] at hi
    exact wp_exit (he j m st a w (Evo.refl _ _ _ _) h hi)
  | .ret => by
    intro R st kn kr ke r m a w Q hi h hn hr he
    simp only [interp] at hi
    split at hi
    · rename_i y hd
      exact wp_ret (hr m st a w y (Evr.refl _ _ _) h hd hi)
    · cases hi
  | .loop _ => by intro R st kn kr ke r m a w Q hi; simp [interp] at hi
  | .rangeFunc .. => by intro R st kn kr ke r m a w Q hi; simp [interp] at hi
  | .scope _ => by intro R st kn kr ke r m a w Q hi; simp [interp] at hi
  | .label _ => by intro R st kn kr ke r m a w Q hi; simp [interp] at hi
  | .goto _ => by intro R st kn kr ke r m a w Q hi; simp [interp] at hi
  | .refuse _ => by intro R st kn kr ke r m a w Q hi; simp [interp] at hi
end Go.Pv
/-! The end of a function's text: what the pointers lead to, and the results. -/
namespace Go.Pv
variable {P : Program} {cx cx' : Cx} {m m' : Mp} {st st' : St} {a : Act} {w w' : World} {R : Type}
theorem run_loadVar_pack {T : TypeId} {t : Ty} (ht : tyB P T t = true) {b off : Nat} {vs : List Value} (hr : Row w b off vs) (hl : vs.length = t.size) :
    (loadVar T ⟨b, off, none⟩).run P w = .ok (packV t.ag vs) w := by
  have h := run_loadAt_pack ht hr hl
  simpa [Instr.loadAt, Instr.sureAddr] using h
/-- One result's value. -/
def ResR (P : Program) (w : World) (tmps : Array Value) : ResultVar → Value → Prop
  | .tmp t, v => v = tmps.getD t undef
  | .cell a t, v => (do loadVar t (← asAddr (tmps.getD a undef))).run P w = .ok v w
def ResL (P : Program) (w : World) (tmps : Array Value) : List ResultVar → List Value → Prop
  | [], us => us = []
  | r :: rs, us => ∃ u us', us = u :: us' ∧ ResR P w tmps r u ∧ ResL P w tmps rs us'
theorem results_run {fn : Func} {tmps : Array Value} {us : List Value} (h : ResL P w tmps fn.results.toList us) : (results fn tmps).run P w = .ok (tupVal us) w := by
  have key : ∀ {rs : List ResultVar} {us : List Value}, ResL P w tmps rs us → (rs.mapM (fun r => (match r with
      | .tmp t => pure (tmps.getD t undef)
      | .cell a t => do loadVar t (← asAddr (tmps.getD a undef)) : Sem Value))).run P w = .ok us w := by
    intro rs
    induction rs with
    | nil => intro us h; simp only [ResL] at h; subst h; rfl
    | cons r rs ih =>
      intro us h
      obtain ⟨u, us', rfl, h1, h2⟩ := h
      have h3 := ih h2
      rw [List.mapM_cons]
      cases r with
      | tmp t =>
        simp only [ResR] at h1
        subst h1
        simp only [Sem.run_bind, Sem.run_pure, Result.andThen_ok, h3]
      | cell c t =>
        simp only [ResR] at h1
        rw [Sem.run_bind, h1]
        simp only [Result.andThen_ok, Sem.run_bind, h3, Sem.run_pure]
  unfold results
  rw [Array.mapM_eq_mapM_toList]
  simp only [Sem.run_bind, Sem.run_map, Sem.run_pure]
  generalize hz : Sem.run P (List.mapM _ fn.results.toList) w = z
  have hz2 : z = .ok us w := hz.symm.trans (key h)
  subst hz2
  simp only [Result.andThen_ok]
  congr 1
  match us with
  | [] => rfl
  | [u] => rfl
  | u :: v :: r => simp [tupVal]
/-! ### Told by number -/
def ioH : Nat → List AK → List (Nat × Nat × Nat)
  | _, [] => []
  | n, .val k :: r => ioH (n + ownN [k]) r
  | n, .ro _ :: r => ioH n r
  | n, .fnc _ :: r => ioH n r
  | n, .io ks :: r => (n + ownN ks, 0, sizeL ks) :: ioH (n + ownN ks + 1) r
structure IosD (cx : Cx) (m : Mp) (st : St) (a : Act) (w : World) (hs : List (Ob × Value)) (as : List AK) (n : Nat) (x : PDen (ioKs as)) (st' : St) (m' : Mp) (hs1 : List (Ob × Value)) : Prop where
  rel : Rel cx m' st' a w
  agree : Agree st.n m m'
  le : StLe st st'
  held : Held cx m' st' w (hs ++ hs1)
  ios : IosR m'.I w as x (rngs m' (ioH n as)) hs1
  cells : ∀ q ∈ ioH n as, 0 < q.2.2 ∧ ∀ j, j < q.2.2 → ∃ c, st.cell q.1 (q.2.1 + j) = some c
theorem decIos_sound : ∀ {as : List AK} {n : Nat} {x : PDen (ioKs as)} {st st' : St} {m : Mp} {hs : List (Ob × Value)}, Rel cx m st a w → decIos st n as = some (x, st') → posA as = true → Held cx m st w hs →
    ∃ m' hs1, IosD cx m st a w hs as n x st' m' hs1
  | [], n, x, st, st', m, hs, h, hd, hp, hh => by
    simp only [decIos, Option.some.injEq, Prod.mk.injEq] at hd
    obtain ⟨_, rfl⟩ := hd
    exact ⟨m, [], h, Agree.refl _ _, StLe.refl _, by rw [List.append_nil]; exact hh, ⟨rfl, rfl⟩, fun q hq => by simp [ioH] at hq⟩
  | .val k :: as, n, x, st, st', m, hs, h, hd, hp, hh => by
    simp only [decIos] at hd
    obtain ⟨m', hs1, k1⟩ := decIos_sound (as := as) h hd (by simpa [posA] using hp) hh
    exact ⟨m', hs1, k1.rel, k1.agree, k1.le, k1.held, k1.ios, k1.cells⟩
  | .ro t :: as, n, x, st, st', m, hs, h, hd, hp, hh => by
    simp only [decIos] at hd
    obtain ⟨m', hs1, k1⟩ := decIos_sound (as := as) h hd (by simpa [posA] using hp) hh
    exact ⟨m', hs1, k1.rel, k1.agree, k1.le, k1.held, k1.ios, k1.cells⟩
  | .fnc f :: as, n, x, st, st', m, hs, h, hd, hp, hh => by
    simp only [decIos] at hd
    obtain ⟨m', hs1, k1⟩ := decIos_sound (as := as) h hd (by simpa [posA] using hp) hh
    exact ⟨m', hs1, k1.rel, k1.agree, k1.le, k1.held, k1.ios, k1.cells⟩
  | .io ks :: as, n, x, st, st', m, hs, h, hd, hp, hh => by
    simp only [decIos] at hd
    simp only [posA, Bool.and_eq_true, Bool.not_eq_true'] at hp
    have hpos : 0 < sizeL ks := by
      rcases Nat.eq_zero_or_pos (sizeL ks) with h0 | h0
      · rw [h0] at hp; simp at hp
      · exact h0
    split at hd
    · rename_i cs hcs
      split at hd
      · rename_i y rest s1 hk
        split at hd
        · rename_i hnil
          split at hd
          · rename_i z s2 hr
            simp only [Option.some.injEq, Prod.mk.injEq] at hd
            obtain ⟨rfl, rfl⟩ := hd
            have := isNil_spec hnil
            subst this
            obtain ⟨us, r1, r2, r3, r4⟩ := readC_sound h hcs
            obtain ⟨m1, v1, v2, hs1, t1, l1⟩ := decL_sound h hk r3 r4 hh
            have h0 := t1.rest
            cases h0
            have hvs := t1.vs
            simp only [List.append_nil] at hvs
            subst hvs
            obtain ⟨m2, hs2, k2⟩ := decIos_sound (as := as) t1.rel hr hp.2 t1.held
            have hcell := fun j hj => readC_cells hcs (j := j) hj
            obtain ⟨c0, hc0⟩ := hcell 0 hpos
            have hbn := (h.cells _ _ c0 hc0).2.2
            have hag : Agree st.n m m2 := t1.agree.trans k2.agree (Nat.le_of_eq t1.le.n.symm)
            refine ⟨m2, hs1 ++ hs2, k2.rel, hag, t1.le.trans k2.le, by rw [← List.append_assoc]; exact k2.held, ?_, fun q hq => ?_⟩
            · refine ⟨_, _, us, hs1, hs2, rfl, rfl, ?_, LR_mono k2.agree.I (fun _ _ => rfl) l1, k2.ios, ?_⟩
              · simp only; rw [hag.bk _ hbn, hag.bo _ hbn]; exact r1
              · simp only; rw [hag.bk _ hbn]; exact (h.own _ _ c0 hc0).2.2
            · simp only [ioH, List.mem_cons] at hq
              rcases hq with rfl | hq
              · exact ⟨hpos, hcell⟩
              · exact ⟨(k2.cells q hq).1, fun j hj => by obtain ⟨c, hc⟩ := (k2.cells q hq).2 j hj; exact ⟨c, by rw [← t1.le.cell]; exact hc⟩⟩
          · cases hd
        · cases hd
      · cases hd
    · cases hd
/-! ### Results -/
structure RetD (P : Program) (cx : Cx) (m : Mp) (st : St) (a : Act) (w : World) (hs : List (Ob × Value)) (nums : List Nat) (st' : St) (m' : Mp) (hs1 : List (Ob × Value)) (H : List (Nat × Nat × Nat)) : Prop where
  rel : Rel cx m' st' a w
  agree : Agree st.n m m'
  le : StLe st st'
  held : Held cx m' st' w (hs ++ hs1)
  cells : ∀ q ∈ H, 0 < q.2.2 ∧ ∀ j, j < q.2.2 → ∃ c, st.cell q.1 (q.2.1 + j) = some c
  nums : H.map (·.1) = nums
theorem decRet2_sound {fc : FC} (hty : tysB P fc.cfg.tys = true) (h : Rel cx m st a w) {bx : RB} {ag : Bool} {ks : List LK} {τ : Type} {to : LDen ks → τ} {of : τ → LDen ks} (hrk : ∀ z, of (to z) = z) {v : ResultVar} {x : τ} {hs : List (Ob × Value)}
    (hd : decRet2 fc st v ⟨bx, ag, ks, τ, to, of⟩ = some (x, st')) (hpos : bx ≠ .val → 0 < sizeL ks) (hK : ∀ b ∈ boxNum st v ⟨bx, ag, ks, τ, to, of⟩, cx.K ≤ b) (hh : Held cx m st w hs) :
    ∃ m' hs1 H u, RetD P cx m st a w hs (boxNum st v ⟨bx, ag, ks, τ, to, of⟩) st' m' hs1 H ∧ ResR P w a.tmps v u ∧ OutR1 m'.I w ⟨bx, ag, ks, τ, to, of⟩ x u hs1 (rngs m' H) := by
  unfold decRet2 at hd
  split at hd
  · rename_i cs hcs
    split at hd
    · rename_i z rest s1 hk
      split at hd
      · rename_i hnil
        simp only [Option.some.injEq, Prod.mk.injEq] at hd
        obtain ⟨rfl, rfl⟩ := hd
        have := isNil_spec hnil
        subst this
        simp only at hk
        -- the cells told
        have tell : ∀ {us : List Value}, CRs cx m w cs us → (∀ c ∈ cs, c.lt st.n) → ∃ m1 hs1, Rel cx m1 s1 a w ∧ Agree st.n m m1 ∧ StLe st s1 ∧ Held cx m1 s1 w (hs ++ hs1) ∧ LR m1.I w ks z us hs1 := by
          intro us r3 r4
          obtain ⟨m1, v1, v2, hs1, t1, l1⟩ := decL_sound h hk r3 r4 hh
          have h0 := t1.rest
          cases h0
          have hvs := t1.vs
          simp only [List.append_nil] at hvs
          subst hvs
          exact ⟨m1, hs1, t1.rel, t1.agree, t1.le, t1.held, l1⟩
        cases v with
        | tmp t =>
          simp only [decRet1] at hcs
          split at hcs
          · rename_i g cs0 hsl
            obtain ⟨v1, v2⟩ := h.slots t _ hsl
            cases bx with
            | val =>
              simp only at hcs
              obtain ⟨hg, hcs'⟩ := whenB_spec hcs
              clear hcs
              have hg : g = ag := by simpa using hg
              subst hg
              cases hcs'
              have huse : ∃ us, CRs cx m w cs us ∧ OutR1.VR1sh g (a.tmps.getD t undef) us := by
                cases g with
                | true => obtain ⟨us, e, h1⟩ := v1; exact ⟨us, h1, e⟩
                | false => obtain ⟨c, e, h1⟩ := v1; subst e; exact ⟨[_], .cons h1 .nil, rfl⟩
              obtain ⟨us, u1, u2⟩ := huse
              obtain ⟨m1, hs1, t1, t2, t3, t4, t5⟩ := tell u1 v2
              exact ⟨m1, hs1, [], _, ⟨t1, t2, t3, t4, fun q hq => (by cases hq), rfl⟩, rfl, rfl, us, u2, by simp only [hrk]; exact t5⟩
            | _ =>
              simp only at hcs
              split at hcs
              · rename_i b
                have hp := hpos (by simp)
                obtain ⟨us, r1, r2, r3, r4⟩ := readC_sound h hcs
                obtain ⟨m1, hs1, t1, t2, t3, t4, t5⟩ := tell r3 r4
                have hcell := fun j hj => readC_cells hcs (j := j) hj
                obtain ⟨c0, hc0⟩ := hcell 0 hp
                have hbn := (h.cells _ _ c0 hc0).2.2
                have hbo := (h.box _ _ c0 hc0 (hK b (by simp only [boxNum, hsl]; simp))).1
                obtain ⟨c, e, h1⟩ := v1
                cases e
                simp only [CR] at h1
                refine ⟨m1, hs1, [(b, 0, sizeL ks)], _, ⟨t1, t2, t3, t4, fun q hq => ?_, ?_⟩, rfl, m1.bk b, us, ?_⟩
                · simp only [List.mem_singleton] at hq; subst hq; exact ⟨hp, hcell⟩
                · simp only [boxNum, hsl]; rfl
                · obtain ⟨_, _, ccs, e0, hsh⟩ := h.own _ _ c0 hc0
                  refine ⟨ccs, e0, ?_, ?_, ?_, ?_, ?_⟩
                  · rw [h1, hbo, t2.bk _ hbn]
                  · simp only [rngs, List.map_cons, List.map_nil, t2.bo _ hbn, hbo]
                  · rw [t2.bk _ hbn]; rw [hbo] at r1; exact r1
                  · rw [t2.bk _ hbn]; exact hsh
                  · simp only [hrk]; exact t5
              · cases hcs
          · cases hcs
        | cell c ty =>
          simp only [decRet1] at hcs
          split at hcs
          · rename_i b off hsl
            obtain ⟨v1, v2⟩ := h.slots c _ hsl
            cases bx with
            | val =>
              simp only at hcs
              split at hcs
              · rename_i T hT
                obtain ⟨hg, hcs⟩ := whenB_spec hcs
                simp only [Bool.and_eq_true, beq_iff_eq] at hg
                have hsz := Nat.eq_of_beq_eq_true hg.2
                obtain ⟨us, r1, r2, r3, r4⟩ := readC_sound h hcs
                obtain ⟨m1, hs1, t1, t2, t3, t4, t5⟩ := tell r3 r4
                obtain ⟨cc, e, h1⟩ := v1
                cases e
                simp only [CR] at h1
                have hrun := run_loadVar_pack (ty_ok hty hT) r1 (by omega)
                refine ⟨m1, hs1, [], packV T.ag us, ⟨t1, t2, t3, t4, fun q hq => (by cases hq), rfl⟩, ?_, rfl, us, ?_, by simp only [hrk]; exact t5⟩
                · simp only [ResR, h1, Sem.run_bind]
                  simp only [asAddr, Sem.run_pure, Result.andThen_ok]
                  exact hrun
                · rw [← hg.1]
                  cases hag : T.ag with
                  | true => rfl
                  | false =>
                    have hs1 := ag_false_size hag
                    have hl : us.length = 1 := by omega
                    match us, hl with
                    | [u], _ => rfl
              · cases hcs
            | _ => cases hcs
          · cases hcs
      · cases hd
    · cases hd
  · cases hd
theorem RetD.cons {hs hs1 hs2 : List (Ob × Value)} {n1 n2 : List Nat} {st1 st2 : St} {m1 m2 : Mp} {H1 H2 : List (Nat × Nat × Nat)} (k1 : RetD P cx m st a w hs n1 st1 m1 hs1 H1) (k2 : RetD P cx m1 st1 a w (hs ++ hs1) n2 st2 m2 hs2 H2) :
    RetD P cx m st a w hs (n1 ++ n2) st2 m2 (hs1 ++ hs2) (H1 ++ H2) where
  rel := k2.rel
  agree := k1.agree.trans k2.agree (Nat.le_of_eq k1.le.n.symm)
  le := k1.le.trans k2.le
  held := by rw [← List.append_assoc]; exact k2.held
  cells q hq := by
    rcases List.mem_append.1 hq with hq | hq
    · exact k1.cells q hq
    · exact ⟨(k2.cells q hq).1, fun j hj => by obtain ⟨c, hc⟩ := (k2.cells q hq).2 j hj; exact ⟨c, by rw [← k1.le.cell]; exact hc⟩⟩
  nums := by rw [List.map_append, k1.nums, k2.nums]
theorem RetD.rngs {hs hs1 : List (Ob × Value)} {n1 : List Nat} {st1 : St} {m1 m2 : Mp} {H1 : List (Nat × Nat × Nat)} (h : Rel cx m st a w) (k1 : RetD P cx m st a w hs n1 st1 m1 hs1 H1) (hag : Agree st1.n m1 m2) : Go.Pv.rngs m2 H1 = Go.Pv.rngs m1 H1 := by
  refine List.map_congr_left fun q hq => ?_
  obtain ⟨h0, h1⟩ := k1.cells q hq
  obtain ⟨c, hc⟩ := h1 0 h0
  have hb := (h.cells _ _ c hc).2.2
  rw [hag.bk _ (by rw [k1.le.n]; exact hb), hag.bo _ (by rw [k1.le.n]; exact hb)]
theorem OutR1.mono {I I' : Nat → Prop} (hI : ∀ b, I b → I' b) {r : RK} {x : r.τ} {v : Value} {hs : List (Ob × Value)} {gs : List Rng} (h : OutR1 I w r x v hs gs) : OutR1 I' w r x v hs gs := by
  obtain ⟨bx, ag, ks, τ, to, of⟩ := r
  cases bx with
  | val => obtain ⟨h1, vs, h2, h3⟩ := h; exact ⟨h1, vs, h2, LR_mono hI (fun _ _ => rfl) h3⟩
  | box => obtain ⟨b, vs, cs, e, h1, h2, h3, h4, h5⟩ := h; exact ⟨b, vs, cs, e, h1, h2, h3, h4, LR_mono hI (fun _ _ => rfl) h5⟩
  | opt => obtain ⟨b, vs, cs, e, h1, h2, h3, h4, h5⟩ := h; exact ⟨b, vs, cs, e, h1, h2, h3, h4, LR_mono hI (fun _ _ => rfl) h5⟩
theorem OutR.mono {I I' : Nat → Prop} (hI : ∀ b, I b → I' b) {r : RK} {x : r.den} {v : Value} {hs : List (Ob × Value)} {gs : List Rng} (h : OutR I w r x v hs gs) : OutR I' w r x v hs gs := by
  obtain ⟨bx, ag, ks, τ, to, of⟩ := r
  cases bx with
  | val => exact OutR1.mono (r := ⟨.val, ag, ks, τ, to, of⟩) (x := x) hI h
  | box => exact OutR1.mono (r := ⟨.box, ag, ks, τ, to, of⟩) (x := x) hI h
  | opt =>
    change Option τ at x
    cases x with
    | some y => exact OutR1.mono (r := ⟨.opt, ag, ks, τ, to, of⟩) (x := y) hI h
    | none => exact h
/-- Results told back are as they were. -/
def RKOk (rs : List RK) : Prop := ∀ r ∈ rs, ∀ z, r.of (r.to z) = z
theorem decRet3_sound {fc : FC} (hty : tysB P fc.cfg.tys = true) (h : Rel cx m st a w) {r : RK} (hrk : ∀ z, r.of (r.to z) = z) {v : ResultVar} {x : r.den} {hs : List (Ob × Value)}
    (hd : decRet3 fc st v r = some (x, st')) (hpos : r.box ≠ .val → 0 < sizeL r.ks) (hK : ∀ b ∈ boxNum st v r, cx.K ≤ b) (hh : Held cx m st w hs) :
    ∃ m' hs1 H u, RetD P cx m st a w hs (boxNum st v r) st' m' hs1 H ∧ ResR P w a.tmps v u ∧ OutR m'.I w r x u hs1 (rngs m' H) := by
  obtain ⟨bx, ag, ks, τ, to, of⟩ := r
  simp only at hrk hpos
  cases bx with
  | val => exact decRet2_sound hty h hrk hd hpos hK hh
  | box => exact decRet2_sound hty h hrk hd hpos hK hh
  | opt =>
    simp only [decRet3] at hd
    split at hd
    · rename_i hn
      simp only [Option.some.injEq, Prod.mk.injEq] at hd
      obtain ⟨rfl, rfl⟩ := hd
      cases v with
      | cell c t => simp [isNptr] at hn
      | tmp t =>
        simp only [isNptr] at hn
        split at hn
        · rename_i hsl
          obtain ⟨⟨c, e, h1⟩, _⟩ := h.slots t _ hsl
          cases e
          refine ⟨m, [], [], _, ⟨h, Agree.refl _ _, StLe.refl _, by rw [List.append_nil]; exact hh, fun q hq => (by cases hq), ?_⟩, rfl, h1, rfl, rfl⟩
          simp only [boxNum, hsl]; rfl
        · cases hn
    · split at hd
      · rename_i y s1 hy
        simp only [Option.some.injEq, Prod.mk.injEq] at hd
        obtain ⟨rfl, rfl⟩ := hd
        exact decRet2_sound hty h hrk hy hpos hK hh
      · cases hd
theorem boxNums_le (hl : StLe st st') : ∀ {vs : List ResultVar} {rs : List RK}, boxNums st' vs rs = boxNums st vs rs
  | [], _ => by simp [boxNums]
  | _ :: _, [] => by simp [boxNums]
  | v :: vs, r :: rs => by
    simp only [boxNums]
    rw [boxNums_le hl (vs := vs) (rs := rs)]
    congr 1
    cases v with
    | tmp t => simp only [boxNum, hl.slot]
    | cell c t => rfl
theorem decRets_sound {fc : FC} (hty : tysB P fc.cfg.tys = true) : ∀ {rs : List RK} {vs : List ResultVar} {x : RDen rs} {st st' : St} {m : Mp} {hs : List (Ob × Value)}, Rel cx m st a w → RKOk rs → decRets fc st vs rs = some (x, st') → posR rs = true →
    (∀ b ∈ boxNums st vs rs, cx.K ≤ b) → Held cx m st w hs → ∃ m' hs1 H us, RetD P cx m st a w hs (boxNums st vs rs) st' m' hs1 H ∧ ResL P w a.tmps vs us ∧ OutsR m'.I w rs x us hs1 (rngs m' H)
  | [], [], x, st, st', m, hs, h, hrk, hd, hp, hK, hh => by
    simp only [decRets, Option.some.injEq, Prod.mk.injEq] at hd
    obtain ⟨_, rfl⟩ := hd
    exact ⟨m, [], [], [], ⟨h, Agree.refl _ _, StLe.refl _, by rw [List.append_nil]; exact hh, fun q hq => (by cases hq), rfl⟩, rfl, rfl, rfl, rfl⟩
  | [], _ :: _, x, st, st', m, hs, h, hrk, hd, hp, hK, hh => by simp [decRets] at hd
  | _ :: _, [], x, st, st', m, hs, h, hrk, hd, hp, hK, hh => by simp [decRets] at hd
  | r :: rs, v :: vs, x, st, st', m, hs, h, hrk, hd, hp, hK, hh => by
    simp only [decRets] at hd
    simp only [posR, Bool.and_eq_true] at hp
    split at hd
    · rename_i y s1 hy
      split at hd
      · rename_i z s2 hz
        simp only [Option.some.injEq, Prod.mk.injEq] at hd
        obtain ⟨rfl, rfl⟩ := hd
        have hpos : r.box ≠ .val → 0 < sizeL r.ks := by
          intro hb
          have h1 := hp.1
          split at h1
          · rename_i e; exact absurd e hb
          · rcases Nat.eq_zero_or_pos (sizeL r.ks) with h0 | h0
            · rw [h0] at h1; simp at h1
            · exact h0
        obtain ⟨m1, hs1, H1, u, k1, q1, q2⟩ := decRet3_sound hty h (hrk r (by simp)) hy hpos (fun b hb => hK b (by simp only [boxNums]; exact List.mem_append_left _ hb)) hh
        obtain ⟨m2, hs2, H2, us, k2, q3, q4⟩ := decRets_sound hty (rs := rs) (vs := vs) k1.rel (fun r' hr' => hrk r' (by simp [hr'])) hz hp.2 (fun b hb => hK b (by rw [boxNums_le k1.le] at hb; simp only [boxNums]; exact List.mem_append_right _ hb)) k1.held
        have k3 := k1.cons k2
        rw [boxNums_le k1.le] at k3
        refine ⟨m2, hs1 ++ hs2, H1 ++ H2, u :: us, k3, ⟨u, us, rfl, q1, q3⟩, ⟨u, us, hs1, hs2, rngs m1 H1, rngs m2 H2, rfl, rfl, ?_, q2.mono k2.agree.I, q4⟩⟩
        rw [← k1.rngs h k2.agree]
        simp [rngs]
      · cases hd
    · cases hd
/-! ### What is handed back is alone -/
theorem alone_of {hs : List (Ob × Value)} {H : List (Nat × Nat × Nat)} (h : Rel cx m st a w) (hh : Held cx m st w hs) (hc : ∀ q ∈ H, 0 < q.2.2 ∧ ∀ j, j < q.2.2 → ∃ c, st.cell q.1 (q.2.1 + j) = some c) (hn : H.Pairwise fun q r => q.1 ≠ r.1) :
    Alone cx m.I w hs (rngs m H) where
  ob p hp := ⟨(hh.mem p hp).1, (hh.mem p hp).2.1⟩
  apart := hh.pairwise
  far p hp b hb r hr := by
    obtain ⟨q, hq, rfl⟩ := List.mem_map.1 hr
    obtain ⟨h0, h1⟩ := hc q hq
    obtain ⟨c, hcc⟩ := h1 0 h0
    exact ((hh.mem p hp).2.2 b hb).2 _ _ c hcc
  rng r hr := by
    obtain ⟨q, hq, rfl⟩ := List.mem_map.1 hr
    obtain ⟨h0, h1⟩ := hc q hq
    obtain ⟨c, hcc⟩ := h1 0 h0
    refine ⟨(h.own _ _ c hcc).1, fun o ho1 ho2 => ?_⟩
    simp only at ho1 ho2
    obtain ⟨c', hc'⟩ := h1 (o - (m.bo q.1 + q.2.1)) (by omega)
    have := (h.own _ _ c' hc').2.1
    rwa [show m.bo q.1 + (q.2.1 + (o - (m.bo q.1 + q.2.1))) = o by omega] at this
  rfar := by
    unfold rngs
    rw [List.pairwise_map]
    refine List.Pairwise.imp_of_mem ?_ hn
    intro q r hq hr hne b o h1 h2
    obtain ⟨e1, e2, e3⟩ := h1
    obtain ⟨d1, d2, d3⟩ := h2
    simp only at e1 e2 e3 d1 d2 d3
    obtain ⟨c, hcc⟩ := (hc q hq).2 (o - (m.bo q.1 + q.2.1)) (by omega)
    obtain ⟨c', hcc'⟩ := (hc r hr).2 (o - (m.bo r.1 + r.2.1)) (by omega)
    exact hne (h.inj _ _ _ _ _ _ hcc hcc' (by rw [← e1, ← d1]) (by omega)).1
theorem ObV.cxe {I : Nat → Prop} (hf : ∀ b o, cx.free b o → cx'.free b o) {ob : Ob} {v : Value} (h : ObV cx I w ob v) : ObV cx' I w ob v := by
  refine ⟨h.1, fun b hb => ?_⟩
  have h1 := h.2 b hb
  cases hz : ob.fz with
  | true => rw [hz] at h1; exact h1
  | false => rw [hz] at h1; exact ⟨h1.1, fun o => hf b o (h1.2 o)⟩
theorem Alone.cxe {I : Nat → Prop} (hf : ∀ b o, cx.free b o → cx'.free b o) {hs : List (Ob × Value)} {rs : List Rng} (h : Alone cx I w hs rs) : Alone cx' I w hs rs :=
  ⟨fun p hp => ⟨(h.ob p hp).1.cxe hf, (h.ob p hp).2⟩, h.apart, h.far, fun r hr => ⟨(h.rng r hr).1, fun o h1 h2 => hf _ _ ((h.rng r hr).2 o h1 h2)⟩, h.rfar⟩
theorem Frame0.cxe (h0 : cx'.w0 = cx.w0) (hS : cx'.S = cx.S) (h : Frame0 cx w) : Frame0 cx' w :=
  ⟨by rw [h0]; exact h.os, by rw [h0]; exact h.tape, by rw [h0]; exact h.output, by rw [h0]; exact h.size, by rw [h0, hS]; exact h.same, by rw [h0, hS]; exact h.cell, by rw [h0, hS]; exact h.shape⟩
end Go.Pv
/-! The beginning of a function's text: the state that the arguments are told as. -/
namespace Go.Pv
variable {P : Program} {cx cx' : Cx} {m m' : Mp} {st st' : St} {a : Act} {w w' : World} {R : Type}
theorem addB_cell (st : St) (cs : List C) (b' o' : Nat) : (st.addB cs).cell b' o' = if st.n = b' ∧ o' < cs.length then cs[o']? else st.cell b' o' := by
  cases st with
  | mk fs fc fo s c o n =>
  simp only [St.addB, St.cell, lk2_newC, Nat.zero_le, true_and, Nat.zero_add, Nat.sub_zero]
  by_cases hh : n = b' ∧ o' < cs.length
  · rw [if_pos hh, if_pos hh]
    have : cs[o']? = some cs[o'] := List.getElem?_eq_getElem hh.2
    rw [this]
  · rw [if_neg hh, if_neg hh]
theorem Rel.addR (h : Rel cx m st a w) {cs : List C} {vs : List Value} {g off : Nat} {cur : Array Value} {e : TypeId} (hv : CRs cx m w cs vs) (hl : ∀ c ∈ cs, c.lt st.n)
    (hg0 : w.heap[g]? = some (.cells cur e (0, 0))) (hcur : Row w g off vs) (hI : ¬ m.I g) (hobs : ∀ i o, st.ob i = some o → blk (m.hd i) ≠ some g)
    (hcl : ∀ b o c, st.cell b o = some c → ∀ j, j < cs.length → ¬ (m.bk b = g ∧ m.bo b + o = off + j)) (hfree : ∀ j, j < cs.length → cx.free g (off + j)) (hK : st.n < cx.K) :
    Rel cx (m.setBk st.n g off) (st.addB cs) a w := by
  have hg := m.agree_setBk st.n g off
  have h1 : Rel cx (m.setBk st.n g off) st a w :=
    h.agree hg (fun b off c hc => (h.own b off c hc).1) (fun id ob b hi hb hf => by have := (h.objs id ob hi).1.2 b hb; rw [hf] at this; exact this.1) h.I h.If
  have hcell := addB_cell st cs
  have hbk : ∀ b' o' c', st.cell b' o' = some c' → (m.setBk st.n g off).bk b' = m.bk b' := fun b' o' c' hc' => hg.bk b' (h.cells b' o' c' hc').2.2
  have hbo : ∀ b' o' c', st.cell b' o' = some c' → (m.setBk st.n g off).bo b' = m.bo b' := fun b' o' c' hc' => hg.bo b' (h.cells b' o' c' hc').2.2
  have hself : (m.setBk st.n g off).bk st.n = g := by simp [Mp.setBk]
  have hself0 : (m.setBk st.n g off).bo st.n = off := by simp [Mp.setBk]
  refine { defers := h1.defers, size := h1.size, slots := fun j y hy => ?_, cells := ?_, own := ?_, inj := ?_, objs := fun id ob hi => ?_, odis := fun id ob id' ob' b h3 h4 => ?_, bdis := ?_, I := h1.I, frame := h1.frame, If := h1.If, box := ?_ }
  · rw [St.addB_slot] at hy; rw [St.addB_n]
    exact ⟨(h1.slots j y hy).1, V.lt_mono (Nat.le_succ _) (h1.slots j y hy).2⟩
  · intro b' o' c' hc'
    rw [hcell] at hc'
    rw [St.addB_n]
    split at hc'
    · rename_i hh
      obtain ⟨rfl, ho⟩ := hh
      obtain ⟨cv, h2, h3⟩ := hv.get o' c' hc'
      have hm : c' ∈ cs := List.mem_of_getElem? hc'
      refine ⟨⟨cv, ?_, h3.agree hg (hl c' hm)⟩, C.lt_mono (Nat.le_succ _) (hl c' hm), Nat.lt_succ_self _⟩
      rw [hself, hself0]
      exact hcur o' cv h2
    · obtain ⟨h2, h3, h4⟩ := h1.cells b' o' c' hc'
      exact ⟨h2, C.lt_mono (Nat.le_succ _) h3, Nat.lt_succ_of_lt h4⟩
  · intro b' o' c' hc'
    rw [hcell] at hc'
    split at hc'
    · rename_i hh
      obtain ⟨rfl, ho⟩ := hh
      rw [hself, hself0]
      exact ⟨hI, hfree o' ho, _, _, hg0⟩
    · exact h1.own b' o' c' hc'
  · intro b1 o1 c1 b2 o2 c2 hc1 hc2 e1 e2
    rw [hcell] at hc1 hc2
    split at hc1
    · rename_i hh
      obtain ⟨rfl, ho⟩ := hh
      split at hc2
      · rename_i hh2
        obtain ⟨rfl, ho2⟩ := hh2
        rw [hself0] at e2
        exact ⟨rfl, by omega⟩
      · rw [hself, hbk b2 o2 c2 hc2] at e1
        rw [hself0, hbo b2 o2 c2 hc2] at e2
        exact absurd ⟨e1.symm, e2.symm⟩ (hcl _ _ _ hc2 o1 ho)
    · split at hc2
      · rename_i hh2
        obtain ⟨rfl, ho2⟩ := hh2
        rw [hself, hbk b1 o1 c1 hc1] at e1
        rw [hself0, hbo b1 o1 c1 hc1] at e2
        exact absurd ⟨e1, e2⟩ (hcl _ _ _ hc1 o2 ho2)
      · exact h1.inj b1 o1 c1 b2 o2 c2 hc1 hc2 e1 e2
  · rw [St.addB_ob] at hi; rw [St.addB_n]; exact ⟨(h1.objs id ob hi).1, Nat.lt_succ_of_lt (h1.objs id ob hi).2⟩
  · rw [St.addB_ob] at h3 h4; exact h1.odis _ _ _ _ _ h3 h4
  · intro id ob b' o' c' g' hi hc' hg'
    rw [St.addB_ob] at hi
    rw [hcell] at hc'
    split at hc'
    · rename_i hh
      obtain ⟨rfl, ho⟩ := hh
      rw [hself]
      have h5 : blk (m.hd id) = some g' := by rw [← hg.hd id (h.objs id ob hi).2]; exact hg'
      intro e
      subst e
      exact hobs id ob hi h5
    · exact h1.bdis id ob b' o' c' g' hi hc' hg'
  · intro b' o' c' hc' hK'
    rw [hcell] at hc'
    split at hc'
    · rename_i hh
      obtain ⟨rfl, ho⟩ := hh
      omega
    · exact h1.box b' o' c' hc' hK'
theorem encL_n : ∀ {ks : List LK} {x : LDen ks} {st : St}, (encL st ks x).2.n = st.n + ownN ks
  | [], _, _ => rfl
  | .dat t :: ks, x, st => by simp only [encL, encK]; exact encL_n
  | .own e t :: ks, x, st => by
    simp only [encL, encK]
    rw [encL_n (ks := ks)]
    cases st; simp only [St.addO, ownN]; omega
  | .mp k v :: ks, x, st => by
    simp only [encL, encK]
    rw [encL_n (ks := ks)]
    cases st; simp only [St.addO, ownN]; omega
theorem initA_val {st : St} {k : LK} {as : List AK} {i : Nat} {x : PDen ((AK.val k :: as).map AK.ks)} : initA st (.val k :: as) i x = initA ((encK st k x.1.1).2.addS i (.v (lkAg k) (encK st k x.1.1).1)) as (i + 1) x.2 := by
  have : initA st (.val k :: as) i x = match encK st k x.1.1 with
    | (cs, ⟨fs, fc, fo, s, c, o, n⟩) => initA ⟨fs, fc, fo, (i, .v (lkAg k) cs) :: s, c, o, n⟩ as (i + 1) x.2 := by cases k <;> rfl
  rw [this]
  generalize encK st k x.1.1 = p
  obtain ⟨cs, fs, fc, fo, s, c, o, n⟩ := p
  rfl
theorem initA_ro {st : St} {t : Ty} {as : List AK} {i : Nat} {x : PDen ((AK.ro t :: as).map AK.ks)} : initA st (.ro t :: as) i x = initA (st.addS i (.v false [.iptr t x.1.1])) as (i + 1) x.2 := by cases st; rfl
theorem initA_fnc {st : St} {f : Nat} {as : List AK} {i : Nat} {x : PDen ((AK.fnc f :: as).map AK.ks)} : initA st (.fnc f :: as) i x = initA (st.addS i (.v false [.fn f []])) as (i + 1) x.2 := by cases st; rfl
theorem initA_io {st : St} {ks : List LK} {as : List AK} {i : Nat} {x : PDen ((AK.io ks :: as).map AK.ks)} : initA st (.io ks :: as) i x = initA (((encL st ks x.1).2.addB (encL st ks x.1).1).addS i (.v false [.ptr (encL st ks x.1).2.n 0])) as (i + 1) x.2 := by
  have : initA st (.io ks :: as) i x = match encL st ks x.1 with
    | (cs, ⟨fs, fc, fo, s, c, o, n⟩) => initA ⟨fs, fc, fo, (i, .v false [.ptr n 0]) :: s, newC n 0 cs c, o, n + 1⟩ as (i + 1) x.2 := rfl
  rw [this]
  generalize encL st ks x.1 = p
  obtain ⟨cs, fs, fc, fo, s, c, o, n⟩ := p
  rfl
theorem encK_n {k : LK} {x : k.den} {st : St} : (encK st k x).2.n = st.n + ownN [k] := by
  have := encL_n (ks := [k]) (x := (x, ())) (st := st)
  simpa [encL] using this
theorem initA_n : ∀ {as : List AK} {st : St} {i : Nat} {x : PDen (as.map AK.ks)}, (initA st as i x).n = st.n + initN as
  | [], st, i, x => rfl
  | .val k :: as, st, i, x => by rw [initA_val, initA_n (as := as), (addS_look _ _ _).2.2.2, encK_n]; simp only [initN]; omega
  | .ro t :: as, st, i, x => by rw [initA_ro, initA_n (as := as), (addS_look _ _ _).2.2.2]; simp only [initN]
  | .fnc f :: as, st, i, x => by rw [initA_fnc, initA_n (as := as), (addS_look _ _ _).2.2.2]; simp only [initN]
  | .io ks :: as, st, i, x => by
    rw [initA_io, initA_n (as := as), (addS_look _ _ _).2.2.2, St.addB_n]
    erw [encL_n (ks := ks)]
    simp only [initN]; omega
/-- Ranges that are still to be told. -/
structure Fresh (cx : Cx) (m : Mp) (st : St) (hs : List (Ob × Value)) (rs : List Rng) : Prop where
  rng : ∀ r ∈ rs, ¬ m.I r.b ∧ ∀ o, r.off ≤ o → o < r.off + r.n → cx.free r.b o
  obj : ∀ id ob g, st.ob id = some ob → blk (m.hd id) = some g → ∀ r ∈ rs, r.b ≠ g
  cell : ∀ b o c, st.cell b o = some c → ∀ r ∈ rs, ¬ r.has (m.bk b) (m.bo b + o)
  far : ∀ p ∈ hs, ∀ b, blk p.2 = some b → ∀ r ∈ rs, r.b ≠ b
  rfar : rs.Pairwise fun r s => ∀ b o, r.has b o → ¬ s.has b o
/-- Behind a part that has been told. -/
theorem Fresh.make {cs : List C} {vs : List Value} {m1 : Mp} {st1 : St} {h1 h2 : List (Ob × Value)} {rs : List Rng} (h : Rel cx m st a w) (hF : Fresh cx m st (h1 ++ h2) rs) (mk : MakeOk cx m st a w cs vs st1 m1 h2 h1) : Fresh cx m1 st1 h2 rs where
  rng r hr := by rw [mk.I]; exact hF.rng r hr
  obj id ob g hi hb r hr hg := by
    rcases mk.tr g (.inr (.inl ⟨id, ob, hi, hb⟩)) with h3 | ⟨p, hp, h3⟩
    · rcases h3 with h3 | ⟨i, o, h4, h5⟩ | ⟨i, o, c, h4, h5⟩
      · rw [← hg] at h3; exact (hF.rng r hr).1 h3
      · exact hF.obj i o g h4 h5 r hr hg
      · have := mk.rel.bdis id ob i o c g hi (by rw [mk.cell]; exact h4) hb
        rw [mk.agree.bk i (h.cells i o c h4).2.2] at this
        exact this h5
    · exact hF.far p (by simp [hp]) g h3 r hr hg
  cell b o c hc r hr := by
    rw [mk.cell] at hc
    have hb := (h.cells b o c hc).2.2
    rw [mk.agree.bk b hb, mk.agree.bo b hb]
    exact hF.cell b o c hc r hr
  far p hp := hF.far p (by simp [hp])
  rfar := hF.rfar
theorem Fresh.addS {hs : List (Ob × Value)} {rs : List Rng} (h : Fresh cx m st hs rs) (i : Nat) (v : V) : Fresh cx m (st.addS i v) hs rs := by
  obtain ⟨l1, l2, l3, l4⟩ := addS_look st i v
  exact ⟨h.rng, fun id ob g hi => h.obj id ob g (by rwa [l3] at hi), fun b o c hc => h.cell b o c (by rwa [l2] at hc), h.far, h.rfar⟩
theorem Held.addS {hs : List (Ob × Value)} (h : Held cx m st w hs) (i : Nat) (v : V) : Held cx m (st.addS i v) w hs := by
  obtain ⟨l1, l2, l3, l4⟩ := addS_look st i v
  exact h.sub (fun b off c hc => by rwa [l2] at hc) (fun id ob hi => ⟨ob, by rwa [l3] at hi⟩)
theorem initA_sound (hw : cx.w0 = w) : ∀ {as : List AK} {x : PDen (as.map AK.ks)} {st : St} {m : Mp} {i : Nat} {vs : List Value} {hs : List (Ob × Value)} {rs : List Rng}, Rel cx m st a w → ArgsR m.I cx.S w as x vs hs rs → Held cx m st w hs → Fresh cx m st hs rs →
    (∀ j v, vs[j]? = some v → a.tmps.getD (i + j) undef = v) → st.n + initN as ≤ cx.K → ∃ m', Rel cx m' (initA st as i x) a w ∧ Agree st.n m m' ∧ m'.I = m.I ∧ rs = rngs m' (ioH st.n as)
  | [], x, st, m, i, vs, hs, rs, h, hA, hh, hF, hv, hK => by
    obtain ⟨_, _, rfl⟩ := hA
    exact ⟨m, h, Agree.refl _ _, rfl, rfl⟩
  | .val k :: as, x, st, m, i, vs, hs, rs, h, hA, hh, hF, hv, hK => by
    obtain ⟨v, vs', h1, h2, r1, r2, rfl, rfl, rfl, ⟨rfl, us, rfl, hl⟩, hA2⟩ := hA
    have hen : encL st [k] x.1 = ((encK st k x.1.1).1, (encK st k x.1.1).2) := by simp [encL]
    obtain ⟨m1, mk⟩ := encL_sound h hen hl hh
    have hlen := LR_length hl
    simp only [sizeL, Nat.add_zero] at hlen
    have hv0 := hv 0 _ rfl
    have hr1 : Rel cx m1 ((encK st k x.1.1).2.addS i (.v (lkAg k) (encK st k x.1.1).1)) a w := by
      refine mk.rel.addS ?_ mk.lt
      rw [Nat.add_zero] at hv0
      rw [hv0]
      have hcrs := mk.crs
      cases hag : lkAg k with
      | true => exact ⟨us, rfl, hcrs⟩
      | false =>
        have h1s : k.size = 1 := by
          cases k with
          | dat t => exact ag_false_size hag
          | own e t => rfl
          | mp kt vt => rfl
        rw [h1s] at hlen
        generalize (encK st k x.1.1).1 = cs at hcrs
        cases hcrs with
        | nil => simp at hlen
        | cons a1 a2 => cases a2 with
          | nil => exact ⟨_, rfl, a1⟩
          | cons => simp at hlen
    obtain ⟨l1, l2, l3, l4⟩ := addS_look (encK st k x.1.1).2 i (.v (lkAg k) (encK st k x.1.1).1)
    have hF1 : Fresh cx m1 (encK st k x.1.1).2 h2 r2 := Fresh.make h (by simpa using hF) mk
    simp only [initN] at hK
    obtain ⟨m2, q1, q2, q3, q4⟩ := initA_sound hw (as := as) (x := x.2) (i := i + 1) hr1 (by rw [mk.I]; exact hA2) (mk.held.addS _ _) (hF1.addS _ _) (fun j v hj => by rw [show i + 1 + j = i + (j + 1) by omega]; exact hv (j + 1) v (by simpa using hj)) (by rw [l4, encK_n]; omega)
    rw [initA_val]
    refine ⟨m2, q1, mk.agree.trans q2 (by rw [l4]; exact mk.n), q3.trans mk.I, ?_⟩
    rw [List.nil_append, q4, l4, encK_n]
    rfl
  | .ro t :: as, x, st, m, i, vs, hs, rs, h, hA, hh, hF, hv, hK => by
    obtain ⟨v, vs', h1, h2, r1, r2, rfl, rfl, rfl, ⟨rfl, rfl, b, off, es, rfl, hs, hrow, hrv⟩, hA2⟩ := hA
    have hv0 := hv 0 _ rfl
    rw [Nat.add_zero] at hv0
    obtain ⟨l1, l2, l3, l4⟩ := addS_look st i (.v false [.iptr t x.1.1])
    have hr1 : Rel cx m (st.addS i (.v false [.iptr t x.1.1])) a w := by
      refine h.addS ⟨_, rfl, b, off, es, hv0, ?_, hrow, hrv⟩ (one_lt trivial)
      rw [← hw] at hs; exact hs
    simp only [initN] at hK
    obtain ⟨m2, q1, q2, q3, q4⟩ := initA_sound hw (as := as) (x := x.2) (i := i + 1) hr1 hA2 ((by simpa using hh : Held cx m st w h2).addS _ _) ((by simpa using hF : Fresh cx m st h2 r2).addS _ _) (fun j v hj => by rw [show i + 1 + j = i + (j + 1) by omega]; exact hv (j + 1) v (by simpa using hj)) (by rw [l4]; omega)
    rw [initA_ro]
    refine ⟨m2, q1, by rw [l4] at q2; exact q2, q3, ?_⟩
    rw [List.nil_append, q4, l4]
    rfl
  | .fnc f :: as, x, st, m, i, vs, hs, rs, h, hA, hh, hF, hv, hK => by
    obtain ⟨v, vs', h1, h2, r1, r2, rfl, rfl, rfl, ⟨rfl, rfl, rfl⟩, hA2⟩ := hA
    have hv0 := hv 0 _ rfl
    rw [Nat.add_zero] at hv0
    obtain ⟨l1, l2, l3, l4⟩ := addS_look st i (.v false [.fn f []])
    have hr1 : Rel cx m (st.addS i (.v false [.fn f []])) a w := h.addS ⟨_, rfl, hv0⟩ (one_lt (fun b hb => by cases hb))
    simp only [initN] at hK
    obtain ⟨m2, q1, q2, q3, q4⟩ := initA_sound hw (as := as) (x := x.2) (i := i + 1) hr1 hA2 ((by simpa using hh : Held cx m st w h2).addS _ _) ((by simpa using hF : Fresh cx m st h2 r2).addS _ _) (fun j v hj => by rw [show i + 1 + j = i + (j + 1) by omega]; exact hv (j + 1) v (by simpa using hj)) (by rw [l4]; omega)
    rw [initA_fnc]
    refine ⟨m2, q1, by rw [l4] at q2; exact q2, q3, ?_⟩
    rw [List.nil_append, q4, l4]
    rfl
  | .io ks :: as, x, st, m, i, vs, hs, rs, h, hA, hh, hF, hv, hK => by
    obtain ⟨v, vs', h1, h2, r1, r2, rfl, rfl, rfl, ⟨b, off, us, ccs, e, rfl, rfl, hrow, hsh, hl⟩, hA2⟩ := hA
    have hv0 := hv 0 _ rfl
    rw [Nat.add_zero] at hv0
    obtain ⟨m1, mk⟩ := encL_sound (cs := (encL st ks x.1).1) (st' := (encL st ks x.1).2) h rfl hl hh
    have hlen : (encL st ks x.1).1.length = sizeL ks := encL_length
    have hn1 : (encL st ks x.1).2.n = st.n + ownN ks := encL_n
    have hF1 : Fresh cx m1 (encL st ks x.1).2 h2 ([⟨b, off, sizeL ks⟩] ++ r2) := Fresh.make h hF mk
    simp only [initN] at hK
    have hR := mk.rel.addR mk.crs mk.lt hsh hrow (hF1.rng ⟨b, off, sizeL ks⟩ (by simp)).1 (fun i o hi hb => hF1.obj i o b hi hb ⟨b, off, sizeL ks⟩ (by simp) rfl)
      (fun b' o' c hc j hj hh => hF1.cell b' o' c hc ⟨b, off, sizeL ks⟩ (by simp) ⟨hh.1, by simp only; omega, by simp only; omega⟩)
      (fun j hj => (hF1.rng ⟨b, off, sizeL ks⟩ (by simp)).2 _ (by simp only; omega) (by simp only; omega)) (by rw [hn1]; omega)
    have hag := m1.agree_setBk (encL st ks x.1).2.n b off
    have hself : (m1.setBk (encL st ks x.1).2.n b off).bk (encL st ks x.1).2.n = b := by simp [Mp.setBk]
    have hself0 : (m1.setBk (encL st ks x.1).2.n b off).bo (encL st ks x.1).2.n = off := by simp [Mp.setBk]
    obtain ⟨l1, l2, l3, l4⟩ := addS_look ((encL st ks x.1).2.addB (encL st ks x.1).1) i (.v false [.ptr (encL st ks x.1).2.n 0])
    have hr1 := hR.addS (i := i) (v := .v false [.ptr (encL st ks x.1).2.n 0]) ⟨_, rfl, by rw [hv0]; simp only [CR, hself, hself0, Nat.add_zero]⟩ (one_lt (by rw [St.addB_n]; exact Nat.lt_succ_self _))
    have hcellb : ∀ b' o' c, ((encL st ks x.1).2.addB (encL st ks x.1).1).cell b' o' = some c → (b' = (encL st ks x.1).2.n ∧ o' < sizeL ks) ∨ ∃ c', (encL st ks x.1).2.cell b' o' = some c' := by
      intro b' o' c hc
      rw [addB_cell] at hc
      split at hc
      · rename_i hh2; exact .inl ⟨hh2.1.symm, by omega⟩
      · exact .inr ⟨c, hc⟩
    have hpw := hF1.rfar
    rw [List.singleton_append] at hpw
    have hF2 : Fresh cx (m1.setBk (encL st ks x.1).2.n b off) ((encL st ks x.1).2.addB (encL st ks x.1).1) h2 r2 := by
      refine ⟨fun r hr => hF1.rng r (by simp [hr]), fun id ob g hi hb r hr => ?_, fun b' o' c hc r hr => ?_, fun p hp g hg r hr => hF1.far p hp g hg r (by simp [hr]), ?_⟩
      · rw [St.addB_ob] at hi
        exact hF1.obj id ob g hi hb r (by simp [hr])
      · rcases hcellb b' o' c hc with ⟨rfl, ho⟩ | ⟨c', hc'⟩
        · rw [hself, hself0]
          cases hpw with
          | cons p1 p2 => exact p1 r hr b (off + o') ⟨rfl, by simp only; omega, by simp only; omega⟩
        · have hb' := (mk.rel.cells b' o' c' hc').2.2
          rw [hag.bk b' hb', hag.bo b' hb']
          exact hF1.cell b' o' c' hc' r (by simp [hr])
      · cases hpw with | cons p1 p2 => exact p2
    have hh2 : Held cx (m1.setBk (encL st ks x.1).2.n b off) ((encL st ks x.1).2.addB (encL st ks x.1).1) w h2 := by
      refine Held.of (fun p hp => ?_) mk.held.pairwise
      obtain ⟨p1, p2, p3⟩ := mk.held.mem p hp
      refine ⟨p1, p2, fun g hg => ⟨fun i o hi => by rw [St.addB_ob] at hi; exact (p3 g hg).1 i o hi, fun b' o' c hc => ?_⟩⟩
      rcases hcellb b' o' c hc with ⟨rfl, ho⟩ | ⟨c', hc'⟩
      · rw [hself]; exact hF1.far p hp g hg ⟨b, off, sizeL ks⟩ (by simp)
      · rw [hag.bk b' (mk.rel.cells b' o' c' hc').2.2]; exact (p3 g hg).2 b' o' c' hc'
    obtain ⟨m2, q1, q2, q3, q4⟩ := initA_sound hw (as := as) (x := x.2) (i := i + 1) hr1 (by rw [show (m1.setBk (encL st ks x.1).2.n b off).I = m1.I from rfl, mk.I]; exact hA2) (hh2.addS _ _) (hF2.addS _ _) (fun j v hj => by rw [show i + 1 + j = i + (j + 1) by omega]; exact hv (j + 1) v (by simpa using hj)) (by rw [l4, St.addB_n, hn1]; omega)
    rw [initA_io]
    refine ⟨m2, q1, (mk.agree.trans hag mk.n).trans q2 (by rw [l4, St.addB_n]; exact Nat.le_succ_of_le mk.n), q3.trans mk.I, ?_⟩
    rw [q4, l4, St.addB_n, hn1]
    have hb2 := q2.bk (encL st ks x.1).2.n (by rw [l4, St.addB_n]; exact Nat.lt_succ_self _)
    have hb3 := q2.bo (encL st ks x.1).2.n (by rw [l4, St.addB_n]; exact Nat.lt_succ_self _)
    rw [hself] at hb2
    rw [hself0] at hb3
    rw [hn1] at hb2 hb3
    simp only [ioH, rngs, List.map_cons, hb2, hb3, Nat.add_zero, List.singleton_append]
end Go.Pv
/-! **A function's contract, from what the interpreter answers of its text.** -/
namespace Go.Pv
variable {P : Program} {cx cx' : Cx} {m m' : Mp} {st st' : St} {a : Act} {w w' : World} {R : Type}
theorem ArgsR_length {I : Nat → Prop} {S : Nat → Nat → Prop} : ∀ {as : List AK} {x : PDen (as.map AK.ks)} {vs : List Value} {hs : List (Ob × Value)} {rs : List Rng}, ArgsR I S w as x vs hs rs → vs.length = as.length
  | [], _, _, _, _, h => by simp only [ArgsR] at h; simp [h.1]
  | k :: as, x, vs, hs, rs, h => by
    obtain ⟨v, vs', h1, h2, r1, r2, rfl, rfl, rfl, _, h3⟩ := h
    simp [ArgsR_length h3]
theorem IosR.mono {I I' : Nat → Prop} (hI : ∀ b, I b → I' b) : ∀ {as : List AK} {y : PDen (ioKs as)} {rs : List Rng} {hs : List (Ob × Value)}, IosR I w as y rs hs → IosR I' w as y rs hs
  | [], _, _, _, h => h
  | .io ks :: as, y, rs, hs, h => by
    obtain ⟨r, rs', vs, h1, h2, e1, e2, e3, e4, e5, e6⟩ := h
    exact ⟨r, rs', vs, h1, h2, e1, e2, e3, LR_mono hI (fun _ _ => rfl) e4, IosR.mono hI e5, e6⟩
  | .val _ :: as, y, rs, hs, h => IosR.mono (as := as) hI h
  | .ro _ :: as, y, rs, hs, h => IosR.mono (as := as) hI h
  | .fnc _ :: as, y, rs, hs, h => IosR.mono (as := as) hI h
theorem ioH_lt : ∀ {as : List AK} {n : Nat}, ∀ q ∈ ioH n as, n ≤ q.1 ∧ q.1 < n + initN as
  | [], n, q, h => by simp [ioH] at h
  | .val k :: as, n, q, h => by have := ioH_lt (as := as) q h; simp only [initN]; omega
  | .ro t :: as, n, q, h => by have := ioH_lt (as := as) q h; simp only [initN]; omega
  | .fnc f :: as, n, q, h => by have := ioH_lt (as := as) q h; simp only [initN]; omega
  | .io ks :: as, n, q, h => by
    simp only [ioH, List.mem_cons] at h
    simp only [initN]
    rcases h with rfl | h
    · simp only; omega
    · have := ioH_lt (as := as) q h; omega
theorem ioH_pw : ∀ {as : List AK} {n : Nat}, (ioH n as).Pairwise fun q r => q.1 ≠ r.1
  | [], n => .nil
  | .val k :: as, n => ioH_pw (as := as)
  | .ro t :: as, n => ioH_pw (as := as)
  | .fnc f :: as, n => ioH_pw (as := as)
  | .io ks :: as, n => .cons (fun r hr => by have := (ioH_lt (as := as) r hr).1; simp only; omega) (ioH_pw (as := as))
theorem allGe_spec {k : Nat} : ∀ {l : List Nat}, allGe k l = true → ∀ b ∈ l, k ≤ b
  | [], _, b, h => by cases h
  | c :: r, hl, b, h => by
    simp only [allGe, Bool.and_eq_true] at hl
    rcases List.mem_cons.1 h with rfl | h
    · exact Nat.le_of_ble_eq_true hl.1
    · exact allGe_spec hl.2 b h
theorem nodupN_spec : ∀ {l : List Nat}, nodupN l = true → l.Pairwise fun x y => x ≠ y
  | [], _ => .nil
  | d :: r, h => by
    simp only [nodupN, Bool.and_eq_true, Bool.not_eq_true'] at h
    refine .cons (fun x hx e => ?_) (nodupN_spec h.2)
    subst e
    have : mem1 r d = true := mem1_spec.2 hx
    rw [h.1] at this; cases this
theorem rngs_eq {H : List (Nat × Nat × Nat)} (h : ∀ q ∈ H, m'.bk q.1 = m.bk q.1 ∧ m'.bo q.1 = m.bo q.1) : rngs m' H = rngs m H :=
  List.map_congr_left fun q hq => by rw [(h q hq).1, (h q hq).2]
theorem body_valid {fc : FC} {ρ : Type} {ff : PDen (fc.args.map AK.ks) → Option ρ} {out : ρ → PDen (ioKs fc.args) × RDen fc.outs} {fin : fc.OD → ρ} {f : Nat} {fn : Func} {c : Code}
    (hf : P.funcs[f]? = some fn) (hb : fn.body = some c) (hnt : fn.ntmps = fc.nt) (hres : fn.results.toList = fc.results) (hm : P.follows .mixedOrders = true) (ht : tysB P fc.cfg.tys = true) (ha : arrsB P fc.cfg.arrs = true)
    (hC : CallsOk P fc.cfg.calls) (hA : AnnOk fc) (hB : fcB fc = true) (hR : RKOk fc.outs) (hi : ∀ x, body fc ρ fin c x = ff x) (ho : ∀ y, out (fin y) = y) : Valid P f ⟨fc.args, fc.outs, ρ, ff, out⟩ := by
  intro x y hy w I S args hs rs hG hI hargs hal hblt hrlt
  simp only at x y hy hargs
  simp only [fcB, Bool.and_eq_true] at hB
  obtain ⟨⟨hpA, hpR⟩, hlen⟩ := hB
  have hlen := Nat.le_of_ble_eq_true hlen
  have hal' := ArgsR_length hargs
  refine calls_of_wp hf hb ?_
  let cx : Cx := ⟨w, S, fc.nt, I, initN fc.args⟩
  let m0 : Mp := ⟨fun _ => 0, fun _ => 0, fun _ => undef, I⟩
  have hfree : ∀ b o, Cx.free ⟨w, S, 0, fun _ => True, 0⟩ b o → cx.free b o := fun b o h => h
  have hfree' : ∀ b o, cx.free b o → Cx.free ⟨w, S, 0, fun _ => True, 0⟩ b o := fun b o h => h
  have hal0 : Alone cx I w hs rs := hal.cxe hfree
  generalize hat : ({ tmps := args.toArray ++ Array.replicate (fn.ntmps - args.toArray.size) undef, defers := [] } : Act) = a0
  have hR0 : Rel cx m0 ⟨[], [], [], [], [], [], 0⟩ a0 w := by
    subst hat
    refine { defers := rfl, size := ?_, slots := fun n v hv => ?_, cells := fun b off c hc => ?_, own := fun b off c hc => ?_, inj := fun b off c _ _ _ hc => ?_, objs := fun i ob hi => ?_, odis := fun i ob _ _ _ hi => ?_, bdis := fun i ob _ _ _ _ hi => ?_, I := fun b hb => (hI b hb).1, frame := Frame0.refl, If := fun b hb => .inl hb, box := fun b off c hc => ?_ }
    · simp only [Array.size_append, Array.size_replicate, List.size_toArray]
      show args.length + (fn.ntmps - args.length) = fc.nt
      omega
    · simp [St.slot, lk] at hv
    · simp [St.cell, lk2] at hc
    · simp [St.cell, lk2] at hc
    · simp [St.cell, lk2] at hc
    · simp [St.ob, lk] at hi
    · simp [St.ob, lk] at hi
    · simp [St.ob, lk] at hi
    · simp [St.cell, lk2] at hc
  have hH0 : Held cx m0 ⟨[], [], [], [], [], [], 0⟩ w hs := Held.of (fun p hp => ⟨(hal0.ob p hp).1, (hal0.ob p hp).2, fun b hb => ⟨fun i o hi => by simp [St.ob, lk] at hi, fun b' off c hc => by simp [St.cell, lk2] at hc⟩⟩) hal0.apart
  have hF0 : Fresh cx m0 ⟨[], [], [], [], [], [], 0⟩ hs rs := ⟨hal0.rng, fun i ob g hi => by simp [St.ob, lk] at hi, fun b o c hc => by simp [St.cell, lk2] at hc, hal0.far, hal0.rfar⟩
  obtain ⟨m1, h1, hag1, hI1, hrs⟩ := initA_sound (cx := cx) rfl (i := 0) (x := x) hR0 hargs hH0 hF0 (fun j v hj => by
    subst hat
    have hlt := (List.getElem?_eq_some_iff.1 hj).1
    simp only [Nat.zero_add]
    rw [Array.getD_eq_getD_getElem?, Array.getElem?_append_left (by simpa using hlt)]
    simp [hj]) (by show 0 + initN fc.args ≤ initN fc.args; omega)
  have hn1 : (initSt fc.args x).n = initN fc.args := by rw [initSt, initA_n]; simp
  have hbody := hi x
  rw [hy] at hbody
  unfold body at hbody
  have last : ∀ m' st' a' w' z, Evr m1 (initSt fc.args x) w m' w' → Rel cx m' st' a' w' → decRet fc st' = some z → fin z = y → a'.defers = [] ∧ ∃ v, (results fn a'.tmps).run P w' = .ok v w' ∧
      (∃ v' vs I' h1 h2 gs, Ending.returned v = .returned v' ∧ v' = tupVal vs ∧
        Frame0 ⟨w, S, 0, fun _ => True, 0⟩ w' ∧ (∀ b, I b → I' b) ∧ (∀ b, I b → w'.heap[b]? = w.heap[b]?) ∧ (∀ b, I' b → b < w'.heap.size ∧ (I b ∨ ∀ o, Cx.free ⟨w, S, 0, fun _ => True, 0⟩ b o)) ∧
        IosR I' w' fc.args (out y).1 rs h1 ∧ OutsR I' w' fc.outs (out y).2 vs h2 gs ∧ Alone ⟨w, S, 0, fun _ => True, 0⟩ I' w' (h1 ++ h2) (rs ++ gs)) := by
    intro m' st' a' w' z hE h' hd hz
    subst hz
    rw [ho]
    unfold decRet at hd
    split at hd
    · rename_i z1 st2 hd1
      split at hd
      · rename_i z2 st3 hd2
        obtain ⟨hbx, hd⟩ := whenB_spec hd
        cases hd
        simp only [Bool.and_eq_true] at hbx
        obtain ⟨m2, hs1, k1⟩ := decIos_sound h' hd1 hpA (hs := []) trivial
        have hge := allGe_spec hbx.2
        obtain ⟨m3, hs2, H, us, k2, q1, q2⟩ := decRets_sound ht k1.rel hR hd2 hpR (fun b hb => by rw [boxNums_le k1.le] at hb; exact hge b hb) k1.held
        have hnums := k2.nums
        rw [boxNums_le k1.le] at hnums
        refine ⟨h'.defers, tupVal us, results_run (by rw [hres]; exact q1), tupVal us, us, m3.I, hs1, hs2, rngs m3 H, rfl, rfl, Frame0.cxe (cx := cx) rfl rfl h'.frame, fun b hb => ?_, fun b hb => ?_, fun b hb => ?_, ?_, q2, ?_⟩
        · exact k2.agree.I b (k1.agree.I b (hE.agree.I b (by rw [hI1]; exact hb)))
        · exact hE.keepI b (by rw [hI1]; exact hb)
        · exact ⟨k2.rel.I b hb, k2.rel.If b hb⟩
        all_goals
          have hio1 : ∀ q ∈ ioH 0 fc.args, q.1 < st'.n := fun q hq => by
            obtain ⟨c, hc⟩ := (k1.cells q hq).2 0 (k1.cells q hq).1
            exact (h'.cells _ _ c hc).2.2
          have hio2 : ∀ q ∈ ioH 0 fc.args, q.1 < (initSt fc.args x).n := fun q hq => by rw [hn1]; have := (ioH_lt q hq).2; omega
          have hr2 : rngs m2 (ioH 0 fc.args) = rs := by
            rw [hrs]
            refine rngs_eq fun q hq => ⟨?_, ?_⟩
            · rw [k1.agree.bk _ (hio1 q hq), hE.agree.bk _ (hio2 q hq)]
            · rw [k1.agree.bo _ (hio1 q hq), hE.agree.bo _ (hio2 q hq)]
        · have := k1.ios
          rw [hr2] at this
          exact this.mono k2.agree.I
        · have hr3 : rngs m3 (ioH 0 fc.args) = rs := by
            rw [← hr2]
            exact rngs_eq fun q hq => ⟨k2.agree.bk _ (by rw [k1.le.n]; exact hio1 q hq), k2.agree.bo _ (by rw [k1.le.n]; exact hio1 q hq)⟩
          have hal3 := alone_of (H := ioH 0 fc.args ++ H) k2.rel k2.held (fun q hq => ?_) ?_
          · have e : rngs m3 (ioH 0 fc.args ++ H) = rs ++ rngs m3 H := by rw [← hr3]; simp [rngs]
            rw [e] at hal3
            exact hal3.cxe hfree'
          · rcases List.mem_append.1 hq with hq | hq
            · exact ⟨(k1.cells q hq).1, fun j hj => by obtain ⟨c, hc⟩ := (k1.cells q hq).2 j hj; exact ⟨c, by rw [k2.le.cell, k1.le.cell]; exact hc⟩⟩
            · exact ⟨(k2.cells q hq).1, fun j hj => by obtain ⟨c, hc⟩ := (k2.cells q hq).2 j hj; exact ⟨c, by rw [k2.le.cell]; exact hc⟩⟩
          · refine List.pairwise_append.2 ⟨ioH_pw, ?_, fun q hq r hr => ?_⟩
            · have := nodupN_spec hbx.1
              rw [← hnums, List.pairwise_map] at this
              exact this
            · have h5 := (ioH_lt q hq).2
              have h6 := hge r.1 (by rw [← hnums]; exact List.mem_map.2 ⟨r, hr, rfl⟩)
              omega
      · cases hd
    · cases hd
  refine interp_sound (cx := cx) (fin := fin) hm ht ha hC hG rfl hA c _ _ _ _ _ _ _ _ _ _ hbody h1 (fun m' st' a' w' hE h' hk => ?_) (fun m' st' a' w' z hE h' hd hk => ?_) (fun j m' st' a' w' hE h' hk => by cases hk)
  · split at hk
    · rename_i z hd
      cases hk
      exact last m' st' a' w' z (hE.evr (Evr.refl _ _ _)) h' hd rfl
    · cases hk
  · cases hk
    exact last m' st' a' w' z hE h' hd rfl
end Go.Pv
/-! From a law's contract to what its row says. -/
namespace Go.Pv
open Go.ChangeShapes Go.RowKit Go.WideShapes
variable {H : Type} {enc : TypeId × Value → H} {P : Program} {W W' : World}
/-- An argument that is a row of bytes. -/
structure BytesArg (enc : TypeId × Value → H) (P : Program) (W : World) (t : TypeId) (v : Value) (d : DataW H) (p : List MemPlace) (xs : List Int) : Prop where
  rv : RV (fun b => b < W.heap.size) W (.sl (.int .u8)) xs [v]
  u8 : ∀ n ∈ xs, 0 ≤ n ∧ n ≤ 255
  same : ∀ W' : World, (∀ b, b < W.heap.size → W'.heap[b]? = W.heap[b]?) → ∀ sp : Nat → Bool, (∀ q ∈ p, sp q.block = true) → DataW.Trod enc P W' 0 sp true t v d p
theorem open_bytes {r : Reach} {b0 : Nat} {t e : TypeId} {v : Value} {d : DataW H} {p : List MemPlace} (ht : P.underlying t = some (.slice e)) (he : P.underlying e = some (.int .u8)) (hc : P.cellsOf e = 1) (hval : Value.okWide P W r b0 t v)
    (h : DataW.Trod enc P W 0 (fun _ => true) true t v d p) : ∃ xs, BytesArg enc P W t v d p xs := by
  obtain ⟨a, len, cap, rfl⟩ := okWide_slice ht hval
  obtain ⟨fuel, h⟩ := h
  have h : DataW.trod enc P W 0 (fun _ => true) true fuel t [.slice a len cap] = some (d, p) := h
  rcases open_ints ht he hc h with ⟨e1, e2⟩ | ⟨a, len, cap, zs, e1, hb, hl, hm, hz, e2, hcell, hw⟩
  · simp only [List.cons.injEq, Value.slice.injEq, and_true] at e1
    obtain ⟨rfl, rfl, rfl⟩ := e1
    cases e2
    exact ⟨[], ⟨none, 0, rfl, Nat.le_refl _, .inl rfl⟩, fun n hn => (by cases hn), fun W' _ sp _ => shut_slice_nil ht⟩
  · simp only [List.cons.injEq, Value.slice.injEq, and_true] at e1
    obtain ⟨rfl, rfl, rfl⟩ := e1
    cases e2
    simp only [if_true] at hz
    have hlen : (zs.take len).length = len := by simp; omega
    have hold : ∀ i, i < zs.length → (a.add i).block < W.heap.size := fun i hi => by
      have h1 := hcell i hi
      cases hh : W.heap[(a.add i).block]? with
      | none => simp [World.cell?, hh] at h1
      | some o => exact (Array.getElem?_eq_some_iff.1 hh).1
    refine ⟨zs.take len, ⟨some a, cap, by rw [hlen], by rw [hlen]; exact hl, ?_⟩, fun n hn => bounds_u8 (hw n (List.mem_of_mem_take hn)), fun W' hW sp hsp => ?_⟩
    · by_cases h0 : len = 0
      · left; rw [hlen]; exact h0
      · right
        obtain ⟨b, off, rfl, hcell'⟩ := ints_at hcell (by omega)
        refine ⟨b, off, rfl, hold 0 (by omega), fun i y hy => ?_⟩
        have hi : i < len := by have := (List.getElem?_eq_some_iff.1 hy).1; omega
        refine ⟨[.int .u8 y], fun j u hu => ?_, rfl⟩
        have hj : j = 0 := by
          have := (List.getElem?_eq_some_iff.1 hu).1
          simp at this; exact this
        subst hj
        simp at hu; subst hu
        have h3 := hcell' i (by omega)
        rw [List.getElem?_take_of_lt hi] at hy
        have : zs.getD i 0 = y := by rw [List.getD_eq_getElem?_getD, hy]; rfl
        rw [this] at h3
        simpa [Ty.size] using h3
    · refine ⟨2, shut_ints 0 ht he hc (Nat.zero_le _) hl hm ?_ (fun i hi => ?_) hw⟩
      · by_cases h0 : cap = 0
        · rw [hz]; split <;> omega
        · have : sp a.block = true := by
            have := hsp (.cell a.block a.off) (by
              have := (MemPlace.mem_row (a := a) (n := zs.length) (p := .cell a.block a.off)).2 ⟨0, by omega, by
                simp⟩
              exact this)
            exact this
          rw [this]; simp [hz]
      · have h1 := hold i hi
        exact (World.cell?_of_block (w := W) (w' := W') (hW _ h1)).trans (hcell i hi)
/-- What a law's row says of a call that answers true, and leaves all blocks as they were. -/
theorem law_post {f : Func} {s : ChangeSpec} {fresh handsOn again : Bool} {args : Array Value} {ds gs : List (DataW H)} {before : List MemPlace} {tr : TypeId} {cx : Cx} (hvars : s.vars = []) (hW : DataW.Whole enc P f.params.toList s.vars false W args.toList ds gs before)
    (hres : f.resultTypes = #[tr]) (htr : P.underlying tr = some .bool) (hfn : s.fn H (ds ++ gs) = { results := [.lit (.bool true)], args := ds })
    (hsame : ∀ sp : Nat → Bool, (∀ q ∈ before, sp q.block = true) → DataW.TrodAll enc P W' 0 sp true f.params.toList args.toList ds before)
    (hF : Frame0 cx W') (h0 : cx.w0 = W) (hS : ∀ b o, ¬ cx.S b o) : s.post enc P f false fresh handsOn again W args (.bool true) W' := by
  subst h0
  have hblock : ∀ b, b < cx.w0.heap.size → W'.heap[b]? = cx.w0.heap[b]? := fun b hb => hF.same b hb (hS b)
  have hold : ∀ p ∈ before, (fun b => decide (b < cx.w0.heap.size)) p.block = true := fun p hp => by simpa using hW.lt p hp
  have hgs : gs = [] := by
    obtain ⟨_, q, _, hV, _⟩ := hW
    rw [hvars] at hV
    cases gs with
    | nil => rfl
    | cons g r => exact absurd hV (by intro h; cases h)
  have hr : (Value.bool true).resultList f.resultTypes.size = [.bool true] := by rw [hres]; rfl
  have hrt : f.resultTypes.toList = [tr] := by rw [hres]
  have hT : ∀ (b : Nat) (sp : Nat → Bool) (hd : Bool), DataW.TrodAll enc P W' b sp hd f.resultTypes.toList ((Value.bool true).resultList f.resultTypes.size) (s.fn H (ds ++ gs)).results [] := by
    intro b sp hd
    rw [hr, hrt, hfn]
    exact ⟨[], [], shut_bool htr true, rfl, rfl⟩
  have hV : ∀ sp : Nat → Bool, DataW.TrodVars enc P W' sp s.vars (s.fn H (ds ++ gs)).vars [] := by
    intro sp
    rw [hvars, hfn]
    exact (rfl : ([] : List MemPlace) = [])
  have hA : ∀ sp : Nat → Bool, (∀ q ∈ before, sp q.block = true) → DataW.TrodAll enc P W' 0 sp true f.params.toList args.toList (s.fn H (ds ++ gs)).args before := by
    intro sp hsp
    rw [hfn]
    exact hsame sp hsp
  refine ⟨ds, gs, before, [], before, [], hW, hT _ _ _, hA _ hold, hV _, ⟨hF.os, hF.output, fun i hi => ?_⟩, fun _ => ⟨ok_one hres rfl (okWide_bool_mk htr true), _, _, ([] ++ before) ++ [], ⟨[] ++ before, [], trodAll_append (hA _ (fun _ _ => rfl)) (hT _ _ _), hV _, rfl, ?_, fun h => by cases h⟩, fun p hp _ => by simpa using hp⟩⟩
  · rw [hblock i hi]
    cases hh : cx.w0.heap[i]? with
    | none => simp
    | some o =>
      cases o with
      | cells c t fr => exact ⟨rfl, rfl, rfl, fun _ _ => rfl⟩
      | map es clk => exact .inr ⟨rfl, rfl⟩
      | _ => rfl
  · intro b off hp
    have hp' : MemPlace.cell b off ∈ before := by simpa using hp
    have hb : b < cx.w0.heap.size := hW.lt _ hp'
    obtain ⟨_, _, _, _, _, hz, _⟩ := hW
    have := hz b off hp'
    unfold World.frozen? at this ⊢
    rw [hblock b hb]
    exact this
/-- A law over one row of bytes; over two. -/
def lawC1 (g : List Int → Option Bool) : Ctr := { args := [.val (.dat (.sl (.int .u8)))], outs := [{ box := .val, ag := false, ks := [.dat .bool], τ := Bool, to := fun l => l.1, of := fun v => (v, ()) }], ρ := Bool, f := fun x => g x.1.1, out := fun r => ((), (r, ())) }
def lawC2 (g : List Int → List Int → Option Bool) : Ctr := { args := [.val (.dat (.sl (.int .u8))), .val (.dat (.sl (.int .u8)))], outs := [{ box := .val, ag := false, ks := [.dat .bool], τ := Bool, to := fun l => l.1, of := fun v => (v, ()) }], ρ := Bool, f := fun x => g x.1.1 x.2.1.1, out := fun r => ((), (r, ())) }
theorem bytes_argR {t : TypeId} {v : Value} {d : DataW H} {p : List MemPlace} {xs : List Int} (h : BytesArg enc P W t v d p xs) : ArgR (fun b => b < W.heap.size) (fun _ _ => False) W (.val (.dat (.sl (.int .u8)))) (xs, ()) v [] [] :=
  ⟨rfl, [v], rfl, [v], [], by simp, h.rv, rfl, rfl⟩
theorem law1 {f : Func} {s : ChangeSpec} {fresh handsOn again : Bool} {n : Nat} {args : Array Value} {ds gs : List (DataW H)} {before : List MemPlace} {base : Nat} {r : Reach} {tb te tr : TypeId} {g : List Int → Option Bool}
    (hv : Valid P n (lawC1 g)) (hG : Glb P (fun _ _ => False) W) (hvars : s.vars = []) (hW : DataW.Whole enc P f.params.toList s.vars false W args.toList ds gs before) (hp : f.params = #[tb]) (hval : ∀ (j : Nat) t v, f.params[j]? = some t → args[j]? = some v → Value.okWide P W r base t v)
    (ht : P.underlying tb = some (.slice te)) (he : P.underlying te = some (.int .u8)) (hc : P.cellsOf te = 1) (hres : f.resultTypes = #[tr]) (htr : P.underlying tr = some .bool) (hfn : ∀ d, s.fn H [d] = { results := [.lit (.bool true)], args := [d] })
    (hg : ∀ xs, (∀ n ∈ xs, 0 ≤ n ∧ n ≤ 255) → g xs = some true) : Calls P n args W fun e W' => ∃ v, e = .returned v ∧ s.post enc P f false fresh handsOn again W args v W' := by
  have hW0 := hW
  obtain ⟨p, q, hA, hV, rfl, _, _⟩ := hW0
  rw [hvars] at hV
  have hgs : gs = [] ∧ q = [] := by
    cases gs with
    | nil => exact ⟨rfl, hV⟩
    | cons g r => exact absurd hV (by intro h; cases h)
  obtain ⟨rfl, rfl⟩ := hgs
  rw [hp] at hA
  obtain ⟨v0, d0, e1, rfl, h0⟩ := trodAll_one hA
  subst e1
  obtain ⟨xs, hb⟩ := open_bytes ht he hc (hval 0 tb v0 (by rw [hp]; rfl) rfl) h0
  have hcall := hv (((xs, ()), ()) : PDen [[LK.dat (.sl (.int .u8))]]) true (hg xs hb.u8) W (fun b => b < W.heap.size) (fun _ _ => False) [v0] [] [] hG (fun b hb => ⟨hb, fun _ h => h⟩)
    ⟨v0, [], [], [], [], [], rfl, rfl, rfl, bytes_argR hb, rfl, rfl, rfl⟩ ⟨fun p hp => (by cases hp), .nil, fun p hp => (by cases hp), fun r hr => (by cases hr), .nil⟩ (fun p hp => by cases hp) (fun r hr => by cases hr)
  refine hcall.mono ?_
  rintro e W' ⟨v, vs, I', h1, h2, gs, rfl, rfl, hF, _, _, _, _, hO, _⟩
  obtain ⟨u, us, a1, a2, g1, g2, rfl, _, _, ⟨_, vs', hsh, hl⟩, hnil, _, _⟩ := hO
  subst hnil
  have hsh : vs' = [u] := hsh
  subst hsh
  obtain ⟨c1, c2, e3, hrv, e4, _⟩ := hl
  have hrv : c1 = [.bool true] := hrv
  have hu : u = .bool true := by
    have e4 : c2 = [] := e4
    rw [hrv, e4] at e3
    simpa using e3
  subst hu
  refine ⟨.bool true, rfl, law_post hvars hW hres htr (by simpa using hfn d0) (fun sp hsp => ?_) hF rfl (fun _ _ h => h)⟩
  rw [hp]
  have := hb.same W' (fun b hb => hF.same b hb (fun _ h => h)) sp (fun q hq => hsp q (by simpa using hq))
  exact ⟨p, [], this, rfl, rfl⟩
theorem law2 {f : Func} {s : ChangeSpec} {fresh handsOn again : Bool} {n : Nat} {args : Array Value} {ds gs : List (DataW H)} {before : List MemPlace} {base : Nat} {r : Reach} {tb te tr : TypeId} {g : List Int → List Int → Option Bool}
    (hv : Valid P n (lawC2 g)) (hG : Glb P (fun _ _ => False) W) (hvars : s.vars = []) (hW : DataW.Whole enc P f.params.toList s.vars false W args.toList ds gs before) (hp : f.params = #[tb, tb]) (hval : ∀ (j : Nat) t v, f.params[j]? = some t → args[j]? = some v → Value.okWide P W r base t v)
    (ht : P.underlying tb = some (.slice te)) (he : P.underlying te = some (.int .u8)) (hc : P.cellsOf te = 1) (hres : f.resultTypes = #[tr]) (htr : P.underlying tr = some .bool) (hfn : ∀ d d', s.fn H [d, d'] = { results := [.lit (.bool true)], args := [d, d'] })
    (hg : ∀ xs ys, (∀ n ∈ xs, 0 ≤ n ∧ n ≤ 255) → (∀ n ∈ ys, 0 ≤ n ∧ n ≤ 255) → g xs ys = some true) : Calls P n args W fun e W' => ∃ v, e = .returned v ∧ s.post enc P f false fresh handsOn again W args v W' := by
  have hW0 := hW
  obtain ⟨p, q, hA, hV, rfl, _, _⟩ := hW0
  rw [hvars] at hV
  have hgs : gs = [] ∧ q = [] := by
    cases gs with
    | nil => exact ⟨rfl, hV⟩
    | cons g r => exact absurd hV (by intro h; cases h)
  obtain ⟨rfl, rfl⟩ := hgs
  rw [hp] at hA
  obtain ⟨v0, vs0, d0, ds0, p0, p01, e1, rfl, rfl, h0, hA1⟩ := trodAll_cons hA
  obtain ⟨v1, vs1, d1, ds1, p1, p2, rfl, rfl, rfl, h1, hA2⟩ := trodAll_cons hA1
  obtain ⟨rfl, rfl, rfl⟩ := trodAll_nil hA2
  have ea : args = #[v0, v1] := by apply Array.ext'; exact e1
  subst ea
  obtain ⟨xs, hb⟩ := open_bytes ht he hc (hval 0 tb v0 (by rw [hp]; rfl) rfl) h0
  obtain ⟨ys, hb1⟩ := open_bytes ht he hc (hval 1 tb v1 (by rw [hp]; rfl) rfl) h1
  have hcall := hv (((xs, ()), (ys, ()), ()) : PDen [[LK.dat (.sl (.int .u8))], [LK.dat (.sl (.int .u8))]]) true (hg xs ys hb.u8 hb1.u8) W (fun b => b < W.heap.size) (fun _ _ => False) [v0, v1] [] [] hG (fun b hb => ⟨hb, fun _ h => h⟩)
    ⟨v0, [v1], [], [], [], [], rfl, rfl, rfl, bytes_argR hb, v1, [], [], [], [], [], rfl, rfl, rfl, bytes_argR hb1, rfl, rfl, rfl⟩ ⟨fun p hp => (by cases hp), .nil, fun p hp => (by cases hp), fun r hr => (by cases hr), .nil⟩ (fun p hp => by cases hp) (fun r hr => by cases hr)
  refine hcall.mono ?_
  rintro e W' ⟨v, vs, I', h1, h2, gs, rfl, rfl, hF, _, _, _, _, hO, _⟩
  obtain ⟨u, us, a1, a2, g1, g2, rfl, _, _, ⟨_, vs', hsh, hl⟩, hnil, _, _⟩ := hO
  subst hnil
  have hsh : vs' = [u] := hsh
  subst hsh
  obtain ⟨c1, c2, e3, hrv, e4, _⟩ := hl
  have hrv : c1 = [.bool true] := hrv
  have hu : u = .bool true := by
    have e4 : c2 = [] := e4
    rw [hrv, e4] at e3
    simpa using e3
  subst hu
  refine ⟨.bool true, rfl, law_post hvars hW hres htr (by simpa using hfn d0 d1) (fun sp hsp => ?_) hF rfl (fun _ _ h => h)⟩
  rw [hp]
  have s0 := hb.same W' (fun b hb => hF.same b hb (fun _ h => h)) sp (fun q hq => hsp q (by simp [hq]))
  have s1 := hb1.same W' (fun b hb => hF.same b hb (fun _ h => h)) sp (fun q hq => hsp q (by simp [hq]))
  exact ⟨p0, p1, s0, ⟨p1, [], s1, rfl, by simp⟩, by simp⟩
/-! ### The table -/
theorem laidVars_mem : ∀ {l : List (String × DataW Unit)} {ps : List MemPlace}, DataW.LaidVars P W l ps → ∀ x ∈ l, ∃ g t cs fuel p, P.globalNamed x.1 = some g ∧ (P.globals[g]?).map (·.type) = some t ∧ W.var? P x.1 = some cs ∧ DataW.trod (fun _ => ()) P W 0 (fun _ => true) false fuel t cs.toList = some (x.2, p)
  | [], _, _, x, hx => by cases hx
  | (n, d) :: r, ps, h, x, hx => by
    obtain ⟨g, t, cs, fuel, p, q, h1, h2, h3, h4, h5, _⟩ := h
    rcases List.mem_cons.1 hx with rfl | hx
    · exact ⟨g, t, cs, fuel, p, h1, h2, h3, h4⟩
    · exact laidVars_mem h5 x hx
theorem glb_of_laid {laid : List (String × DataW Unit)} {d : DataW Unit} {S : Nat → Nat → Prop} {g : Nat} {t e : TypeId} {n : Nat} (hm : laidMet P laid W) (hd : ("internal/strconv.uint64pow10", d) ∈ laid) (he : d = Lib.tabData .u64 Lib.pow10Tab)
    (hg : P.globalNamed "internal/strconv.uint64pow10" = some g) (hty : (P.globals[g]?).map (·.type) = some t) (ht : P.underlying t = some (.array n e)) (hel : P.underlying e = some (.int .u64)) (hce : P.cellsOf e = 1) (hct : P.cellsOf t = n) (hS : ∀ b o, ¬ S b o) : Glb P S W := by
  subst he
  obtain ⟨ps, hL, _⟩ := hm
  obtain ⟨g', t', cs, fuel, p, h1, h2, h3, h4⟩ := laidVars_mem hL _ hd
  simp only at h1 h2 h3 h4
  rw [hg] at h1; cases h1
  rw [hty] at h2; cases h2
  have hcs := Lib.cells_of_tab ht hel hce hct h4
  have hb : g < W.heap.size := by
    unfold World.var? at h3
    rw [hg] at h3
    simp only [Option.bind_some] at h3
    cases hh : W.heap[g]? with
    | none => rw [hh] at h3; cases h3
    | some o => exact (Array.getElem?_eq_some_iff.1 hh).1
  refine .inr ⟨g, hb, hS g, fun w' hw => ?_⟩
  unfold Lib.TabIs
  have : w'.var? P "internal/strconv.uint64pow10" = W.var? P "internal/strconv.uint64pow10" := by
    unfold World.var?
    rw [hg]
    simp only [Option.bind_some, hw]
  rw [this, h3, ← hcs]
end Go.Pv
