/-
  What the functions of the program answer, as Lean functions.
-/
import Derived.Test.YtbcpkkjdemajnaaDoorLib5
namespace Go.Pv
abbrev T_runtime_errorAddressString : Type := Bytes × Int
abbrev T_impl_Register : Type := Int × List Int
abbrev T_impl_CarryEvent : Type := Int × Int × Int
abbrev T_spec_l00Src : Type := (List Int) × Int × Int
abbrev T_runtime_boundsError : Type := Int × Int × Bool × Int
/-- loop.example/g00930/laws.a2Long -/
noncomputable def laws_a2Long (code : List Int) (more : List Int) : Option Bool :=
  (show Option Bool from bcase (decide ((code.length : Int) > 3000))
        (some true)
        (some (decide ((more.length : Int) > 3000)))).bind fun q =>
  some q
/-- loop.example/g00930/spec.l00From -/
noncomputable def spec_l00From (code : List Int) : Option T_spec_l00Src :=
  some (code, ((0 : Int), (0 : Int)))
/-- (*loop.example/g00930/spec.l00Src).next -/
noncomputable def spec_l00Src_next (s : T_spec_l00Src) : Option (T_spec_l00Src × Int) :=
  (show Option Int from bcase (decide ((s.2.1 : Int) < (s.1.length : Int)))
        ((idx s.1 s.2.1).bind fun e =>
          some (IntKind.i64.wrap e))
        (some 0)).bind fun b =>
  bcase (decide ((IntKind.i64.wrap (s.2.1 + 1) : Int) ≤ (s.1.length : Int)))
    (some ((s.1, (IntKind.i64.wrap (s.2.1 + 1), IntKind.u64.wrap ((IntKind.u64.wrap ((IntKind.u64.wrap (s.2.2 * 6364136223846793005)) + (IntKind.u64.wrap b))) + 1442695040888963407))), b))
    ((shrK .u64 (IntKind.u64.wrap ((IntKind.u64.wrap ((IntKind.u64.wrap (s.2.2 * 6364136223846793005)) + (IntKind.u64.wrap b))) + 1442695040888963407)) 40).bind fun x =>
      some ((s.1, (IntKind.i64.wrap (s.2.1 + 1), IntKind.u64.wrap ((IntKind.u64.wrap ((IntKind.u64.wrap (s.2.2 * 6364136223846793005)) + (IntKind.u64.wrap b))) + 1442695040888963407))), IntKind.i64.wrap (bitsK .and .u64 x 255)))
/-- (*loop.example/g00930/spec.l00Src).pick -/
noncomputable def spec_l00Src_pick (s : T_spec_l00Src) (n : Int) : Option (T_spec_l00Src × Int) :=
  bcase (decide ((n : Int) ≤ 1))
    (some (s, 0))
    ((spec_l00Src_next s).bind fun (r, r2) =>
      (show Option (Int × List Int × Int × Int) from bcase (decide ((n : Int) > 200))
            ((spec_l00Src_next r).bind fun (r3, r4) =>
              some (IntKind.i64.wrap ((IntKind.i64.wrap (r2 * 256)) + r4), r3))
            (some (r2, r))).bind fun (x, s2, s1, s21) =>
      (remK x n).bind fun x2 =>
      some ((s2, (s1, s21)), x2))
/-- (*loop.example/g00930/spec.l00Src).one -/
noncomputable def spec_l00Src_one (s : T_spec_l00Src) (n : Int) : Option (T_spec_l00Src × Bool) :=
  (spec_l00Src_pick s n).bind fun (r, r2) =>
  some (r, (r2 : Int) == 0)
noncomputable def spec_l02DrawDigits_b0 (base : Int) (width : Int) (go : (List Int × Int × List Int × Int × Int) → Option (List Int × Int × List Int × Int × Int)) : (List Int × Int × List Int × Int × Int) → Option (List Int × Int × List Int × Int × Int) := fun (out, k, s2, s1, s21) =>
  bcase (decide ((k : Int) < width))
    ((spec_l00Src_pick (s2, (s1, s21)) base).bind fun (r, r2) =>
      (spec_l00Src_one r 3).bind fun (r3, r4) =>
      (show Option Int from bcase r4
            (some (IntKind.i64.wrap (base - 1)))
            (some r2)).bind fun d =>
      (apd out ([d] : List Int)).bind fun l =>
      go (l, (IntKind.i64.wrap (k + 1), r3)))
    (some (out, (k, (s2, (s1, s21)))))
/-- loop.example/g00930/spec.l02DrawDigits -/
noncomputable def spec_l02DrawDigits (s : T_spec_l00Src) (base : Int) (width : Int) : Option (T_spec_l00Src × List Int) :=
  (loopL (spec_l02DrawDigits_b0 base width) (([] : List Int), (0, s))).bind fun (out2, k2, s3, s12, s22) =>
  some ((s3, (s12, s22)), out2)
/-- loop.example/g00930/spec.l00Min -/
noncomputable def spec_l00Min (a : Int) (b : Int) : Option Int :=
  bcase (decide ((a : Int) < b))
    (some a)
    (some b)
noncomputable def spec_l02Most_b0 (base : Int) (go : (Int × Int) → Option (Int × Int)) : (Int × Int) → Option (Int × Int) := fun (n, power) =>
  (show Option Bool from bcase (decide ((IntKind.i64.wrap (power - 1) : Int) ≤ 1000000000000))
        (some (decide ((n : Int) < 16)))
        (some false)).bind fun q =>
  bcase q
    (go (IntKind.i64.wrap (n + 1), IntKind.i64.wrap (power * base)))
    (some (n, power))
/-- loop.example/g00930/spec.l02Most -/
noncomputable def spec_l02Most (base : Int) : Option Int :=
  (loopL (spec_l02Most_b0 base) (1, IntKind.i64.wrap (base * base))).bind fun (n2, power2) =>
  some n2
/-- loop.example/g00930/spec.l02Draw -/
noncomputable def spec_l02Draw (s : T_spec_l00Src) (most : Int) : Option (T_spec_l00Src × T_impl_Register) :=
  (spec_l00Src_pick s 11).bind fun (r, r2) =>
  (spec_l00Src_one r 2).bind fun (r3, r4) =>
  (show Option Int from bcase r4
        (some 10)
        (some (IntKind.i64.wrap (2 + r2)))).bind fun r5 =>
  (spec_l02Most r5).bind fun r6 =>
  (spec_l00Min most r6).bind fun r7 =>
  (spec_l00Src_pick r3 r7).bind fun (r8, r9) =>
  (spec_l02DrawDigits r8 r5 (IntKind.i64.wrap (1 + r9))).bind fun (r10, r11) =>
  some (r10, (r5, r11))
/-- loop.example/g00930/spec.A2Registers -/
noncomputable def spec_A2Registers (code : List Int) : Option (T_impl_Register × T_impl_Register) :=
  (spec_l00From code).bind fun r =>
  (spec_l02Draw r 7).bind fun (r2, r3) =>
  (spec_l02DrawDigits r2 r3.1 (r3.2.length : Int)).bind fun (r4, r5) =>
  some (r3, (r3.1, r5))
/-- loop.example/g00930/impl.between -/
noncomputable def impl_between (n : Int) (low : Int) (high : Int) : Option Bool :=
  (show Option Bool from bcase (decide ((n : Int) ≥ low))
        (some (decide ((n : Int) ≤ high)))
        (some false)).bind fun q =>
  some q
/-- loop.example/g00930/impl.isBase -/
noncomputable def impl_isBase (base : Int) : Option Bool :=
  (impl_between base 2 16).bind fun r =>
  some r
/-- loop.example/g00930/impl.isRegisterWidth -/
noncomputable def impl_isRegisterWidth (width : Int) : Option Bool :=
  (impl_between width 1 16).bind fun r =>
  some r
noncomputable def impl_Register_value_b0 (r : T_impl_Register) (go : (Int × Int) → Option (Out (Int × Int) Int)) : (Int × Int) → Option (Out (Int × Int) Int) := fun (v, i) =>
  bcase (decide ((i : Int) ≥ 0))
    ((idx r.2 i).bind fun e =>
      bcase (decide ((IntKind.i64.wrap ((IntKind.i64.wrap (v * r.1)) + e) : Int) > 1000000000000))
        (some (Out.ret 1000000000001))
        (go (IntKind.i64.wrap ((IntKind.i64.wrap (v * r.1)) + e), IntKind.i64.wrap (i - 1))))
    (some (Out.done (v, i)))
/-- (loop.example/g00930/impl.Register).value -/
noncomputable def impl_Register_value (r : T_impl_Register) : Option Int :=
  (loopL (impl_Register_value_b0 r) (0, IntKind.i64.wrap ((r.2.length : Int) - 1))).bind fun o => outK o (fun (v2, i2) =>
  some v2) (fun y => some y)
noncomputable def impl_ValidRegister_b0 (r : T_impl_Register) (go : Int → Option (Out Int Bool)) : Int → Option (Out Int Bool) := fun i =>
  bcase (decide ((i : Int) < (r.2.length : Int)))
    ((idx r.2 i).bind fun e =>
      (impl_between e 0 (IntKind.i64.wrap (r.1 - 1))).bind fun r4 =>
      bcase (!r4)
        (some (Out.ret false))
        (go (IntKind.i64.wrap (i + 1))))
    (some (Out.done i))
/-- loop.example/g00930/impl.ValidRegister -/
noncomputable def impl_ValidRegister (r : T_impl_Register) : Option Bool :=
  (impl_isBase r.1).bind fun r2 =>
  (show Option Bool from bcase (!r2)
        (some true)
        ((impl_isRegisterWidth (r.2.length : Int)).bind fun r3 =>
          some (!r3))).bind fun q =>
  bcase q
    (some false)
    ((loopL (impl_ValidRegister_b0 r) 0).bind fun o => outK o (fun i2 =>
      (impl_Register_value r).bind fun r5 =>
      some (decide ((r5 : Int) ≤ 1000000000000))) (fun y => some y))
/-- (loop.example/g00930/impl.Register).width -/
noncomputable def impl_Register_width (r : T_impl_Register) : Option Int :=
  some (r.2.length : Int)
/-- loop.example/g00930/impl.pairCode -/
noncomputable def impl_pairCode (a : T_impl_Register) (b : T_impl_Register) : Option Int :=
  (impl_ValidRegister a).bind fun r =>
  (show Option Bool from bcase (!r)
        (some true)
        ((impl_ValidRegister b).bind fun r2 =>
          some (!r2))).bind fun q =>
  bcase q
    (some 1)
    ((show Option Bool from bcase ((a.1 : Int) != b.1)
            (some true)
            ((impl_Register_width a).bind fun r3 =>
              (impl_Register_width b).bind fun r4 =>
              some ((r3 : Int) != r4))).bind fun q2 =>
      bcase q2
        (some 6)
        (some 0))
noncomputable def impl_turned_b0 (a : T_impl_Register) (b : T_impl_Register) (go : (List Bool × Int × List Int) → Option (List Bool × Int × List Int)) : (List Bool × Int × List Int) → Option (List Bool × Int × List Int) := fun (cocked, i, out1) =>
  bcase (decide ((i : Int) < (a.2.length : Int)))
    ((idx a.2 i).bind fun e =>
      (idx b.2 i).bind fun e2 =>
      (remK (IntKind.i64.wrap (e + e2)) a.1).bind fun x =>
      (apd out1 ([x] : List Int)).bind fun l =>
      (apd cocked ([decide ((IntKind.i64.wrap (e + e2) : Int) ≥ a.1)] : List Bool)).bind fun l2 =>
      go (l2, (IntKind.i64.wrap (i + 1), l)))
    (some (cocked, (i, out1)))
/-- loop.example/g00930/impl.turned -/
noncomputable def impl_turned (a : T_impl_Register) (b : T_impl_Register) : Option (T_impl_Register × List Bool) :=
  (loopL (impl_turned_b0 a b) (([] : List Bool), (0, ([] : List Int)))).bind fun (cocked2, i2, out12) =>
  some ((a.1, out12), cocked2)
/-- loop.example/g00930/impl.copyNumbers -/
noncomputable def impl_copyNumbers (list : List Int) : Option (List Int) :=
  (apd ([] : List Int) list).bind fun l =>
  some l
noncomputable def impl_pushed_b0 (r : T_impl_Register) (l : List Bool) (go : (Int × List Int × List Bool) → Option (Int × List Int × List Bool)) : (Int × List Int × List Bool) → Option (Int × List Int × List Bool) := fun (i, out1, levers) =>
  bcase (decide ((i : Int) < (l.length : Int)))
    ((idx levers i).bind fun _e =>
      (idx levers i).bind fun x =>
      (show Option Bool from bcase (!x)
            (some true)
            (some ((IntKind.i64.wrap (i + 1) : Int) == (levers.length : Int)))).bind fun q =>
      bcase q
        (go (IntKind.i64.wrap (i + 1), (out1, levers)))
        ((idx out1 (IntKind.i64.wrap (i + 1))).bind fun _e2 =>
          (idx out1 (IntKind.i64.wrap (i + 1))).bind fun x2 =>
          (idx out1 (IntKind.i64.wrap (i + 1))).bind fun _e3 =>
          (idx out1 (IntKind.i64.wrap (i + 1))).bind fun old =>
          (idx (setK out1 (IntKind.i64.wrap (i + 1)) (IntKind.i64.wrap (x2 + 1))) (IntKind.i64.wrap (i + 1))).bind fun _e4 =>
          (idx (setK out1 (IntKind.i64.wrap (i + 1)) (IntKind.i64.wrap (x2 + 1))) (IntKind.i64.wrap (i + 1))).bind fun x3 =>
          (show Option (List Int × List Bool) from bcase ((x3 : Int) == r.1)
                ((idx (setK out1 (IntKind.i64.wrap (i + 1)) (IntKind.i64.wrap (x2 + 1))) (IntKind.i64.wrap (i + 1))).bind fun _e5 =>
                  (idx (setK out1 (IntKind.i64.wrap (i + 1)) (IntKind.i64.wrap (x2 + 1))) (IntKind.i64.wrap (i + 1))).bind fun old2 =>
                  (idx levers (IntKind.i64.wrap (i + 1))).bind fun _e6 =>
                  (idx levers (IntKind.i64.wrap (i + 1))).bind fun old3 =>
                  some (setK (setK out1 (IntKind.i64.wrap (i + 1)) (IntKind.i64.wrap (x2 + 1))) (IntKind.i64.wrap (i + 1)) 0, setK levers (IntKind.i64.wrap (i + 1)) true))
                (some (setK out1 (IntKind.i64.wrap (i + 1)) (IntKind.i64.wrap (x2 + 1)), levers))).bind fun (out12, levers2) =>
          go (IntKind.i64.wrap (i + 1), (out12, levers2))))
    (some (i, (out1, levers)))
/-- loop.example/g00930/impl.pushed -/
noncomputable def impl_pushed (r : T_impl_Register) (cocked : List Bool) : Option (T_impl_Register × List Bool) :=
  (impl_copyNumbers r.2).bind fun r2 =>
  (apd ([] : List Bool) cocked).bind fun l =>
  (loopL (impl_pushed_b0 r l) (0, (r2, l))).bind fun (i2, out13, levers3) =>
  some ((r.1, out13), levers3)
noncomputable def impl_EventsOf_b0 (b : T_impl_Register) (r3 : List Bool) (go : (List T_impl_CarryEvent × Int) → Option (List T_impl_CarryEvent × Int)) : (List T_impl_CarryEvent × Int) → Option (List T_impl_CarryEvent × Int) := fun (out, i) =>
  bcase (decide ((i : Int) < (b.2.length : Int)))
    ((idx b.2 i).bind fun e =>
      (show Option (List T_impl_CarryEvent) from bcase (decide ((e : Int) > 0))
            ((apd out ([(1, (i, e))] : List T_impl_CarryEvent)).bind fun l =>
              some l)
            (some out)).bind fun out2 =>
      (idx r3 i).bind fun _e =>
      (idx r3 i).bind fun x =>
      (show Option (List T_impl_CarryEvent) from bcase x
            ((apd out2 ([(2, (i, (0 : Int)))] : List T_impl_CarryEvent)).bind fun l2 =>
              some l2)
            (some out2)).bind fun out3 =>
      go (out3, IntKind.i64.wrap (i + 1)))
    (some (out, i))
noncomputable def impl_EventsOf_b2 (r3 : List Bool) (r5 : List Bool) (go : (List T_impl_CarryEvent × Int) → Option (List T_impl_CarryEvent × Int)) : (List T_impl_CarryEvent × Int) → Option (List T_impl_CarryEvent × Int) := fun (out5, i3) =>
  bcase (decide ((i3 : Int) < (r5.length : Int)))
    ((idx r5 i3).bind fun _e2 =>
      (idx r5 i3).bind fun x2 =>
      bcase (!x2)
        (go (out5, IntKind.i64.wrap (i3 + 1)))
        ((apd out5 ([(3, (i3, (0 : Int)))] : List T_impl_CarryEvent)).bind fun l3 =>
          (show Option Bool from bcase (decide ((IntKind.i64.wrap (i3 + 1) : Int) < (r5.length : Int)))
                ((idx r5 (IntKind.i64.wrap (i3 + 1))).bind fun _e3 =>
                  (idx r5 (IntKind.i64.wrap (i3 + 1))).bind fun x3 =>
                  some x3)
                (some false)).bind fun q =>
          (show Option Bool from bcase q
                ((idx r3 (IntKind.i64.wrap (i3 + 1))).bind fun _e4 =>
                  (idx r3 (IntKind.i64.wrap (i3 + 1))).bind fun x4 =>
                  some (!x4))
                (some false)).bind fun q2 =>
          (show Option (List T_impl_CarryEvent) from bcase q2
                ((apd l3 ([(2, (IntKind.i64.wrap (i3 + 1), (0 : Int)))] : List T_impl_CarryEvent)).bind fun l4 =>
                  some l4)
                (some l3)).bind fun out6 =>
          go (out6, IntKind.i64.wrap (i3 + 1))))
    (some (out5, i3))
/-- loop.example/g00930/impl.EventsOf -/
noncomputable def impl_EventsOf (a : T_impl_Register) (b : T_impl_Register) : Option (List T_impl_CarryEvent × Int) :=
  (impl_pairCode a b).bind fun r =>
  bcase ((r : Int) != 0)
    (some (([] : List T_impl_CarryEvent), r))
    ((impl_turned a b).bind fun (r2, r3) =>
      (impl_pushed r2 r3).bind fun (r4, r5) =>
      (loopL (impl_EventsOf_b0 b r3) (([] : List T_impl_CarryEvent), 0)).bind fun (out4, i2) =>
      (loopL (impl_EventsOf_b2 r3 r5) (out4, 0)).bind fun (out7, i4) =>
      some (out7, 0))
/-- loop.example/g00930/spec.l00In -/
noncomputable def spec_l00In (n : Int) (low : Int) (high : Int) : Option Bool :=
  (show Option Bool from bcase (decide ((n : Int) ≥ low))
        (some (decide ((n : Int) ≤ high)))
        (some false)).bind fun q =>
  some q
/-- loop.example/g00930/spec.l02Base -/
noncomputable def spec_l02Base (n : Int) : Option Bool :=
  (spec_l00In n 2 16).bind fun r =>
  some r
noncomputable def spec_l02Digits_b0 (base : Int) (digits : List Int) (go : Int → Option (Out Int Bool)) : Int → Option (Out Int Bool) := fun i =>
  bcase (decide ((i : Int) < (digits.length : Int)))
    ((idx digits i).bind fun e =>
      (spec_l00In e 0 (IntKind.i64.wrap (base - 1))).bind fun r =>
      bcase (!r)
        (some (Out.ret false))
        (go (IntKind.i64.wrap (i + 1))))
    (some (Out.done i))
/-- loop.example/g00930/spec.l02Digits -/
noncomputable def spec_l02Digits (base : Int) (digits : List Int) : Option Bool :=
  (loopL (spec_l02Digits_b0 base digits) 0).bind fun o => outK o (fun i2 =>
  (spec_l00In (digits.length : Int) 1 16).bind fun r2 =>
  some r2) (fun y => some y)
noncomputable def spec_l02Value_b0 (base : Int) (digits : List Int) (go : (Int × Int) → Option (Int × Int)) : (Int × Int) → Option (Int × Int) := fun (sum, i) =>
  bcase (decide ((i : Int) ≥ 0))
    ((idx digits i).bind fun e =>
      (spec_l00Min 1000000000001 (IntKind.i64.wrap ((IntKind.i64.wrap (sum * base)) + e))).bind fun r =>
      go (r, IntKind.i64.wrap (i - 1)))
    (some (sum, i))
/-- loop.example/g00930/spec.l02Value -/
noncomputable def spec_l02Value (base : Int) (digits : List Int) : Option Int :=
  (loopL (spec_l02Value_b0 base digits) (0, IntKind.i64.wrap ((digits.length : Int) - 1))).bind fun (sum2, i2) =>
  some sum2
/-- loop.example/g00930/spec.l02Ok -/
noncomputable def spec_l02Ok (r : T_impl_Register) : Option Bool :=
  (spec_l02Base r.1).bind fun r2 =>
  (show Option Bool from bcase r2
        ((spec_l02Digits r.1 r.2).bind fun r3 =>
          some r3)
        (some false)).bind fun q =>
  (show Option Bool from bcase q
        ((spec_l02Value r.1 r.2).bind fun r4 =>
          some (decide ((r4 : Int) ≤ 1000000000000)))
        (some false)).bind fun q2 =>
  some q2
/-- loop.example/g00930/spec.l02Two -/
noncomputable def spec_l02Two (a : T_impl_Register) (b : T_impl_Register) : Option Int :=
  (spec_l02Ok a).bind fun r =>
  (show Option Bool from bcase (!r)
        (some true)
        ((spec_l02Ok b).bind fun r2 =>
          some (!r2))).bind fun q =>
  bcase q
    (some 1)
    ((show Option Bool from bcase ((a.1 : Int) != b.1)
            (some true)
            (some ((a.2.length : Int) != (b.2.length : Int)))).bind fun q2 =>
      bcase q2
        (some 6)
        (some 0))
noncomputable def spec_l02Carries_b0 (a : T_impl_Register) (b : T_impl_Register) (go : (Int × List Int × Int) → Option (Int × List Int × Int)) : (Int × List Int × Int) → Option (Int × List Int × Int) := fun (carry, out, k) =>
  bcase (decide ((k : Int) < (a.2.length : Int)))
    ((idx a.2 k).bind fun e =>
      (idx b.2 k).bind fun e2 =>
      (quoK .i64 (IntKind.i64.wrap ((IntKind.i64.wrap (e + e2)) + carry)) a.1).bind fun x =>
      (apd out ([x] : List Int)).bind fun l =>
      go (x, (l, IntKind.i64.wrap (k + 1))))
    (some (carry, (out, k)))
/-- loop.example/g00930/spec.l02Carries -/
noncomputable def spec_l02Carries (a : T_impl_Register) (b : T_impl_Register) : Option (List Int) :=
  (loopL (spec_l02Carries_b0 a b) (0, (([0] : List Int), 0))).bind fun (carry2, out2, k2) =>
  some out2
noncomputable def spec_l02Add_b0 (a : T_impl_Register) (b : T_impl_Register) (r : List Int) (go : (Int × List Int) → Option (Int × List Int)) : (Int × List Int) → Option (Int × List Int) := fun (k, out1) =>
  bcase (decide ((k : Int) < (a.2.length : Int)))
    ((idx a.2 k).bind fun e =>
      (idx b.2 k).bind fun e2 =>
      (idx r k).bind fun _e =>
      (idx r k).bind fun x =>
      (remK (IntKind.i64.wrap ((IntKind.i64.wrap (e + e2)) + x)) a.1).bind fun x2 =>
      (apd out1 ([x2] : List Int)).bind fun l =>
      go (IntKind.i64.wrap (k + 1), l))
    (some (k, out1))
/-- loop.example/g00930/spec.l02Add -/
noncomputable def spec_l02Add (a : T_impl_Register) (b : T_impl_Register) : Option (T_impl_Register × Int) :=
  (spec_l02Carries a b).bind fun r =>
  (loopL (spec_l02Add_b0 a b r) (0, ([] : List Int))).bind fun (k2, out12) =>
  (idx r (a.2.length : Int)).bind fun _e2 =>
  (idx r (a.2.length : Int)).bind fun x3 =>
  some ((a.1, out12), x3)
/-- loop.example/g00930/spec.AddRegisters -/
noncomputable def spec_AddRegisters (a : T_impl_Register) (b : T_impl_Register) : Option (T_impl_Register × Int × Int) :=
  (spec_l02Two a b).bind fun r =>
  bcase ((r : Int) != 0)
    (some (((0 : Int), ([] : List Int)), (0, r)))
    ((spec_l02Add a b).bind fun (r2, r3) =>
      (spec_l02Ok r2).bind fun r4 =>
      bcase (!r4)
        (some (((0 : Int), ([] : List Int)), (0, 5)))
        (some (r2, (r3, 0))))
/-- loop.example/g00930/spec.CarriesOf -/
noncomputable def spec_CarriesOf (a : T_impl_Register) (b : T_impl_Register) : Option (List Int × Int) :=
  (spec_l02Two a b).bind fun r =>
  bcase ((r : Int) != 0)
    (some (([] : List Int), r))
    ((spec_l02Carries a b).bind fun r2 =>
      some (r2, 0))
/-- loop.example/g00930/impl.sole -/
noncomputable def impl_sole (r : T_impl_Register) : Option (T_impl_Register × Int) :=
  (impl_ValidRegister r).bind fun r2 =>
  bcase (!r2)
    (some (((0 : Int), ([] : List Int)), 5))
    (some (r, 0))
noncomputable def impl_ReplayEvents_b0 (r : T_impl_Register) (list : List T_impl_CarryEvent) (go : (Int × Int × List Int) → Option (Out (Int × Int × List Int) (T_impl_Register × Int))) : (Int × Int × List Int) → Option (Out (Int × Int × List Int) (T_impl_Register × Int)) := fun (i, c0, c1) =>
  bcase (decide ((i : Int) < (list.length : Int)))
    ((idx list i).bind fun e =>
      (impl_between e.1 1 3).bind fun r3 =>
      (show Option Bool from bcase (!r3)
            (some true)
            ((impl_Register_width r).bind fun r4 =>
              (impl_between e.2.1 0 (IntKind.i64.wrap (r4 - 1))).bind fun r5 =>
              some (!r5))).bind fun q =>
      (show Option Bool from bcase q
            (some true)
            ((impl_between e.2.2 0 (IntKind.i64.wrap (r.1 - 1))).bind fun r6 =>
              some (!r6))).bind fun q2 =>
      bcase q2
        (some (Out.ret (((0 : Int), ([] : List Int)), 2)))
        (go (IntKind.i64.wrap (i + 1), (c0, c1))))
    (some (Out.done (i, (c0, c1))))
noncomputable def impl_ReplayEvents_b2 (r : T_impl_Register) (list : List T_impl_CarryEvent) (go : (Int × List Int) → Option (Int × List Int)) : (Int × List Int) → Option (Int × List Int) := fun (i3, out1) =>
  bcase (decide ((i3 : Int) < (list.length : Int)))
    ((idx list i3).bind fun e2 =>
      bcase ((e2.1 : Int) == 2)
        (go (IntKind.i64.wrap (i3 + 1), out1))
        ((show Option (Int × Int) from bcase ((e2.1 : Int) == 3)
                (some (IntKind.i64.wrap (e2.2.1 + 1), 1))
                (some e2.2)).bind fun (wheel, steps) =>
          (show Option (List Int) from bcase (decide ((wheel : Int) < (out1.length : Int)))
                ((idx out1 wheel).bind fun _e =>
                  (idx out1 wheel).bind fun x =>
                  (remK (IntKind.i64.wrap (x + steps)) r.1).bind fun x2 =>
                  (idx out1 wheel).bind fun _e2 =>
                  (idx out1 wheel).bind fun old =>
                  some (setK out1 wheel x2))
                (some out1)).bind fun out12 =>
          go (IntKind.i64.wrap (i3 + 1), out12)))
    (some (i3, out1))
/-- loop.example/g00930/impl.ReplayEvents -/
noncomputable def impl_ReplayEvents (r : T_impl_Register) (list : List T_impl_CarryEvent) : Option (T_impl_Register × Int) :=
  (impl_ValidRegister r).bind fun r2 =>
  bcase (!r2)
    (some (((0 : Int), ([] : List Int)), 1))
    ((loopL (impl_ReplayEvents_b0 r list) (0, ((0 : Int), ([] : List Int)))).bind fun o => outK o (fun (i2, c02, c12) =>
      (impl_copyNumbers r.2).bind fun r7 =>
      (loopL (impl_ReplayEvents_b2 r list) (0, r7)).bind fun (i4, out13) =>
      (impl_sole (r.1, out13)).bind fun (r8, r9) =>
      some (r8, r9)) (fun y => some y))
noncomputable def impl_CountPushes_b0 (r5 : List Bool) (go : (Int × Int) → Option (Int × Int)) : (Int × Int) → Option (Int × Int) := fun (n, i) =>
  bcase (decide ((i : Int) < (r5.length : Int)))
    ((idx r5 i).bind fun _e =>
      (idx r5 i).bind fun x =>
      (show Option Int from bcase x
            (some (IntKind.i64.wrap (n + 1)))
            (some n)).bind fun n2 =>
      go (n2, IntKind.i64.wrap (i + 1)))
    (some (n, i))
/-- loop.example/g00930/impl.CountPushes -/
noncomputable def impl_CountPushes (a : T_impl_Register) (b : T_impl_Register) : Option (Int × Int) :=
  (impl_pairCode a b).bind fun r =>
  bcase ((r : Int) != 0)
    (some (0, r))
    ((impl_turned a b).bind fun (r2, r3) =>
      (impl_pushed r2 r3).bind fun (r4, r5) =>
      (loopL (impl_CountPushes_b0 r5) (0, 0)).bind fun (n3, i2) =>
      some (n3, 0))
noncomputable def impl_RippleOf_b0 (r3 : List Bool) (r5 : List Bool) (go : (Int × Int × Int) → Option (Int × Int × Int)) : (Int × Int × Int) → Option (Int × Int × Int) := fun (run, most, i) =>
  bcase (decide ((i : Int) < (r5.length : Int)))
    ((idx r3 i).bind fun _e =>
      (idx r3 i).bind fun x =>
      (show Option Int from bcase x
            (some 1)
            ((idx r5 i).bind fun _e2 =>
              (idx r5 i).bind fun x2 =>
              (show Option Int from bcase x2
                    (some (IntKind.i64.wrap (run + 1)))
                    (some 0)).bind fun run2 =>
              some run2)).bind fun run3 =>
      go (run3, (max most run3, IntKind.i64.wrap (i + 1))))
    (some (run, (most, i)))
/-- loop.example/g00930/impl.RippleOf -/
noncomputable def impl_RippleOf (a : T_impl_Register) (b : T_impl_Register) : Option (Int × Int) :=
  (impl_pairCode a b).bind fun r =>
  bcase ((r : Int) != 0)
    (some (0, r))
    ((impl_turned a b).bind fun (r2, r3) =>
      (impl_pushed r2 r3).bind fun (r4, r5) =>
      (loopL (impl_RippleOf_b0 r3 r5) (0, (0, 0))).bind fun (run4, most2, i2) =>
      some (most2, 0))
/-- loop.example/g00930/impl.Decimal -/
noncomputable def impl_Decimal (n : Int) : Option Bytes :=
  (X_FormatInt n 10).bind fun r =>
  some r
/-- loop.example/g00930/impl.EventText -/
noncomputable def impl_EventText (e : T_impl_CarryEvent) : Option Bytes :=
  bcase ((e.1 : Int) == 1)
    ((impl_Decimal e.2.1).bind fun r =>
      (apd ([116, 117, 114, 110, 32] : Bytes) r).bind fun x =>
      (apd x ([32, 98, 121, 32] : Bytes)).bind fun x2 =>
      (impl_Decimal e.2.2).bind fun r2 =>
      (apd x2 r2).bind fun x3 =>
      some x3)
    (bcase ((e.1 : Int) == 2)
        ((impl_Decimal e.2.1).bind fun r3 =>
          (apd ([99, 111, 99, 107, 32] : Bytes) r3).bind fun x4 =>
          some x4)
        (bcase ((e.1 : Int) == 3)
            ((impl_Decimal e.2.1).bind fun r4 =>
              (apd ([112, 117, 115, 104, 32] : Bytes) r4).bind fun x5 =>
              some x5)
            (some ([] : Bytes))))
/-- loop.example/g00930/impl.TurnWheels -/
noncomputable def impl_TurnWheels (a : T_impl_Register) (b : T_impl_Register) : Option (T_impl_Register × List Bool × Int) :=
  (impl_pairCode a b).bind fun r =>
  bcase ((r : Int) != 0)
    (some (((0 : Int), ([] : List Int)), (([] : List Bool), r)))
    ((impl_turned a b).bind fun (r2, r3) =>
      (impl_ValidRegister r2).bind fun r4 =>
      bcase (!r4)
        (some (((0 : Int), ([] : List Int)), (([] : List Bool), 5)))
        (some (r2, (r3, 0))))
noncomputable def spec_l00Same_b0 (a : List Int) (b : List Int) (go : Int → Option (Out Int Bool)) : Int → Option (Out Int Bool) := fun i =>
  bcase (decide ((i : Int) < (a.length : Int)))
    ((idx a i).bind fun e =>
      (idx b i).bind fun e2 =>
      bcase ((e : Int) != e2)
        (some (Out.ret false))
        (go (IntKind.i64.wrap (i + 1))))
    (some (Out.done i))
/-- loop.example/g00930/spec.l00Same -/
noncomputable def spec_l00Same (a : List Int) (b : List Int) : Option Bool :=
  bcase ((a.length : Int) != (b.length : Int))
    (some false)
    ((loopL (spec_l00Same_b0 a b) 0).bind fun o => outK o (fun i2 =>
      some true) (fun y => some y))
/-- loop.example/g00930/spec.l02Same -/
noncomputable def spec_l02Same (a : T_impl_Register) (b : T_impl_Register) : Option Bool :=
  (show Option Bool from bcase ((a.1 : Int) == b.1)
        ((spec_l00Same a.2 b.2).bind fun r =>
          some r)
        (some false)).bind fun q =>
  some q
/-- loop.example/g00930/spec.SameRegister -/
noncomputable def spec_SameRegister (a : T_impl_Register) (b : T_impl_Register) : Option Bool :=
  (spec_l02Same a b).bind fun r =>
  some r
/-- loop.example/g00930/impl.whole -/
noncomputable def impl_whole (r : T_impl_Register) (n : Int) : Option (T_impl_Register × Int × Int) :=
  (impl_ValidRegister r).bind fun r2 =>
  bcase (!r2)
    (some (((0 : Int), ([] : List Int)), (0, 5)))
    (some (r, (n, 0)))
/-- loop.example/g00930/impl.lastCarry -/
noncomputable def impl_lastCarry (levers : List Bool) : Option Int :=
  (idx levers (IntKind.i64.wrap ((levers.length : Int) - 1))).bind fun e =>
  bcase e
    (some 1)
    (some 0)
/-- loop.example/g00930/impl.PushLevers -/
noncomputable def impl_PushLevers (r : T_impl_Register) (cocked : List Bool) : Option (T_impl_Register × Int × Int) :=
  (impl_ValidRegister r).bind fun r2 =>
  bcase (!r2)
    (some (((0 : Int), ([] : List Int)), (0, 1)))
    ((impl_Register_width r).bind fun r3 =>
      bcase ((cocked.length : Int) != r3)
        (some (((0 : Int), ([] : List Int)), (0, 8)))
        ((impl_pushed r cocked).bind fun (r4, r5) =>
          (impl_lastCarry r5).bind fun r6 =>
          (impl_whole r4 r6).bind fun (r7, r8, r9) =>
          some (r7, (r8, r9))))
noncomputable def laws_FnEvents_b0 (r9 : List Int) (go : (Int × Int) → Option (Int × Int)) : (Int × Int) → Option (Int × Int) := fun (n, k) =>
  bcase (decide ((k : Int) < (r9.length : Int)))
    ((idx r9 k).bind fun _e =>
      (idx r9 k).bind fun x =>
      go (IntKind.i64.wrap (n + x), IntKind.i64.wrap (k + 1)))
    (some (n, k))
noncomputable def laws_FnEvents_b2 (r4 : List T_impl_CarryEvent) (go : (Int × Int) → Option (Out (Int × Int) Bool)) : (Int × Int) → Option (Out (Int × Int) Bool) := fun (own, i) =>
  bcase (decide ((i : Int) < (r4.length : Int)))
    ((idx r4 i).bind fun _e2 =>
      (idx r4 i).bind fun x2 =>
      (show Option Int from bcase ((x2.1 : Int) == 3)
            (some (IntKind.i64.wrap (own + 1)))
            (some own)).bind fun own2 =>
      (idx r4 i).bind fun _e3 =>
      (idx r4 i).bind fun x3 =>
      (impl_EventText x3).bind fun r17 =>
      bcase (r17 == ([] : Bytes))
        (some (Out.ret false))
        (go (own2, IntKind.i64.wrap (i + 1))))
    (some (Out.done (own, i)))
/-- loop.example/g00930/laws.FnEvents -/
noncomputable def laws_FnEvents (code : List Int) : Option Bool :=
  (laws_a2Long code ([] : List Int)).bind fun r =>
  bcase r
    (some true)
    ((spec_A2Registers code).bind fun (r2, r3) =>
      (impl_EventsOf r2 r3).bind fun (r4, r5) =>
      (spec_AddRegisters r2 r3).bind fun (r6, r7, r8) =>
      (spec_CarriesOf r2 r3).bind fun (r9, r10) =>
      bcase ((r5 : Int) != 0)
        (some false)
        ((impl_ReplayEvents r2 r4).bind fun (r11, r12) =>
          (impl_CountPushes r2 r3).bind fun (r13, r14) =>
          (impl_RippleOf r2 r3).bind fun (r15, r16) =>
          (loopL (laws_FnEvents_b0 r9) (0, 0)).bind fun (n2, k2) =>
          (loopL (laws_FnEvents_b2 r4) (0, 0)).bind fun o => outK o (fun (own3, i2) =>
          (impl_TurnWheels r2 r3).bind fun (r18, r19, r20) =>
          (show Option Bool from bcase ((r12 : Int) != 0)
                (some true)
                ((spec_SameRegister r11 r6).bind fun r21 =>
                  some (!r21))).bind fun q =>
          (show Option Bool from bcase q
                (some true)
                (some ((r14 : Int) != 0))).bind fun q2 =>
          (show Option Bool from bcase q2
                (some true)
                (some ((r13 : Int) != n2))).bind fun q3 =>
          (show Option Bool from bcase q3
                (some true)
                (some ((own3 : Int) != n2))).bind fun q4 =>
          (show Option Bool from bcase q4
                (some true)
                (some ((r16 : Int) != 0))).bind fun q5 =>
          (show Option Bool from bcase q5
                (some true)
                (some (decide ((r15 : Int) > n2)))).bind fun q6 =>
          (show Option Bool from bcase q6
                (some true)
                (some (!(((r15 : Int) == 0) == ((n2 : Int) == 0))))).bind fun q7 =>
          (show Option Bool from bcase q7
                (some true)
                (some ((r20 : Int) != 0))).bind fun q8 =>
          (show Option Bool from bcase q8
                (some true)
                (some ((r19.length : Int) != (r2.2.length : Int)))).bind fun q9 =>
          bcase q9
            (some false)
            ((impl_PushLevers r18 r19).bind fun (r22, r23, r24) =>
              (show Option Bool from bcase ((r24 : Int) == 0)
                    ((spec_SameRegister r22 r6).bind fun r25 =>
                      some r25)
                    (some false)).bind fun q10 =>
              (show Option Bool from bcase q10
                    ((idx r9 (IntKind.i64.wrap ((r9.length : Int) - 1))).bind fun _e4 =>
                      (idx r9 (IntKind.i64.wrap ((r9.length : Int) - 1))).bind fun x4 =>
                      some ((r23 : Int) == x4))
                    (some false)).bind fun q11 =>
              some q11)) (fun y => some y)))
end Go.Pv
