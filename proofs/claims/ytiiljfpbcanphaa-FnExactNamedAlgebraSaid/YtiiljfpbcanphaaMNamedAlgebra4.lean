/- Functions of the program, as pure functions. -/
import Derived.Test.YtiiljfpbcanphaaMNamedAlgebra3
import Derived.Test.YtiiljfpbcanphaaProg
/- impl.NamedAlgebra, as a pure function. -/
set_option linter.unusedVariables false
namespace Go.Proofs.Ytiiljfpbcanphaa.G
open Go Go.Sx Go.Proofs

def impl_NamedAlgebra.f (name1 : Str) (p1 : Int) : Option (Int × Int × (Nat → UInt8) × (Nat → UInt8) × Int) := (G.impl_isPrime.f p1).bind (fun r_1 => (bif (!r_1) then some (0, 0, (fun _ => (0 : UInt8)), (fun _ => (0 : UInt8)), 2) else (bif (name1 == ([102, 105, 101, 108, 100] : Str)) then (G.impl_built.f p1 1 (upd (fun _ => (0 : UInt8)) 0 (1 : UInt8)) G.impl_NamedAlgebra_1.f).bind (fun p => match p with | (r_2, r_3, r_4, r_5) => some (r_2, r_3, r_4, r_5, 0)) else (bif (name1 == ([100, 117, 97, 108] : Str)) then (G.impl_built.f p1 2 (upd (upd (fun _ => (0 : UInt8)) 0 (0 : UInt8)) 1 (1 : UInt8)) G.impl_NamedAlgebra_2.f).bind (fun p => match p with | (r_6, r_7, r_8, r_9) => some (r_6, r_7, r_8, r_9, 0)) else (bif (name1 == ([112, 97, 105, 114] : Str)) then (G.impl_built.f p1 2 (upd (upd (fun _ => (0 : UInt8)) 0 (1 : UInt8)) 1 (1 : UInt8)) G.impl_NamedAlgebra_3.f).bind (fun p => match p with | (r_10, r_11, r_12, r_13) => some (r_10, r_11, r_12, r_13, 0)) else (bif (name1 == ([99, 121, 99, 108, 105, 99, 51] : Str)) then (G.impl_built.f p1 3 (upd (fun _ => (0 : UInt8)) 0 (1 : UInt8)) G.impl_NamedAlgebra_4.f).bind (fun p => match p with | (r_14, r_15, r_16, r_17) => some (r_14, r_15, r_16, r_17, 0)) else (bif (name1 == ([115, 121, 109, 109, 101, 116, 114, 105, 99] : Str)) then (G.impl_built.f p1 6 (upd (fun _ => (0 : UInt8)) 0 (1 : UInt8)) G.impl_composed.f).bind (fun p => match p with | (r_18, r_19, r_20, r_21) => some (r_18, r_19, r_20, r_21, 0)) else (bif (name1 == ([109, 97, 116, 114, 105, 120] : Str)) then (G.impl_built.f p1 4 (upd (upd (upd (upd (fun _ => (0 : UInt8)) 0 (1 : UInt8)) 1 (0 : UInt8)) 2 (0 : UInt8)) 3 (1 : UInt8)) G.impl_NamedAlgebra_5.f).bind (fun p => match p with | (r_22, r_23, r_24, r_25) => some (r_22, r_23, r_24, r_25, 0)) else some (0, 0, (fun _ => (0 : UInt8)), (fun _ => (0 : UInt8)), 4)))))))))

def impl_NamedAlgebra.R (r : Int × Int × (Nat → UInt8) × (Nat → UInt8) × Int) (v : Value) (L : List Asn) : Prop := v = .tuple #[sval [.one (.int .i64 r.1), .one (.int .i64 r.2.1), .arr 216 (enf u8v r.2.2.1), .arr 6 (enf u8v r.2.2.2.1)], .int .i64 r.2.2.2.2] ∧ L = []

set_option maxRecDepth 100000 in
set_option maxHeartbeats 4000000 in
theorem impl_NamedAlgebra.calls (w : World) (name1 : Str) (p1 : Int) :
    ∀ r, impl_NamedAlgebra.f name1 p1 = some r → Calls Try.prog 31 #[strv name1, .int .i64 p1] w (Ret w (impl_NamedAlgebra.R r)) := by

  refine calls_T (n := 42) (Γ := [(0, strv name1), (1, .int .i64 p1)]) (R := impl_NamedAlgebra.R) Try.func31 rfl rfl (Nat.le_of_ble_eq_true rfl) ⟨rfl, rfl, trivial⟩ ?_
  unfold impl_NamedAlgebra.f
  refine TC.seq ?_
  refine TC.region ?_
  refine TL.alloc [.one (.int .i64 0), .one (.int .i64 0), .arr 216 (enf u8v (fun _ => (0 : UInt8))), .arr 6 (enf u8v (fun _ => (0 : UInt8)))] rfl rfl Try.zeroValue43 rfl fun b_1 => ?_
  refine TL.assign rfl rfl (v := .int .i64 0) rfl ?_
  refine TL.done ?_
  refine TC.seq ?_
  refine TC.seq ?_
  refine TC.region ?_
  refine TL.move rfl rfl (v := .int .i64 p1) rfl ?_
  refine TL.call (R := G.impl_isPrime.R) Try.call85 rfl rfl rfl (fun w hS => G.impl_isPrime.calls w p1) ?_
  rintro r_1 _ _ ⟨rfl, rfl⟩
  refine TL.not r_1 rfl rfl rfl ?_
  refine TL.done ?_
  refine TC.cond (b := (!r_1)) rfl (fun c1 => ?_) (fun c2 => ?_)
  · refine TC.seq ?_
    refine TC.region ?_
    refine TL.buildS (segs0 := [.one (.int .i64 0), .one (.int .i64 0), .arr 216 (enf u8v (fun _ => (0 : UInt8))), .arr 6 (enf u8v (fun _ => (0 : UInt8)))]) (segs := [.one (.int .i64 0), .one (.int .i64 0), .arr 216 (enf u8v (fun _ => (0 : UInt8))), .arr 6 (enf u8v (fun _ => (0 : UInt8)))]) [1, 1, 216, 6] Try.underlying43 ⟨Try.sizeOf2, Try.sizeOf2, Try.sizeOf40, Try.sizeOf41, trivial⟩ Try.zeroValue43 rfl [] rfl (fun pl hpl => by subst hpl; exact rfl) rfl rfl ?_
    refine TL.stM (news := [.one (.int .i64 0), .one (.int .i64 0), .arr 216 (enf u8v (fun _ => (0 : UInt8))), .arr 6 (enf u8v (fun _ => (0 : UInt8)))]) 0 0 4 rfl Try.sizeOf43 (ones_one rfl (ones_one rfl (ones_arr (fun _ => rfl) (ones_arr (fun _ => rfl) ones_nil)))) rfl rfl rfl rfl rfl rfl ?_
    refine TL.assign rfl rfl (v := .int .i64 2) rfl ?_
    refine TL.done ?_
    exact TC.retF (Fin.body (fin2 (.inr rfl) rfl (.cellN rfl (Src.box 0 rfl) Try.isAgg43 Try.sizeOf43 rfl) (.tmp rfl) [] rfl ⟨rfl, rfl⟩))
  · refine TC.skip ?_
    refine TC.seq ?_
    refine TC.seq ?_
    refine TC.region ?_
    refine TL.move rfl rfl (v := strv name1) rfl ?_
    refine TL.done ?_
    refine TC.block NoEx.body ?_
    refine TC.seq ?_
    refine TC.region ?_
    refine TL.strEq name1 ([102, 105, 101, 108, 100] : Str) rfl rfl rfl rfl ?_
    refine TL.assign rfl rfl (v := .bool (name1 == ([102, 105, 101, 108, 100] : Str))) rfl ?_
    refine TL.done ?_
    refine TC.cond (b := (name1 == ([102, 105, 101, 108, 100] : Str))) rfl (fun c3 => ?_) (fun c4 => ?_)
    · refine TC.seq ?_
      refine TC.region ?_
      refine TL.move rfl rfl (v := .int .i64 p1) rfl ?_
      refine TL.buildA (segs0 := [.arr 6 (enf u8v (fun _ => (0 : UInt8)))]) (segs := [.arr 6 (enf u8v (upd (fun _ => (0 : UInt8)) 0 (1 : UInt8)))]) Try.underlying41 Try.sizeOf5 Try.zeroValue41 rfl [(0, u8v (1 : UInt8))] rfl (fill_arr (e := u8v) (z := (1 : UInt8)) (q := 0) (s := 0) 0 rfl rfl rfl rfl rfl rfl (rfl)) rfl rfl ?_
      refine TL.call (R := G.impl_built.R) Try.call86 rfl rfl rfl (fun w hS => G.impl_built.calls w p1 1 (upd (fun _ => (0 : UInt8)) 0 (1 : UInt8)) 93 [] [] G.impl_NamedAlgebra_1.f Try.call93 (fun w_ hle_ x0_ x1_ r_ hr_ => G.impl_NamedAlgebra_1.calls w_ x0_ x1_ r_ hr_)) ?_
      rintro ⟨r_2, r_3, r_4, r_5⟩ _ _ ⟨rfl, rfl⟩
      refine TL.stM (news := [.one (.int .i64 r_2), .one (.int .i64 r_3), .arr 216 (enf u8v r_4), .arr 6 (enf u8v r_5)]) 0 0 4 rfl Try.sizeOf43 (ones_one rfl (ones_one rfl (ones_arr (fun _ => rfl) (ones_arr (fun _ => rfl) ones_nil)))) rfl rfl rfl rfl rfl rfl ?_
      refine TL.assign rfl rfl (v := .int .i64 0) rfl ?_
      refine TL.done ?_
      exact TC.retF (Fin.body (fin2 (.inr rfl) rfl (.cellN rfl (Src.box 0 rfl) Try.isAgg43 Try.sizeOf43 rfl) (.tmp rfl) [] rfl ⟨rfl, rfl⟩))
    · refine TC.seq ?_
      refine TC.region ?_
      refine TL.strEq name1 ([100, 117, 97, 108] : Str) rfl rfl rfl rfl ?_
      refine TL.assign rfl rfl (v := .bool (name1 == ([100, 117, 97, 108] : Str))) rfl ?_
      refine TL.done ?_
      refine TC.cond (b := (name1 == ([100, 117, 97, 108] : Str))) rfl (fun c5 => ?_) (fun c6 => ?_)
      · refine TC.seq ?_
        refine TC.region ?_
        refine TL.move rfl rfl (v := .int .i64 p1) rfl ?_
        refine TL.buildA (segs0 := [.arr 6 (enf u8v (fun _ => (0 : UInt8)))]) (segs := [.arr 6 (enf u8v (upd (upd (fun _ => (0 : UInt8)) 0 (0 : UInt8)) 1 (1 : UInt8)))]) Try.underlying41 Try.sizeOf5 Try.zeroValue41 rfl [(0, u8v (0 : UInt8)), (1, u8v (1 : UInt8))] rfl (fill_arr (e := u8v) (z := (0 : UInt8)) (q := 0) (s := 0) 0 rfl rfl rfl rfl rfl rfl (fill_arr (e := u8v) (z := (1 : UInt8)) (q := 1) (s := 0) 0 rfl rfl rfl rfl rfl rfl (rfl))) rfl rfl ?_
        refine TL.call (R := G.impl_built.R) Try.call86 rfl rfl rfl (fun w hS => G.impl_built.calls w p1 2 (upd (upd (fun _ => (0 : UInt8)) 0 (0 : UInt8)) 1 (1 : UInt8)) 94 [] [] G.impl_NamedAlgebra_2.f Try.call94 (fun w_ hle_ x0_ x1_ r_ hr_ => G.impl_NamedAlgebra_2.calls w_ x0_ x1_ r_ hr_)) ?_
        rintro ⟨r_6, r_7, r_8, r_9⟩ _ _ ⟨rfl, rfl⟩
        refine TL.stM (news := [.one (.int .i64 r_6), .one (.int .i64 r_7), .arr 216 (enf u8v r_8), .arr 6 (enf u8v r_9)]) 0 0 4 rfl Try.sizeOf43 (ones_one rfl (ones_one rfl (ones_arr (fun _ => rfl) (ones_arr (fun _ => rfl) ones_nil)))) rfl rfl rfl rfl rfl rfl ?_
        refine TL.assign rfl rfl (v := .int .i64 0) rfl ?_
        refine TL.done ?_
        exact TC.retF (Fin.body (fin2 (.inr rfl) rfl (.cellN rfl (Src.box 0 rfl) Try.isAgg43 Try.sizeOf43 rfl) (.tmp rfl) [] rfl ⟨rfl, rfl⟩))
      · refine TC.seq ?_
        refine TC.region ?_
        refine TL.strEq name1 ([112, 97, 105, 114] : Str) rfl rfl rfl rfl ?_
        refine TL.assign rfl rfl (v := .bool (name1 == ([112, 97, 105, 114] : Str))) rfl ?_
        refine TL.done ?_
        refine TC.cond (b := (name1 == ([112, 97, 105, 114] : Str))) rfl (fun c7 => ?_) (fun c8 => ?_)
        · refine TC.seq ?_
          refine TC.region ?_
          refine TL.move rfl rfl (v := .int .i64 p1) rfl ?_
          refine TL.buildA (segs0 := [.arr 6 (enf u8v (fun _ => (0 : UInt8)))]) (segs := [.arr 6 (enf u8v (upd (upd (fun _ => (0 : UInt8)) 0 (1 : UInt8)) 1 (1 : UInt8)))]) Try.underlying41 Try.sizeOf5 Try.zeroValue41 rfl [(0, u8v (1 : UInt8)), (1, u8v (1 : UInt8))] rfl (fill_arr (e := u8v) (z := (1 : UInt8)) (q := 0) (s := 0) 0 rfl rfl rfl rfl rfl rfl (fill_arr (e := u8v) (z := (1 : UInt8)) (q := 1) (s := 0) 0 rfl rfl rfl rfl rfl rfl (rfl))) rfl rfl ?_
          refine TL.call (R := G.impl_built.R) Try.call86 rfl rfl rfl (fun w hS => G.impl_built.calls w p1 2 (upd (upd (fun _ => (0 : UInt8)) 0 (1 : UInt8)) 1 (1 : UInt8)) 95 [] [] G.impl_NamedAlgebra_3.f Try.call95 (fun w_ hle_ x0_ x1_ r_ hr_ => G.impl_NamedAlgebra_3.calls w_ x0_ x1_ r_ hr_)) ?_
          rintro ⟨r_10, r_11, r_12, r_13⟩ _ _ ⟨rfl, rfl⟩
          refine TL.stM (news := [.one (.int .i64 r_10), .one (.int .i64 r_11), .arr 216 (enf u8v r_12), .arr 6 (enf u8v r_13)]) 0 0 4 rfl Try.sizeOf43 (ones_one rfl (ones_one rfl (ones_arr (fun _ => rfl) (ones_arr (fun _ => rfl) ones_nil)))) rfl rfl rfl rfl rfl rfl ?_
          refine TL.assign rfl rfl (v := .int .i64 0) rfl ?_
          refine TL.done ?_
          exact TC.retF (Fin.body (fin2 (.inr rfl) rfl (.cellN rfl (Src.box 0 rfl) Try.isAgg43 Try.sizeOf43 rfl) (.tmp rfl) [] rfl ⟨rfl, rfl⟩))
        · refine TC.seq ?_
          refine TC.region ?_
          refine TL.strEq name1 ([99, 121, 99, 108, 105, 99, 51] : Str) rfl rfl rfl rfl ?_
          refine TL.assign rfl rfl (v := .bool (name1 == ([99, 121, 99, 108, 105, 99, 51] : Str))) rfl ?_
          refine TL.done ?_
          refine TC.cond (b := (name1 == ([99, 121, 99, 108, 105, 99, 51] : Str))) rfl (fun c9 => ?_) (fun c10 => ?_)
          · refine TC.seq ?_
            refine TC.region ?_
            refine TL.move rfl rfl (v := .int .i64 p1) rfl ?_
            refine TL.buildA (segs0 := [.arr 6 (enf u8v (fun _ => (0 : UInt8)))]) (segs := [.arr 6 (enf u8v (upd (fun _ => (0 : UInt8)) 0 (1 : UInt8)))]) Try.underlying41 Try.sizeOf5 Try.zeroValue41 rfl [(0, u8v (1 : UInt8))] rfl (fill_arr (e := u8v) (z := (1 : UInt8)) (q := 0) (s := 0) 0 rfl rfl rfl rfl rfl rfl (rfl)) rfl rfl ?_
            refine TL.call (R := G.impl_built.R) Try.call86 rfl rfl rfl (fun w hS => G.impl_built.calls w p1 3 (upd (fun _ => (0 : UInt8)) 0 (1 : UInt8)) 96 [] [] G.impl_NamedAlgebra_4.f Try.call96 (fun w_ hle_ x0_ x1_ r_ hr_ => G.impl_NamedAlgebra_4.calls w_ x0_ x1_ r_ hr_)) ?_
            rintro ⟨r_14, r_15, r_16, r_17⟩ _ _ ⟨rfl, rfl⟩
            refine TL.stM (news := [.one (.int .i64 r_14), .one (.int .i64 r_15), .arr 216 (enf u8v r_16), .arr 6 (enf u8v r_17)]) 0 0 4 rfl Try.sizeOf43 (ones_one rfl (ones_one rfl (ones_arr (fun _ => rfl) (ones_arr (fun _ => rfl) ones_nil)))) rfl rfl rfl rfl rfl rfl ?_
            refine TL.assign rfl rfl (v := .int .i64 0) rfl ?_
            refine TL.done ?_
            exact TC.retF (Fin.body (fin2 (.inr rfl) rfl (.cellN rfl (Src.box 0 rfl) Try.isAgg43 Try.sizeOf43 rfl) (.tmp rfl) [] rfl ⟨rfl, rfl⟩))
          · refine TC.seq ?_
            refine TC.region ?_
            refine TL.strEq name1 ([115, 121, 109, 109, 101, 116, 114, 105, 99] : Str) rfl rfl rfl rfl ?_
            refine TL.assign rfl rfl (v := .bool (name1 == ([115, 121, 109, 109, 101, 116, 114, 105, 99] : Str))) rfl ?_
            refine TL.done ?_
            refine TC.cond (b := (name1 == ([115, 121, 109, 109, 101, 116, 114, 105, 99] : Str))) rfl (fun c11 => ?_) (fun c12 => ?_)
            · refine TC.seq ?_
              refine TC.region ?_
              refine TL.move rfl rfl (v := .int .i64 p1) rfl ?_
              refine TL.buildA (segs0 := [.arr 6 (enf u8v (fun _ => (0 : UInt8)))]) (segs := [.arr 6 (enf u8v (upd (fun _ => (0 : UInt8)) 0 (1 : UInt8)))]) Try.underlying41 Try.sizeOf5 Try.zeroValue41 rfl [(0, u8v (1 : UInt8))] rfl (fill_arr (e := u8v) (z := (1 : UInt8)) (q := 0) (s := 0) 0 rfl rfl rfl rfl rfl rfl (rfl)) rfl rfl ?_
              refine TL.call (R := G.impl_built.R) Try.call86 rfl rfl rfl (fun w hS => G.impl_built.calls w p1 6 (upd (fun _ => (0 : UInt8)) 0 (1 : UInt8)) 97 [] [] G.impl_composed.f Try.call97 (fun w_ hle_ x0_ x1_ r_ hr_ => G.impl_composed.calls w_ x0_ x1_ r_ hr_)) ?_
              rintro ⟨r_18, r_19, r_20, r_21⟩ _ _ ⟨rfl, rfl⟩
              refine TL.stM (news := [.one (.int .i64 r_18), .one (.int .i64 r_19), .arr 216 (enf u8v r_20), .arr 6 (enf u8v r_21)]) 0 0 4 rfl Try.sizeOf43 (ones_one rfl (ones_one rfl (ones_arr (fun _ => rfl) (ones_arr (fun _ => rfl) ones_nil)))) rfl rfl rfl rfl rfl rfl ?_
              refine TL.assign rfl rfl (v := .int .i64 0) rfl ?_
              refine TL.done ?_
              exact TC.retF (Fin.body (fin2 (.inr rfl) rfl (.cellN rfl (Src.box 0 rfl) Try.isAgg43 Try.sizeOf43 rfl) (.tmp rfl) [] rfl ⟨rfl, rfl⟩))
            · refine TC.seq ?_
              refine TC.region ?_
              refine TL.strEq name1 ([109, 97, 116, 114, 105, 120] : Str) rfl rfl rfl rfl ?_
              refine TL.assign rfl rfl (v := .bool (name1 == ([109, 97, 116, 114, 105, 120] : Str))) rfl ?_
              refine TL.done ?_
              refine TC.cond (b := (name1 == ([109, 97, 116, 114, 105, 120] : Str))) rfl (fun c13 => ?_) (fun c14 => ?_)
              · refine TC.seq ?_
                refine TC.region ?_
                refine TL.move rfl rfl (v := .int .i64 p1) rfl ?_
                refine TL.buildA (segs0 := [.arr 6 (enf u8v (fun _ => (0 : UInt8)))]) (segs := [.arr 6 (enf u8v (upd (upd (upd (upd (fun _ => (0 : UInt8)) 0 (1 : UInt8)) 1 (0 : UInt8)) 2 (0 : UInt8)) 3 (1 : UInt8)))]) Try.underlying41 Try.sizeOf5 Try.zeroValue41 rfl [(0, u8v (1 : UInt8)), (1, u8v (0 : UInt8)), (2, u8v (0 : UInt8)), (3, u8v (1 : UInt8))] rfl (fill_arr (e := u8v) (z := (1 : UInt8)) (q := 0) (s := 0) 0 rfl rfl rfl rfl rfl rfl (fill_arr (e := u8v) (z := (0 : UInt8)) (q := 1) (s := 0) 0 rfl rfl rfl rfl rfl rfl (fill_arr (e := u8v) (z := (0 : UInt8)) (q := 2) (s := 0) 0 rfl rfl rfl rfl rfl rfl (fill_arr (e := u8v) (z := (1 : UInt8)) (q := 3) (s := 0) 0 rfl rfl rfl rfl rfl rfl (rfl))))) rfl rfl ?_
                refine TL.call (R := G.impl_built.R) Try.call86 rfl rfl rfl (fun w hS => G.impl_built.calls w p1 4 (upd (upd (upd (upd (fun _ => (0 : UInt8)) 0 (1 : UInt8)) 1 (0 : UInt8)) 2 (0 : UInt8)) 3 (1 : UInt8)) 98 [] [] G.impl_NamedAlgebra_5.f Try.call98 (fun w_ hle_ x0_ x1_ r_ hr_ => G.impl_NamedAlgebra_5.calls w_ x0_ x1_ r_ hr_)) ?_
                rintro ⟨r_22, r_23, r_24, r_25⟩ _ _ ⟨rfl, rfl⟩
                refine TL.stM (news := [.one (.int .i64 r_22), .one (.int .i64 r_23), .arr 216 (enf u8v r_24), .arr 6 (enf u8v r_25)]) 0 0 4 rfl Try.sizeOf43 (ones_one rfl (ones_one rfl (ones_arr (fun _ => rfl) (ones_arr (fun _ => rfl) ones_nil)))) rfl rfl rfl rfl rfl rfl ?_
                refine TL.assign rfl rfl (v := .int .i64 0) rfl ?_
                refine TL.done ?_
                exact TC.retF (Fin.body (fin2 (.inr rfl) rfl (.cellN rfl (Src.box 0 rfl) Try.isAgg43 Try.sizeOf43 rfl) (.tmp rfl) [] rfl ⟨rfl, rfl⟩))
              · refine TC.skip ?_
                refine TC.seq ?_
                refine TC.region ?_
                refine TL.buildS (segs0 := [.one (.int .i64 0), .one (.int .i64 0), .arr 216 (enf u8v (fun _ => (0 : UInt8))), .arr 6 (enf u8v (fun _ => (0 : UInt8)))]) (segs := [.one (.int .i64 0), .one (.int .i64 0), .arr 216 (enf u8v (fun _ => (0 : UInt8))), .arr 6 (enf u8v (fun _ => (0 : UInt8)))]) [1, 1, 216, 6] Try.underlying43 ⟨Try.sizeOf2, Try.sizeOf2, Try.sizeOf40, Try.sizeOf41, trivial⟩ Try.zeroValue43 rfl [] rfl (fun pl hpl => by subst hpl; exact rfl) rfl rfl ?_
                refine TL.stM (news := [.one (.int .i64 0), .one (.int .i64 0), .arr 216 (enf u8v (fun _ => (0 : UInt8))), .arr 6 (enf u8v (fun _ => (0 : UInt8)))]) 0 0 4 rfl Try.sizeOf43 (ones_one rfl (ones_one rfl (ones_arr (fun _ => rfl) (ones_arr (fun _ => rfl) ones_nil)))) rfl rfl rfl rfl rfl rfl ?_
                refine TL.assign rfl rfl (v := .int .i64 4) rfl ?_
                refine TL.done ?_
                exact TC.retF (Fin.body (fin2 (.inr rfl) rfl (.cellN rfl (Src.box 0 rfl) Try.isAgg43 Try.sizeOf43 rfl) (.tmp rfl) [] rfl ⟨rfl, rfl⟩))

end Go.Proofs.Ytiiljfpbcanphaa.G

/- laws.FnExactNamedAlgebra, as a pure function. -/
set_option linter.unusedVariables false
namespace Go.Proofs.Ytiiljfpbcanphaa.G
open Go Go.Sx Go.Proofs

def laws_FnExactNamedAlgebra.f (aName1 : Str) (aP1 : Int) : Option Bool := (bif (decide ((aName1.length : Int) > 1048576)) then some true else (G.spec_NamedAlgebra.f aName1 aP1).bind (fun p => match p with | (r_1, r_2, r_3, r_4, r_5) => (G.impl_NamedAlgebra.f aName1 aP1).bind (fun p => match p with | (r_6, r_7, r_8, r_9, r_10) => (G.laws_eqAlgebra.f r_6 r_7 r_8 r_9 r_1 r_2 r_3 r_4).bind (fun r_11 => (bif ((!r_11) || (r_10 != r_5)) then some false else some true)))))

def laws_FnExactNamedAlgebra.R (r : Bool) (v : Value) (L : List Asn) : Prop := v = .bool r ∧ L = []

set_option maxRecDepth 100000 in
set_option maxHeartbeats 4000000 in
theorem laws_FnExactNamedAlgebra.calls (w : World) (aName1 : Str) (aP1 : Int) :
    ∀ r, laws_FnExactNamedAlgebra.f aName1 aP1 = some r → Calls Try.prog 8 #[strv aName1, .int .i64 aP1] w (Ret w (laws_FnExactNamedAlgebra.R r)) := by

  refine calls_T (n := 33) (Γ := [(0, strv aName1), (1, .int .i64 aP1)]) (R := laws_FnExactNamedAlgebra.R) Try.func8 rfl rfl (Nat.le_of_ble_eq_true rfl) ⟨rfl, rfl, trivial⟩ ?_
  unfold laws_FnExactNamedAlgebra.f
  refine TC.seq ?_
  refine TC.region ?_
  refine TL.assign rfl rfl (v := .bool false) rfl ?_
  refine TL.done ?_
  refine TC.seq ?_
  refine TC.seq ?_
  refine TC.region ?_
  refine TL.move rfl rfl (v := strv aName1) rfl ?_
  refine TL.lenstr Try.underlying9 rfl rfl rfl ?_
  refine TL.bin .i64 (aName1.length : Int) 1048576 rfl rfl rfl rfl (v := .bool (decide ((aName1.length : Int) > 1048576))) rfl ?_
  refine TL.done ?_
  refine TC.cond (b := (decide ((aName1.length : Int) > 1048576))) rfl (fun c1 => ?_) (fun c2 => ?_)
  · refine TC.seq ?_
    refine TC.region ?_
    refine TL.assign rfl rfl (v := .bool true) rfl ?_
    refine TL.done ?_
    exact TC.retF (Fin.body (fin1 (.inr rfl) rfl (.tmp rfl) [] rfl ⟨rfl, rfl⟩))
  · refine TC.skip ?_
    refine TC.seq ?_
    refine TC.region ?_
    refine TL.move rfl rfl (v := strv aName1) rfl ?_
    refine TL.move rfl rfl (v := .int .i64 aP1) rfl ?_
    refine TL.call (R := G.spec_NamedAlgebra.R) Try.call30 rfl rfl rfl (fun w hS => G.spec_NamedAlgebra.calls w aName1 aP1) ?_
    rintro ⟨r_1, r_2, r_3, r_4, r_5⟩ _ _ ⟨rfl, rfl⟩
    refine TL.move rfl rfl (v := .tuple #[sval [.one (.int .i64 r_1), .one (.int .i64 r_2), .arr 216 (enf u8v r_3), .arr 6 (enf u8v r_4)], .int .i64 r_5]) rfl ?_
    refine TL.extract rfl rfl rfl (v := sval [.one (.int .i64 r_1), .one (.int .i64 r_2), .arr 216 (enf u8v r_3), .arr 6 (enf u8v r_4)]) rfl ?_
    refine TL.extract rfl rfl rfl (v := .int .i64 r_5) rfl ?_
    refine TL.alloc [.one (.int .i64 0), .one (.int .i64 0), .arr 216 (enf u8v (fun _ => (0 : UInt8))), .arr 6 (enf u8v (fun _ => (0 : UInt8)))] rfl rfl Try.zeroValue43 rfl fun b_1 => ?_
    refine TL.stM (news := [.one (.int .i64 r_1), .one (.int .i64 r_2), .arr 216 (enf u8v r_3), .arr 6 (enf u8v r_4)]) 0 0 4 rfl Try.sizeOf43 (ones_one rfl (ones_one rfl (ones_arr (fun _ => rfl) (ones_arr (fun _ => rfl) ones_nil)))) rfl rfl rfl rfl rfl rfl ?_
    refine TL.assign rfl rfl (v := .int .i64 r_5) rfl ?_
    refine TL.done ?_
    refine TC.seq ?_
    refine TC.region ?_
    refine TL.move rfl rfl (v := strv aName1) rfl ?_
    refine TL.move rfl rfl (v := .int .i64 aP1) rfl ?_
    refine TL.call (R := G.impl_NamedAlgebra.R) Try.call31 rfl rfl rfl (fun w hS => G.impl_NamedAlgebra.calls w aName1 aP1) ?_
    rintro ⟨r_6, r_7, r_8, r_9, r_10⟩ _ _ ⟨rfl, rfl⟩
    refine TL.move rfl rfl (v := .tuple #[sval [.one (.int .i64 r_6), .one (.int .i64 r_7), .arr 216 (enf u8v r_8), .arr 6 (enf u8v r_9)], .int .i64 r_10]) rfl ?_
    refine TL.extract rfl rfl rfl (v := sval [.one (.int .i64 r_6), .one (.int .i64 r_7), .arr 216 (enf u8v r_8), .arr 6 (enf u8v r_9)]) rfl ?_
    refine TL.extract rfl rfl rfl (v := .int .i64 r_10) rfl ?_
    refine TL.alloc [.one (.int .i64 0), .one (.int .i64 0), .arr 216 (enf u8v (fun _ => (0 : UInt8))), .arr 6 (enf u8v (fun _ => (0 : UInt8)))] rfl rfl Try.zeroValue43 rfl fun b_2 => ?_
    refine TL.stM (news := [.one (.int .i64 r_6), .one (.int .i64 r_7), .arr 216 (enf u8v r_8), .arr 6 (enf u8v r_9)]) 0 0 4 rfl Try.sizeOf43 (ones_one rfl (ones_one rfl (ones_arr (fun _ => rfl) (ones_arr (fun _ => rfl) ones_nil)))) rfl rfl rfl rfl rfl rfl ?_
    refine TL.assign rfl rfl (v := .int .i64 r_10) rfl ?_
    refine TL.done ?_
    refine TC.seq ?_
    refine TC.seq ?_
    refine TC.region ?_
    refine TL.loadM 0 4 (Src.box 0 rfl) Try.isAgg43 Try.sizeOf43 (mid := [.one (.int .i64 r_6), .one (.int .i64 r_7), .arr 216 (enf u8v r_8), .arr 6 (enf u8v r_9)]) rfl rfl rfl rfl rfl rfl ?_
    refine TL.loadM 0 4 (Src.box 1 rfl) Try.isAgg43 Try.sizeOf43 (mid := [.one (.int .i64 r_1), .one (.int .i64 r_2), .arr 216 (enf u8v r_3), .arr 6 (enf u8v r_4)]) rfl rfl rfl rfl rfl rfl ?_
    refine TL.call (R := G.laws_eqAlgebra.R) Try.call29 rfl rfl rfl (fun w hS => G.laws_eqAlgebra.calls w r_6 r_7 r_8 r_9 r_1 r_2 r_3 r_4) ?_
    rintro r_11 _ _ ⟨rfl, rfl⟩
    refine TL.not r_11 rfl rfl rfl ?_
    refine TL.move rfl rfl (v := .bool (!r_11)) rfl ?_
    refine TL.cutU 4 [(32, .bool ((!r_11) || (r_10 != r_5))), (0, strv aName1), (1, .int .i64 aP1), (4, .bool false), (9, strv aName1), (10, .int .i64 (aName1.length : Int)), (11, .bool (decide ((aName1.length : Int) > 1048576))), (13, strv aName1), (14, .int .i64 aP1), (15, .tuple #[sval [.one (.int .i64 r_1), .one (.int .i64 r_2), .arr 216 (enf u8v r_3), .arr 6 (enf u8v r_4)], .int .i64 r_5]), (12, .tuple #[sval [.one (.int .i64 r_1), .one (.int .i64 r_2), .arr 216 (enf u8v r_3), .arr 6 (enf u8v r_4)], .int .i64 r_5]), (16, sval [.one (.int .i64 r_1), .one (.int .i64 r_2), .arr 216 (enf u8v r_3), .arr 6 (enf u8v r_4)]), (17, .int .i64 r_5), (5, bp b_1 0), (6, .int .i64 r_5), (19, strv aName1), (20, .int .i64 aP1), (21, .tuple #[sval [.one (.int .i64 r_6), .one (.int .i64 r_7), .arr 216 (enf u8v r_8), .arr 6 (enf u8v r_9)], .int .i64 r_10]), (18, .tuple #[sval [.one (.int .i64 r_6), .one (.int .i64 r_7), .arr 216 (enf u8v r_8), .arr 6 (enf u8v r_9)], .int .i64 r_10]), (22, sval [.one (.int .i64 r_6), .one (.int .i64 r_7), .arr 216 (enf u8v r_8), .arr 6 (enf u8v r_9)]), (23, .int .i64 r_10), (7, bp b_2 0), (8, .int .i64 r_10), (24, sval [.one (.int .i64 r_6), .one (.int .i64 r_7), .arr 216 (enf u8v r_8), .arr 6 (enf u8v r_9)]), (25, sval [.one (.int .i64 r_1), .one (.int .i64 r_2), .arr 216 (enf u8v r_3), .arr 6 (enf u8v r_4)]), (26, .bool r_11), (27, .bool (!r_11)), (28, .bool (!r_11))] [box b_2 43 [.one (.int .i64 r_6), .one (.int .i64 r_7), .arr 216 (enf u8v r_8), .arr 6 (enf u8v r_9)], box b_1 43 [.one (.int .i64 r_1), .one (.int .i64 r_2), .arr 216 (enf u8v r_3), .arr 6 (enf u8v r_4)]] ?_ ?_
    · refine TL.cases (t := 28) (b := (!r_11)) rfl (fun c3 => ?_) (fun c4 => ?_)
      · refine TL.skip rfl rfl (by decide) ?_
        refine TL.skip rfl rfl (by decide) ?_
        refine TL.skip rfl rfl (by decide) ?_
        refine TL.pick rfl rfl (b := true) rfl (r := .bool true) rfl ?_
        refine TL.done ?_
        exact TC.nrm () () ⟨(by rw [c3]; rfl), rfl, rfl, rfl, rfl, rfl, rfl, rfl, rfl, rfl, rfl, rfl, rfl, rfl, rfl, rfl, rfl, rfl, rfl, rfl, rfl, rfl, rfl, rfl, rfl, rfl, rfl, (by rw [c3]; rfl), trivial⟩ [0, 0] (by kernel_rfl)
      · refine TL.move rfl rfl (v := .int .i64 r_10) rfl ?_
        refine TL.move rfl rfl (v := .int .i64 r_5) rfl ?_
        refine TL.bin .i64 r_10 r_5 rfl rfl rfl rfl (v := .bool (r_10 != r_5)) rfl ?_
        refine TL.pick rfl rfl (b := false) rfl (r := .bool (r_10 != r_5)) rfl ?_
        refine TL.done ?_
        exact TC.nrm () () ⟨(by rw [c4]; rfl), rfl, rfl, rfl, rfl, rfl, rfl, rfl, rfl, rfl, rfl, rfl, rfl, rfl, rfl, rfl, rfl, rfl, rfl, rfl, rfl, rfl, rfl, rfl, rfl, rfl, rfl, (by rw [c4]; rfl), trivial⟩ [0, 0] (by kernel_rfl)
    · refine TL.done ?_
      refine TC.cond (b := ((!r_11) || (r_10 != r_5))) rfl (fun c5 => ?_) (fun c6 => ?_)
      · refine TC.seq ?_
        refine TC.region ?_
        refine TL.assign rfl rfl (v := .bool false) rfl ?_
        refine TL.done ?_
        exact TC.retF (Fin.body (fin1 (.inr rfl) rfl (.tmp rfl) [] rfl ⟨rfl, rfl⟩))
      · refine TC.skip ?_
        refine TC.seq ?_
        refine TC.region ?_
        refine TL.assign rfl rfl (v := .bool true) rfl ?_
        refine TL.done ?_
        exact TC.retF (Fin.body (fin1 (.inr rfl) rfl (.tmp rfl) [] rfl ⟨rfl, rfl⟩))

end Go.Proofs.Ytiiljfpbcanphaa.G
