/- Functions of the program, as pure functions. -/
import Derived.Test.YtjjfoofjipafiaaDoorMWordOfPart1
import Derived.Test.YtjjfoofjipafiaaDoorProg
/- strings.Count, told by hand. -/
namespace Go.Proofs.YtjjfoofjipafiaaDoor.G
end Go.Proofs.YtjjfoofjipafiaaDoor.G

/- impl.letters, as a pure function. -/
set_option linter.unusedVariables false
namespace Go.Proofs.YtjjfoofjipafiaaDoor.G
open Go Go.Sx Go.Proofs

def impl_letters.f (word1 : Str) : Option Int := (G.strings_Count.f word1 ([47] : Str)).bind (fun r_1 => some (w64 ((word1.length : Int) - r_1)))

def impl_letters.R (r : Int) (v : Value) (L : List Asn) : Prop := v = .int .i64 r ∧ L = []

set_option maxRecDepth 100000 in
set_option maxHeartbeats 4000000 in
theorem impl_letters.calls (w : World) (word1 : Str) :
    ∀ r, impl_letters.f word1 = some r → Calls Tryd.prog 23 #[strv word1] w (Ret w (impl_letters.R r)) := by

  refine calls_T (n := 8) (Γ := [(0, strv word1)]) (R := impl_letters.R) Tryd.func23 rfl rfl (Nat.le_of_ble_eq_true rfl) ⟨rfl, trivial⟩ ?_
  unfold impl_letters.f
  refine TC.seq ?_
  refine TC.region ?_
  refine TL.assign rfl rfl (v := .int .i64 0) rfl ?_
  refine TL.done ?_
  refine TC.seq ?_
  refine TC.region ?_
  refine TL.move rfl rfl (v := strv word1) rfl ?_
  refine TL.lenstr Tryd.underlying9 rfl rfl rfl ?_
  refine TL.move rfl rfl (v := strv word1) rfl ?_
  refine TL.call (R := G.strings_Count.R) Tryd.call31 rfl rfl rfl (fun w hS => G.strings_Count.calls w word1 ([47] : Str)) ?_
  rintro r_1 _ _ ⟨rfl, rfl⟩
  refine TL.bin .i64 (word1.length : Int) r_1 rfl rfl rfl rfl (v := .int .i64 (w64 ((word1.length : Int) - r_1))) rfl ?_
  refine TL.assign rfl rfl (v := .int .i64 (w64 ((word1.length : Int) - r_1))) rfl ?_
  refine TL.done ?_
  exact TC.retF (Fin.body (fin1 (.inr rfl) rfl (.tmp rfl) [] rfl ⟨rfl, rfl⟩))

end Go.Proofs.YtjjfoofjipafiaaDoor.G

/- impl.small, as a pure function. -/
set_option linter.unusedVariables false
namespace Go.Proofs.YtjjfoofjipafiaaDoor.G
open Go Go.Sx Go.Proofs

def impl_small.b0 (r_1 : List Str) : Int → Option (LR Int Bool) := fun x1 => (bif (decide (x1 < (r_1.length : Int))) then chk x1 r_1.length ((G.impl_legsOfLayer.f (gt r_1 x1)).bind (fun p => match p with | (r_2, r_3, r_4) => (bif ((decide (r_2 > 6)) || (decide (r_3 > 6))) then some (.ret (false)) else some (.next (w64 (x1 + 1)))))) else some (.brk x1))

def impl_small.f (word1 : Str) : Option Bool := (G.impl_layers.f word1).bind (fun r_1 => (loop (impl_small.b0 r_1) 0).bind (ln (fun x1 => (G.impl_letters.f word1).bind (fun r_5 => some (decide (r_5 ≤ 300))))))

def impl_small.R (r : Bool) (v : Value) (L : List Asn) : Prop := v = .bool r ∧ L = []

set_option maxRecDepth 100000 in
set_option maxHeartbeats 4000000 in
theorem impl_small.calls (w : World) (word1 : Str) :
    ∀ r, impl_small.f word1 = some r → Calls Tryd.prog 14 #[strv word1] w (Ret w (impl_small.R r)) := by

  refine calls_T (n := 31) (Γ := [(0, strv word1)]) (R := impl_small.R) Tryd.func14 rfl rfl (Nat.le_of_ble_eq_true rfl) ⟨rfl, trivial⟩ ?_
  unfold impl_small.f
  refine TC.seq ?_
  refine TC.region ?_
  refine TL.assign rfl rfl (v := .bool false) rfl ?_
  refine TL.done ?_
  refine TC.seq ?_
  refine TC.seq ?_
  refine TC.region ?_
  refine TL.move rfl rfl (v := strv word1) rfl ?_
  refine TL.call (R := G.impl_layers.R) Tryd.call21 rfl rfl rfl (fun w hS => G.impl_layers.calls w word1) ?_
  rintro r_1 _ _ ⟨s1, rfl, rfl⟩
  refine TL.len (Rd.row 0 rfl) Tryd.underlying25 rfl rfl rfl ?_
  refine TL.move rfl rfl (v := .int .i64 0) rfl ?_
  refine TL.done ?_
  refine TC.loopK (σ := Int) (γ := Unit) (Γ' := (fun x1 _ => [(0, strv word1), (9, SV.v s1), (10, .int .i64 (r_1.length : Int)), (11, .int .i64 x1)])) (L' := (fun x1 _ => [row Es 9 s1 r_1])) (Γb := (fun x1 _ => [(0, strv word1), (9, SV.v s1), (10, .int .i64 (r_1.length : Int)), (11, .int .i64 x1)])) (Lb := (fun x1 _ => [row Es 9 s1 r_1])) (0) (()) ⟨rfl, rfl, rfl, rfl, trivial⟩ [0] rfl ?_ ?_
  · rintro x1 _
    refine TC.seq ?_
    refine TC.region ?_
    refine TL.bin .i64 x1 (r_1.length : Int) rfl rfl rfl rfl (v := .bool (decide (x1 < (r_1.length : Int)))) rfl ?_
    refine TL.done ?_
    refine TC.seq ?_
    refine TC.cond (b := (decide (x1 < (r_1.length : Int)))) rfl (fun c1 => ?_) (fun c2 => ?_)
    · refine TC.skip ?_
      refine TC.seq ?_
      refine TC.block (NoEx.loop rfl NoEx.body) ?_
      refine TC.seq ?_
      refine TC.region ?_
      refine TL.chk fun h1 => ?_
      refine TL.ixs x1 x1.toNat (Rd.row 0 rfl) h1 Tryd.underlying25 Tryd.sizeOf9 rfl rfl rfl rfl (by omega) ?_
      refine TL.loadE (Rd.row 0 rfl) Tryd.isAgg9 x1.toNat 0 (gt_spec h1) (v := strv (gt r_1 x1)) rfl (by simp only [show Es.sz = 1 from rfl] <;> omega) rfl rfl rfl ?_
      refine TL.assign rfl rfl (v := strv (gt r_1 x1)) rfl ?_
      refine TL.done ?_
      refine TC.seq ?_
      refine TC.region ?_
      refine TL.move rfl rfl (v := strv (gt r_1 x1)) rfl ?_
      refine TL.call (R := G.impl_legsOfLayer.R) Tryd.call22 rfl rfl rfl (fun w hS => G.impl_legsOfLayer.calls w (gt r_1 x1)) ?_
      rintro ⟨r_2, r_3, r_4⟩ _ _ ⟨rfl, rfl⟩
      refine TL.move rfl rfl (v := .tuple #[.int .i64 r_2, .int .i64 r_3, .bool r_4]) rfl ?_
      refine TL.extract rfl rfl rfl (v := .int .i64 r_2) rfl ?_
      refine TL.extract rfl rfl rfl (v := .int .i64 r_3) rfl ?_
      refine TL.extract rfl rfl rfl (v := .bool r_4) rfl ?_
      refine TL.assign rfl rfl (v := .int .i64 r_2) rfl ?_
      refine TL.assign rfl rfl (v := .int .i64 r_3) rfl ?_
      refine TL.assign rfl rfl (v := .bool r_4) rfl ?_
      refine TL.done ?_
      refine TC.seq ?_
      refine TC.region ?_
      refine TL.move rfl rfl (v := .int .i64 r_2) rfl ?_
      refine TL.bin .i64 r_2 6 rfl rfl rfl rfl (v := .bool (decide (r_2 > 6))) rfl ?_
      refine TL.move rfl rfl (v := .bool (decide (r_2 > 6))) rfl ?_
      refine TL.cutU 3 [(26, .bool ((decide (r_2 > 6)) || (decide (r_3 > 6)))), (0, strv word1), (9, SV.v s1), (10, .int .i64 (r_1.length : Int)), (11, .int .i64 x1), (12, .bool (decide (x1 < (r_1.length : Int)))), (13, ep s1 x1.toNat), (14, strv (gt r_1 x1)), (4, strv (gt r_1 x1)), (16, strv (gt r_1 x1)), (17, .tuple #[.int .i64 r_2, .int .i64 r_3, .bool r_4]), (15, .tuple #[.int .i64 r_2, .int .i64 r_3, .bool r_4]), (18, .int .i64 r_2), (19, .int .i64 r_3), (20, .bool r_4), (5, .int .i64 r_2), (6, .int .i64 r_3), (7, .bool r_4), (21, .int .i64 r_2), (22, .bool (decide (r_2 > 6))), (23, .bool (decide (r_2 > 6)))] [row Es 9 s1 r_1] ?_ ?_
      · refine TL.cases (t := 23) (b := (decide (r_2 > 6))) rfl (fun c3 => ?_) (fun c4 => ?_)
        · refine TL.skip rfl rfl (by decide) ?_
          refine TL.skip rfl rfl (by decide) ?_
          refine TL.pick rfl rfl (b := true) rfl (r := .bool true) rfl ?_
          refine TL.done ?_
          exact TC.nrm () () ⟨(by rw [c3]; rfl), rfl, rfl, rfl, rfl, rfl, rfl, rfl, rfl, rfl, rfl, rfl, rfl, rfl, rfl, rfl, rfl, rfl, rfl, rfl, (by rw [c3]; rfl), trivial⟩ [0] (by kernel_rfl)
        · refine TL.move rfl rfl (v := .int .i64 r_3) rfl ?_
          refine TL.bin .i64 r_3 6 rfl rfl rfl rfl (v := .bool (decide (r_3 > 6))) rfl ?_
          refine TL.pick rfl rfl (b := false) rfl (r := .bool (decide (r_3 > 6))) rfl ?_
          refine TL.done ?_
          exact TC.nrm () () ⟨(by rw [c4]; rfl), rfl, rfl, rfl, rfl, rfl, rfl, rfl, rfl, rfl, rfl, rfl, rfl, rfl, rfl, rfl, rfl, rfl, rfl, rfl, (by rw [c4]; rfl), trivial⟩ [0] (by kernel_rfl)
      · refine TL.done ?_
        refine TC.cond (b := ((decide (r_2 > 6)) || (decide (r_3 > 6)))) rfl (fun c5 => ?_) (fun c6 => ?_)
        · refine TC.seq ?_
          refine TC.region ?_
          refine TL.assign rfl rfl (v := .bool false) rfl ?_
          refine TL.done ?_
          exact TC.retF (Fin.loop Far.ret (Fin.body (fin1 (.inr rfl) rfl (.tmp rfl) [] rfl ⟨rfl, rfl⟩)))
        · refine TC.skip ?_
          refine TC.region ?_
          refine TL.bin .i64 x1 1 rfl rfl rfl rfl (v := .int .i64 (w64 (x1 + 1))) rfl ?_
          refine TL.move rfl rfl (v := .int .i64 (w64 (x1 + 1))) rfl ?_
          refine TL.done ?_
          exact TC.next ((w64 (x1 + 1))) (()) ⟨rfl, rfl, rfl, rfl, trivial⟩ [0] rfl
    · exact TC.brk (x1) (()) ⟨rfl, rfl, rfl, rfl, trivial⟩ [0] rfl
  · rintro x1 _
    refine TC.seq ?_
    refine TC.region ?_
    refine TL.move rfl rfl (v := strv word1) rfl ?_
    refine TL.call (R := G.impl_letters.R) Tryd.call23 rfl rfl rfl (fun w hS => G.impl_letters.calls w word1) ?_
    rintro r_5 _ _ ⟨rfl, rfl⟩
    refine TL.bin .i64 r_5 300 rfl rfl rfl rfl (v := .bool (decide (r_5 ≤ 300))) rfl ?_
    refine TL.assign rfl rfl (v := .bool (decide (r_5 ≤ 300))) rfl ?_
    refine TL.done ?_
    exact TC.retF (Fin.body (fin1 (.inr rfl) rfl (.tmp rfl) [] rfl ⟨rfl, rfl⟩))

end Go.Proofs.YtjjfoofjipafiaaDoor.G

/- impl.told, as a pure function. -/
set_option linter.unusedVariables false
namespace Go.Proofs.YtjjfoofjipafiaaDoor.G
open Go Go.Sx Go.Proofs

def impl_told.f (word1 : Str) : Option (Str × Int) := (G.impl_small.f word1).bind (fun r_1 => (bif (!r_1) then some (([] : Str), 3) else some (word1, 0)))

def impl_told.R (r : Str × Int) (v : Value) (L : List Asn) : Prop := v = .tuple #[strv r.1, .int .i64 r.2] ∧ L = []

set_option maxRecDepth 100000 in
set_option maxHeartbeats 4000000 in
theorem impl_told.calls (w : World) (word1 : Str) :
    ∀ r, impl_told.f word1 = some r → Calls Tryd.prog 11 #[strv word1] w (Ret w (impl_told.R r)) := by

  refine calls_T (n := 8) (Γ := [(0, strv word1)]) (R := impl_told.R) Tryd.func11 rfl rfl (Nat.le_of_ble_eq_true rfl) ⟨rfl, trivial⟩ ?_
  unfold impl_told.f
  refine TC.seq ?_
  refine TC.region ?_
  refine TL.assign rfl rfl (v := strv ([] : Str)) rfl ?_
  refine TL.assign rfl rfl (v := .int .i64 0) rfl ?_
  refine TL.done ?_
  refine TC.seq ?_
  refine TC.seq ?_
  refine TC.region ?_
  refine TL.move rfl rfl (v := strv word1) rfl ?_
  refine TL.call (R := G.impl_small.R) Tryd.call14 rfl rfl rfl (fun w hS => G.impl_small.calls w word1) ?_
  rintro r_1 _ _ ⟨rfl, rfl⟩
  refine TL.not r_1 rfl rfl rfl ?_
  refine TL.done ?_
  refine TC.cond (b := (!r_1)) rfl (fun c1 => ?_) (fun c2 => ?_)
  · refine TC.seq ?_
    refine TC.region ?_
    refine TL.assign rfl rfl (v := strv ([] : Str)) rfl ?_
    refine TL.assign rfl rfl (v := .int .i64 3) rfl ?_
    refine TL.done ?_
    exact TC.retF (Fin.body (fin2 (.inr rfl) rfl (.tmp rfl) (.tmp rfl) [] rfl ⟨rfl, rfl⟩))
  · refine TC.skip ?_
    refine TC.seq ?_
    refine TC.region ?_
    refine TL.move rfl rfl (v := strv word1) rfl ?_
    refine TL.assign rfl rfl (v := strv word1) rfl ?_
    refine TL.assign rfl rfl (v := .int .i64 0) rfl ?_
    refine TL.done ?_
    exact TC.retF (Fin.body (fin2 (.inr rfl) rfl (.tmp rfl) (.tmp rfl) [] rfl ⟨rfl, rfl⟩))

end Go.Proofs.YtjjfoofjipafiaaDoor.G

/- strings.Join, told by hand. -/
namespace Go.Proofs.YtjjfoofjipafiaaDoor.G
end Go.Proofs.YtjjfoofjipafiaaDoor.G

/- impl.WordOfPart, as a pure function. -/
set_option linter.unusedVariables false
namespace Go.Proofs.YtjjfoofjipafiaaDoor.G
open Go Go.Sx Go.Proofs

def impl_WordOfPart.b0 : (List Str) × Int → Option (LB ((List Str) × Int)) := fun p => match p with | (x5, x6) => (bif (decide (x6 ≥ 2)) then (G.impl_units.f (w64 (x6 - 2))).bind (fun r_4 => small (([109] : Str).length + r_4.length) (small (x5.length + ([(([109] : Str) ++ r_4)] : List Str).length) (some (.next ((x5 ++ ([(([109] : Str) ++ r_4)] : List Str)), (w64 (x6 - 1))))))) else some (.brk (x5, x6)))

def impl_WordOfPart.b1 (x1 : Int) : (List Str) × Int → Option (LB ((List Str) × Int)) := fun p => match p with | (x7, x8) => (bif (decide (x8 < x1)) then small (x7.length + ([([115] : Str), ([109] : Str)] : List Str).length) (some (.next ((x7 ++ ([([115] : Str), ([109] : Str)] : List Str)), (w64 (x8 + 1))))) else some (.brk (x7, x8)))

def impl_WordOfPart.b2 (x3 : Int) : (List Str) × Int → Option (LB ((List Str) × Int)) := fun p => match p with | (x10, x11) => (bif (decide (x11 < x3)) then (G.impl_units.f (w64 (x11 - 1))).bind (fun r_5 => small (([115] : Str).length + r_5.length) (small (x10.length + ([(([115] : Str) ++ r_5)] : List Str).length) (some (.next ((x10 ++ ([(([115] : Str) ++ r_5)] : List Str)), (w64 (x11 + 1))))))) else some (.brk (x10, x11)))

def impl_WordOfPart.f (x1 : Int) (x2 : Int) (x3 : Int) : Option (Str × Int) := (G.impl_in.f x1 0 20).bind (fun r_1 => (bif (!r_1) then some true else (G.impl_in.f x2 0 6).bind (fun r_2 => some (!r_2))).bind (fun b_1 => (bif b_1 then some true else (G.impl_in.f x3 0 6).bind (fun r_3 => some (!r_3))).bind (fun b_2 => (bif b_2 then some (([] : Str), 2) else ((bif (x2 == 0) then small (([] : List Str).length + ([([117] : Str)] : List Str).length) (some (([] : List Str) ++ ([([117] : Str)] : List Str))) else some ([] : List Str))).bind (fun x4 => (loop1 (impl_WordOfPart.b0) (x4, x2)).bind (fun p => match p with | (x5, x6) => (loop1 (impl_WordOfPart.b1 x1) (x5, 0)).bind (fun p => match p with | (x7, x8) => ((bif (x3 == 0) then small (x7.length + ([([101] : Str)] : List Str).length) (some (x7 ++ ([([101] : Str)] : List Str))) else some x7)).bind (fun x9 => (loop1 (impl_WordOfPart.b2 x3) (x9, 1)).bind (fun p => match p with | (x10, x11) => ((bif ((x10.length : Int) == 0) then small (x10.length + ([([105] : Str)] : List Str).length) (some (x10 ++ ([([105] : Str)] : List Str))) else some x10)).bind (fun x12 => (G.strings_Join.f x12 ([47] : Str)).bind (fun r_6 => (G.impl_told.f r_6).bind (fun p => match p with | (r_7, r_8) => some (r_7, r_8)))))))))))))

def impl_WordOfPart.R (r : Str × Int) (v : Value) (L : List Asn) : Prop := v = .tuple #[strv r.1, .int .i64 r.2] ∧ L = []

set_option maxRecDepth 100000 in
set_option maxHeartbeats 4000000 in
theorem impl_WordOfPart.calls (w : World) (x1 : Int) (x2 : Int) (x3 : Int) :
    ∀ r, impl_WordOfPart.f x1 x2 x3 = some r → Calls Tryd.prog 5 #[.int .i64 x1, .int .i64 x2, .int .i64 x3] w (Ret w (impl_WordOfPart.R r)) := by

  refine calls_T (n := 77) (Γ := [(0, .int .i64 x1), (1, .int .i64 x2), (2, .int .i64 x3)]) (R := impl_WordOfPart.R) Tryd.func5 rfl rfl (Nat.le_of_ble_eq_true rfl) ⟨rfl, rfl, rfl, trivial⟩ ?_
  unfold impl_WordOfPart.f
  refine TC.seq ?_
  refine TC.region ?_
  refine TL.assign rfl rfl (v := strv ([] : Str)) rfl ?_
  refine TL.assign rfl rfl (v := .int .i64 0) rfl ?_
  refine TL.done ?_
  refine TC.seq ?_
  refine TC.seq ?_
  refine TC.region ?_
  refine TL.move rfl rfl (v := .int .i64 x1) rfl ?_
  refine TL.call (R := G.impl_in.R) Tryd.call9 rfl rfl rfl (fun w hS => G.impl_in.calls w x1 0 20) ?_
  rintro r_1 _ _ ⟨rfl, rfl⟩
  refine TL.not r_1 rfl rfl rfl ?_
  refine TL.move rfl rfl (v := .bool (!r_1)) rfl ?_
  refine TL.cutJ (σ := Bool) (γ := Unit) (Γ' := fun b_1 _ => [(18, .bool b_1), (0, .int .i64 x1), (1, .int .i64 x2), (2, .int .i64 x3), (6, strv ([] : Str)), (7, .int .i64 0), (11, .int .i64 x1), (12, .bool r_1), (13, .bool (!r_1)), (14, .bool (!r_1))]) (L' := fun _ _ => []) 4 ?_ ?_
  · refine TL.ifb (t := 14) (b := (!r_1)) rfl (fun c1 => ?_) (fun c2 => ?_)
    · refine TL.skip rfl rfl (by decide) ?_
      refine TL.skip rfl rfl (by decide) ?_
      refine TL.skip rfl rfl (by decide) ?_
      refine TL.pick rfl rfl (b := true) rfl (r := .bool true) rfl ?_
      refine TL.done ?_
      exact TC.nrm (true) () ⟨rfl, rfl, rfl, rfl, rfl, rfl, rfl, rfl, rfl, (by rw [c1]; rfl), trivial⟩ [] (by kernel_rfl)
    · refine TL.move rfl rfl (v := .int .i64 x2) rfl ?_
      refine TL.call (R := G.impl_in.R) Tryd.call9 rfl rfl rfl (fun w hS => G.impl_in.calls w x2 0 6) ?_
      rintro r_2 _ _ ⟨rfl, rfl⟩
      refine TL.not r_2 rfl rfl rfl ?_
      refine TL.pick rfl rfl (b := false) rfl (r := .bool (!r_2)) rfl ?_
      refine TL.done ?_
      exact TC.nrm ((!r_2)) () ⟨rfl, rfl, rfl, rfl, rfl, rfl, rfl, rfl, rfl, (by rw [c2]; rfl), trivial⟩ [] (by kernel_rfl)
  · rintro b_1 _
    refine TL.move rfl rfl (v := .bool b_1) rfl ?_
    refine TL.cutJ (σ := Bool) (γ := Unit) (Γ' := fun b_2 _ => [(23, .bool b_2), (0, .int .i64 x1), (1, .int .i64 x2), (2, .int .i64 x3), (6, strv ([] : Str)), (7, .int .i64 0), (11, .int .i64 x1), (12, .bool r_1), (13, .bool (!r_1)), (14, .bool (!r_1)), (18, .bool b_1), (19, .bool b_1)]) (L' := fun _ _ => []) 4 ?_ ?_
    · refine TL.ifb (t := 19) (b := b_1) rfl (fun c3 => ?_) (fun c4 => ?_)
      · refine TL.skip rfl rfl (by decide) ?_
        refine TL.skip rfl rfl (by decide) ?_
        refine TL.skip rfl rfl (by decide) ?_
        refine TL.pick rfl rfl (b := true) rfl (r := .bool true) rfl ?_
        refine TL.done ?_
        exact TC.nrm (true) () ⟨rfl, rfl, rfl, rfl, rfl, rfl, rfl, rfl, rfl, rfl, rfl, (by rw [c3]; rfl), trivial⟩ [] (by kernel_rfl)
      · refine TL.move rfl rfl (v := .int .i64 x3) rfl ?_
        refine TL.call (R := G.impl_in.R) Tryd.call9 rfl rfl rfl (fun w hS => G.impl_in.calls w x3 0 6) ?_
        rintro r_3 _ _ ⟨rfl, rfl⟩
        refine TL.not r_3 rfl rfl rfl ?_
        refine TL.pick rfl rfl (b := false) rfl (r := .bool (!r_3)) rfl ?_
        refine TL.done ?_
        exact TC.nrm ((!r_3)) () ⟨rfl, rfl, rfl, rfl, rfl, rfl, rfl, rfl, rfl, rfl, rfl, (by rw [c4]; rfl), trivial⟩ [] (by kernel_rfl)
    · rintro b_2 _
      refine TL.done ?_
      refine TC.cond (b := b_2) rfl (fun c5 => ?_) (fun c6 => ?_)
      · refine TC.seq ?_
        refine TC.region ?_
        refine TL.assign rfl rfl (v := strv ([] : Str)) rfl ?_
        refine TL.assign rfl rfl (v := .int .i64 2) rfl ?_
        refine TL.done ?_
        exact TC.retF (Fin.body (fin2 (.inr rfl) rfl (.tmp rfl) (.tmp rfl) [] rfl ⟨rfl, rfl⟩))
      · refine TC.skip ?_
        refine TC.seq ?_
        refine TC.region ?_
        refine TL.bslice0 Es Tryd.underlying25 Tryd.sizeOf9 rfl rfl fun s1 => ?_
        refine TL.assign rfl rfl (v := SV.v s1) rfl ?_
        refine TL.done ?_
        refine TC.seq ?_
        refine TC.seq ?_
        refine TC.region ?_
        refine TL.move rfl rfl (v := .int .i64 x2) rfl ?_
        refine TL.bin .i64 x2 0 rfl rfl rfl rfl (v := .bool (x2 == 0)) rfl ?_
        refine TL.done ?_
        refine TC.join1 (σ := (List Str)) (γ := SV) (Γ' := (fun x4 s2 => [(0, .int .i64 x1), (1, .int .i64 x2), (2, .int .i64 x3), (8, SV.v s2)])) (L' := (fun x4 s2 => [row Es 9 s2 x4])) ?_ ?_
        · refine TC.cond (b := (x2 == 0)) rfl (fun c7 => ?_) (fun c8 => ?_)
          · refine TC.region ?_
            refine TL.move rfl rfl (v := SV.v s1) rfl ?_
            refine TL.blit Es ([([117] : Str)] : List Str) Tryd.underlying25 Tryd.sizeOf9 Tryd.zeroValue9 rfl rfl rfl [(0, strv ([117] : Str))] rfl ⟨rfl, rfl, trivial⟩ rfl rfl fun s3 => ?_
            refine TL.small fun h1 => ?_
            refine TL.append 1 rfl (Rd.row 0 rfl) Tryd.underlying25 (info_of Tryd.type9) (zv := (Tryd.t9.zero.getD (.bool false))) rfl rfl rfl (by decide) h1 rfl rfl rfl rfl fun s4 => ?_
            refine TL.assign rfl rfl (v := SV.v s4) rfl ?_
            refine TL.done ?_
            exact TC.nrm ((([] : List Str) ++ ([([117] : Str)] : List Str))) (s4) ⟨rfl, rfl, rfl, rfl, trivial⟩ [1] rfl
          · refine TC.skip ?_
            exact TC.nrm (([] : List Str)) (s1) ⟨rfl, rfl, rfl, rfl, trivial⟩ [0] rfl
        · rintro x4 s2
          refine TC.seq ?_
          refine TC.seq ?_
          refine TC.region ?_
          refine TL.move rfl rfl (v := .int .i64 x2) rfl ?_
          refine TL.assign rfl rfl (v := .int .i64 x2) rfl ?_
          refine TL.done ?_
          refine TC.loop1 (σ := (List Str) × Int) (γ := SV) (Γ' := (fun p q => match p, q with | (x5, x6), s5 => [(0, .int .i64 x1), (2, .int .i64 x3), (8, SV.v s5), (9, .int .i64 x6)])) (L' := (fun p q => match p, q with | (x5, x6), s5 => [row Es 9 s5 x5])) (Γb := (fun p q => match p, q with | (x5, x6), s5 => [(0, .int .i64 x1), (2, .int .i64 x3), (8, SV.v s5), (9, .int .i64 x6)])) (Lb := (fun p q => match p, q with | (x5, x6), s5 => [row Es 9 s5 x5])) ((x4, x2)) (s2) ⟨rfl, rfl, rfl, rfl, trivial⟩ [0] rfl ?_ ?_
          · rintro ⟨x5, x6⟩ s5
            refine TC.seq ?_
            refine TC.seq ?_
            refine TC.region ?_
            refine TL.move rfl rfl (v := .int .i64 x6) rfl ?_
            refine TL.bin .i64 x6 2 rfl rfl rfl rfl (v := .bool (decide (x6 ≥ 2))) rfl ?_
            refine TL.done ?_
            refine TC.cond (b := (decide (x6 ≥ 2))) rfl (fun c9 => ?_) (fun c10 => ?_)
            · refine TC.skip ?_
              refine TC.seq ?_
              refine TC.block (NoEx.loop1 rfl) ?_
              refine TC.region ?_
              refine TL.move rfl rfl (v := SV.v s5) rfl ?_
              refine TL.move rfl rfl (v := .int .i64 x6) rfl ?_
              refine TL.bin .i64 x6 2 rfl rfl rfl rfl (v := .int .i64 (w64 (x6 - 2))) rfl ?_
              refine TL.call (R := G.impl_units.R) Tryd.call10 rfl rfl rfl (fun w hS => G.impl_units.calls w (w64 (x6 - 2))) ?_
              rintro r_4 _ _ ⟨rfl, rfl⟩
              refine TL.small fun h2 => ?_
              refine TL.cat ([109] : Str) r_4 h2 rfl rfl rfl rfl ?_
              refine TL.blit Es ([(([109] : Str) ++ r_4)] : List Str) Tryd.underlying25 Tryd.sizeOf9 Tryd.zeroValue9 rfl rfl rfl [(0, strv (([109] : Str) ++ r_4))] rfl ⟨rfl, rfl, trivial⟩ rfl rfl fun s6 => ?_
              refine TL.small fun h3 => ?_
              refine TL.append 1 rfl (Rd.row 0 rfl) Tryd.underlying25 (info_of Tryd.type9) (zv := (Tryd.t9.zero.getD (.bool false))) rfl rfl rfl (by decide) h3 rfl rfl rfl rfl fun s7 => ?_
              refine TL.assign rfl rfl (v := SV.v s7) rfl ?_
              refine TL.done ?_
              refine TC.region ?_
              refine TL.move rfl rfl (v := .int .i64 x6) rfl ?_
              refine TL.bin .i64 x6 1 rfl rfl rfl rfl (v := .int .i64 (w64 (x6 - 1))) rfl ?_
              refine TL.assign rfl rfl (v := .int .i64 (w64 (x6 - 1))) rfl ?_
              refine TL.done ?_
              exact TC.next1 (((x5 ++ ([(([109] : Str) ++ r_4)] : List Str)), (w64 (x6 - 1)))) (s7) ⟨rfl, rfl, rfl, rfl, trivial⟩ [1] rfl
            · exact TC.brk1 ((x5, x6)) (s5) ⟨rfl, rfl, rfl, rfl, trivial⟩ [0] rfl
          · rintro ⟨x5, x6⟩ s5
            refine TC.seq ?_
            refine TC.seq ?_
            refine TC.region ?_
            refine TL.move rfl rfl (v := .int .i64 x1) rfl ?_
            refine TL.move rfl rfl (v := .int .i64 0) rfl ?_
            refine TL.done ?_
            refine TC.loop1 (σ := (List Str) × Int) (γ := SV) (Γ' := (fun p q => match p, q with | (x7, x8), s8 => [(2, .int .i64 x3), (8, SV.v s8), (42, .int .i64 x1), (43, .int .i64 x8)])) (L' := (fun p q => match p, q with | (x7, x8), s8 => [row Es 9 s8 x7])) (Γb := (fun p q => match p, q with | (x7, x8), s8 => [(2, .int .i64 x3), (8, SV.v s8), (42, .int .i64 x1), (43, .int .i64 x8)])) (Lb := (fun p q => match p, q with | (x7, x8), s8 => [row Es 9 s8 x7])) ((x5, 0)) (s5) ⟨rfl, rfl, rfl, rfl, trivial⟩ [0] rfl ?_ ?_
            · rintro ⟨x7, x8⟩ s8
              refine TC.seq ?_
              refine TC.region ?_
              refine TL.bin .i64 x8 x1 rfl rfl rfl rfl (v := .bool (decide (x8 < x1))) rfl ?_
              refine TL.done ?_
              refine TC.seq ?_
              refine TC.cond (b := (decide (x8 < x1))) rfl (fun c11 => ?_) (fun c12 => ?_)
              · refine TC.skip ?_
                refine TC.seq ?_
                refine TC.block (NoEx.loop1 rfl) ?_
                refine TC.region ?_
                refine TL.move rfl rfl (v := SV.v s8) rfl ?_
                refine TL.blit Es ([([115] : Str), ([109] : Str)] : List Str) Tryd.underlying25 Tryd.sizeOf9 Tryd.zeroValue9 rfl rfl rfl [(0, strv ([115] : Str)), (1, strv ([109] : Str))] rfl ⟨rfl, rfl, rfl, rfl, trivial⟩ rfl rfl fun s9 => ?_
                refine TL.small fun h4 => ?_
                refine TL.append 1 rfl (Rd.row 0 rfl) Tryd.underlying25 (info_of Tryd.type9) (zv := (Tryd.t9.zero.getD (.bool false))) rfl rfl rfl (by decide) h4 rfl rfl rfl rfl fun s10 => ?_
                refine TL.assign rfl rfl (v := SV.v s10) rfl ?_
                refine TL.done ?_
                refine TC.region ?_
                refine TL.bin .i64 x8 1 rfl rfl rfl rfl (v := .int .i64 (w64 (x8 + 1))) rfl ?_
                refine TL.move rfl rfl (v := .int .i64 (w64 (x8 + 1))) rfl ?_
                refine TL.done ?_
                exact TC.next1 (((x7 ++ ([([115] : Str), ([109] : Str)] : List Str)), (w64 (x8 + 1)))) (s10) ⟨rfl, rfl, rfl, rfl, trivial⟩ [1] rfl
              · exact TC.brk1 ((x7, x8)) (s8) ⟨rfl, rfl, rfl, rfl, trivial⟩ [0] rfl
            · rintro ⟨x7, x8⟩ s8
              refine TC.seq ?_
              refine TC.seq ?_
              refine TC.region ?_
              refine TL.move rfl rfl (v := .int .i64 x3) rfl ?_
              refine TL.bin .i64 x3 0 rfl rfl rfl rfl (v := .bool (x3 == 0)) rfl ?_
              refine TL.done ?_
              refine TC.join1 (σ := (List Str)) (γ := SV) (Γ' := (fun x9 s11 => [(2, .int .i64 x3), (8, SV.v s11)])) (L' := (fun x9 s11 => [row Es 9 s11 x9])) ?_ ?_
              · refine TC.cond (b := (x3 == 0)) rfl (fun c13 => ?_) (fun c14 => ?_)
                · refine TC.region ?_
                  refine TL.move rfl rfl (v := SV.v s8) rfl ?_
                  refine TL.blit Es ([([101] : Str)] : List Str) Tryd.underlying25 Tryd.sizeOf9 Tryd.zeroValue9 rfl rfl rfl [(0, strv ([101] : Str))] rfl ⟨rfl, rfl, trivial⟩ rfl rfl fun s12 => ?_
                  refine TL.small fun h5 => ?_
                  refine TL.append 1 rfl (Rd.row 0 rfl) Tryd.underlying25 (info_of Tryd.type9) (zv := (Tryd.t9.zero.getD (.bool false))) rfl rfl rfl (by decide) h5 rfl rfl rfl rfl fun s13 => ?_
                  refine TL.assign rfl rfl (v := SV.v s13) rfl ?_
                  refine TL.done ?_
                  exact TC.nrm ((x7 ++ ([([101] : Str)] : List Str))) (s13) ⟨rfl, rfl, trivial⟩ [1] rfl
                · refine TC.skip ?_
                  exact TC.nrm (x7) (s8) ⟨rfl, rfl, trivial⟩ [0] rfl
              · rintro x9 s11
                refine TC.seq ?_
                refine TC.seq ?_
                refine TC.region ?_
                refine TL.assign rfl rfl (v := .int .i64 1) rfl ?_
                refine TL.done ?_
                refine TC.loop1 (σ := (List Str) × Int) (γ := SV) (Γ' := (fun p q => match p, q with | (x10, x11), s14 => [(2, .int .i64 x3), (8, SV.v s14), (10, .int .i64 x11)])) (L' := (fun p q => match p, q with | (x10, x11), s14 => [row Es 9 s14 x10])) (Γb := (fun p q => match p, q with | (x10, x11), s14 => [(2, .int .i64 x3), (8, SV.v s14), (10, .int .i64 x11)])) (Lb := (fun p q => match p, q with | (x10, x11), s14 => [row Es 9 s14 x10])) ((x9, 1)) (s11) ⟨rfl, rfl, rfl, trivial⟩ [0] rfl ?_ ?_
                · rintro ⟨x10, x11⟩ s14
                  refine TC.seq ?_
                  refine TC.seq ?_
                  refine TC.region ?_
                  refine TL.move rfl rfl (v := .int .i64 x11) rfl ?_
                  refine TL.move rfl rfl (v := .int .i64 x3) rfl ?_
                  refine TL.bin .i64 x11 x3 rfl rfl rfl rfl (v := .bool (decide (x11 < x3))) rfl ?_
                  refine TL.done ?_
                  refine TC.cond (b := (decide (x11 < x3))) rfl (fun c15 => ?_) (fun c16 => ?_)
                  · refine TC.skip ?_
                    refine TC.seq ?_
                    refine TC.block (NoEx.loop1 rfl) ?_
                    refine TC.region ?_
                    refine TL.move rfl rfl (v := SV.v s14) rfl ?_
                    refine TL.move rfl rfl (v := .int .i64 x11) rfl ?_
                    refine TL.bin .i64 x11 1 rfl rfl rfl rfl (v := .int .i64 (w64 (x11 - 1))) rfl ?_
                    refine TL.call (R := G.impl_units.R) Tryd.call10 rfl rfl rfl (fun w hS => G.impl_units.calls w (w64 (x11 - 1))) ?_
                    rintro r_5 _ _ ⟨rfl, rfl⟩
                    refine TL.small fun h6 => ?_
                    refine TL.cat ([115] : Str) r_5 h6 rfl rfl rfl rfl ?_
                    refine TL.blit Es ([(([115] : Str) ++ r_5)] : List Str) Tryd.underlying25 Tryd.sizeOf9 Tryd.zeroValue9 rfl rfl rfl [(0, strv (([115] : Str) ++ r_5))] rfl ⟨rfl, rfl, trivial⟩ rfl rfl fun s15 => ?_
                    refine TL.small fun h7 => ?_
                    refine TL.append 1 rfl (Rd.row 0 rfl) Tryd.underlying25 (info_of Tryd.type9) (zv := (Tryd.t9.zero.getD (.bool false))) rfl rfl rfl (by decide) h7 rfl rfl rfl rfl fun s16 => ?_
                    refine TL.assign rfl rfl (v := SV.v s16) rfl ?_
                    refine TL.done ?_
                    refine TC.region ?_
                    refine TL.move rfl rfl (v := .int .i64 x11) rfl ?_
                    refine TL.bin .i64 x11 1 rfl rfl rfl rfl (v := .int .i64 (w64 (x11 + 1))) rfl ?_
                    refine TL.assign rfl rfl (v := .int .i64 (w64 (x11 + 1))) rfl ?_
                    refine TL.done ?_
                    exact TC.next1 (((x10 ++ ([(([115] : Str) ++ r_5)] : List Str)), (w64 (x11 + 1)))) (s16) ⟨rfl, rfl, rfl, trivial⟩ [1] rfl
                  · exact TC.brk1 ((x10, x11)) (s14) ⟨rfl, rfl, rfl, trivial⟩ [0] rfl
                · rintro ⟨x10, x11⟩ s14
                  refine TC.seq ?_
                  refine TC.seq ?_
                  refine TC.region ?_
                  refine TL.move rfl rfl (v := SV.v s14) rfl ?_
                  refine TL.len (Rd.row 0 rfl) Tryd.underlying25 rfl rfl rfl ?_
                  refine TL.bin .i64 (x10.length : Int) 0 rfl rfl rfl rfl (v := .bool ((x10.length : Int) == 0)) rfl ?_
                  refine TL.done ?_
                  refine TC.join1 (σ := (List Str)) (γ := SV) (Γ' := (fun x12 s17 => [(8, SV.v s17)])) (L' := (fun x12 s17 => [row Es 9 s17 x12])) ?_ ?_
                  · refine TC.cond (b := ((x10.length : Int) == 0)) rfl (fun c17 => ?_) (fun c18 => ?_)
                    · refine TC.region ?_
                      refine TL.move rfl rfl (v := SV.v s14) rfl ?_
                      refine TL.blit Es ([([105] : Str)] : List Str) Tryd.underlying25 Tryd.sizeOf9 Tryd.zeroValue9 rfl rfl rfl [(0, strv ([105] : Str))] rfl ⟨rfl, rfl, trivial⟩ rfl rfl fun s18 => ?_
                      refine TL.small fun h8 => ?_
                      refine TL.append 1 rfl (Rd.row 0 rfl) Tryd.underlying25 (info_of Tryd.type9) (zv := (Tryd.t9.zero.getD (.bool false))) rfl rfl rfl (by decide) h8 rfl rfl rfl rfl fun s19 => ?_
                      refine TL.assign rfl rfl (v := SV.v s19) rfl ?_
                      refine TL.done ?_
                      exact TC.nrm ((x10 ++ ([([105] : Str)] : List Str))) (s19) ⟨rfl, trivial⟩ [1] rfl
                    · refine TC.skip ?_
                      exact TC.nrm (x10) (s14) ⟨rfl, trivial⟩ [0] rfl
                  · rintro x12 s17
                    refine TC.seq ?_
                    refine TC.region ?_
                    refine TL.move rfl rfl (v := SV.v s17) rfl ?_
                    refine TL.call (R := G.strings_Join.R) Tryd.call12 rfl rfl rfl (fun w hS => G.strings_Join.calls w s17 x12 ([47] : Str) ((Rd.row 0 rfl) w hS)) ?_
                    rintro r_6 _ _ ⟨rfl, rfl⟩
                    refine TL.call (R := G.impl_told.R) Tryd.call11 rfl rfl rfl (fun w hS => G.impl_told.calls w r_6) ?_
                    rintro ⟨r_7, r_8⟩ _ _ ⟨rfl, rfl⟩
                    refine TL.extract rfl rfl rfl (v := strv r_7) rfl ?_
                    refine TL.extract rfl rfl rfl (v := .int .i64 r_8) rfl ?_
                    refine TL.assign rfl rfl (v := strv r_7) rfl ?_
                    refine TL.assign rfl rfl (v := .int .i64 r_8) rfl ?_
                    refine TL.done ?_
                    exact TC.retF (Fin.body (fin2 (.inr rfl) rfl (.tmp rfl) (.tmp rfl) [] rfl ⟨rfl, rfl⟩))

end Go.Proofs.YtjjfoofjipafiaaDoor.G

/- laws.FnExactWordOfPart, as a pure function. -/
set_option linter.unusedVariables false
namespace Go.Proofs.YtjjfoofjipafiaaDoor.G
open Go Go.Sx Go.Proofs

def laws_FnExactWordOfPart.f (aG1 : Int) (aA1 : Int) (aB1 : Int) : Option Bool := (G.spec_WordOfPart.f aG1 aA1 aB1).bind (fun p => match p with | (r_1, r_2) => (G.impl_WordOfPart.f aG1 aA1 aB1).bind (fun p => match p with | (r_3, r_4) => (bif ((r_3 != r_1) || (r_4 != r_2)) then some false else some true)))

def laws_FnExactWordOfPart.R (r : Bool) (v : Value) (L : List Asn) : Prop := v = .bool r ∧ L = []

set_option maxRecDepth 100000 in
set_option maxHeartbeats 4000000 in
theorem laws_FnExactWordOfPart.calls (w : World) (aG1 : Int) (aA1 : Int) (aB1 : Int) :
    ∀ r, laws_FnExactWordOfPart.f aG1 aA1 aB1 = some r → Calls Tryd.prog 3 #[.int .i64 aG1, .int .i64 aA1, .int .i64 aB1] w (Ret w (laws_FnExactWordOfPart.R r)) := by

  refine calls_T (n := 33) (Γ := [(0, .int .i64 aG1), (1, .int .i64 aA1), (2, .int .i64 aB1)]) (R := laws_FnExactWordOfPart.R) Tryd.func3 rfl rfl (Nat.le_of_ble_eq_true rfl) ⟨rfl, rfl, rfl, trivial⟩ ?_
  unfold laws_FnExactWordOfPart.f
  refine TC.seq ?_
  refine TC.region ?_
  refine TL.assign rfl rfl (v := .bool false) rfl ?_
  refine TL.done ?_
  refine TC.seq ?_
  refine TC.region ?_
  refine TL.move rfl rfl (v := .int .i64 aG1) rfl ?_
  refine TL.move rfl rfl (v := .int .i64 aA1) rfl ?_
  refine TL.move rfl rfl (v := .int .i64 aB1) rfl ?_
  refine TL.call (R := G.spec_WordOfPart.R) Tryd.call4 rfl rfl rfl (fun w hS => G.spec_WordOfPart.calls w aG1 aA1 aB1) ?_
  rintro ⟨r_1, r_2⟩ _ _ ⟨rfl, rfl⟩
  refine TL.move rfl rfl (v := .tuple #[strv r_1, .int .i64 r_2]) rfl ?_
  refine TL.extract rfl rfl rfl (v := strv r_1) rfl ?_
  refine TL.extract rfl rfl rfl (v := .int .i64 r_2) rfl ?_
  refine TL.assign rfl rfl (v := strv r_1) rfl ?_
  refine TL.assign rfl rfl (v := .int .i64 r_2) rfl ?_
  refine TL.done ?_
  refine TC.seq ?_
  refine TC.region ?_
  refine TL.move rfl rfl (v := .int .i64 aG1) rfl ?_
  refine TL.move rfl rfl (v := .int .i64 aA1) rfl ?_
  refine TL.move rfl rfl (v := .int .i64 aB1) rfl ?_
  refine TL.call (R := G.impl_WordOfPart.R) Tryd.call5 rfl rfl rfl (fun w hS => G.impl_WordOfPart.calls w aG1 aA1 aB1) ?_
  rintro ⟨r_3, r_4⟩ _ _ ⟨rfl, rfl⟩
  refine TL.move rfl rfl (v := .tuple #[strv r_3, .int .i64 r_4]) rfl ?_
  refine TL.extract rfl rfl rfl (v := strv r_3) rfl ?_
  refine TL.extract rfl rfl rfl (v := .int .i64 r_4) rfl ?_
  refine TL.assign rfl rfl (v := strv r_3) rfl ?_
  refine TL.assign rfl rfl (v := .int .i64 r_4) rfl ?_
  refine TL.done ?_
  refine TC.seq ?_
  refine TC.seq ?_
  refine TC.region ?_
  refine TL.move rfl rfl (v := strv r_3) rfl ?_
  refine TL.move rfl rfl (v := strv r_1) rfl ?_
  refine TL.strNe r_3 r_1 rfl rfl rfl rfl ?_
  refine TL.move rfl rfl (v := .bool (r_3 != r_1)) rfl ?_
  refine TL.cutU 4 [(32, .bool ((r_3 != r_1) || (r_4 != r_2))), (0, .int .i64 aG1), (1, .int .i64 aA1), (2, .int .i64 aB1), (6, .bool false), (12, .int .i64 aG1), (13, .int .i64 aA1), (14, .int .i64 aB1), (15, .tuple #[strv r_1, .int .i64 r_2]), (11, .tuple #[strv r_1, .int .i64 r_2]), (16, strv r_1), (17, .int .i64 r_2), (7, strv r_1), (8, .int .i64 r_2), (19, .int .i64 aG1), (20, .int .i64 aA1), (21, .int .i64 aB1), (22, .tuple #[strv r_3, .int .i64 r_4]), (18, .tuple #[strv r_3, .int .i64 r_4]), (23, strv r_3), (24, .int .i64 r_4), (9, strv r_3), (10, .int .i64 r_4), (25, strv r_3), (26, strv r_1), (27, .bool (r_3 != r_1)), (28, .bool (r_3 != r_1))] [] ?_ ?_
  · refine TL.cases (t := 28) (b := (r_3 != r_1)) rfl (fun c1 => ?_) (fun c2 => ?_)
    · refine TL.skip rfl rfl (by decide) ?_
      refine TL.skip rfl rfl (by decide) ?_
      refine TL.skip rfl rfl (by decide) ?_
      refine TL.pick rfl rfl (b := true) rfl (r := .bool true) rfl ?_
      refine TL.done ?_
      exact TC.nrm () () ⟨(by rw [c1]; rfl), rfl, rfl, rfl, rfl, rfl, rfl, rfl, rfl, rfl, rfl, rfl, rfl, rfl, rfl, rfl, rfl, rfl, rfl, rfl, rfl, rfl, rfl, rfl, rfl, rfl, (by rw [c1]; rfl), trivial⟩ [] (by kernel_rfl)
    · refine TL.move rfl rfl (v := .int .i64 r_4) rfl ?_
      refine TL.move rfl rfl (v := .int .i64 r_2) rfl ?_
      refine TL.bin .i64 r_4 r_2 rfl rfl rfl rfl (v := .bool (r_4 != r_2)) rfl ?_
      refine TL.pick rfl rfl (b := false) rfl (r := .bool (r_4 != r_2)) rfl ?_
      refine TL.done ?_
      exact TC.nrm () () ⟨(by rw [c2]; rfl), rfl, rfl, rfl, rfl, rfl, rfl, rfl, rfl, rfl, rfl, rfl, rfl, rfl, rfl, rfl, rfl, rfl, rfl, rfl, rfl, rfl, rfl, rfl, rfl, rfl, (by rw [c2]; rfl), trivial⟩ [] (by kernel_rfl)
  · refine TL.done ?_
    refine TC.cond (b := ((r_3 != r_1) || (r_4 != r_2))) rfl (fun c3 => ?_) (fun c4 => ?_)
    · refine TC.seq ?_
      refine TC.region ?_
      refine TL.assign rfl rfl (v := .bool false) rfl ?_
      refine TL.done ?_
      exact TC.retF (Fin.body (fin1 (.inr rfl) rfl (.tmp rfl) [] rfl ⟨rfl, rfl⟩))
    · refine TC.skip ?_
      refine TC.seq ?_
      refine TC.region ?_
      refine TL.assign rfl rfl (v := .bool true) rfl ?_
      refine TL.done ?_
      exact TC.retF (Fin.body (fin1 (.inr rfl) rfl (.tmp rfl) [] rfl ⟨rfl, rfl⟩))

end Go.Proofs.YtjjfoofjipafiaaDoor.G
