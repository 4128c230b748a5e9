/- Functions of the program, as pure functions. -/
import Derived.Test.YtjjfoofjipafiaaMSwapTensor1
import Derived.Test.YtjjfoofjipafiaaProg
/- impl.rest, as a pure function. -/
set_option linter.unusedVariables false
namespace Go.Proofs.Ytjjfoofjipafiaa.G
open Go Go.Sx Go.Proofs

def impl_rest.f (n_1 : Int) (p1 : Int) : Option Int := nz p1 (some (Int.tmod (w64 ((Int.tmod n_1 p1) + p1)) p1))

def impl_rest.R (r : Int) (v : Value) (L : List Asn) : Prop := v = .int .i64 r ∧ L = []

set_option maxRecDepth 100000 in
set_option maxHeartbeats 4000000 in
theorem impl_rest.calls (w : World) (n_1 : Int) (p1 : Int) :
    ∀ r, impl_rest.f n_1 p1 = some r → Calls Try.prog 88 #[.int .i64 n_1, .int .i64 p1] w (Ret w (impl_rest.R r)) := by

  refine calls_T (n := 12) (Γ := [(0, .int .i64 n_1), (1, .int .i64 p1)]) (R := impl_rest.R) Try.func88 rfl rfl (Nat.le_of_ble_eq_true rfl) ⟨rfl, rfl, trivial⟩ ?_
  unfold impl_rest.f
  refine TC.seq ?_
  refine TC.region ?_
  refine TL.assign rfl rfl (v := .int .i64 0) rfl ?_
  refine TL.done ?_
  refine TC.seq ?_
  refine TC.region ?_
  refine TL.move rfl rfl (v := .int .i64 n_1) rfl ?_
  refine TL.move rfl rfl (v := .int .i64 p1) rfl ?_
  refine TL.nz fun z1 => ?_
  refine TL.rem .i64 n_1 p1 z1 rfl rfl rfl rfl ?_
  refine TL.move rfl rfl (v := .int .i64 p1) rfl ?_
  refine TL.bin .i64 (Int.tmod n_1 p1) p1 rfl rfl rfl rfl (v := .int .i64 (w64 ((Int.tmod n_1 p1) + p1))) rfl ?_
  refine TL.move rfl rfl (v := .int .i64 p1) rfl ?_
  refine TL.rem .i64 (w64 ((Int.tmod n_1 p1) + p1)) p1 z1 rfl rfl rfl rfl ?_
  refine TL.assign rfl rfl (v := .int .i64 (Int.tmod (w64 ((Int.tmod n_1 p1) + p1)) p1)) rfl ?_
  refine TL.done ?_
  exact TC.retF (Fin.body (fin1 (.inr rfl) rfl (.tmp rfl) [] rfl ⟨rfl, rfl⟩))

end Go.Proofs.Ytjjfoofjipafiaa.G

/- impl.tensor, as a pure function. -/
set_option linter.unusedVariables false
namespace Go.Proofs.Ytjjfoofjipafiaa.G
open Go Go.Sx Go.Proofs

def impl_tensor.b0 (r_1 : Int) (x2 : Int) (x3 : Int) (x4 : Int) (x5 : (List Int) → (List Int) → Option Int) (x1 : Int) : (List Int) × Int → Option (LB ((List Int) × Int)) := fun p => match p with | (y1, x6) => (bif (decide (x6 < r_1)) then (G.impl_digits.f x6 x2 (w64 (x3 + x4))).bind (fun r_4 => grd (decide (0 ≤ 0) && decide (0 ≤ x3) && decide (x3 ≤ (r_4.length : Int))) (grd (decide (0 ≤ x3) && decide (x3 ≤ (r_4.length : Int)) && decide ((r_4.length : Int) ≤ (r_4.length : Int))) ((x5 ((r_4.drop 0).take (x3.toNat - 0)) ((r_4.drop x3.toNat).take (r_4.length - x3.toNat))).bind (fun r_5 => (G.impl_rest.f r_5 x1).bind (fun r_6 => small (y1.length + ([r_6] : List Int).length) (some (.next ((y1 ++ ([r_6] : List Int)), (w64 (x6 + 1)))))))))) else some (.brk (y1, x6)))

def impl_tensor.f (x1 : Int) (x2 : Int) (x3 : Int) (x4 : Int) (x5 : (List Int) → (List Int) → Option Int) : Option (Int × Int × Int × Int × (List Int) × Int) := (G.impl_powerOf.f x2 (w64 (x3 + x4))).bind (fun r_1 => (G.impl_endsOk.f x3).bind (fun r_2 => (bif (!r_2) then some true else (G.impl_endsOk.f x4).bind (fun r_3 => some (!r_3))).bind (fun b_2 => (bif (b_2 || (decide (r_1 > 1296))) then some (0, 0, 0, 0, ([] : List Int), 3) else (loop1 (impl_tensor.b0 r_1 x2 x3 x4 x5 x1) (([] : List Int), 0)).bind (fun p => match p with | (y1, x6) => some (x1, x2, x3, x4, y1, 0))))))

def impl_tensor.R (r : Int × Int × Int × Int × (List Int) × Int) (v : Value) (L : List Asn) : Prop := ∃ (s0 : SV), v = .tuple #[sval [.one (.int .i64 r.1), .one (.int .i64 r.2.1), .one (.int .i64 r.2.2.1), .one (.int .i64 r.2.2.2.1), .one (SV.v s0)], .int .i64 r.2.2.2.2.2] ∧ L = [row Ei 2 s0 r.2.2.2.2.1]

set_option maxRecDepth 100000 in
set_option maxHeartbeats 4000000 in
theorem impl_tensor.calls (w : World) (x1 : Int) (x2 : Int) (x3 : Int) (x4 : Int) (f1 : Nat) (fst1 : List Value) (cap1 : List Value) (x5 : (List Int) → (List Int) → Option Int) (hc1 : ∀ (args_ : Array Value) (w_ : World), (callFunc f1 args_).run Try.prog w_ = .ok (.enter f1 args_) w_) (hf1 : ∀ w_, Hle (hp w) (hp w_) → ∀ (s1_ : SV) (x0_ : List Int) (s2_ : SV) (x1_ : List Int), Reads Ei (hp w_) s1_ x0_ → Reads Ei (hp w_) s2_ x1_ → ∀ r_, x5 x0_ x1_ = some r_ → Calls Try.prog f1 (fst1 ++ ([SV.v s1_, SV.v s2_] : List Value) ++ cap1).toArray w_ (Ret w_ (fun (v_ : Value) (L_ : List Asn) => v_ = .int .i64 r_ ∧ L_ = []))) :
    ∀ r, impl_tensor.f x1 x2 x3 x4 x5 = some r → Calls Try.prog 47 #[.int .i64 x1, .int .i64 x2, .int .i64 x3, .int .i64 x4, .func (.func f1) fst1.toArray cap1.toArray] w (Ret w (impl_tensor.R r)) := by

  refine calls_T (n := 66) (Γ := [(0, .int .i64 x1), (1, .int .i64 x2), (2, .int .i64 x3), (3, .int .i64 x4), (4, .func (.func f1) fst1.toArray cap1.toArray)]) (R := impl_tensor.R) Try.func47 rfl rfl (Nat.le_of_ble_eq_true rfl) ⟨rfl, rfl, rfl, rfl, rfl, trivial⟩ ?_
  unfold impl_tensor.f
  refine TC.seq ?_
  refine TC.region ?_
  refine TL.alloc [.one (.int .i64 0), .one (.int .i64 0), .one (.int .i64 0), .one (.int .i64 0), .one (SV.v ⟨none, 0, 0⟩)] rfl rfl Try.zeroValue24 rfl fun b_1 => ?_
  refine TL.assign rfl rfl (v := .int .i64 0) rfl ?_
  refine TL.done ?_
  refine TC.seq ?_
  refine TC.region ?_
  refine TL.move rfl rfl (v := .int .i64 x2) rfl ?_
  refine TL.move rfl rfl (v := .int .i64 x3) rfl ?_
  refine TL.move rfl rfl (v := .int .i64 x4) rfl ?_
  refine TL.bin .i64 x3 x4 rfl rfl rfl rfl (v := .int .i64 (w64 (x3 + x4))) rfl ?_
  refine TL.call (R := G.impl_powerOf.R) Try.call67 rfl rfl rfl (fun w hS => G.impl_powerOf.calls w x2 (w64 (x3 + x4))) ?_
  rintro r_1 _ _ ⟨rfl, rfl⟩
  refine TL.assign rfl rfl (v := .int .i64 r_1) rfl ?_
  refine TL.done ?_
  refine TC.seq ?_
  refine TC.seq ?_
  refine TC.region ?_
  refine TL.move rfl rfl (v := .int .i64 x3) rfl ?_
  refine TL.call (R := G.impl_endsOk.R) Try.call51 rfl rfl rfl (fun w hS => G.impl_endsOk.calls w x3) ?_
  rintro r_2 _ _ ⟨rfl, rfl⟩
  refine TL.not r_2 rfl rfl rfl ?_
  refine TL.move rfl rfl (v := .bool (!r_2)) rfl ?_
  refine TL.cutJ (σ := Bool) (γ := Unit) (Γ' := fun b_2 _ => [(28, .bool b_2), (0, .int .i64 x1), (1, .int .i64 x2), (2, .int .i64 x3), (3, .int .i64 x4), (4, .func (.func f1) fst1.toArray cap1.toArray), (10, bp b_1 0), (11, .int .i64 0), (16, .int .i64 x2), (17, .int .i64 x3), (18, .int .i64 x4), (19, .int .i64 (w64 (x3 + x4))), (20, .int .i64 r_1), (12, .int .i64 r_1), (21, .int .i64 x3), (22, .bool r_2), (23, .bool (!r_2)), (24, .bool (!r_2))]) (L' := fun _ _ => [box b_1 24 [.one (.int .i64 0), .one (.int .i64 0), .one (.int .i64 0), .one (.int .i64 0), .one (SV.v ⟨none, 0, 0⟩)]]) 4 ?_ ?_
  · refine TL.ifb (t := 24) (b := (!r_2)) rfl (fun c1 => ?_) (fun c2 => ?_)
    · refine TL.skip rfl rfl (by decide) ?_
      refine TL.skip rfl rfl (by decide) ?_
      refine TL.skip rfl rfl (by decide) ?_
      refine TL.pick rfl rfl (b := true) rfl (r := .bool true) rfl ?_
      refine TL.done ?_
      exact TC.nrm (true) () ⟨rfl, rfl, rfl, rfl, rfl, rfl, rfl, rfl, rfl, rfl, rfl, rfl, rfl, rfl, rfl, rfl, rfl, (by rw [c1]; rfl), trivial⟩ [0] rfl
    · refine TL.move rfl rfl (v := .int .i64 x4) rfl ?_
      refine TL.call (R := G.impl_endsOk.R) Try.call51 rfl rfl rfl (fun w hS => G.impl_endsOk.calls w x4) ?_
      rintro r_3 _ _ ⟨rfl, rfl⟩
      refine TL.not r_3 rfl rfl rfl ?_
      refine TL.pick rfl rfl (b := false) rfl (r := .bool (!r_3)) rfl ?_
      refine TL.done ?_
      exact TC.nrm ((!r_3)) () ⟨rfl, rfl, rfl, rfl, rfl, rfl, rfl, rfl, rfl, rfl, rfl, rfl, rfl, rfl, rfl, rfl, rfl, (by rw [c2]; rfl), trivial⟩ [0] rfl
  · rintro b_2 _
    refine TL.move rfl rfl (v := .bool b_2) rfl ?_
    refine TL.cutU 3 [(32, .bool (b_2 || (decide (r_1 > 1296)))), (0, .int .i64 x1), (1, .int .i64 x2), (2, .int .i64 x3), (3, .int .i64 x4), (4, .func (.func f1) fst1.toArray cap1.toArray), (10, bp b_1 0), (11, .int .i64 0), (16, .int .i64 x2), (17, .int .i64 x3), (18, .int .i64 x4), (19, .int .i64 (w64 (x3 + x4))), (20, .int .i64 r_1), (12, .int .i64 r_1), (21, .int .i64 x3), (22, .bool r_2), (23, .bool (!r_2)), (24, .bool (!r_2)), (28, .bool b_2), (29, .bool b_2)] [box b_1 24 [.one (.int .i64 0), .one (.int .i64 0), .one (.int .i64 0), .one (.int .i64 0), .one (SV.v ⟨none, 0, 0⟩)]] ?_ ?_
    · refine TL.cases (t := 29) (b := b_2) rfl (fun c3 => ?_) (fun c4 => ?_)
      · refine TL.skip rfl rfl (by decide) ?_
        refine TL.skip rfl rfl (by decide) ?_
        refine TL.pick rfl rfl (b := true) rfl (r := .bool true) rfl ?_
        refine TL.done ?_
        exact TC.nrm () () ⟨(by rw [c3]; rfl), rfl, rfl, rfl, rfl, rfl, rfl, rfl, rfl, rfl, rfl, rfl, rfl, rfl, rfl, rfl, rfl, rfl, rfl, (by rw [c3]; rfl), trivial⟩ [0] rfl
      · refine TL.move rfl rfl (v := .int .i64 r_1) rfl ?_
        refine TL.bin .i64 r_1 1296 rfl rfl rfl rfl (v := .bool (decide (r_1 > 1296))) rfl ?_
        refine TL.pick rfl rfl (b := false) rfl (r := .bool (decide (r_1 > 1296))) rfl ?_
        refine TL.done ?_
        exact TC.nrm () () ⟨(by rw [c4]; rfl), rfl, rfl, rfl, rfl, rfl, rfl, rfl, rfl, rfl, rfl, rfl, rfl, rfl, rfl, rfl, rfl, rfl, rfl, (by rw [c4]; rfl), trivial⟩ [0] rfl
    · refine TL.done ?_
      refine TC.cond (b := (b_2 || (decide (r_1 > 1296)))) rfl (fun c5 => ?_) (fun c6 => ?_)
      · refine TC.seq ?_
        refine TC.region ?_
        refine TL.buildS (segs0 := [.one (.int .i64 0), .one (.int .i64 0), .one (.int .i64 0), .one (.int .i64 0), .one (SV.v ⟨none, 0, 0⟩)]) (segs := [.one (.int .i64 0), .one (.int .i64 0), .one (.int .i64 0), .one (.int .i64 0), .one (SV.v ⟨none, 0, 0⟩)]) [1, 1, 1, 1, 1] Try.underlying24 ⟨Try.sizeOf2, Try.sizeOf2, Try.sizeOf2, Try.sizeOf2, Try.sizeOf22, trivial⟩ Try.zeroValue24 rfl [] rfl (fun pl hpl => by subst hpl; exact rfl) rfl rfl ?_
        refine TL.stM (news := [.one (.int .i64 0), .one (.int .i64 0), .one (.int .i64 0), .one (.int .i64 0), .one (SV.v ⟨none, 0, 0⟩)]) 0 0 5 rfl Try.sizeOf24 (ones_one rfl (ones_one rfl (ones_one rfl (ones_one rfl (ones_one rfl ones_nil))))) rfl rfl rfl rfl rfl rfl ?_
        refine TL.assign rfl rfl (v := .int .i64 3) rfl ?_
        refine TL.done ?_
        refine TC.nilrow Ei 2 ?_
        exact TC.retF (Fin.body (fin2 (.inr rfl) rfl (.cellN rfl (Src.box 1 rfl) Try.isAgg24 Try.sizeOf24 rfl) (.tmp rfl) [0] rfl ⟨⟨none, 0, 0⟩, rfl, rfl⟩))
      · refine TC.skip ?_
        refine TC.seq ?_
        refine TC.region ?_
        refine TL.move rfl rfl (v := .int .i64 x1) rfl ?_
        refine TL.move rfl rfl (v := .int .i64 x2) rfl ?_
        refine TL.move rfl rfl (v := .int .i64 x3) rfl ?_
        refine TL.move rfl rfl (v := .int .i64 x4) rfl ?_
        refine TL.buildS (segs0 := [.one (.int .i64 0), .one (.int .i64 0), .one (.int .i64 0), .one (.int .i64 0), .one (SV.v ⟨none, 0, 0⟩)]) (segs := [.one (.int .i64 x1), .one (.int .i64 x2), .one (.int .i64 x3), .one (.int .i64 x4), .one (SV.v ⟨none, 0, 0⟩)]) [1, 1, 1, 1, 1] Try.underlying24 ⟨Try.sizeOf2, Try.sizeOf2, Try.sizeOf2, Try.sizeOf2, Try.sizeOf22, trivial⟩ Try.zeroValue24 rfl [(0, .int .i64 x1), (1, .int .i64 x2), (2, .int .i64 x3), (3, .int .i64 x4)] rfl (fun pl hpl => by subst hpl; exact fill_one 0 rfl rfl rfl rfl (fill_one 1 rfl rfl rfl rfl (fill_one 2 rfl rfl rfl rfl (fill_one 3 rfl rfl rfl rfl (rfl))))) rfl rfl ?_
        refine TL.alloc [.one (.int .i64 0), .one (.int .i64 0), .one (.int .i64 0), .one (.int .i64 0), .one (SV.v ⟨none, 0, 0⟩)] rfl rfl Try.zeroValue24 rfl fun b_3 => ?_
        refine TL.stM (news := [.one (.int .i64 x1), .one (.int .i64 x2), .one (.int .i64 x3), .one (.int .i64 x4), .one (SV.v ⟨none, 0, 0⟩)]) 0 0 5 rfl Try.sizeOf24 (ones_one rfl (ones_one rfl (ones_one rfl (ones_one rfl (ones_one rfl ones_nil))))) rfl rfl rfl rfl rfl rfl ?_
        refine TL.done ?_
        refine TC.seq ?_
        refine TC.seq ?_
        refine TC.region ?_
        refine TL.move rfl rfl (v := .int .i64 r_1) rfl ?_
        refine TL.move rfl rfl (v := .int .i64 0) rfl ?_
        refine TL.done ?_
        refine TC.nilrow Ei 2 ?_
        refine TC.loop1 (σ := (List Int) × Int) (γ := SV) (Γ' := (fun p q => match p, q with | (y1, x6), s1 => [(0, .int .i64 x1), (1, .int .i64 x2), (2, .int .i64 x3), (3, .int .i64 x4), (4, .func (.func f1) fst1.toArray cap1.toArray), (10, bp b_1 0), (13, bp b_3 0), (39, .int .i64 r_1), (40, .int .i64 x6)])) (L' := (fun p q => match p, q with | (y1, x6), s1 => [box b_1 24 [.one (.int .i64 0), .one (.int .i64 0), .one (.int .i64 0), .one (.int .i64 0), .one (SV.v ⟨none, 0, 0⟩)], box b_3 24 [.one (.int .i64 x1), .one (.int .i64 x2), .one (.int .i64 x3), .one (.int .i64 x4), .one (SV.v s1)], row Ei 2 s1 y1])) (Γb := (fun p q => match p, q with | (y1, x6), s1 => [(0, .int .i64 x1), (1, .int .i64 x2), (2, .int .i64 x3), (3, .int .i64 x4), (4, .func (.func f1) fst1.toArray cap1.toArray), (10, bp b_1 0), (13, bp b_3 0), (39, .int .i64 r_1), (40, .int .i64 x6)])) (Lb := (fun p q => match p, q with | (y1, x6), s1 => [box b_1 24 [.one (.int .i64 0), .one (.int .i64 0), .one (.int .i64 0), .one (.int .i64 0), .one (SV.v ⟨none, 0, 0⟩)], box b_3 24 [.one (.int .i64 x1), .one (.int .i64 x2), .one (.int .i64 x3), .one (.int .i64 x4), .one (SV.v s1)], row Ei 2 s1 y1])) ((([] : List Int), 0)) (⟨none, 0, 0⟩) ⟨rfl, rfl, rfl, rfl, rfl, rfl, rfl, rfl, rfl, trivial⟩ [2, 1, 0] rfl ?_ ?_
        · rintro ⟨y1, x6⟩ s1
          refine TC.seq ?_
          refine TC.region ?_
          refine TL.bin .i64 x6 r_1 rfl rfl rfl rfl (v := .bool (decide (x6 < r_1))) rfl ?_
          refine TL.done ?_
          refine TC.seq ?_
          refine TC.cond (b := (decide (x6 < r_1))) rfl (fun c7 => ?_) (fun c8 => ?_)
          · refine TC.skip ?_
            refine TC.seq ?_
            refine TC.block (NoEx.loop1 rfl) ?_
            refine TC.seq ?_
            refine TC.region ?_
            refine TL.move rfl rfl (v := .int .i64 x6) rfl ?_
            refine TL.assign rfl rfl (v := .int .i64 x6) rfl ?_
            refine TL.done ?_
            refine TC.seq ?_
            refine TC.region ?_
            refine TL.move rfl rfl (v := .int .i64 x6) rfl ?_
            refine TL.move rfl rfl (v := .int .i64 x2) rfl ?_
            refine TL.move rfl rfl (v := .int .i64 x3) rfl ?_
            refine TL.move rfl rfl (v := .int .i64 x4) rfl ?_
            refine TL.bin .i64 x3 x4 rfl rfl rfl rfl (v := .int .i64 (w64 (x3 + x4))) rfl ?_
            refine TL.call (R := G.impl_digits.R) Try.call69 rfl rfl rfl (fun w hS => G.impl_digits.calls w x6 x2 (w64 (x3 + x4))) ?_
            rintro r_4 _ _ ⟨s2, rfl, rfl⟩
            refine TL.assign rfl rfl (v := SV.v s2) rfl ?_
            refine TL.done ?_
            refine TC.wk (Γ' := [(0, .int .i64 x1), (1, .int .i64 x2), (2, .int .i64 x3), (3, .int .i64 x4), (4, .func (.func f1) fst1.toArray cap1.toArray), (10, bp b_1 0), (13, bp b_3 0), (39, .int .i64 r_1), (40, .int .i64 x6), (41, .bool (decide (x6 < r_1))), (42, .int .i64 x6), (14, .int .i64 x6), (43, .int .i64 x6), (44, .int .i64 x2), (45, .int .i64 x3), (46, .int .i64 x4), (47, .int .i64 (w64 (x3 + x4))), (48, SV.v s2), (15, SV.v s2)]) ⟨rfl, rfl, rfl, rfl, rfl, rfl, rfl, rfl, rfl, rfl, rfl, rfl, rfl, rfl, rfl, rfl, rfl, rfl, rfl, trivial⟩ ?_
            refine TC.grd fun h1 => ?_
            refine TC.grd fun h2 => ?_
            refine TC.bindE ?_
            rintro r_5 hr1
            refine TC.bindE ?_
            rintro r_6 hr2
            refine TC.small fun h3 => ?_
            refine TC.drawG [(0, .int .i64 x1), (1, .int .i64 x2), (2, .int .i64 x3), (3, .int .i64 x4), (4, .func (.func f1) fst1.toArray cap1.toArray), (10, bp b_1 0), (13, bp b_3 0), (39, .int .i64 r_1), (40, .int .i64 x6), (41, .bool (decide (x6 < r_1))), (42, .int .i64 x6), (14, .int .i64 x6), (43, .int .i64 x6), (44, .int .i64 x2), (45, .int .i64 x3), (46, .int .i64 x4), (47, .int .i64 (w64 (x3 + x4))), (48, SV.v s2), (15, SV.v s2)] [] ⟨rfl, rfl, rfl, rfl, rfl, rfl, rfl, rfl, rfl, rfl, rfl, rfl, rfl, rfl, rfl, rfl, rfl, rfl, rfl, trivial⟩ trivial (fun l_ g1 => [row Ei 2 s2 r_4, box b_1 24 [.one (.int .i64 0), .one (.int .i64 0), .one (.int .i64 0), .one (.int .i64 0), .one (SV.v ⟨none, 0, 0⟩)], (bif nb l_ 15 then box b_3 24 [.one (.int .i64 x1), .one (.int .i64 x2), .one (.int .i64 x3), .one (.int .i64 x4), .one (SV.v (gs (g1 104)))] else box b_3 24 [.one (.int .i64 x1), .one (.int .i64 x2), .one (.int .i64 x3), .one (.int .i64 x4), .one (SV.v s1)]), (bif nb l_ 13 then row Ei 2 (gs (g1 104)) (y1 ++ ([r_6] : List Int)) else row Ei 2 s1 y1), (bif nb l_ 12 then row Ei 2 (gs (g1 96)) ([r_6] : List Int) else emp)]) (fun g1 => [bp b_3 4, SV.v s1, .func (.func f1) fst1.toArray cap1.toArray, SV.v s2, .int .i64 x3, SV.v (SV.cut s2 0 x3.toNat s2.c Ei.sz), SV.v s2, .int .i64 x3, SV.v (SV.cut s2 x3.toNat r_4.length s2.c Ei.sz), .int .i64 r_5, .int .i64 x1, .int .i64 r_6, SV.v (gs (g1 96)), SV.v (gs (g1 104)), bp b_3 4, undef]) [[], [0], [], [], [], [3, 4], [], [], [6, 7], [2, 3, 4, 5, 6, 7, 8], [], [2, 3, 4, 5, 6, 7, 8, 9, 10], [2, 3, 4, 5, 6, 7, 8, 9, 10, 11], [0, 1, 2, 3, 4, 5, 6, 7, 8, 9, 10, 11, 12], [0, 1, 2, 3, 4, 5, 6, 7, 8, 9, 10, 11, 12, 13], [0, 1, 2, 3, 4, 5, 6, 7, 8, 9, 10, 11, 12, 13, 14]] [[some false, some false, none, none, none, none, none, none, none, none, none, none, none, some false, some false, some false], [some true, some false, none, none, none, none, none, none, none, none, none, none, none, some false, some false, some false], [none, none, some false, none, none, none, none, none, none, some false, none, some false, some false, some false, some false, some false], [none, none, none, some false, none, some false, none, none, none, some false, none, some false, some false, some false, some false, some false], [none, none, none, none, some false, some false, none, none, none, some false, none, some false, some false, some false, some false, some false], [none, none, none, some true, some true, some false, none, none, none, some false, none, some false, some false, some false, some false, some false], [none, none, none, none, none, none, some false, none, some false, some false, none, some false, some false, some false, some false, some false], [none, none, none, none, none, none, none, some false, some false, some false, none, some false, some false, some false, some false, some false], [none, none, none, none, none, none, some true, some true, some false, some false, none, some false, some false, some false, some false, some false], [none, none, some true, some true, some true, some true, some true, some true, some true, some false, none, some false, some false, some false, some false, some false], [none, none, none, none, none, none, none, none, none, none, some false, some false, some false, some false, some false, some false], [none, none, some true, some true, some true, some true, some true, some true, some true, some true, some true, some false, some false, some false, some false, some false], [none, none, some true, some true, some true, some true, some true, some true, some true, some true, some true, some true, some false, some false, some false, some false], [some true, some true, some true, some true, some true, some true, some true, some true, some true, some true, some true, some true, some true, some false, some false, some false], [some true, some true, some true, some true, some true, some true, some true, some true, some true, some true, some true, some true, some true, some true, some false, some false], [some true, some true, some true, some true, some true, some true, some true, some true, some true, some true, some true, some true, some true, some true, some true, some false]] (by kernel_rfl) (fun _ => rfl) rfl rfl rfl rfl rfl (fun _ _ => ⟨⟨⟨⟨⟨⟨⟨⟨⟨⟨⟨⟨⟨⟨⟨⟨trivial, rfl⟩, rfl⟩, rfl⟩, rfl⟩, rfl⟩, rfl⟩, rfl⟩, rfl⟩, rfl⟩, rfl⟩, rfl⟩, rfl⟩, rfl⟩, rfl⟩, rfl⟩, rfl⟩) 1 [1, 1, 1, 1, 0] (fun _ => rfl) ?_ ?_
            · refine ⟨rfl, ?_, rfl, ?_, rfl, ?_, rfl, ?_, rfl, ?_, rfl, ?_, rfl, ?_, rfl, ?_, rfl, ?_, rfl, ?_, rfl, ?_, rfl, ?_, rfl, ?_, rfl, ?_, rfl, ?_, rfl, ?_, trivial⟩
              · intro b2_ b3_ b4_ b5_ b6_ b7_ b8_ b9_ b10_ b11_ b12_ g1
                refine TL.asL [row Ei 2 s2 r_4, box b_1 24 [.one (.int .i64 0), .one (.int .i64 0), .one (.int .i64 0), .one (.int .i64 0), .one (SV.v ⟨none, 0, 0⟩)], box b_3 24 [.one (.int .i64 x1), .one (.int .i64 x2), .one (.int .i64 x3), .one (.int .i64 x4), .one (SV.v s1)], row Ei 2 s1 y1, (bif b12_ then row Ei 2 (gs (g1 96)) ([r_6] : List Int) else emp)] rfl ?_
                refine TL.fa Try.underlying24 rfl Try.sizeOf22 rfl 4 rfl rfl rfl rfl ?_
                refine TL.done ?_
                exact TC.nrm () [] ⟨rfl, trivial⟩ [0, 0, 0, 0, 0] rfl
              · intro b2_ b3_ b4_ b5_ b6_ b7_ b8_ b9_ b10_ b11_ b12_ g1
                refine TL.asL [row Ei 2 s2 r_4, box b_1 24 [.one (.int .i64 0), .one (.int .i64 0), .one (.int .i64 0), .one (.int .i64 0), .one (SV.v ⟨none, 0, 0⟩)], box b_3 24 [.one (.int .i64 x1), .one (.int .i64 x2), .one (.int .i64 x3), .one (.int .i64 x4), .one (SV.v s1)], row Ei 2 s1 y1, (bif b12_ then row Ei 2 (gs (g1 96)) ([r_6] : List Int) else emp)] rfl ?_
                refine TL.load1 4 (Src.box 2 rfl) Try.isAgg22 rfl rfl rfl rfl rfl ?_
                refine TL.done ?_
                exact TC.nrm () [] ⟨rfl, trivial⟩ [0, 0, 0, 0, 0] rfl
              · intro b0_ b1_ b3_ b4_ b5_ b6_ b7_ b8_ b10_ g1
                refine TL.move rfl rfl (v := .func (.func f1) fst1.toArray cap1.toArray) rfl ?_
                refine TL.done ?_
                exact TC.nrm () [] ⟨rfl, trivial⟩ [0, 0, 0, 0, 0] rfl
              · intro b0_ b1_ b2_ b4_ b6_ b7_ b8_ b10_ g1
                refine TL.move rfl rfl (v := SV.v s2) rfl ?_
                refine TL.done ?_
                exact TC.nrm () [] ⟨rfl, trivial⟩ [0, 0, 0, 0, 0] rfl
              · intro b0_ b1_ b2_ b3_ b6_ b7_ b8_ b10_ g1
                refine TL.move rfl rfl (v := .int .i64 x3) rfl ?_
                refine TL.done ?_
                exact TC.nrm () [] ⟨rfl, trivial⟩ [0, 0, 0, 0, 0] rfl
              · intro b0_ b1_ b2_ b6_ b7_ b8_ b10_ g1
                refine TL.asL [row Ei 2 s2 r_4, box b_1 24 [.one (.int .i64 0), .one (.int .i64 0), .one (.int .i64 0), .one (.int .i64 0), .one (SV.v ⟨none, 0, 0⟩)], box b_3 24 [.one (.int .i64 x1), .one (.int .i64 x2), .one (.int .i64 x3), .one (.int .i64 x4), .one (SV.v s1)], row Ei 2 s1 y1, emp] rfl ?_
                refine TL.slice (li := none) (hi' := (some x3)) (l := 0) (h := x3.toNat) (Rd.row 0 rfl) Try.underlying22 Try.sizeOf2 rfl rfl (by have h_ := h1; simp only [Bool.and_eq_true, decide_eq_true_eq] at h_; first | rfl | omega | (simp only [Option.getD_none, Option.getD_some]; omega)) (by have h_ := h1; simp only [Bool.and_eq_true, decide_eq_true_eq] at h_; first | rfl | omega | (simp only [Option.getD_none, Option.getD_some]; omega)) (by have h_ := h1; simp only [Bool.and_eq_true, decide_eq_true_eq] at h_; omega) (by have h_ := h1; simp only [Bool.and_eq_true, decide_eq_true_eq] at h_; omega) rfl rfl rfl ?_
                refine TL.done ?_
                exact TC.nrm () [] ⟨rfl, trivial⟩ [0, 0, 0, 0, 0] rfl
              · intro b0_ b1_ b2_ b3_ b4_ b5_ b7_ b10_ g1
                refine TL.move rfl rfl (v := SV.v s2) rfl ?_
                refine TL.done ?_
                exact TC.nrm () [] ⟨rfl, trivial⟩ [0, 0, 0, 0, 0] rfl
              · intro b0_ b1_ b2_ b3_ b4_ b5_ b6_ b10_ g1
                refine TL.move rfl rfl (v := .int .i64 x3) rfl ?_
                refine TL.done ?_
                exact TC.nrm () [] ⟨rfl, trivial⟩ [0, 0, 0, 0, 0] rfl
              · intro b0_ b1_ b2_ b3_ b4_ b5_ b10_ g1
                refine TL.asL [row Ei 2 s2 r_4, box b_1 24 [.one (.int .i64 0), .one (.int .i64 0), .one (.int .i64 0), .one (.int .i64 0), .one (SV.v ⟨none, 0, 0⟩)], box b_3 24 [.one (.int .i64 x1), .one (.int .i64 x2), .one (.int .i64 x3), .one (.int .i64 x4), .one (SV.v s1)], row Ei 2 s1 y1, emp] rfl ?_
                refine TL.slice (li := (some x3)) (hi' := none) (l := x3.toNat) (h := r_4.length) (Rd.row 0 rfl) Try.underlying22 Try.sizeOf2 rfl rfl (by have h_ := h2; simp only [Bool.and_eq_true, decide_eq_true_eq] at h_; first | rfl | omega | (simp only [Option.getD_none, Option.getD_some]; omega)) (by have h_ := h2; simp only [Bool.and_eq_true, decide_eq_true_eq] at h_; first | rfl | omega | (simp only [Option.getD_none, Option.getD_some]; omega)) (by have h_ := h2; simp only [Bool.and_eq_true, decide_eq_true_eq] at h_; omega) (by have h_ := h2; simp only [Bool.and_eq_true, decide_eq_true_eq] at h_; omega) rfl rfl rfl ?_
                refine TL.done ?_
                exact TC.nrm () [] ⟨rfl, trivial⟩ [0, 0, 0, 0, 0] rfl
              · intro b0_ b1_ b10_ g1
                refine TL.asL [row Ei 2 s2 r_4, box b_1 24 [.one (.int .i64 0), .one (.int .i64 0), .one (.int .i64 0), .one (.int .i64 0), .one (SV.v ⟨none, 0, 0⟩)], box b_3 24 [.one (.int .i64 x1), .one (.int .i64 x2), .one (.int .i64 x3), .one (.int .i64 x4), .one (SV.v s1)], row Ei 2 s1 y1, emp] rfl ?_
                refine TL.callvH (R := (fun r_ => (fun (v_ : Value) (L_ : List Asn) => v_ = .int .i64 r_ ∧ L_ = []))) hr1 (vs := [SV.v (SV.cut s2 0 x3.toNat s2.c Ei.sz), SV.v (SV.cut s2 x3.toNat r_4.length s2.c Ei.sz)]) hc1 rfl rfl rfl rfl (fun w hS => hf1 w hS.iw (SV.cut s2 0 x3.toNat s2.c Ei.sz) ((r_4.drop 0).take (x3.toNat - 0)) (SV.cut s2 x3.toNat r_4.length s2.c Ei.sz) ((r_4.drop x3.toNat).take (r_4.length - x3.toNat)) ((Rd.cut (Rd.row 0 rfl) (by have h_ := h1; simp only [Bool.and_eq_true, decide_eq_true_eq] at h_; omega) (by have h_ := h1; simp only [Bool.and_eq_true, decide_eq_true_eq] at h_; omega)) w hS) ((Rd.cut (Rd.row 0 rfl) (by have h_ := h2; simp only [Bool.and_eq_true, decide_eq_true_eq] at h_; omega) (by have h_ := h2; simp only [Bool.and_eq_true, decide_eq_true_eq] at h_; omega)) w hS)) ?_
                rintro _ _ ⟨rfl, rfl⟩
                refine TL.done ?_
                exact TC.nrm () [] ⟨rfl, trivial⟩ [0, 0, 0, 0, 0] rfl
              · intro b0_ b1_ b2_ b3_ b4_ b5_ b6_ b7_ b8_ b9_ g1
                refine TL.move rfl rfl (v := .int .i64 x1) rfl ?_
                refine TL.done ?_
                exact TC.nrm () [] ⟨rfl, trivial⟩ [0, 0, 0, 0, 0] rfl
              · intro b0_ b1_ g1
                refine TL.asL [row Ei 2 s2 r_4, box b_1 24 [.one (.int .i64 0), .one (.int .i64 0), .one (.int .i64 0), .one (.int .i64 0), .one (SV.v ⟨none, 0, 0⟩)], box b_3 24 [.one (.int .i64 x1), .one (.int .i64 x2), .one (.int .i64 x3), .one (.int .i64 x4), .one (SV.v s1)], row Ei 2 s1 y1, emp] rfl ?_
                refine TL.callH (R := G.impl_rest.R) hr2 Try.call88 rfl rfl rfl (fun w hS => G.impl_rest.calls w r_5 x1) ?_
                rintro _ _ ⟨rfl, rfl⟩
                refine TL.done ?_
                exact TC.nrm () [] ⟨rfl, trivial⟩ [0, 0, 0, 0, 0] rfl
              · intro b0_ b1_ g1
                refine TL.asL [row Ei 2 s2 r_4, box b_1 24 [.one (.int .i64 0), .one (.int .i64 0), .one (.int .i64 0), .one (.int .i64 0), .one (SV.v ⟨none, 0, 0⟩)], box b_3 24 [.one (.int .i64 x1), .one (.int .i64 x2), .one (.int .i64 x3), .one (.int .i64 x4), .one (SV.v s1)], row Ei 2 s1 y1, emp] rfl ?_
                refine TL.blit Ei ([r_6] : List Int) Try.underlying22 Try.sizeOf2 Try.zeroValue2 rfl rfl rfl [(0, .int .i64 r_6)] rfl ⟨rfl, rfl, trivial⟩ rfl rfl fun s3 => ?_
                refine TL.done ?_
                exact TC.nrm () [[s3]] ⟨rfl, trivial⟩ [1, 1, 1, 1, 0] rfl
              · intro g1
                refine TL.asL [row Ei 2 s2 r_4, box b_1 24 [.one (.int .i64 0), .one (.int .i64 0), .one (.int .i64 0), .one (.int .i64 0), .one (SV.v ⟨none, 0, 0⟩)], box b_3 24 [.one (.int .i64 x1), .one (.int .i64 x2), .one (.int .i64 x3), .one (.int .i64 x4), .one (SV.v s1)], row Ei 2 s1 y1, row Ei 2 (gs (g1 96)) ([r_6] : List Int)] rfl ?_
                refine TL.append 3 rfl (Rd.row 4 rfl) Try.underlying22 (info_of Try.type2) (zv := (Try.t2.zero.getD (.bool false))) rfl rfl rfl (by decide) h3 rfl rfl rfl rfl fun s4 => ?_
                refine TL.done ?_
                exact TC.nrm () [[s4]] ⟨rfl, trivial⟩ [0, 0, 0, 0, 0] rfl
              · intro g1
                refine TL.asL [row Ei 2 s2 r_4, box b_1 24 [.one (.int .i64 0), .one (.int .i64 0), .one (.int .i64 0), .one (.int .i64 0), .one (SV.v ⟨none, 0, 0⟩)], box b_3 24 [.one (.int .i64 x1), .one (.int .i64 x2), .one (.int .i64 x3), .one (.int .i64 x4), .one (SV.v s1)], row Ei 2 (gs (g1 104)) (y1 ++ ([r_6] : List Int)), row Ei 2 (gs (g1 96)) ([r_6] : List Int)] rfl ?_
                refine TL.fa Try.underlying24 rfl Try.sizeOf22 rfl 4 rfl rfl rfl rfl ?_
                refine TL.done ?_
                exact TC.nrm () [] ⟨rfl, trivial⟩ [0, 0, 0, 0, 0] rfl
              · intro g1
                refine TL.asL [row Ei 2 s2 r_4, box b_1 24 [.one (.int .i64 0), .one (.int .i64 0), .one (.int .i64 0), .one (.int .i64 0), .one (SV.v ⟨none, 0, 0⟩)], box b_3 24 [.one (.int .i64 x1), .one (.int .i64 x2), .one (.int .i64 x3), .one (.int .i64 x4), .one (SV.v s1)], row Ei 2 (gs (g1 104)) (y1 ++ ([r_6] : List Int)), row Ei 2 (gs (g1 96)) ([r_6] : List Int)] rfl ?_
                refine TL.st1 2 4 rfl Try.sizeOf22 rfl rfl rfl rfl rfl rfl rfl ?_
                refine TL.done ?_
                exact TC.nrm () [] trivial [0, 0, 0, 0, 0] rfl
            · intro g1
              refine TC.asL [row Ei 2 s2 r_4, box b_1 24 [.one (.int .i64 0), .one (.int .i64 0), .one (.int .i64 0), .one (.int .i64 0), .one (SV.v ⟨none, 0, 0⟩)], box b_3 24 [.one (.int .i64 x1), .one (.int .i64 x2), .one (.int .i64 x3), .one (.int .i64 x4), .one (SV.v (gs (g1 104)))], row Ei 2 (gs (g1 104)) (y1 ++ ([r_6] : List Int)), row Ei 2 (gs (g1 96)) ([r_6] : List Int)] rfl ?_
              refine TC.region ?_
              refine TL.bin .i64 x6 1 rfl rfl rfl rfl (v := .int .i64 (w64 (x6 + 1))) rfl ?_
              refine TL.move rfl rfl (v := .int .i64 (w64 (x6 + 1))) rfl ?_
              refine TL.done ?_
              exact TC.next1 (((y1 ++ ([r_6] : List Int)), (w64 (x6 + 1)))) ((gs (g1 104))) ⟨rfl, rfl, rfl, rfl, rfl, rfl, rfl, rfl, rfl, trivial⟩ [1, 1, 1] rfl
          · exact TC.brk1 ((y1, x6)) (s1) ⟨rfl, rfl, rfl, rfl, rfl, rfl, rfl, rfl, rfl, trivial⟩ [0, 0, 0] rfl
        · rintro ⟨y1, x6⟩ s1
          refine TC.seq ?_
          refine TC.region ?_
          refine TL.loadM 0 5 (Src.box 1 rfl) Try.isAgg24 Try.sizeOf24 (mid := [.one (.int .i64 x1), .one (.int .i64 x2), .one (.int .i64 x3), .one (.int .i64 x4), .one (SV.v s1)]) rfl rfl rfl rfl rfl rfl ?_
          refine TL.stM (news := [.one (.int .i64 x1), .one (.int .i64 x2), .one (.int .i64 x3), .one (.int .i64 x4), .one (SV.v s1)]) 0 0 5 rfl Try.sizeOf24 (ones_one rfl (ones_one rfl (ones_one rfl (ones_one rfl (ones_one rfl ones_nil))))) rfl rfl rfl rfl rfl rfl ?_
          refine TL.assign rfl rfl (v := .int .i64 0) rfl ?_
          refine TL.done ?_
          exact TC.retF (Fin.body (fin2 (.inr rfl) rfl (.cellN rfl (Src.box 0 rfl) Try.isAgg24 Try.sizeOf24 rfl) (.tmp rfl) [2] rfl ⟨s1, rfl, rfl⟩))

end Go.Proofs.Ytjjfoofjipafiaa.G

/- impl.SwapTensor$1, as a pure function. -/
set_option linter.unusedVariables false
namespace Go.Proofs.Ytjjfoofjipafiaa.G
open Go Go.Sx Go.Proofs

def impl_SwapTensor_1.f (i1 : List Int) (j1 : List Int) : Option Int := (bif ((gt i1 0) == (gt j1 1)) then chk 0 i1.length (chk 1 j1.length (chk 1 i1.length (chk 0 j1.length ((bif ((gt i1 1) == (gt j1 0)) then some 1 else some 0))))) else chk 0 i1.length (chk 1 j1.length (some 0)))

def impl_SwapTensor_1.R (r : Int) (v : Value) (L : List Asn) : Prop := v = .int .i64 r ∧ L = []

set_option maxRecDepth 100000 in
set_option maxHeartbeats 4000000 in
theorem impl_SwapTensor_1.calls (w : World) (s1 : SV) (i1 : List Int) (s2 : SV) (j1 : List Int) (h1 : Reads Ei (hp w) s1 i1) (h2 : Reads Ei (hp w) s2 j1) :
    ∀ r, impl_SwapTensor_1.f i1 j1 = some r → Calls Try.prog 48 #[SV.v s1, SV.v s2] w (Ret w (impl_SwapTensor_1.R r)) := by

  refine calls_T (n := 21) (Γ := [(0, SV.v s1), (1, SV.v s2)]) (R := impl_SwapTensor_1.R) Try.func48 rfl rfl (Nat.le_of_ble_eq_true rfl) ⟨rfl, rfl, trivial⟩ ?_
  unfold impl_SwapTensor_1.f
  refine TC.seq ?_
  refine TC.region ?_
  refine TL.assign rfl rfl (v := .int .i64 0) rfl ?_
  refine TL.done ?_
  refine TC.seq ?_
  refine TC.seq ?_
  refine TC.ifB ((gt i1 0) == (gt j1 1)) (fun c1 => ?_) (fun c1 => ?_)
  · refine TC.wk (Γ' := [(0, SV.v s1), (1, SV.v s2), (4, .int .i64 0)]) ⟨rfl, rfl, rfl, trivial⟩ ?_
    refine TC.chk fun h5 => ?_
    refine TC.chk fun h6 => ?_
    refine TC.chk fun h7 => ?_
    refine TC.chk fun h8 => ?_
    refine TC.draw [SV.v s1, ep s1 0, .int .i64 (gt i1 0), SV.v s2, ep s2 1, .int .i64 (gt j1 1), .bool true, .bool true, SV.v s1, ep s1 1, .int .i64 (gt i1 1), SV.v s2, ep s2 0, .int .i64 (gt j1 0), .bool ((gt i1 1) == (gt j1 0)), .bool ((gt i1 1) == (gt j1 0))] 16 [] (by kernel_rfl) rfl rfl rfl rfl ?_ ?_
    · refine ⟨?_, ?_, ?_, ?_, ?_, ?_, ?_, ?_, ?_, ?_, ?_, ?_, ?_, ?_, ?_, ?_, trivial⟩
      · refine TL.move rfl rfl (v := SV.v s1) rfl ?_
        refine TL.done ?_
        exact TC.nrm () () ⟨rfl, trivial⟩ [] rfl
      · refine TL.ixs 0 0 (Rd.old h1) h5 Try.underlying22 Try.sizeOf2 rfl rfl rfl rfl rfl ?_
        refine TL.done ?_
        exact TC.nrm () () ⟨rfl, trivial⟩ [] rfl
      · refine TL.loadE (Rd.old h1) Try.isAgg2 0 0 (gt_spec h5) (v := .int .i64 (gt i1 0)) rfl rfl rfl rfl rfl ?_
        refine TL.done ?_
        exact TC.nrm () () ⟨rfl, trivial⟩ [] rfl
      · refine TL.move rfl rfl (v := SV.v s2) rfl ?_
        refine TL.done ?_
        exact TC.nrm () () ⟨rfl, trivial⟩ [] rfl
      · refine TL.ixs 1 1 (Rd.old h2) h6 Try.underlying22 Try.sizeOf2 rfl rfl rfl rfl rfl ?_
        refine TL.done ?_
        exact TC.nrm () () ⟨rfl, trivial⟩ [] rfl
      · refine TL.loadE (Rd.old h2) Try.isAgg2 1 0 (gt_spec h6) (v := .int .i64 (gt j1 1)) rfl rfl rfl rfl rfl ?_
        refine TL.done ?_
        exact TC.nrm () () ⟨rfl, trivial⟩ [] rfl
      · refine TL.bin .i64 (gt i1 0) (gt j1 1) rfl rfl rfl rfl (v := .bool ((gt i1 0) == (gt j1 1))) rfl ?_
        refine TL.done ?_
        exact TC.nrm () () ⟨(by rw [c1]; rfl), trivial⟩ [] rfl
      · refine TL.move rfl rfl (v := .bool true) rfl ?_
        refine TL.done ?_
        exact TC.nrm () () ⟨rfl, trivial⟩ [] rfl
      · refine TL.move rfl rfl (v := SV.v s1) rfl ?_
        refine TL.done ?_
        exact TC.nrm () () ⟨rfl, trivial⟩ [] rfl
      · refine TL.ixs 1 1 (Rd.old h1) h7 Try.underlying22 Try.sizeOf2 rfl rfl rfl rfl rfl ?_
        refine TL.done ?_
        exact TC.nrm () () ⟨rfl, trivial⟩ [] rfl
      · refine TL.loadE (Rd.old h1) Try.isAgg2 1 0 (gt_spec h7) (v := .int .i64 (gt i1 1)) rfl rfl rfl rfl rfl ?_
        refine TL.done ?_
        exact TC.nrm () () ⟨rfl, trivial⟩ [] rfl
      · refine TL.move rfl rfl (v := SV.v s2) rfl ?_
        refine TL.done ?_
        exact TC.nrm () () ⟨rfl, trivial⟩ [] rfl
      · refine TL.ixs 0 0 (Rd.old h2) h8 Try.underlying22 Try.sizeOf2 rfl rfl rfl rfl rfl ?_
        refine TL.done ?_
        exact TC.nrm () () ⟨rfl, trivial⟩ [] rfl
      · refine TL.loadE (Rd.old h2) Try.isAgg2 0 0 (gt_spec h8) (v := .int .i64 (gt j1 0)) rfl rfl rfl rfl rfl ?_
        refine TL.done ?_
        exact TC.nrm () () ⟨rfl, trivial⟩ [] rfl
      · refine TL.bin .i64 (gt i1 1) (gt j1 0) rfl rfl rfl rfl (v := .bool ((gt i1 1) == (gt j1 0))) rfl ?_
        refine TL.done ?_
        exact TC.nrm () () ⟨rfl, trivial⟩ [] rfl
      · refine TL.pick rfl rfl (b := true) rfl (r := .bool ((gt i1 1) == (gt j1 0))) rfl ?_
        refine TL.done ?_
        exact TC.nrm () () ⟨rfl, trivial⟩ [] rfl
    · refine TC.cond (b := ((gt i1 1) == (gt j1 0))) rfl (fun c2 => ?_) (fun c3 => ?_)
      · refine TC.seq ?_
        refine TC.region ?_
        refine TL.assign rfl rfl (v := .int .i64 1) rfl ?_
        refine TL.done ?_
        exact TC.retF (Fin.body (fin1 (.inr rfl) rfl (.tmp rfl) [] rfl ⟨rfl, rfl⟩))
      · refine TC.skip ?_
        refine TC.seq ?_
        refine TC.region ?_
        refine TL.assign rfl rfl (v := .int .i64 0) rfl ?_
        refine TL.done ?_
        exact TC.retF (Fin.body (fin1 (.inr rfl) rfl (.tmp rfl) [] rfl ⟨rfl, rfl⟩))
  · refine TC.wk (Γ' := [(0, SV.v s1), (1, SV.v s2), (4, .int .i64 0)]) ⟨rfl, rfl, rfl, trivial⟩ ?_
    refine TC.chk fun h9 => ?_
    refine TC.chk fun h10 => ?_
    refine TC.draw [SV.v s1, ep s1 0, .int .i64 (gt i1 0), SV.v s2, ep s2 1, .int .i64 (gt j1 1), .bool false, .bool false, undef, undef, undef, undef, undef, undef, undef, .bool false] 16 [] (by kernel_rfl) rfl rfl rfl rfl ?_ ?_
    · refine ⟨?_, ?_, ?_, ?_, ?_, ?_, ?_, ?_, ?_, ?_, ?_, ?_, ?_, ?_, ?_, ?_, trivial⟩
      · refine TL.move rfl rfl (v := SV.v s1) rfl ?_
        refine TL.done ?_
        exact TC.nrm () () ⟨rfl, trivial⟩ [] rfl
      · refine TL.ixs 0 0 (Rd.old h1) h9 Try.underlying22 Try.sizeOf2 rfl rfl rfl rfl rfl ?_
        refine TL.done ?_
        exact TC.nrm () () ⟨rfl, trivial⟩ [] rfl
      · refine TL.loadE (Rd.old h1) Try.isAgg2 0 0 (gt_spec h9) (v := .int .i64 (gt i1 0)) rfl rfl rfl rfl rfl ?_
        refine TL.done ?_
        exact TC.nrm () () ⟨rfl, trivial⟩ [] rfl
      · refine TL.move rfl rfl (v := SV.v s2) rfl ?_
        refine TL.done ?_
        exact TC.nrm () () ⟨rfl, trivial⟩ [] rfl
      · refine TL.ixs 1 1 (Rd.old h2) h10 Try.underlying22 Try.sizeOf2 rfl rfl rfl rfl rfl ?_
        refine TL.done ?_
        exact TC.nrm () () ⟨rfl, trivial⟩ [] rfl
      · refine TL.loadE (Rd.old h2) Try.isAgg2 1 0 (gt_spec h10) (v := .int .i64 (gt j1 1)) rfl rfl rfl rfl rfl ?_
        refine TL.done ?_
        exact TC.nrm () () ⟨rfl, trivial⟩ [] rfl
      · refine TL.bin .i64 (gt i1 0) (gt j1 1) rfl rfl rfl rfl (v := .bool ((gt i1 0) == (gt j1 1))) rfl ?_
        refine TL.done ?_
        exact TC.nrm () () ⟨(by rw [c1]; rfl), trivial⟩ [] rfl
      · refine TL.move rfl rfl (v := .bool false) rfl ?_
        refine TL.done ?_
        exact TC.nrm () () ⟨rfl, trivial⟩ [] rfl
      · refine TL.skip rfl rfl (by decide) ?_
        refine TL.done ?_
        exact TC.nrm () () ⟨rfl, trivial⟩ [] rfl
      · refine TL.skip rfl rfl (by decide) ?_
        refine TL.done ?_
        exact TC.nrm () () ⟨rfl, trivial⟩ [] rfl
      · refine TL.skip rfl rfl (by decide) ?_
        refine TL.done ?_
        exact TC.nrm () () ⟨rfl, trivial⟩ [] rfl
      · refine TL.skip rfl rfl (by decide) ?_
        refine TL.done ?_
        exact TC.nrm () () ⟨rfl, trivial⟩ [] rfl
      · refine TL.skip rfl rfl (by decide) ?_
        refine TL.done ?_
        exact TC.nrm () () ⟨rfl, trivial⟩ [] rfl
      · refine TL.skip rfl rfl (by decide) ?_
        refine TL.done ?_
        exact TC.nrm () () ⟨rfl, trivial⟩ [] rfl
      · refine TL.skip rfl rfl (by decide) ?_
        refine TL.done ?_
        exact TC.nrm () () ⟨rfl, trivial⟩ [] rfl
      · refine TL.pick rfl rfl (b := false) rfl (r := .bool false) rfl ?_
        refine TL.done ?_
        exact TC.nrm () () ⟨rfl, trivial⟩ [] rfl
    · refine TC.cond_false rfl ?_
      refine TC.skip ?_
      refine TC.seq ?_
      refine TC.region ?_
      refine TL.assign rfl rfl (v := .int .i64 0) rfl ?_
      refine TL.done ?_
      exact TC.retF (Fin.body (fin1 (.inr rfl) rfl (.tmp rfl) [] rfl ⟨rfl, rfl⟩))

end Go.Proofs.Ytjjfoofjipafiaa.G

/- impl.SwapTensor, as a pure function. -/
set_option linter.unusedVariables false
namespace Go.Proofs.Ytjjfoofjipafiaa.G
open Go Go.Sx Go.Proofs

def impl_SwapTensor.f (p1 : Int) (n_1 : Int) : Option (Int × Int × Int × Int × (List Int) × Int) := (G.impl_shapeOk.f p1 n_1).bind (fun r_1 => (bif (!r_1) then some (0, 0, 0, 0, ([] : List Int), 2) else (G.impl_tensor.f p1 n_1 2 2 G.impl_SwapTensor_1.f).bind (fun p => match p with | (r_2, r_3, r_4, r_5, r_6, r_7) => some (r_2, r_3, r_4, r_5, r_6, r_7))))

def impl_SwapTensor.R (r : Int × Int × Int × Int × (List Int) × Int) (v : Value) (L : List Asn) : Prop := ∃ (s0 : SV), v = .tuple #[sval [.one (.int .i64 r.1), .one (.int .i64 r.2.1), .one (.int .i64 r.2.2.1), .one (.int .i64 r.2.2.2.1), .one (SV.v s0)], .int .i64 r.2.2.2.2.2] ∧ L = [row Ei 2 s0 r.2.2.2.2.1]

set_option maxRecDepth 100000 in
set_option maxHeartbeats 4000000 in
theorem impl_SwapTensor.calls (w : World) (p1 : Int) (n_1 : Int) :
    ∀ r, impl_SwapTensor.f p1 n_1 = some r → Calls Try.prog 13 #[.int .i64 p1, .int .i64 n_1] w (Ret w (impl_SwapTensor.R r)) := by

  refine calls_T (n := 16) (Γ := [(0, .int .i64 p1), (1, .int .i64 n_1)]) (R := impl_SwapTensor.R) Try.func13 rfl rfl (Nat.le_of_ble_eq_true rfl) ⟨rfl, rfl, trivial⟩ ?_
  unfold impl_SwapTensor.f
  refine TC.seq ?_
  refine TC.region ?_
  refine TL.alloc [.one (.int .i64 0), .one (.int .i64 0), .one (.int .i64 0), .one (.int .i64 0), .one (SV.v ⟨none, 0, 0⟩)] rfl rfl Try.zeroValue24 rfl fun b_1 => ?_
  refine TL.assign rfl rfl (v := .int .i64 0) rfl ?_
  refine TL.done ?_
  refine TC.seq ?_
  refine TC.seq ?_
  refine TC.region ?_
  refine TL.move rfl rfl (v := .int .i64 p1) rfl ?_
  refine TL.move rfl rfl (v := .int .i64 n_1) rfl ?_
  refine TL.call (R := G.impl_shapeOk.R) Try.call46 rfl rfl rfl (fun w hS => G.impl_shapeOk.calls w p1 n_1) ?_
  rintro r_1 _ _ ⟨rfl, rfl⟩
  refine TL.not r_1 rfl rfl rfl ?_
  refine TL.done ?_
  refine TC.cond (b := (!r_1)) rfl (fun c1 => ?_) (fun c2 => ?_)
  · refine TC.seq ?_
    refine TC.region ?_
    refine TL.buildS (segs0 := [.one (.int .i64 0), .one (.int .i64 0), .one (.int .i64 0), .one (.int .i64 0), .one (SV.v ⟨none, 0, 0⟩)]) (segs := [.one (.int .i64 0), .one (.int .i64 0), .one (.int .i64 0), .one (.int .i64 0), .one (SV.v ⟨none, 0, 0⟩)]) [1, 1, 1, 1, 1] Try.underlying24 ⟨Try.sizeOf2, Try.sizeOf2, Try.sizeOf2, Try.sizeOf2, Try.sizeOf22, trivial⟩ Try.zeroValue24 rfl [] rfl (fun pl hpl => by subst hpl; exact rfl) rfl rfl ?_
    refine TL.stM (news := [.one (.int .i64 0), .one (.int .i64 0), .one (.int .i64 0), .one (.int .i64 0), .one (SV.v ⟨none, 0, 0⟩)]) 0 0 5 rfl Try.sizeOf24 (ones_one rfl (ones_one rfl (ones_one rfl (ones_one rfl (ones_one rfl ones_nil))))) rfl rfl rfl rfl rfl rfl ?_
    refine TL.assign rfl rfl (v := .int .i64 2) rfl ?_
    refine TL.done ?_
    refine TC.nilrow Ei 2 ?_
    exact TC.retF (Fin.body (fin2 (.inr rfl) rfl (.cellN rfl (Src.box 1 rfl) Try.isAgg24 Try.sizeOf24 rfl) (.tmp rfl) [0] rfl ⟨⟨none, 0, 0⟩, rfl, rfl⟩))
  · refine TC.skip ?_
    refine TC.seq ?_
    refine TC.region ?_
    refine TL.move rfl rfl (v := .int .i64 p1) rfl ?_
    refine TL.move rfl rfl (v := .int .i64 n_1) rfl ?_
    refine TL.call (R := G.impl_tensor.R) Try.call47 rfl rfl rfl (fun w hS => G.impl_tensor.calls w p1 n_1 2 2 48 [] [] G.impl_SwapTensor_1.f Try.call48 (fun w_ hle_ s1_ x0_ s2_ x1_ h0_ h1_ r_ hr_ => G.impl_SwapTensor_1.calls w_ s1_ x0_ s2_ x1_ h0_ h1_ r_ hr_)) ?_
    rintro ⟨r_2, r_3, r_4, r_5, r_6, r_7⟩ _ _ ⟨s1, rfl, rfl⟩
    refine TL.extract rfl rfl rfl (v := sval [.one (.int .i64 r_2), .one (.int .i64 r_3), .one (.int .i64 r_4), .one (.int .i64 r_5), .one (SV.v s1)]) rfl ?_
    refine TL.extract rfl rfl rfl (v := .int .i64 r_7) rfl ?_
    refine TL.stM (news := [.one (.int .i64 r_2), .one (.int .i64 r_3), .one (.int .i64 r_4), .one (.int .i64 r_5), .one (SV.v s1)]) 1 0 5 rfl Try.sizeOf24 (ones_one rfl (ones_one rfl (ones_one rfl (ones_one rfl (ones_one rfl ones_nil))))) rfl rfl rfl rfl rfl rfl ?_
    refine TL.assign rfl rfl (v := .int .i64 r_7) rfl ?_
    refine TL.done ?_
    exact TC.retF (Fin.body (fin2 (.inr rfl) rfl (.cellN rfl (Src.box 1 rfl) Try.isAgg24 Try.sizeOf24 rfl) (.tmp rfl) [0] rfl ⟨s1, rfl, rfl⟩))

end Go.Proofs.Ytjjfoofjipafiaa.G

/- laws.eqInt64S, as a pure function. -/
set_option linter.unusedVariables false
namespace Go.Proofs.Ytjjfoofjipafiaa.G
open Go Go.Sx Go.Proofs

def laws_eqInt64S.b0 (a_1 : List Int) (b_1 : List Int) : Int → Option (LR Int Bool) := fun i1 => (bif (decide (i1 < (a_1.length : Int))) then chk i1 a_1.length (chk i1 b_1.length ((bif ((gt a_1 i1) != (gt b_1 i1)) then some (.ret (false)) else some (.next (w64 (i1 + 1)))))) else some (.brk i1))

def laws_eqInt64S.f (a_1 : List Int) (b_1 : List Int) : Option Bool := (bif ((a_1.length : Int) != (b_1.length : Int)) then some false else (loop (laws_eqInt64S.b0 a_1 b_1) 0).bind (ln (fun i1 => some true)))

def laws_eqInt64S.R (r : Bool) (v : Value) (L : List Asn) : Prop := v = .bool r ∧ L = []

set_option maxRecDepth 100000 in
set_option maxHeartbeats 4000000 in
theorem laws_eqInt64S.calls (w : World) (s1 : SV) (a_1 : List Int) (s2 : SV) (b_1 : List Int) (h1 : Reads Ei (hp w) s1 a_1) (h2 : Reads Ei (hp w) s2 b_1) :
    ∀ r, laws_eqInt64S.f a_1 b_1 = some r → Calls Try.prog 33 #[SV.v s1, SV.v s2] w (Ret w (laws_eqInt64S.R r)) := by

  refine calls_T (n := 26) (Γ := [(0, SV.v s1), (1, SV.v s2)]) (R := laws_eqInt64S.R) Try.func33 rfl rfl (Nat.le_of_ble_eq_true rfl) ⟨rfl, rfl, trivial⟩ ?_
  unfold laws_eqInt64S.f
  refine TC.seq ?_
  refine TC.region ?_
  refine TL.assign rfl rfl (v := .bool false) rfl ?_
  refine TL.done ?_
  refine TC.seq ?_
  refine TC.seq ?_
  refine TC.region ?_
  refine TL.move rfl rfl (v := SV.v s1) rfl ?_
  refine TL.len (Rd.old h1) Try.underlying22 rfl rfl rfl ?_
  refine TL.move rfl rfl (v := SV.v s2) rfl ?_
  refine TL.len (Rd.old h2) Try.underlying22 rfl rfl rfl ?_
  refine TL.bin .i64 (a_1.length : Int) (b_1.length : Int) rfl rfl rfl rfl (v := .bool ((a_1.length : Int) != (b_1.length : Int))) rfl ?_
  refine TL.done ?_
  refine TC.cond (b := ((a_1.length : Int) != (b_1.length : Int))) rfl (fun c1 => ?_) (fun c2 => ?_)
  · refine TC.seq ?_
    refine TC.region ?_
    refine TL.assign rfl rfl (v := .bool false) rfl ?_
    refine TL.done ?_
    exact TC.retF (Fin.body (fin1 (.inr rfl) rfl (.tmp rfl) [] rfl ⟨rfl, rfl⟩))
  · refine TC.skip ?_
    refine TC.seq ?_
    refine TC.seq ?_
    refine TC.region ?_
    refine TL.assign rfl rfl (v := .int .i64 0) rfl ?_
    refine TL.done ?_
    refine TC.loopK (σ := Int) (γ := Unit) (Γ' := (fun i1 _ => [(0, SV.v s1), (1, SV.v s2), (5, .int .i64 i1)])) (L' := (fun i1 _ => [])) (Γb := (fun i1 _ => [(0, SV.v s1), (1, SV.v s2), (5, .int .i64 i1)])) (Lb := (fun i1 _ => [])) (0) (()) ⟨rfl, rfl, rfl, trivial⟩ [] rfl ?_ ?_
    · rintro i1 _
      refine TC.seq ?_
      refine TC.seq ?_
      refine TC.region ?_
      refine TL.move rfl rfl (v := .int .i64 i1) rfl ?_
      refine TL.move rfl rfl (v := SV.v s1) rfl ?_
      refine TL.len (Rd.old h1) Try.underlying22 rfl rfl rfl ?_
      refine TL.bin .i64 i1 (a_1.length : Int) rfl rfl rfl rfl (v := .bool (decide (i1 < (a_1.length : Int)))) rfl ?_
      refine TL.done ?_
      refine TC.cond (b := (decide (i1 < (a_1.length : Int)))) rfl (fun c3 => ?_) (fun c4 => ?_)
      · refine TC.skip ?_
        refine TC.seq ?_
        refine TC.block (NoEx.loop rfl NoEx.body) ?_
        refine TC.seq ?_
        refine TC.wk (Γ' := [(0, SV.v s1), (1, SV.v s2), (5, .int .i64 i1), (11, .int .i64 i1), (12, SV.v s1), (13, .int .i64 (a_1.length : Int)), (14, .bool (decide (i1 < (a_1.length : Int))))]) ⟨rfl, rfl, rfl, rfl, rfl, rfl, rfl, trivial⟩ ?_
        refine TC.chk fun h3 => ?_
        refine TC.chk fun h4 => ?_
        refine TC.draw [SV.v s1, .int .i64 i1, ep s1 i1.toNat, .int .i64 (gt a_1 i1), SV.v s2, .int .i64 i1, ep s2 i1.toNat, .int .i64 (gt b_1 i1), .bool ((gt a_1 i1) != (gt b_1 i1))] 9 [] (by kernel_rfl) rfl rfl rfl rfl ?_ ?_
        · refine ⟨?_, ?_, ?_, ?_, ?_, ?_, ?_, ?_, ?_, trivial⟩
          · refine TL.move rfl rfl (v := SV.v s1) rfl ?_
            refine TL.done ?_
            exact TC.nrm () () ⟨rfl, trivial⟩ [] rfl
          · refine TL.move rfl rfl (v := .int .i64 i1) rfl ?_
            refine TL.done ?_
            exact TC.nrm () () ⟨rfl, trivial⟩ [] rfl
          · refine TL.ixs i1 i1.toNat (Rd.old h1) h3 Try.underlying22 Try.sizeOf2 rfl rfl rfl rfl (by omega) ?_
            refine TL.done ?_
            exact TC.nrm () () ⟨rfl, trivial⟩ [] rfl
          · refine TL.loadE (Rd.old h1) Try.isAgg2 i1.toNat 0 (gt_spec h3) (v := .int .i64 (gt a_1 i1)) rfl (by simp only [show Ei.sz = 1 from rfl]; omega) rfl rfl rfl ?_
            refine TL.done ?_
            exact TC.nrm () () ⟨rfl, trivial⟩ [] rfl
          · refine TL.move rfl rfl (v := SV.v s2) rfl ?_
            refine TL.done ?_
            exact TC.nrm () () ⟨rfl, trivial⟩ [] rfl
          · refine TL.move rfl rfl (v := .int .i64 i1) rfl ?_
            refine TL.done ?_
            exact TC.nrm () () ⟨rfl, trivial⟩ [] rfl
          · refine TL.ixs i1 i1.toNat (Rd.old h2) h4 Try.underlying22 Try.sizeOf2 rfl rfl rfl rfl (by omega) ?_
            refine TL.done ?_
            exact TC.nrm () () ⟨rfl, trivial⟩ [] rfl
          · refine TL.loadE (Rd.old h2) Try.isAgg2 i1.toNat 0 (gt_spec h4) (v := .int .i64 (gt b_1 i1)) rfl (by simp only [show Ei.sz = 1 from rfl]; omega) rfl rfl rfl ?_
            refine TL.done ?_
            exact TC.nrm () () ⟨rfl, trivial⟩ [] rfl
          · refine TL.bin .i64 (gt a_1 i1) (gt b_1 i1) rfl rfl rfl rfl (v := .bool ((gt a_1 i1) != (gt b_1 i1))) rfl ?_
            refine TL.done ?_
            exact TC.nrm () () ⟨rfl, trivial⟩ [] rfl
        · refine TC.cond (b := ((gt a_1 i1) != (gt b_1 i1))) rfl (fun c5 => ?_) (fun c6 => ?_)
          · refine TC.seq ?_
            refine TC.region ?_
            refine TL.assign rfl rfl (v := .bool false) rfl ?_
            refine TL.done ?_
            exact TC.retF (Fin.loop Far.ret (Fin.body (fin1 (.inr rfl) rfl (.tmp rfl) [] rfl ⟨rfl, rfl⟩)))
          · refine TC.skip ?_
            refine TC.region ?_
            refine TL.move rfl rfl (v := .int .i64 i1) rfl ?_
            refine TL.bin .i64 i1 1 rfl rfl rfl rfl (v := .int .i64 (w64 (i1 + 1))) rfl ?_
            refine TL.assign rfl rfl (v := .int .i64 (w64 (i1 + 1))) rfl ?_
            refine TL.done ?_
            exact TC.next ((w64 (i1 + 1))) (()) ⟨rfl, rfl, rfl, trivial⟩ [] rfl
      · exact TC.brk (i1) (()) ⟨rfl, rfl, rfl, trivial⟩ [] rfl
    · rintro i1 _
      refine TC.seq ?_
      refine TC.region ?_
      refine TL.assign rfl rfl (v := .bool true) rfl ?_
      refine TL.done ?_
      exact TC.retF (Fin.body (fin1 (.inr rfl) rfl (.tmp rfl) [] rfl ⟨rfl, rfl⟩))

end Go.Proofs.Ytjjfoofjipafiaa.G

/- laws.eqTensor, as a pure function. -/
set_option linter.unusedVariables false
namespace Go.Proofs.Ytjjfoofjipafiaa.G
open Go Go.Sx Go.Proofs

def laws_eqTensor.f (a_1 : Int) (a_2 : Int) (a_3 : Int) (a_4 : Int) (a_5 : List Int) (b_1 : Int) (b_2 : Int) (b_3 : Int) (b_4 : Int) (b_5 : List Int) : Option Bool := (bif (a_1 != b_1) then some false else (bif (a_2 != b_2) then some false else (bif (a_3 != b_3) then some false else (bif (a_4 != b_4) then some false else (G.laws_eqInt64S.f a_5 b_5).bind (fun r_1 => (bif (!r_1) then some false else some true))))))

def laws_eqTensor.R (r : Bool) (v : Value) (L : List Asn) : Prop := v = .bool r ∧ L = []

set_option maxRecDepth 100000 in
set_option maxHeartbeats 4000000 in
theorem laws_eqTensor.calls (w : World) (a_1 : Int) (a_2 : Int) (a_3 : Int) (a_4 : Int) (s1 : SV) (a_5 : List Int) (b_1 : Int) (b_2 : Int) (b_3 : Int) (b_4 : Int) (s2 : SV) (b_5 : List Int) (h1 : Reads Ei (hp w) s1 a_5) (h2 : Reads Ei (hp w) s2 b_5) :
    ∀ r, laws_eqTensor.f a_1 a_2 a_3 a_4 a_5 b_1 b_2 b_3 b_4 b_5 = some r → Calls Try.prog 14 #[sval [.one (.int .i64 a_1), .one (.int .i64 a_2), .one (.int .i64 a_3), .one (.int .i64 a_4), .one (SV.v s1)], sval [.one (.int .i64 b_1), .one (.int .i64 b_2), .one (.int .i64 b_3), .one (.int .i64 b_4), .one (SV.v s2)]] w (Ret w (laws_eqTensor.R r)) := by

  refine calls_T (n := 31) (Γ := [(0, sval [.one (.int .i64 a_1), .one (.int .i64 a_2), .one (.int .i64 a_3), .one (.int .i64 a_4), .one (SV.v s1)]), (1, sval [.one (.int .i64 b_1), .one (.int .i64 b_2), .one (.int .i64 b_3), .one (.int .i64 b_4), .one (SV.v s2)])]) (R := laws_eqTensor.R) Try.func14 rfl rfl (Nat.le_of_ble_eq_true rfl) ⟨rfl, rfl, trivial⟩ ?_
  unfold laws_eqTensor.f
  refine TC.seq ?_
  refine TC.region ?_
  refine TL.box [.one (.int .i64 a_1), .one (.int .i64 a_2), .one (.int .i64 a_3), .one (.int .i64 a_4), .one (SV.v s1)] rfl rfl rfl rfl fun b_6 => ?_
  refine TL.box [.one (.int .i64 b_1), .one (.int .i64 b_2), .one (.int .i64 b_3), .one (.int .i64 b_4), .one (SV.v s2)] rfl rfl rfl rfl fun b_7 => ?_
  refine TL.assign rfl rfl (v := .bool false) rfl ?_
  refine TL.done ?_
  refine TC.seq ?_
  refine TC.seq ?_
  refine TC.region ?_
  refine TL.fa Try.underlying24 rfl Try.sizeOf2 rfl 0 rfl rfl rfl rfl ?_
  refine TL.load1 0 (Src.box 1 rfl) Try.isAgg2 rfl rfl rfl rfl rfl ?_
  refine TL.fa Try.underlying24 rfl Try.sizeOf2 rfl 0 rfl rfl rfl rfl ?_
  refine TL.load1 0 (Src.box 0 rfl) Try.isAgg2 rfl rfl rfl rfl rfl ?_
  refine TL.bin .i64 a_1 b_1 rfl rfl rfl rfl (v := .bool (a_1 != b_1)) rfl ?_
  refine TL.done ?_
  refine TC.cond (b := (a_1 != b_1)) rfl (fun c1 => ?_) (fun c2 => ?_)
  · refine TC.seq ?_
    refine TC.region ?_
    refine TL.assign rfl rfl (v := .bool false) rfl ?_
    refine TL.done ?_
    exact TC.retF (Fin.body (fin1 (.inr rfl) rfl (.tmp rfl) [] rfl ⟨rfl, rfl⟩))
  · refine TC.skip ?_
    refine TC.seq ?_
    refine TC.seq ?_
    refine TC.region ?_
    refine TL.fa Try.underlying24 rfl Try.sizeOf2 rfl 1 rfl rfl rfl rfl ?_
    refine TL.load1 1 (Src.box 1 rfl) Try.isAgg2 rfl rfl rfl rfl rfl ?_
    refine TL.fa Try.underlying24 rfl Try.sizeOf2 rfl 1 rfl rfl rfl rfl ?_
    refine TL.load1 1 (Src.box 0 rfl) Try.isAgg2 rfl rfl rfl rfl rfl ?_
    refine TL.bin .i64 a_2 b_2 rfl rfl rfl rfl (v := .bool (a_2 != b_2)) rfl ?_
    refine TL.done ?_
    refine TC.cond (b := (a_2 != b_2)) rfl (fun c3 => ?_) (fun c4 => ?_)
    · refine TC.seq ?_
      refine TC.region ?_
      refine TL.assign rfl rfl (v := .bool false) rfl ?_
      refine TL.done ?_
      exact TC.retF (Fin.body (fin1 (.inr rfl) rfl (.tmp rfl) [] rfl ⟨rfl, rfl⟩))
    · refine TC.skip ?_
      refine TC.seq ?_
      refine TC.seq ?_
      refine TC.region ?_
      refine TL.fa Try.underlying24 rfl Try.sizeOf2 rfl 2 rfl rfl rfl rfl ?_
      refine TL.load1 2 (Src.box 1 rfl) Try.isAgg2 rfl rfl rfl rfl rfl ?_
      refine TL.fa Try.underlying24 rfl Try.sizeOf2 rfl 2 rfl rfl rfl rfl ?_
      refine TL.load1 2 (Src.box 0 rfl) Try.isAgg2 rfl rfl rfl rfl rfl ?_
      refine TL.bin .i64 a_3 b_3 rfl rfl rfl rfl (v := .bool (a_3 != b_3)) rfl ?_
      refine TL.done ?_
      refine TC.cond (b := (a_3 != b_3)) rfl (fun c5 => ?_) (fun c6 => ?_)
      · refine TC.seq ?_
        refine TC.region ?_
        refine TL.assign rfl rfl (v := .bool false) rfl ?_
        refine TL.done ?_
        exact TC.retF (Fin.body (fin1 (.inr rfl) rfl (.tmp rfl) [] rfl ⟨rfl, rfl⟩))
      · refine TC.skip ?_
        refine TC.seq ?_
        refine TC.seq ?_
        refine TC.region ?_
        refine TL.fa Try.underlying24 rfl Try.sizeOf2 rfl 3 rfl rfl rfl rfl ?_
        refine TL.load1 3 (Src.box 1 rfl) Try.isAgg2 rfl rfl rfl rfl rfl ?_
        refine TL.fa Try.underlying24 rfl Try.sizeOf2 rfl 3 rfl rfl rfl rfl ?_
        refine TL.load1 3 (Src.box 0 rfl) Try.isAgg2 rfl rfl rfl rfl rfl ?_
        refine TL.bin .i64 a_4 b_4 rfl rfl rfl rfl (v := .bool (a_4 != b_4)) rfl ?_
        refine TL.done ?_
        refine TC.cond (b := (a_4 != b_4)) rfl (fun c7 => ?_) (fun c8 => ?_)
        · refine TC.seq ?_
          refine TC.region ?_
          refine TL.assign rfl rfl (v := .bool false) rfl ?_
          refine TL.done ?_
          exact TC.retF (Fin.body (fin1 (.inr rfl) rfl (.tmp rfl) [] rfl ⟨rfl, rfl⟩))
        · refine TC.skip ?_
          refine TC.seq ?_
          refine TC.seq ?_
          refine TC.region ?_
          refine TL.fa Try.underlying24 rfl Try.sizeOf22 rfl 4 rfl rfl rfl rfl ?_
          refine TL.load1 4 (Src.box 1 rfl) Try.isAgg22 rfl rfl rfl rfl rfl ?_
          refine TL.fa Try.underlying24 rfl Try.sizeOf22 rfl 4 rfl rfl rfl rfl ?_
          refine TL.load1 4 (Src.box 0 rfl) Try.isAgg22 rfl rfl rfl rfl rfl ?_
          refine TL.call (R := G.laws_eqInt64S.R) Try.call33 rfl rfl rfl (fun w hS => G.laws_eqInt64S.calls w s1 a_5 s2 b_5 ((Rd.old h1) w hS) ((Rd.old h2) w hS)) ?_
          rintro r_1 _ _ ⟨rfl, rfl⟩
          refine TL.not r_1 rfl rfl rfl ?_
          refine TL.done ?_
          refine TC.cond (b := (!r_1)) rfl (fun c9 => ?_) (fun c10 => ?_)
          · refine TC.seq ?_
            refine TC.region ?_
            refine TL.assign rfl rfl (v := .bool false) rfl ?_
            refine TL.done ?_
            exact TC.retF (Fin.body (fin1 (.inr rfl) rfl (.tmp rfl) [] rfl ⟨rfl, rfl⟩))
          · refine TC.skip ?_
            refine TC.seq ?_
            refine TC.region ?_
            refine TL.assign rfl rfl (v := .bool true) rfl ?_
            refine TL.done ?_
            exact TC.retF (Fin.body (fin1 (.inr rfl) rfl (.tmp rfl) [] rfl ⟨rfl, rfl⟩))

end Go.Proofs.Ytjjfoofjipafiaa.G

/- laws.markInt64S, as a pure function. -/
set_option linter.unusedVariables false
namespace Go.Proofs.Ytjjfoofjipafiaa.G
open Go Go.Sx Go.Proofs

def laws_markInt64S.b0 : (List Int) × Int × Int → Option (LB ((List Int) × Int × Int)) := fun p => match p with | (a_2, k_2, i1) => (bif (decide (i1 < (a_2.length : Int))) then chk i1 a_2.length (some (.next ((a_2.set i1.toNat k_2), (w64 (k_2 + 1)), (w64 (i1 + 1))))) else some (.brk (a_2, k_2, i1)))

def laws_markInt64S.f (a_1 : List Int) (k_1 : Int) : Option (Int × (List Int)) := (loop1 (laws_markInt64S.b0) (a_1, k_1, 0)).bind (fun p => match p with | (a_2, k_2, i1) => some (k_2, a_2))

def laws_markInt64S.R (s1 : SV) (r : Int × (List Int)) (v : Value) (L : List Asn) : Prop := v = .int .i64 r.1 ∧ L = [row Ei 2 s1 r.2]

set_option maxRecDepth 100000 in
set_option maxHeartbeats 4000000 in
theorem laws_markInt64S.calls (w0 : World) (I : Hp) (w : World) (s1 : SV) (a_1 : List Int) (k_1 : Int) (hS : St w0 I [row Ei 2 s1 a_1] w) :
    ∀ r, laws_markInt64S.f a_1 k_1 = some r → Calls Try.prog 36 #[SV.v s1, .int .i64 k_1] w (RetM w0 I ((laws_markInt64S.R s1) r)) := by

  refine calls_TM (w0 := w0) (I := I) (L := [row Ei 2 s1 a_1]) (n := 19) (Γ := [(0, SV.v s1), (1, .int .i64 k_1)]) (R := (laws_markInt64S.R s1)) Try.func36 rfl rfl (Nat.le_of_ble_eq_true rfl) ⟨rfl, rfl, trivial⟩ ?_ w hS
  unfold laws_markInt64S.f
  refine TC.seq ?_
  refine TC.region ?_
  refine TL.assign rfl rfl (v := .int .i64 0) rfl ?_
  refine TL.done ?_
  refine TC.seq ?_
  refine TC.seq ?_
  refine TC.region ?_
  refine TL.assign rfl rfl (v := .int .i64 0) rfl ?_
  refine TL.done ?_
  refine TC.loop1 (σ := (List Int) × Int × Int) (γ := Unit) (Γ' := (fun p q => match p, q with | (a_2, k_2, i1), _ => [(0, SV.v s1), (1, .int .i64 k_2), (5, .int .i64 i1)])) (L' := (fun p q => match p, q with | (a_2, k_2, i1), _ => [row Ei 2 s1 a_2])) (Γb := (fun p q => match p, q with | (a_2, k_2, i1), _ => [(0, SV.v s1), (1, .int .i64 k_2), (5, .int .i64 i1)])) (Lb := (fun p q => match p, q with | (a_2, k_2, i1), _ => [row Ei 2 s1 a_2])) ((a_1, k_1, 0)) (()) ⟨rfl, rfl, rfl, trivial⟩ [0] rfl ?_ ?_
  · rintro ⟨a_2, k_2, i1⟩ _
    refine TC.seq ?_
    refine TC.seq ?_
    refine TC.region ?_
    refine TL.move rfl rfl (v := .int .i64 i1) rfl ?_
    refine TL.move rfl rfl (v := SV.v s1) rfl ?_
    refine TL.len (Rd.row 0 rfl) Try.underlying22 rfl rfl rfl ?_
    refine TL.bin .i64 i1 (a_2.length : Int) rfl rfl rfl rfl (v := .bool (decide (i1 < (a_2.length : Int)))) rfl ?_
    refine TL.done ?_
    refine TC.cond (b := (decide (i1 < (a_2.length : Int)))) rfl (fun c1 => ?_) (fun c2 => ?_)
    · refine TC.skip ?_
      refine TC.seq ?_
      refine TC.block (NoEx.loop1 rfl) ?_
      refine TC.seq ?_
      refine TC.region ?_
      refine TL.move rfl rfl (v := SV.v s1) rfl ?_
      refine TL.move rfl rfl (v := .int .i64 i1) rfl ?_
      refine TL.move rfl rfl (v := .int .i64 k_2) rfl ?_
      refine TL.chk fun h1 => ?_
      refine TL.ixs i1 i1.toNat (Rd.row 0 rfl) h1 Try.underlying22 Try.sizeOf2 rfl rfl rfl rfl (by omega) ?_
      refine TL.stE 0 (i1.toNat) k_2 (v := .int .i64 k_2) rfl Try.sizeOf2 rfl rfl rfl (by have h_ := h1; omega) (by simp only [show Ei.sz = 1 from rfl]; omega) rfl rfl rfl ?_
      refine TL.done ?_
      refine TC.region ?_
      refine TL.move rfl rfl (v := .int .i64 k_2) rfl ?_
      refine TL.bin .i64 k_2 1 rfl rfl rfl rfl (v := .int .i64 (w64 (k_2 + 1))) rfl ?_
      refine TL.assign rfl rfl (v := .int .i64 (w64 (k_2 + 1))) rfl ?_
      refine TL.done ?_
      refine TC.region ?_
      refine TL.move rfl rfl (v := .int .i64 i1) rfl ?_
      refine TL.bin .i64 i1 1 rfl rfl rfl rfl (v := .int .i64 (w64 (i1 + 1))) rfl ?_
      refine TL.assign rfl rfl (v := .int .i64 (w64 (i1 + 1))) rfl ?_
      refine TL.done ?_
      exact TC.next1 (((a_2.set i1.toNat k_2), (w64 (k_2 + 1)), (w64 (i1 + 1)))) (()) ⟨rfl, rfl, rfl, trivial⟩ [0] rfl
    · exact TC.brk1 ((a_2, k_2, i1)) (()) ⟨rfl, rfl, rfl, trivial⟩ [0] rfl
  · rintro ⟨a_2, k_2, i1⟩ _
    refine TC.seq ?_
    refine TC.region ?_
    refine TL.move rfl rfl (v := .int .i64 k_2) rfl ?_
    refine TL.assign rfl rfl (v := .int .i64 k_2) rfl ?_
    refine TL.done ?_
    exact TC.retF (Fin.body (fin1 (.inr rfl) rfl (.tmp rfl) [0] rfl ⟨rfl, rfl⟩))

end Go.Proofs.Ytjjfoofjipafiaa.G

/- laws.markTensor, as a pure function. -/
set_option linter.unusedVariables false
namespace Go.Proofs.Ytjjfoofjipafiaa.G
open Go Go.Sx Go.Proofs

def laws_markTensor.f (a_1 : Int) (a_2 : Int) (a_3 : Int) (a_4 : Int) (a_5 : List Int) (k_1 : Int) : Option (Int × (List Int)) := (G.laws_markInt64S.f a_5 k_1).bind (fun p => match p with | (r_1, l1) => some (r_1, l1))

def laws_markTensor.R (s1 : SV) (r : Int × (List Int)) (v : Value) (L : List Asn) : Prop := v = .int .i64 r.1 ∧ L = [row Ei 2 s1 r.2]

set_option maxRecDepth 100000 in
set_option maxHeartbeats 4000000 in
theorem laws_markTensor.calls (w0 : World) (I : Hp) (w : World) (a_1 : Int) (a_2 : Int) (a_3 : Int) (a_4 : Int) (s1 : SV) (a_5 : List Int) (k_1 : Int) (hS : St w0 I [row Ei 2 s1 a_5] w) :
    ∀ r, laws_markTensor.f a_1 a_2 a_3 a_4 a_5 k_1 = some r → Calls Try.prog 15 #[sval [.one (.int .i64 a_1), .one (.int .i64 a_2), .one (.int .i64 a_3), .one (.int .i64 a_4), .one (SV.v s1)], .int .i64 k_1] w (RetM w0 I ((laws_markTensor.R s1) r)) := by

  refine calls_TM (w0 := w0) (I := I) (L := [row Ei 2 s1 a_5]) (n := 10) (Γ := [(0, sval [.one (.int .i64 a_1), .one (.int .i64 a_2), .one (.int .i64 a_3), .one (.int .i64 a_4), .one (SV.v s1)]), (1, .int .i64 k_1)]) (R := (laws_markTensor.R s1)) Try.func15 rfl rfl (Nat.le_of_ble_eq_true rfl) ⟨rfl, rfl, trivial⟩ ?_ w hS
  unfold laws_markTensor.f
  refine TC.seq ?_
  refine TC.region ?_
  refine TL.box [.one (.int .i64 a_1), .one (.int .i64 a_2), .one (.int .i64 a_3), .one (.int .i64 a_4), .one (SV.v s1)] rfl rfl rfl rfl fun b_1 => ?_
  refine TL.assign rfl rfl (v := .int .i64 0) rfl ?_
  refine TL.done ?_
  refine TC.seq ?_
  refine TC.region ?_
  refine TL.fa Try.underlying24 rfl Try.sizeOf22 rfl 4 rfl rfl rfl rfl ?_
  refine TL.load1 4 (Src.box 0 rfl) Try.isAgg22 rfl rfl rfl rfl rfl ?_
  refine TL.move rfl rfl (v := .int .i64 k_1) rfl ?_
  refine TL.callX (R := G.laws_markInt64S.R s1) [1, 0] [row Ei 2 s1 a_5] [box b_1 24 [.one (.int .i64 a_1), .one (.int .i64 a_2), .one (.int .i64 a_3), .one (.int .i64 a_4), .one (SV.v s1)]] rfl Try.call36 rfl rfl rfl (fun w I_ hle hB hS => G.laws_markInt64S.calls _ I_ w s1 a_5 k_1 hS) ?_
  rintro ⟨r_1, l1⟩ _ _ ⟨rfl, rfl⟩
  refine TL.assign rfl rfl (v := .int .i64 r_1) rfl ?_
  refine TL.done ?_
  refine TC.seq ?_
  refine TC.region ?_
  refine TL.move rfl rfl (v := .int .i64 r_1) rfl ?_
  refine TL.assign rfl rfl (v := .int .i64 r_1) rfl ?_
  refine TL.done ?_
  exact TC.retF (Fin.body (fin1 (.inr rfl) rfl (.tmp rfl) [0] rfl ⟨rfl, rfl⟩))

end Go.Proofs.Ytjjfoofjipafiaa.G

/- laws.heldInt64S, as a pure function. -/
set_option linter.unusedVariables false
namespace Go.Proofs.Ytjjfoofjipafiaa.G
open Go Go.Sx Go.Proofs

def laws_heldInt64S.b0 (a_1 : List Int) : Int × Int → Option (LR (Int × Int) Int) := fun p => match p with | (k_2, i1) => (bif (decide (i1 < (a_1.length : Int))) then chk i1 a_1.length ((bif ((gt a_1 i1) != k_2) then some (.ret ((-1))) else some (.next ((w64 (k_2 + 1)), (w64 (i1 + 1)))))) else some (.brk (k_2, i1)))

def laws_heldInt64S.f (a_1 : List Int) (k_1 : Int) : Option Int := (loop (laws_heldInt64S.b0 a_1) (k_1, 0)).bind (ln (fun p => match p with | (k_2, i1) => some k_2))

def laws_heldInt64S.R (r : Int) (v : Value) (L : List Asn) : Prop := v = .int .i64 r ∧ L = []

set_option maxRecDepth 100000 in
set_option maxHeartbeats 4000000 in
theorem laws_heldInt64S.calls (w : World) (s1 : SV) (a_1 : List Int) (k_1 : Int) (h1 : Reads Ei (hp w) s1 a_1) :
    ∀ r, laws_heldInt64S.f a_1 k_1 = some r → Calls Try.prog 37 #[SV.v s1, .int .i64 k_1] w (Ret w (laws_heldInt64S.R r)) := by

  refine calls_T (n := 21) (Γ := [(0, SV.v s1), (1, .int .i64 k_1)]) (R := laws_heldInt64S.R) Try.func37 rfl rfl (Nat.le_of_ble_eq_true rfl) ⟨rfl, rfl, trivial⟩ ?_
  unfold laws_heldInt64S.f
  refine TC.seq ?_
  refine TC.region ?_
  refine TL.assign rfl rfl (v := .int .i64 0) rfl ?_
  refine TL.done ?_
  refine TC.seq ?_
  refine TC.seq ?_
  refine TC.region ?_
  refine TL.assign rfl rfl (v := .int .i64 0) rfl ?_
  refine TL.done ?_
  refine TC.loopK (σ := Int × Int) (γ := Unit) (Γ' := (fun p q => match p, q with | (k_2, i1), _ => [(0, SV.v s1), (1, .int .i64 k_2), (5, .int .i64 i1)])) (L' := (fun p q => match p, q with | (k_2, i1), _ => [])) (Γb := (fun p q => match p, q with | (k_2, i1), _ => [(0, SV.v s1), (1, .int .i64 k_2), (5, .int .i64 i1)])) (Lb := (fun p q => match p, q with | (k_2, i1), _ => [])) ((k_1, 0)) (()) ⟨rfl, rfl, rfl, trivial⟩ [] rfl ?_ ?_
  · rintro ⟨k_2, i1⟩ _
    refine TC.seq ?_
    refine TC.seq ?_
    refine TC.region ?_
    refine TL.move rfl rfl (v := .int .i64 i1) rfl ?_
    refine TL.move rfl rfl (v := SV.v s1) rfl ?_
    refine TL.len (Rd.old h1) Try.underlying22 rfl rfl rfl ?_
    refine TL.bin .i64 i1 (a_1.length : Int) rfl rfl rfl rfl (v := .bool (decide (i1 < (a_1.length : Int)))) rfl ?_
    refine TL.done ?_
    refine TC.cond (b := (decide (i1 < (a_1.length : Int)))) rfl (fun c1 => ?_) (fun c2 => ?_)
    · refine TC.skip ?_
      refine TC.seq ?_
      refine TC.block (NoEx.loop rfl NoEx.body) ?_
      refine TC.seq ?_
      refine TC.seq ?_
      refine TC.region ?_
      refine TL.move rfl rfl (v := SV.v s1) rfl ?_
      refine TL.move rfl rfl (v := .int .i64 i1) rfl ?_
      refine TL.chk fun h2 => ?_
      refine TL.ixs i1 i1.toNat (Rd.old h1) h2 Try.underlying22 Try.sizeOf2 rfl rfl rfl rfl (by omega) ?_
      refine TL.loadE (Rd.old h1) Try.isAgg2 i1.toNat 0 (gt_spec h2) (v := .int .i64 (gt a_1 i1)) rfl (by simp only [show Ei.sz = 1 from rfl]; omega) rfl rfl rfl ?_
      refine TL.move rfl rfl (v := .int .i64 k_2) rfl ?_
      refine TL.bin .i64 (gt a_1 i1) k_2 rfl rfl rfl rfl (v := .bool ((gt a_1 i1) != k_2)) rfl ?_
      refine TL.done ?_
      refine TC.cond (b := ((gt a_1 i1) != k_2)) rfl (fun c3 => ?_) (fun c4 => ?_)
      · refine TC.seq ?_
        refine TC.region ?_
        refine TL.assign rfl rfl (v := .int .i64 (-1)) rfl ?_
        refine TL.done ?_
        exact TC.retF (Fin.loop Far.ret (Fin.body (fin1 (.inr rfl) rfl (.tmp rfl) [] rfl ⟨rfl, rfl⟩)))
      · refine TC.skip ?_
        refine TC.region ?_
        refine TL.move rfl rfl (v := .int .i64 k_2) rfl ?_
        refine TL.bin .i64 k_2 1 rfl rfl rfl rfl (v := .int .i64 (w64 (k_2 + 1))) rfl ?_
        refine TL.assign rfl rfl (v := .int .i64 (w64 (k_2 + 1))) rfl ?_
        refine TL.done ?_
        refine TC.region ?_
        refine TL.move rfl rfl (v := .int .i64 i1) rfl ?_
        refine TL.bin .i64 i1 1 rfl rfl rfl rfl (v := .int .i64 (w64 (i1 + 1))) rfl ?_
        refine TL.assign rfl rfl (v := .int .i64 (w64 (i1 + 1))) rfl ?_
        refine TL.done ?_
        exact TC.next (((w64 (k_2 + 1)), (w64 (i1 + 1)))) (()) ⟨rfl, rfl, rfl, trivial⟩ [] rfl
    · exact TC.brk ((k_2, i1)) (()) ⟨rfl, rfl, rfl, trivial⟩ [] rfl
  · rintro ⟨k_2, i1⟩ _
    refine TC.seq ?_
    refine TC.region ?_
    refine TL.move rfl rfl (v := .int .i64 k_2) rfl ?_
    refine TL.assign rfl rfl (v := .int .i64 k_2) rfl ?_
    refine TL.done ?_
    exact TC.retF (Fin.body (fin1 (.inr rfl) rfl (.tmp rfl) [] rfl ⟨rfl, rfl⟩))

end Go.Proofs.Ytjjfoofjipafiaa.G

/- laws.heldTensor, as a pure function. -/
set_option linter.unusedVariables false
namespace Go.Proofs.Ytjjfoofjipafiaa.G
open Go Go.Sx Go.Proofs

def laws_heldTensor.f (a_1 : Int) (a_2 : Int) (a_3 : Int) (a_4 : Int) (a_5 : List Int) (k_1 : Int) : Option Int := (G.laws_heldInt64S.f a_5 k_1).bind (fun r_1 => (bif (decide (r_1 < 0)) then some (-1) else some r_1))

def laws_heldTensor.R (r : Int) (v : Value) (L : List Asn) : Prop := v = .int .i64 r ∧ L = []

set_option maxRecDepth 100000 in
set_option maxHeartbeats 4000000 in
theorem laws_heldTensor.calls (w : World) (a_1 : Int) (a_2 : Int) (a_3 : Int) (a_4 : Int) (s1 : SV) (a_5 : List Int) (k_1 : Int) (h1 : Reads Ei (hp w) s1 a_5) :
    ∀ r, laws_heldTensor.f a_1 a_2 a_3 a_4 a_5 k_1 = some r → Calls Try.prog 16 #[sval [.one (.int .i64 a_1), .one (.int .i64 a_2), .one (.int .i64 a_3), .one (.int .i64 a_4), .one (SV.v s1)], .int .i64 k_1] w (Ret w (laws_heldTensor.R r)) := by

  refine calls_T (n := 12) (Γ := [(0, sval [.one (.int .i64 a_1), .one (.int .i64 a_2), .one (.int .i64 a_3), .one (.int .i64 a_4), .one (SV.v s1)]), (1, .int .i64 k_1)]) (R := laws_heldTensor.R) Try.func16 rfl rfl (Nat.le_of_ble_eq_true rfl) ⟨rfl, rfl, trivial⟩ ?_
  unfold laws_heldTensor.f
  refine TC.seq ?_
  refine TC.region ?_
  refine TL.box [.one (.int .i64 a_1), .one (.int .i64 a_2), .one (.int .i64 a_3), .one (.int .i64 a_4), .one (SV.v s1)] rfl rfl rfl rfl fun b_1 => ?_
  refine TL.assign rfl rfl (v := .int .i64 0) rfl ?_
  refine TL.done ?_
  refine TC.seq ?_
  refine TC.region ?_
  refine TL.fa Try.underlying24 rfl Try.sizeOf22 rfl 4 rfl rfl rfl rfl ?_
  refine TL.load1 4 (Src.box 0 rfl) Try.isAgg22 rfl rfl rfl rfl rfl ?_
  refine TL.move rfl rfl (v := .int .i64 k_1) rfl ?_
  refine TL.call (R := G.laws_heldInt64S.R) Try.call37 rfl rfl rfl (fun w hS => G.laws_heldInt64S.calls w s1 a_5 k_1 ((Rd.old h1) w hS)) ?_
  rintro r_1 _ _ ⟨rfl, rfl⟩
  refine TL.assign rfl rfl (v := .int .i64 r_1) rfl ?_
  refine TL.done ?_
  refine TC.seq ?_
  refine TC.seq ?_
  refine TC.region ?_
  refine TL.move rfl rfl (v := .int .i64 r_1) rfl ?_
  refine TL.bin .i64 r_1 0 rfl rfl rfl rfl (v := .bool (decide (r_1 < 0))) rfl ?_
  refine TL.done ?_
  refine TC.cond (b := (decide (r_1 < 0))) rfl (fun c1 => ?_) (fun c2 => ?_)
  · refine TC.seq ?_
    refine TC.region ?_
    refine TL.assign rfl rfl (v := .int .i64 (-1)) rfl ?_
    refine TL.done ?_
    exact TC.retF (Fin.body (fin1 (.inr rfl) rfl (.tmp rfl) [] rfl ⟨rfl, rfl⟩))
  · refine TC.skip ?_
    refine TC.seq ?_
    refine TC.region ?_
    refine TL.move rfl rfl (v := .int .i64 r_1) rfl ?_
    refine TL.assign rfl rfl (v := .int .i64 r_1) rfl ?_
    refine TL.done ?_
    exact TC.retF (Fin.body (fin1 (.inr rfl) rfl (.tmp rfl) [] rfl ⟨rfl, rfl⟩))

end Go.Proofs.Ytjjfoofjipafiaa.G

/- laws.FnExactSwapTensor, as a pure function. -/
set_option linter.unusedVariables false
namespace Go.Proofs.Ytjjfoofjipafiaa.G
open Go Go.Sx Go.Proofs

def laws_FnExactSwapTensor.f (x1 : Int) (x2 : Int) : Option Bool := (G.spec_SwapTensor.f x1 x2).bind (fun p => match p with | (r_1, r_2, r_3, r_4, r_5, r_6) => (G.impl_SwapTensor.f x1 x2).bind (fun p => match p with | (r_7, r_8, r_9, r_10, r_11, r_12) => (G.laws_eqTensor.f r_7 r_8 r_9 r_10 r_11 r_1 r_2 r_3 r_4 r_5).bind (fun r_13 => (bif ((!r_13) || (r_12 != r_6)) then some false else (G.laws_markTensor.f r_7 r_8 r_9 r_10 r_11 1).bind (fun p => match p with | (r_14, l1) => (G.laws_heldTensor.f r_7 r_8 r_9 r_10 l1 1).bind (fun r_15 => (bif (decide (r_15 < 0)) then some false else (bif (r_15 != r_14) then some false else (G.impl_SwapTensor.f x1 x2).bind (fun p => match p with | (r_16, r_17, r_18, r_19, r_20, r_21) => (G.laws_eqTensor.f r_16 r_17 r_18 r_19 r_20 r_1 r_2 r_3 r_4 r_5).bind (fun r_22 => (bif ((!r_22) || (r_21 != r_6)) then some false else (G.laws_heldTensor.f r_7 r_8 r_9 r_10 l1 1).bind (fun r_23 => (bif (decide (r_23 < 0)) then some false else (bif (r_23 != r_14) then some false else some true))))))))))))))

def laws_FnExactSwapTensor.R (r : Bool) (v : Value) (L : List Asn) : Prop := v = .bool r ∧ L = []

set_option maxRecDepth 100000 in
set_option maxHeartbeats 4000000 in
theorem laws_FnExactSwapTensor.calls (w : World) (x1 : Int) (x2 : Int) :
    ∀ r, laws_FnExactSwapTensor.f x1 x2 = some r → Calls Try.prog 3 #[.int .i64 x1, .int .i64 x2] w (Ret w (laws_FnExactSwapTensor.R r)) := by

  refine calls_T (n := 68) (Γ := [(0, .int .i64 x1), (1, .int .i64 x2)]) (R := laws_FnExactSwapTensor.R) Try.func3 rfl rfl (Nat.le_of_ble_eq_true rfl) ⟨rfl, rfl, trivial⟩ ?_
  unfold laws_FnExactSwapTensor.f
  refine TC.seq ?_
  refine TC.region ?_
  refine TL.assign rfl rfl (v := .bool false) rfl ?_
  refine TL.done ?_
  refine TC.seq ?_
  refine TC.region ?_
  refine TL.move rfl rfl (v := .int .i64 x1) rfl ?_
  refine TL.move rfl rfl (v := .int .i64 x2) rfl ?_
  refine TL.call (R := G.spec_SwapTensor.R) Try.call12 rfl rfl rfl (fun w hS => G.spec_SwapTensor.calls w x1 x2) ?_
  rintro ⟨r_1, r_2, r_3, r_4, r_5, r_6⟩ _ _ ⟨s1, rfl, rfl⟩
  refine TL.move rfl rfl (v := .tuple #[sval [.one (.int .i64 r_1), .one (.int .i64 r_2), .one (.int .i64 r_3), .one (.int .i64 r_4), .one (SV.v s1)], .int .i64 r_6]) rfl ?_
  refine TL.extract rfl rfl rfl (v := sval [.one (.int .i64 r_1), .one (.int .i64 r_2), .one (.int .i64 r_3), .one (.int .i64 r_4), .one (SV.v s1)]) rfl ?_
  refine TL.extract rfl rfl rfl (v := .int .i64 r_6) rfl ?_
  refine TL.alloc [.one (.int .i64 0), .one (.int .i64 0), .one (.int .i64 0), .one (.int .i64 0), .one (SV.v ⟨none, 0, 0⟩)] rfl rfl Try.zeroValue24 rfl fun b_1 => ?_
  refine TL.stM (news := [.one (.int .i64 r_1), .one (.int .i64 r_2), .one (.int .i64 r_3), .one (.int .i64 r_4), .one (SV.v s1)]) 0 0 5 rfl Try.sizeOf24 (ones_one rfl (ones_one rfl (ones_one rfl (ones_one rfl (ones_one rfl ones_nil))))) rfl rfl rfl rfl rfl rfl ?_
  refine TL.assign rfl rfl (v := .int .i64 r_6) rfl ?_
  refine TL.done ?_
  refine TC.seq ?_
  refine TC.region ?_
  refine TL.move rfl rfl (v := .int .i64 x1) rfl ?_
  refine TL.move rfl rfl (v := .int .i64 x2) rfl ?_
  refine TL.call (R := G.impl_SwapTensor.R) Try.call13 rfl rfl rfl (fun w hS => G.impl_SwapTensor.calls w x1 x2) ?_
  rintro ⟨r_7, r_8, r_9, r_10, r_11, r_12⟩ _ _ ⟨s2, rfl, rfl⟩
  refine TL.move rfl rfl (v := .tuple #[sval [.one (.int .i64 r_7), .one (.int .i64 r_8), .one (.int .i64 r_9), .one (.int .i64 r_10), .one (SV.v s2)], .int .i64 r_12]) rfl ?_
  refine TL.extract rfl rfl rfl (v := sval [.one (.int .i64 r_7), .one (.int .i64 r_8), .one (.int .i64 r_9), .one (.int .i64 r_10), .one (SV.v s2)]) rfl ?_
  refine TL.extract rfl rfl rfl (v := .int .i64 r_12) rfl ?_
  refine TL.alloc [.one (.int .i64 0), .one (.int .i64 0), .one (.int .i64 0), .one (.int .i64 0), .one (SV.v ⟨none, 0, 0⟩)] rfl rfl Try.zeroValue24 rfl fun b_2 => ?_
  refine TL.stM (news := [.one (.int .i64 r_7), .one (.int .i64 r_8), .one (.int .i64 r_9), .one (.int .i64 r_10), .one (SV.v s2)]) 0 0 5 rfl Try.sizeOf24 (ones_one rfl (ones_one rfl (ones_one rfl (ones_one rfl (ones_one rfl ones_nil))))) rfl rfl rfl rfl rfl rfl ?_
  refine TL.assign rfl rfl (v := .int .i64 r_12) rfl ?_
  refine TL.done ?_
  refine TC.seq ?_
  refine TC.seq ?_
  refine TC.region ?_
  refine TL.loadM 0 5 (Src.box 0 rfl) Try.isAgg24 Try.sizeOf24 (mid := [.one (.int .i64 r_7), .one (.int .i64 r_8), .one (.int .i64 r_9), .one (.int .i64 r_10), .one (SV.v s2)]) rfl rfl rfl rfl rfl rfl ?_
  refine TL.loadM 0 5 (Src.box 2 rfl) Try.isAgg24 Try.sizeOf24 (mid := [.one (.int .i64 r_1), .one (.int .i64 r_2), .one (.int .i64 r_3), .one (.int .i64 r_4), .one (SV.v s1)]) rfl rfl rfl rfl rfl rfl ?_
  refine TL.call (R := G.laws_eqTensor.R) Try.call14 rfl rfl rfl (fun w hS => G.laws_eqTensor.calls w r_7 r_8 r_9 r_10 s2 r_11 r_1 r_2 r_3 r_4 s1 r_5 ((Rd.row 1 rfl) w hS) ((Rd.row 3 rfl) w hS)) ?_
  rintro r_13 _ _ ⟨rfl, rfl⟩
  refine TL.not r_13 rfl rfl rfl ?_
  refine TL.move rfl rfl (v := .bool (!r_13)) rfl ?_
  refine TL.cutU 4 [(33, .bool ((!r_13) || (r_12 != r_6))), (0, .int .i64 x1), (1, .int .i64 x2), (4, .bool false), (14, .int .i64 x1), (15, .int .i64 x2), (16, .tuple #[sval [.one (.int .i64 r_1), .one (.int .i64 r_2), .one (.int .i64 r_3), .one (.int .i64 r_4), .one (SV.v s1)], .int .i64 r_6]), (13, .tuple #[sval [.one (.int .i64 r_1), .one (.int .i64 r_2), .one (.int .i64 r_3), .one (.int .i64 r_4), .one (SV.v s1)], .int .i64 r_6]), (17, sval [.one (.int .i64 r_1), .one (.int .i64 r_2), .one (.int .i64 r_3), .one (.int .i64 r_4), .one (SV.v s1)]), (18, .int .i64 r_6), (5, bp b_1 0), (6, .int .i64 r_6), (20, .int .i64 x1), (21, .int .i64 x2), (22, .tuple #[sval [.one (.int .i64 r_7), .one (.int .i64 r_8), .one (.int .i64 r_9), .one (.int .i64 r_10), .one (SV.v s2)], .int .i64 r_12]), (19, .tuple #[sval [.one (.int .i64 r_7), .one (.int .i64 r_8), .one (.int .i64 r_9), .one (.int .i64 r_10), .one (SV.v s2)], .int .i64 r_12]), (23, sval [.one (.int .i64 r_7), .one (.int .i64 r_8), .one (.int .i64 r_9), .one (.int .i64 r_10), .one (SV.v s2)]), (24, .int .i64 r_12), (7, bp b_2 0), (8, .int .i64 r_12), (25, sval [.one (.int .i64 r_7), .one (.int .i64 r_8), .one (.int .i64 r_9), .one (.int .i64 r_10), .one (SV.v s2)]), (26, sval [.one (.int .i64 r_1), .one (.int .i64 r_2), .one (.int .i64 r_3), .one (.int .i64 r_4), .one (SV.v s1)]), (27, .bool r_13), (28, .bool (!r_13)), (29, .bool (!r_13))] [box b_2 24 [.one (.int .i64 r_7), .one (.int .i64 r_8), .one (.int .i64 r_9), .one (.int .i64 r_10), .one (SV.v s2)], row Ei 2 s2 r_11, box b_1 24 [.one (.int .i64 r_1), .one (.int .i64 r_2), .one (.int .i64 r_3), .one (.int .i64 r_4), .one (SV.v s1)], row Ei 2 s1 r_5] ?_ ?_
  · refine TL.cases (t := 29) (b := (!r_13)) rfl (fun c1 => ?_) (fun c2 => ?_)
    · refine TL.skip rfl rfl (by decide) ?_
      refine TL.skip rfl rfl (by decide) ?_
      refine TL.skip rfl rfl (by decide) ?_
      refine TL.pick rfl rfl (b := true) rfl (r := .bool true) rfl ?_
      refine TL.done ?_
      exact TC.nrm () () ⟨(by rw [c1]; rfl), rfl, rfl, rfl, rfl, rfl, rfl, rfl, rfl, rfl, rfl, rfl, rfl, rfl, rfl, rfl, rfl, rfl, rfl, rfl, rfl, rfl, rfl, rfl, (by rw [c1]; rfl), trivial⟩ [0, 0, 0, 0] rfl
    · refine TL.move rfl rfl (v := .int .i64 r_12) rfl ?_
      refine TL.move rfl rfl (v := .int .i64 r_6) rfl ?_
      refine TL.bin .i64 r_12 r_6 rfl rfl rfl rfl (v := .bool (r_12 != r_6)) rfl ?_
      refine TL.pick rfl rfl (b := false) rfl (r := .bool (r_12 != r_6)) rfl ?_
      refine TL.done ?_
      exact TC.nrm () () ⟨(by rw [c2]; rfl), rfl, rfl, rfl, rfl, rfl, rfl, rfl, rfl, rfl, rfl, rfl, rfl, rfl, rfl, rfl, rfl, rfl, rfl, rfl, rfl, rfl, rfl, rfl, (by rw [c2]; rfl), trivial⟩ [0, 0, 0, 0] rfl
  · refine TL.done ?_
    refine TC.cond (b := ((!r_13) || (r_12 != r_6))) rfl (fun c3 => ?_) (fun c4 => ?_)
    · refine TC.seq ?_
      refine TC.region ?_
      refine TL.assign rfl rfl (v := .bool false) rfl ?_
      refine TL.done ?_
      exact TC.retF (Fin.body (fin1 (.inr rfl) rfl (.tmp rfl) [] rfl ⟨rfl, rfl⟩))
    · refine TC.skip ?_
      refine TC.seq ?_
      refine TC.region ?_
      refine TL.assign rfl rfl (v := .int .i64 1) rfl ?_
      refine TL.done ?_
      refine TC.seq ?_
      refine TC.region ?_
      refine TL.loadM 0 5 (Src.box 0 rfl) Try.isAgg24 Try.sizeOf24 (mid := [.one (.int .i64 r_7), .one (.int .i64 r_8), .one (.int .i64 r_9), .one (.int .i64 r_10), .one (SV.v s2)]) rfl rfl rfl rfl rfl rfl ?_
      refine TL.move rfl rfl (v := .int .i64 1) rfl ?_
      refine TL.callX (R := G.laws_markTensor.R s2) [1, 0, 0, 0] [row Ei 2 s2 r_11] [box b_2 24 [.one (.int .i64 r_7), .one (.int .i64 r_8), .one (.int .i64 r_9), .one (.int .i64 r_10), .one (SV.v s2)], box b_1 24 [.one (.int .i64 r_1), .one (.int .i64 r_2), .one (.int .i64 r_3), .one (.int .i64 r_4), .one (SV.v s1)], row Ei 2 s1 r_5] rfl Try.call15 rfl rfl rfl (fun w I_ hle hB hS => G.laws_markTensor.calls _ I_ w r_7 r_8 r_9 r_10 s2 r_11 1 hS) ?_
      rintro ⟨r_14, l1⟩ _ _ ⟨rfl, rfl⟩
      refine TL.assign rfl rfl (v := .int .i64 r_14) rfl ?_
      refine TL.done ?_
      refine TC.seq ?_
      refine TC.region ?_
      refine TL.assign rfl rfl (v := .int .i64 1) rfl ?_
      refine TL.done ?_
      refine TC.seq ?_
      refine TC.region ?_
      refine TL.loadM 0 5 (Src.box 1 rfl) Try.isAgg24 Try.sizeOf24 (mid := [.one (.int .i64 r_7), .one (.int .i64 r_8), .one (.int .i64 r_9), .one (.int .i64 r_10), .one (SV.v s2)]) rfl rfl rfl rfl rfl rfl ?_
      refine TL.move rfl rfl (v := .int .i64 1) rfl ?_
      refine TL.call (R := G.laws_heldTensor.R) Try.call16 rfl rfl rfl (fun w hS => G.laws_heldTensor.calls w r_7 r_8 r_9 r_10 s2 l1 1 ((Rd.row 0 rfl) w hS)) ?_
      rintro r_15 _ _ ⟨rfl, rfl⟩
      refine TL.assign rfl rfl (v := .int .i64 r_15) rfl ?_
      refine TL.done ?_
      refine TC.seq ?_
      refine TC.seq ?_
      refine TC.region ?_
      refine TL.move rfl rfl (v := .int .i64 r_15) rfl ?_
      refine TL.bin .i64 r_15 0 rfl rfl rfl rfl (v := .bool (decide (r_15 < 0))) rfl ?_
      refine TL.done ?_
      refine TC.cond (b := (decide (r_15 < 0))) rfl (fun c5 => ?_) (fun c6 => ?_)
      · refine TC.seq ?_
        refine TC.region ?_
        refine TL.assign rfl rfl (v := .bool false) rfl ?_
        refine TL.done ?_
        exact TC.retF (Fin.body (fin1 (.inr rfl) rfl (.tmp rfl) [] rfl ⟨rfl, rfl⟩))
      · refine TC.skip ?_
        refine TC.seq ?_
        refine TC.seq ?_
        refine TC.region ?_
        refine TL.move rfl rfl (v := .int .i64 r_15) rfl ?_
        refine TL.move rfl rfl (v := .int .i64 r_14) rfl ?_
        refine TL.bin .i64 r_15 r_14 rfl rfl rfl rfl (v := .bool (r_15 != r_14)) rfl ?_
        refine TL.done ?_
        refine TC.cond (b := (r_15 != r_14)) rfl (fun c7 => ?_) (fun c8 => ?_)
        · refine TC.seq ?_
          refine TC.region ?_
          refine TL.assign rfl rfl (v := .bool false) rfl ?_
          refine TL.done ?_
          exact TC.retF (Fin.body (fin1 (.inr rfl) rfl (.tmp rfl) [] rfl ⟨rfl, rfl⟩))
        · refine TC.skip ?_
          refine TC.seq ?_
          refine TC.region ?_
          refine TL.move rfl rfl (v := .int .i64 x1) rfl ?_
          refine TL.move rfl rfl (v := .int .i64 x2) rfl ?_
          refine TL.call (R := G.impl_SwapTensor.R) Try.call13 rfl rfl rfl (fun w hS => G.impl_SwapTensor.calls w x1 x2) ?_
          rintro ⟨r_16, r_17, r_18, r_19, r_20, r_21⟩ _ _ ⟨s3, rfl, rfl⟩
          refine TL.move rfl rfl (v := .tuple #[sval [.one (.int .i64 r_16), .one (.int .i64 r_17), .one (.int .i64 r_18), .one (.int .i64 r_19), .one (SV.v s3)], .int .i64 r_21]) rfl ?_
          refine TL.extract rfl rfl rfl (v := sval [.one (.int .i64 r_16), .one (.int .i64 r_17), .one (.int .i64 r_18), .one (.int .i64 r_19), .one (SV.v s3)]) rfl ?_
          refine TL.extract rfl rfl rfl (v := .int .i64 r_21) rfl ?_
          refine TL.alloc [.one (.int .i64 0), .one (.int .i64 0), .one (.int .i64 0), .one (.int .i64 0), .one (SV.v ⟨none, 0, 0⟩)] rfl rfl Try.zeroValue24 rfl fun b_3 => ?_
          refine TL.stM (news := [.one (.int .i64 r_16), .one (.int .i64 r_17), .one (.int .i64 r_18), .one (.int .i64 r_19), .one (SV.v s3)]) 0 0 5 rfl Try.sizeOf24 (ones_one rfl (ones_one rfl (ones_one rfl (ones_one rfl (ones_one rfl ones_nil))))) rfl rfl rfl rfl rfl rfl ?_
          refine TL.assign rfl rfl (v := .int .i64 r_21) rfl ?_
          refine TL.done ?_
          refine TC.seq ?_
          refine TC.seq ?_
          refine TC.region ?_
          refine TL.loadM 0 5 (Src.box 0 rfl) Try.isAgg24 Try.sizeOf24 (mid := [.one (.int .i64 r_16), .one (.int .i64 r_17), .one (.int .i64 r_18), .one (.int .i64 r_19), .one (SV.v s3)]) rfl rfl rfl rfl rfl rfl ?_
          refine TL.loadM 0 5 (Src.box 4 rfl) Try.isAgg24 Try.sizeOf24 (mid := [.one (.int .i64 r_1), .one (.int .i64 r_2), .one (.int .i64 r_3), .one (.int .i64 r_4), .one (SV.v s1)]) rfl rfl rfl rfl rfl rfl ?_
          refine TL.call (R := G.laws_eqTensor.R) Try.call14 rfl rfl rfl (fun w hS => G.laws_eqTensor.calls w r_16 r_17 r_18 r_19 s3 r_20 r_1 r_2 r_3 r_4 s1 r_5 ((Rd.row 1 rfl) w hS) ((Rd.row 5 rfl) w hS)) ?_
          rintro r_22 _ _ ⟨rfl, rfl⟩
          refine TL.not r_22 rfl rfl rfl ?_
          refine TL.move rfl rfl (v := .bool (!r_22)) rfl ?_
          refine TL.cutU 4 [(59, .bool ((!r_22) || (r_21 != r_6))), (0, .int .i64 x1), (1, .int .i64 x2), (4, .bool false), (14, .int .i64 x1), (15, .int .i64 x2), (16, .tuple #[sval [.one (.int .i64 r_1), .one (.int .i64 r_2), .one (.int .i64 r_3), .one (.int .i64 r_4), .one (SV.v s1)], .int .i64 r_6]), (13, .tuple #[sval [.one (.int .i64 r_1), .one (.int .i64 r_2), .one (.int .i64 r_3), .one (.int .i64 r_4), .one (SV.v s1)], .int .i64 r_6]), (17, sval [.one (.int .i64 r_1), .one (.int .i64 r_2), .one (.int .i64 r_3), .one (.int .i64 r_4), .one (SV.v s1)]), (18, .int .i64 r_6), (5, bp b_1 0), (6, .int .i64 r_6), (20, .int .i64 x1), (21, .int .i64 x2), (22, .tuple #[sval [.one (.int .i64 r_7), .one (.int .i64 r_8), .one (.int .i64 r_9), .one (.int .i64 r_10), .one (SV.v s2)], .int .i64 r_12]), (19, .tuple #[sval [.one (.int .i64 r_7), .one (.int .i64 r_8), .one (.int .i64 r_9), .one (.int .i64 r_10), .one (SV.v s2)], .int .i64 r_12]), (23, sval [.one (.int .i64 r_7), .one (.int .i64 r_8), .one (.int .i64 r_9), .one (.int .i64 r_10), .one (SV.v s2)]), (24, .int .i64 r_12), (7, bp b_2 0), (8, .int .i64 r_12), (25, sval [.one (.int .i64 r_7), .one (.int .i64 r_8), .one (.int .i64 r_9), .one (.int .i64 r_10), .one (SV.v s2)]), (26, sval [.one (.int .i64 r_1), .one (.int .i64 r_2), .one (.int .i64 r_3), .one (.int .i64 r_4), .one (SV.v s1)]), (27, .bool r_13), (28, .bool (!r_13)), (29, .bool (!r_13)), (33, .bool ((!r_13) || (r_12 != r_6))), (9, .int .i64 r_14), (34, sval [.one (.int .i64 r_7), .one (.int .i64 r_8), .one (.int .i64 r_9), .one (.int .i64 r_10), .one (SV.v s2)]), (35, .int .i64 1), (36, .int .i64 r_14), (10, .int .i64 r_15), (37, sval [.one (.int .i64 r_7), .one (.int .i64 r_8), .one (.int .i64 r_9), .one (.int .i64 r_10), .one (SV.v s2)]), (38, .int .i64 1), (39, .int .i64 r_15), (40, .int .i64 r_15), (41, .bool (decide (r_15 < 0))), (42, .int .i64 r_15), (43, .int .i64 r_14), (44, .bool (r_15 != r_14)), (46, .int .i64 x1), (47, .int .i64 x2), (48, .tuple #[sval [.one (.int .i64 r_16), .one (.int .i64 r_17), .one (.int .i64 r_18), .one (.int .i64 r_19), .one (SV.v s3)], .int .i64 r_21]), (45, .tuple #[sval [.one (.int .i64 r_16), .one (.int .i64 r_17), .one (.int .i64 r_18), .one (.int .i64 r_19), .one (SV.v s3)], .int .i64 r_21]), (49, sval [.one (.int .i64 r_16), .one (.int .i64 r_17), .one (.int .i64 r_18), .one (.int .i64 r_19), .one (SV.v s3)]), (50, .int .i64 r_21), (11, bp b_3 0), (12, .int .i64 r_21), (51, sval [.one (.int .i64 r_16), .one (.int .i64 r_17), .one (.int .i64 r_18), .one (.int .i64 r_19), .one (SV.v s3)]), (52, sval [.one (.int .i64 r_1), .one (.int .i64 r_2), .one (.int .i64 r_3), .one (.int .i64 r_4), .one (SV.v s1)]), (53, .bool r_22), (54, .bool (!r_22)), (55, .bool (!r_22))] [box b_3 24 [.one (.int .i64 r_16), .one (.int .i64 r_17), .one (.int .i64 r_18), .one (.int .i64 r_19), .one (SV.v s3)], row Ei 2 s3 r_20, row Ei 2 s2 l1, box b_2 24 [.one (.int .i64 r_7), .one (.int .i64 r_8), .one (.int .i64 r_9), .one (.int .i64 r_10), .one (SV.v s2)], box b_1 24 [.one (.int .i64 r_1), .one (.int .i64 r_2), .one (.int .i64 r_3), .one (.int .i64 r_4), .one (SV.v s1)], row Ei 2 s1 r_5] ?_ ?_
          · refine TL.cases (t := 55) (b := (!r_22)) rfl (fun c9 => ?_) (fun c10 => ?_)
            · refine TL.skip rfl rfl (by decide) ?_
              refine TL.skip rfl rfl (by decide) ?_
              refine TL.skip rfl rfl (by decide) ?_
              refine TL.pick rfl rfl (b := true) rfl (r := .bool true) rfl ?_
              refine TL.done ?_
              exact TC.nrm () () ⟨(by rw [c9]; rfl), rfl, rfl, rfl, rfl, rfl, rfl, rfl, rfl, rfl, rfl, rfl, rfl, rfl, rfl, rfl, rfl, rfl, rfl, rfl, rfl, rfl, rfl, rfl, rfl, rfl, rfl, rfl, rfl, rfl, rfl, rfl, rfl, rfl, rfl, rfl, rfl, rfl, rfl, rfl, rfl, rfl, rfl, rfl, rfl, rfl, rfl, rfl, rfl, rfl, rfl, (by rw [c9]; rfl), trivial⟩ [0, 0, 0, 0, 0, 0] rfl
            · refine TL.move rfl rfl (v := .int .i64 r_21) rfl ?_
              refine TL.move rfl rfl (v := .int .i64 r_6) rfl ?_
              refine TL.bin .i64 r_21 r_6 rfl rfl rfl rfl (v := .bool (r_21 != r_6)) rfl ?_
              refine TL.pick rfl rfl (b := false) rfl (r := .bool (r_21 != r_6)) rfl ?_
              refine TL.done ?_
              exact TC.nrm () () ⟨(by rw [c10]; rfl), rfl, rfl, rfl, rfl, rfl, rfl, rfl, rfl, rfl, rfl, rfl, rfl, rfl, rfl, rfl, rfl, rfl, rfl, rfl, rfl, rfl, rfl, rfl, rfl, rfl, rfl, rfl, rfl, rfl, rfl, rfl, rfl, rfl, rfl, rfl, rfl, rfl, rfl, rfl, rfl, rfl, rfl, rfl, rfl, rfl, rfl, rfl, rfl, rfl, rfl, (by rw [c10]; rfl), trivial⟩ [0, 0, 0, 0, 0, 0] rfl
          · refine TL.done ?_
            refine TC.cond (b := ((!r_22) || (r_21 != r_6))) rfl (fun c11 => ?_) (fun c12 => ?_)
            · refine TC.seq ?_
              refine TC.region ?_
              refine TL.assign rfl rfl (v := .bool false) rfl ?_
              refine TL.done ?_
              exact TC.retF (Fin.body (fin1 (.inr rfl) rfl (.tmp rfl) [] rfl ⟨rfl, rfl⟩))
            · refine TC.skip ?_
              refine TC.seq ?_
              refine TC.region ?_
              refine TL.assign rfl rfl (v := .int .i64 1) rfl ?_
              refine TL.done ?_
              refine TC.seq ?_
              refine TC.region ?_
              refine TL.loadM 0 5 (Src.box 3 rfl) Try.isAgg24 Try.sizeOf24 (mid := [.one (.int .i64 r_7), .one (.int .i64 r_8), .one (.int .i64 r_9), .one (.int .i64 r_10), .one (SV.v s2)]) rfl rfl rfl rfl rfl rfl ?_
              refine TL.move rfl rfl (v := .int .i64 1) rfl ?_
              refine TL.call (R := G.laws_heldTensor.R) Try.call16 rfl rfl rfl (fun w hS => G.laws_heldTensor.calls w r_7 r_8 r_9 r_10 s2 l1 1 ((Rd.row 2 rfl) w hS)) ?_
              rintro r_23 _ _ ⟨rfl, rfl⟩
              refine TL.assign rfl rfl (v := .int .i64 r_23) rfl ?_
              refine TL.done ?_
              refine TC.seq ?_
              refine TC.seq ?_
              refine TC.region ?_
              refine TL.move rfl rfl (v := .int .i64 r_23) rfl ?_
              refine TL.bin .i64 r_23 0 rfl rfl rfl rfl (v := .bool (decide (r_23 < 0))) rfl ?_
              refine TL.done ?_
              refine TC.cond (b := (decide (r_23 < 0))) rfl (fun c13 => ?_) (fun c14 => ?_)
              · refine TC.seq ?_
                refine TC.region ?_
                refine TL.assign rfl rfl (v := .bool false) rfl ?_
                refine TL.done ?_
                exact TC.retF (Fin.body (fin1 (.inr rfl) rfl (.tmp rfl) [] rfl ⟨rfl, rfl⟩))
              · refine TC.skip ?_
                refine TC.seq ?_
                refine TC.seq ?_
                refine TC.region ?_
                refine TL.move rfl rfl (v := .int .i64 r_23) rfl ?_
                refine TL.move rfl rfl (v := .int .i64 r_14) rfl ?_
                refine TL.bin .i64 r_23 r_14 rfl rfl rfl rfl (v := .bool (r_23 != r_14)) rfl ?_
                refine TL.done ?_
                refine TC.cond (b := (r_23 != r_14)) rfl (fun c15 => ?_) (fun c16 => ?_)
                · refine TC.seq ?_
                  refine TC.region ?_
                  refine TL.assign rfl rfl (v := .bool false) rfl ?_
                  refine TL.done ?_
                  exact TC.retF (Fin.body (fin1 (.inr rfl) rfl (.tmp rfl) [] rfl ⟨rfl, rfl⟩))
                · refine TC.skip ?_
                  refine TC.seq ?_
                  refine TC.region ?_
                  refine TL.assign rfl rfl (v := .bool true) rfl ?_
                  refine TL.done ?_
                  exact TC.retF (Fin.body (fin1 (.inr rfl) rfl (.tmp rfl) [] rfl ⟨rfl, rfl⟩))

end Go.Proofs.Ytjjfoofjipafiaa.G

/- slices.IndexFunc[[]int64,int64], as a pure function. -/
set_option linter.unusedVariables false
namespace Go.Proofs.Ytjjfoofjipafiaa.G
open Go Go.Sx Go.Proofs

def slices_IndexFunc_int64_int64.b0 (s1 : List Int) (f2 : Int → Option Bool) : Int → Option (LR Int Int) := fun x1 => (bif (decide (x1 < (s1.length : Int))) then chk x1 s1.length ((f2 (gt s1 x1)).bind (fun r_1 => (bif r_1 then some (.ret (x1)) else some (.next (w64 (x1 + 1)))))) else some (.brk x1))

def slices_IndexFunc_int64_int64.f (s1 : List Int) (f2 : Int → Option Bool) : Option Int := (loop (slices_IndexFunc_int64_int64.b0 s1 f2) 0).bind (ln (fun x1 => some (-1)))

def slices_IndexFunc_int64_int64.R (r : Int) (v : Value) (L : List Asn) : Prop := v = .int .i64 r ∧ L = []

set_option maxRecDepth 100000 in
set_option maxHeartbeats 4000000 in
theorem slices_IndexFunc_int64_int64.calls (w : World) (s2 : SV) (s1 : List Int) (f1 : Nat) (fst1 : List Value) (cap1 : List Value) (f2 : Int → Option Bool) (h1 : Reads Ei (hp w) s2 s1) (hc1 : ∀ (args_ : Array Value) (w_ : World), (callFunc f1 args_).run Try.prog w_ = .ok (.enter f1 args_) w_) (hf1 : ∀ w_, Hle (hp w) (hp w_) → ∀ (x0_ : Int), ∀ r_, f2 x0_ = some r_ → Calls Try.prog f1 (fst1 ++ ([.int .i64 x0_] : List Value) ++ cap1).toArray w_ (Ret w_ (fun (v_ : Value) (L_ : List Asn) => v_ = .bool r_ ∧ L_ = []))) :
    ∀ r, slices_IndexFunc_int64_int64.f s1 f2 = some r → Calls Try.prog 106 #[SV.v s2, .func (.func f1) fst1.toArray cap1.toArray] w (Ret w (slices_IndexFunc_int64_int64.R r)) := by

  refine calls_T (n := 19) (Γ := [(0, SV.v s2), (1, .func (.func f1) fst1.toArray cap1.toArray)]) (R := slices_IndexFunc_int64_int64.R) Try.func106 rfl rfl (Nat.le_of_ble_eq_true rfl) ⟨rfl, rfl, trivial⟩ ?_
  unfold slices_IndexFunc_int64_int64.f
  refine TC.seq ?_
  refine TC.region ?_
  refine TL.assign rfl rfl (v := .int .i64 0) rfl ?_
  refine TL.done ?_
  refine TC.seq ?_
  refine TC.seq ?_
  refine TC.region ?_
  refine TL.move rfl rfl (v := SV.v s2) rfl ?_
  refine TL.len (Rd.old h1) Try.underlying22 rfl rfl rfl ?_
  refine TL.move rfl rfl (v := .int .i64 0) rfl ?_
  refine TL.done ?_
  refine TC.loopK (σ := Int) (γ := Unit) (Γ' := (fun x1 _ => [(0, SV.v s2), (1, .func (.func f1) fst1.toArray cap1.toArray), (7, .int .i64 (s1.length : Int)), (8, .int .i64 x1)])) (L' := (fun x1 _ => [])) (Γb := (fun x1 _ => [(0, SV.v s2), (1, .func (.func f1) fst1.toArray cap1.toArray), (7, .int .i64 (s1.length : Int)), (8, .int .i64 x1)])) (Lb := (fun x1 _ => [])) (0) (()) ⟨rfl, rfl, rfl, rfl, trivial⟩ [] rfl ?_ ?_
  · rintro x1 _
    refine TC.seq ?_
    refine TC.region ?_
    refine TL.bin .i64 x1 (s1.length : Int) rfl rfl rfl rfl (v := .bool (decide (x1 < (s1.length : Int)))) rfl ?_
    refine TL.done ?_
    refine TC.seq ?_
    refine TC.cond (b := (decide (x1 < (s1.length : Int)))) rfl (fun c1 => ?_) (fun c2 => ?_)
    · refine TC.skip ?_
      refine TC.seq ?_
      refine TC.block (NoEx.loop rfl NoEx.body) ?_
      refine TC.seq ?_
      refine TC.region ?_
      refine TL.move rfl rfl (v := .int .i64 x1) rfl ?_
      refine TL.assign rfl rfl (v := .int .i64 x1) rfl ?_
      refine TL.done ?_
      refine TC.seq ?_
      refine TC.region ?_
      refine TL.move rfl rfl (v := .func (.func f1) fst1.toArray cap1.toArray) rfl ?_
      refine TL.move rfl rfl (v := SV.v s2) rfl ?_
      refine TL.move rfl rfl (v := .int .i64 x1) rfl ?_
      refine TL.chk fun h2 => ?_
      refine TL.ixs x1 x1.toNat (Rd.old h1) h2 Try.underlying22 Try.sizeOf2 rfl rfl rfl rfl (by omega) ?_
      refine TL.loadE (Rd.old h1) Try.isAgg2 x1.toNat 0 (gt_spec h2) (v := .int .i64 (gt s1 x1)) rfl (by simp only [show Ei.sz = 1 from rfl]; omega) rfl rfl rfl ?_
      refine TL.callv (R := (fun r_ => (fun (v_ : Value) (L_ : List Asn) => v_ = .bool r_ ∧ L_ = []))) (vs := [.int .i64 (gt s1 x1)]) hc1 rfl rfl rfl rfl (fun w hS => hf1 w hS.iw (gt s1 x1)) ?_
      rintro r_1 _ _ ⟨rfl, rfl⟩
      refine TL.done ?_
      refine TC.cond (b := r_1) rfl (fun c3 => ?_) (fun c4 => ?_)
      · refine TC.seq ?_
        refine TC.region ?_
        refine TL.move rfl rfl (v := .int .i64 x1) rfl ?_
        refine TL.assign rfl rfl (v := .int .i64 x1) rfl ?_
        refine TL.done ?_
        exact TC.retF (Fin.loop Far.ret (Fin.body (fin1 (.inr rfl) rfl (.tmp rfl) [] rfl ⟨rfl, rfl⟩)))
      · refine TC.skip ?_
        refine TC.region ?_
        refine TL.bin .i64 x1 1 rfl rfl rfl rfl (v := .int .i64 (w64 (x1 + 1))) rfl ?_
        refine TL.move rfl rfl (v := .int .i64 (w64 (x1 + 1))) rfl ?_
        refine TL.done ?_
        exact TC.next ((w64 (x1 + 1))) (()) ⟨rfl, rfl, rfl, rfl, trivial⟩ [] rfl
    · exact TC.brk (x1) (()) ⟨rfl, rfl, rfl, rfl, trivial⟩ [] rfl
  · rintro x1 _
    refine TC.seq ?_
    refine TC.region ?_
    refine TL.assign rfl rfl (v := .int .i64 (-1)) rfl ?_
    refine TL.done ?_
    exact TC.retF (Fin.body (fin1 (.inr rfl) rfl (.tmp rfl) [] rfl ⟨rfl, rfl⟩))

end Go.Proofs.Ytjjfoofjipafiaa.G

/- slices.ContainsFunc[[]int64,int64], as a pure function. -/
set_option linter.unusedVariables false
namespace Go.Proofs.Ytjjfoofjipafiaa.G
open Go Go.Sx Go.Proofs

def slices_ContainsFunc_int64_int64.f (s1 : List Int) (f2 : Int → Option Bool) : Option Bool := (G.slices_IndexFunc_int64_int64.f s1 f2).bind (fun r_1 => some (decide (r_1 ≥ 0)))

def slices_ContainsFunc_int64_int64.R (r : Bool) (v : Value) (L : List Asn) : Prop := v = .bool r ∧ L = []

set_option maxRecDepth 100000 in
set_option maxHeartbeats 4000000 in
theorem slices_ContainsFunc_int64_int64.calls (w : World) (s2 : SV) (s1 : List Int) (f1 : Nat) (fst1 : List Value) (cap1 : List Value) (f2 : Int → Option Bool) (h1 : Reads Ei (hp w) s2 s1) (hc1 : ∀ (args_ : Array Value) (w_ : World), (callFunc f1 args_).run Try.prog w_ = .ok (.enter f1 args_) w_) (hf1 : ∀ w_, Hle (hp w) (hp w_) → ∀ (x0_ : Int), ∀ r_, f2 x0_ = some r_ → Calls Try.prog f1 (fst1 ++ ([.int .i64 x0_] : List Value) ++ cap1).toArray w_ (Ret w_ (fun (v_ : Value) (L_ : List Asn) => v_ = .bool r_ ∧ L_ = []))) :
    ∀ r, slices_ContainsFunc_int64_int64.f s1 f2 = some r → Calls Try.prog 89 #[SV.v s2, .func (.func f1) fst1.toArray cap1.toArray] w (Ret w (slices_ContainsFunc_int64_int64.R r)) := by

  refine calls_T (n := 9) (Γ := [(0, SV.v s2), (1, .func (.func f1) fst1.toArray cap1.toArray)]) (R := slices_ContainsFunc_int64_int64.R) Try.func89 rfl rfl (Nat.le_of_ble_eq_true rfl) ⟨rfl, rfl, trivial⟩ ?_
  unfold slices_ContainsFunc_int64_int64.f
  refine TC.seq ?_
  refine TC.region ?_
  refine TL.assign rfl rfl (v := .bool false) rfl ?_
  refine TL.done ?_
  refine TC.seq ?_
  refine TC.region ?_
  refine TL.move rfl rfl (v := SV.v s2) rfl ?_
  refine TL.move rfl rfl (v := .func (.func f1) fst1.toArray cap1.toArray) rfl ?_
  refine TL.call (R := G.slices_IndexFunc_int64_int64.R) Try.call106 rfl rfl rfl (fun w hS => G.slices_IndexFunc_int64_int64.calls w s2 s1 f1 fst1 cap1 f2 ((Rd.old h1) w hS) hc1 (fun w_ hle_ => hf1 w_ (hS.iw.trans hle_))) ?_
  rintro r_1 _ _ ⟨rfl, rfl⟩
  refine TL.bin .i64 r_1 0 rfl rfl rfl rfl (v := .bool (decide (r_1 ≥ 0))) rfl ?_
  refine TL.assign rfl rfl (v := .bool (decide (r_1 ≥ 0))) rfl ?_
  refine TL.done ?_
  exact TC.retF (Fin.body (fin1 (.inr rfl) rfl (.tmp rfl) [] rfl ⟨rfl, rfl⟩))

end Go.Proofs.Ytjjfoofjipafiaa.G

/- impl.IsTensor$1, as a pure function. -/
set_option linter.unusedVariables false
namespace Go.Proofs.Ytjjfoofjipafiaa.G
open Go Go.Sx Go.Proofs

def impl_IsTensor_1.f (x1 : Int) (c1 : Int) (c2 : Int) (c3 : Int) (c4 : Int) (c5 : List Int) : Option Bool := (G.impl_in.f x1 0 (w64 (c1 - 1))).bind (fun r_1 => some (!r_1))

def impl_IsTensor_1.R (r : Bool) (v : Value) (L : List Asn) : Prop := v = .bool r ∧ L = []

set_option maxRecDepth 100000 in
set_option maxHeartbeats 4000000 in
theorem impl_IsTensor_1.calls (w : World) (x1 : Int) (b_1 : Nat) (c1 : Int) (c2 : Int) (c3 : Int) (c4 : Int) (s1 : SV) (c5 : List Int) (h2 : At (hp w) b_1 [.one (.int .i64 c1), .one (.int .i64 c2), .one (.int .i64 c3), .one (.int .i64 c4), .one (SV.v s1)]) (h1 : Reads Ei (hp w) s1 c5) :
    ∀ r, impl_IsTensor_1.f x1 c1 c2 c3 c4 c5 = some r → Calls Try.prog 90 #[.int .i64 x1, bp b_1 0] w (Ret w (impl_IsTensor_1.R r)) := by

  refine calls_T (n := 10) (Γ := [(0, .int .i64 x1), (1, bp b_1 0)]) (R := impl_IsTensor_1.R) Try.func90 rfl rfl (Nat.le_of_ble_eq_true rfl) ⟨rfl, rfl, trivial⟩ ?_
  unfold impl_IsTensor_1.f
  refine TC.seq ?_
  refine TC.region ?_
  refine TL.assign rfl rfl (v := .bool false) rfl ?_
  refine TL.done ?_
  refine TC.seq ?_
  refine TC.region ?_
  refine TL.move rfl rfl (v := .int .i64 x1) rfl ?_
  refine TL.fa Try.underlying24 rfl Try.sizeOf2 rfl 0 rfl rfl rfl rfl ?_
  refine TL.load1 0 (Src.at h2) Try.isAgg2 rfl rfl rfl rfl rfl ?_
  refine TL.bin .i64 c1 1 rfl rfl rfl rfl (v := .int .i64 (w64 (c1 - 1))) rfl ?_
  refine TL.call (R := G.impl_in.R) Try.call62 rfl rfl rfl (fun w hS => G.impl_in.calls w x1 0 (w64 (c1 - 1))) ?_
  rintro r_1 _ _ ⟨rfl, rfl⟩
  refine TL.not r_1 rfl rfl rfl ?_
  refine TL.assign rfl rfl (v := .bool (!r_1)) rfl ?_
  refine TL.done ?_
  exact TC.retF (Fin.body (fin1 (.inr rfl) rfl (.tmp rfl) [] rfl ⟨rfl, rfl⟩))

end Go.Proofs.Ytjjfoofjipafiaa.G
