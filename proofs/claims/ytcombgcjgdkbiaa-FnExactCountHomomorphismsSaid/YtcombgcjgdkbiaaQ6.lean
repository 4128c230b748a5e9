/- laws.FnExactCountHomomorphisms, as a pure function. -/
import Derived.Test.YtcombgcjgdkbiaaProg
import Derived.Test.YtcombgcjgdkbiaaSx9
import Derived.Test.YtcombgcjgdkbiaaQ24
import Derived.Test.YtcombgcjgdkbiaaQ26
import Derived.Test.YtcombgcjgdkbiaaQ27
set_option linter.unusedVariables false
namespace Go.Proofs.Ytcombgcjgdkbiaa.G
open Go Go.Sx Go.Proofs

def laws_FnExactCountHomomorphisms.f (aG1 : Int) (aG2 : Nat → UInt8) (aH1 : Int) (aH2 : Nat → UInt8) : Option Bool := (G.laws_toGroup.f aG1 aG2).bind (fun p => match p with | (r_1, r_2) => (G.laws_toGroup.f aH1 aH2).bind (fun p => match p with | (r_3, r_4) => (G.spec_CountHomomorphisms.f r_1 r_2 r_3 r_4).bind (fun p => match p with | (r_5, r_6) => (G.laws_toGroup.f aG1 aG2).bind (fun p => match p with | (r_7, r_8) => (G.laws_toGroup.f aH1 aH2).bind (fun p => match p with | (r_9, r_10) => (G.impl_CountHomomorphisms.f r_7 r_8 r_9 r_10).bind (fun p => match p with | (r_11, r_12) => (bif ((r_11 != r_5) || (r_12 != r_6)) then some false else some true)))))))

def laws_FnExactCountHomomorphisms.R (r : Bool) (v : Value) (L : List Asn) : Prop := v = .bool r ∧ L = []

set_option maxRecDepth 100000 in
set_option maxHeartbeats 4000000 in
theorem laws_FnExactCountHomomorphisms.calls (w : World) (aG1 : Int) (aG2 : Nat → UInt8) (aH1 : Int) (aH2 : Nat → UInt8) :
    ∀ r, laws_FnExactCountHomomorphisms.f aG1 aG2 aH1 aH2 = some r → Calls Try.prog 6 #[sval [.one (.int .i64 aG1), .arr 36 (enf u8v aG2)], sval [.one (.int .i64 aH1), .arr 36 (enf u8v aH2)]] w (Ret w (laws_FnExactCountHomomorphisms.R r)) := by

  refine calls_T (n := 33) (Γ := [(0, sval [.one (.int .i64 aG1), .arr 36 (enf u8v aG2)]), (1, sval [.one (.int .i64 aH1), .arr 36 (enf u8v aH2)])]) (R := laws_FnExactCountHomomorphisms.R) Try.func6 rfl rfl (Nat.le_of_ble_eq_true rfl) ⟨rfl, rfl, trivial⟩ ?_
  unfold laws_FnExactCountHomomorphisms.f
  refine TC.seq ?_
  refine TC.region ?_
  refine TL.box [.one (.int .i64 aG1), .arr 36 (enf u8v aG2)] rfl rfl rfl rfl fun b_1 => ?_
  refine TL.box [.one (.int .i64 aH1), .arr 36 (enf u8v aH2)] rfl rfl rfl rfl fun b_2 => ?_
  refine TL.assign rfl rfl (v := .bool false) rfl ?_
  refine TL.done ?_
  refine TC.seq ?_
  refine TC.wk (Γ' := [(0, sval [.one (.int .i64 aG1), .arr 36 (enf u8v aG2)]), (1, sval [.one (.int .i64 aH1), .arr 36 (enf u8v aH2)]), (2, bp b_1 0), (3, bp b_2 0), (4, .bool false)]) ⟨rfl, rfl, rfl, rfl, rfl, trivial⟩ ?_
  refine TC.bindE ?_
  rintro ⟨r_1, r_2⟩ hr1
  refine TC.bindE ?_
  rintro ⟨r_3, r_4⟩ hr2
  refine TC.bindE ?_
  rintro ⟨r_5, r_6⟩ hr3
  refine TC.drawG [(0, sval [.one (.int .i64 aG1), .arr 36 (enf u8v aG2)]), (1, sval [.one (.int .i64 aH1), .arr 36 (enf u8v aH2)]), (2, bp b_1 0), (3, bp b_2 0), (4, .bool false)] [] ⟨rfl, rfl, rfl, rfl, rfl, trivial⟩ trivial (fun l_ g1 => [box b_2 35 [.one (.int .i64 aH1), .arr 36 (enf u8v aH2)], box b_1 35 [.one (.int .i64 aG1), .arr 36 (enf u8v aG2)]]) (fun g1 => [sval [.one (.int .i64 aG1), .arr 36 (enf u8v aG2)], sval [.one (.int .i64 r_1), .arr 36 (enf u8v r_2)], sval [.one (.int .i64 aH1), .arr 36 (enf u8v aH2)], sval [.one (.int .i64 r_3), .arr 36 (enf u8v r_4)], .tuple #[.int .i64 r_5, .int .i64 r_6], .tuple #[.int .i64 r_5, .int .i64 r_6], .int .i64 r_5, .int .i64 r_6, .int .i64 r_5, .int .i64 r_6]) [[], [0], [], [0, 1, 2], [0, 1, 2, 3], [0, 1, 2, 3, 4], [0, 1, 2, 3, 4, 5], [0, 1, 2, 3, 4, 5], [0, 1, 2, 3, 4, 5, 6], [0, 1, 2, 3, 4, 5, 6, 7, 8]] [[some false, some false, none, some false, some false, some false, some false, some false, some false, some false], [some true, some false, none, some false, some false, some false, some false, some false, some false, some false], [none, none, some false, some false, some false, some false, some false, some false, some false, some false], [some true, some true, some true, some false, some false, some false, some false, some false, some false, some false], [some true, some true, some true, some true, some false, some false, some false, some false, some false, some false], [some true, some true, some true, some true, some true, some false, some false, some false, some false, some false], [some true, some true, some true, some true, some true, some true, some false, none, some false, some false], [some true, some true, some true, some true, some true, some true, none, some false, none, some false], [some true, some true, some true, some true, some true, some true, some true, none, some false, some false], [some true, some true, some true, some true, some true, some true, some true, some true, some true, some false]] (by kernel_rfl) (fun _ => rfl) rfl rfl rfl rfl rfl (fun _ _ => ⟨⟨⟨⟨⟨⟨⟨⟨⟨⟨trivial, rfl⟩, rfl⟩, rfl⟩, rfl⟩, rfl⟩, rfl⟩, rfl⟩, rfl⟩, rfl⟩, rfl⟩) 0 [0, 0] (fun _ => rfl) ?_ ?_
  · refine ⟨rfl, ?_, rfl, ?_, rfl, ?_, rfl, ?_, rfl, ?_, rfl, ?_, rfl, ?_, rfl, ?_, rfl, ?_, rfl, ?_, trivial⟩
    · intro b2_ g1
      refine TL.asL [box b_2 35 [.one (.int .i64 aH1), .arr 36 (enf u8v aH2)], box b_1 35 [.one (.int .i64 aG1), .arr 36 (enf u8v aG2)]] rfl ?_
      refine TL.loadM 0 2 (Src.box 1 rfl) Try.isAgg35 Try.sizeOf35 (mid := [.one (.int .i64 aG1), .arr 36 (enf u8v aG2)]) rfl rfl rfl rfl rfl rfl ?_
      refine TL.done ?_
      exact TC.nrm () [] ⟨rfl, trivial⟩ [0, 0] rfl
    · intro b2_ g1
      refine TL.asL [box b_2 35 [.one (.int .i64 aH1), .arr 36 (enf u8v aH2)], box b_1 35 [.one (.int .i64 aG1), .arr 36 (enf u8v aG2)]] rfl ?_
      refine TL.callH (R := G.laws_toGroup.R) hr1 Try.call24 rfl rfl rfl (fun w hS => G.laws_toGroup.calls w aG1 aG2) ?_
      rintro _ _ ⟨rfl, rfl⟩
      refine TL.done ?_
      exact TC.nrm () [] ⟨rfl, trivial⟩ [0, 0] rfl
    · intro b0_ b1_ g1
      refine TL.asL [box b_2 35 [.one (.int .i64 aH1), .arr 36 (enf u8v aH2)], box b_1 35 [.one (.int .i64 aG1), .arr 36 (enf u8v aG2)]] rfl ?_
      refine TL.loadM 0 2 (Src.box 0 rfl) Try.isAgg35 Try.sizeOf35 (mid := [.one (.int .i64 aH1), .arr 36 (enf u8v aH2)]) rfl rfl rfl rfl rfl rfl ?_
      refine TL.done ?_
      exact TC.nrm () [] ⟨rfl, trivial⟩ [0, 0] rfl
    · intro g1
      refine TL.asL [box b_2 35 [.one (.int .i64 aH1), .arr 36 (enf u8v aH2)], box b_1 35 [.one (.int .i64 aG1), .arr 36 (enf u8v aG2)]] rfl ?_
      refine TL.callH (R := G.laws_toGroup.R) hr2 Try.call24 rfl rfl rfl (fun w hS => G.laws_toGroup.calls w aH1 aH2) ?_
      rintro _ _ ⟨rfl, rfl⟩
      refine TL.done ?_
      exact TC.nrm () [] ⟨rfl, trivial⟩ [0, 0] rfl
    · intro g1
      refine TL.asL [box b_2 35 [.one (.int .i64 aH1), .arr 36 (enf u8v aH2)], box b_1 35 [.one (.int .i64 aG1), .arr 36 (enf u8v aG2)]] rfl ?_
      refine TL.callH (R := G.spec_CountHomomorphisms.R) hr3 Try.call26 rfl rfl rfl (fun w hS => G.spec_CountHomomorphisms.calls w r_1 r_2 r_3 r_4) ?_
      rintro _ _ ⟨rfl, rfl⟩
      refine TL.done ?_
      exact TC.nrm () [] ⟨rfl, trivial⟩ [0, 0] rfl
    · intro g1
      refine TL.move rfl rfl (v := .tuple #[.int .i64 r_5, .int .i64 r_6]) rfl ?_
      refine TL.done ?_
      exact TC.nrm () [] ⟨rfl, trivial⟩ [0, 0] rfl
    · intro b7_ g1
      refine TL.extract rfl rfl rfl (v := .int .i64 r_5) rfl ?_
      refine TL.done ?_
      exact TC.nrm () [] ⟨rfl, trivial⟩ [0, 0] rfl
    · intro b6_ b8_ g1
      refine TL.extract rfl rfl rfl (v := .int .i64 r_6) rfl ?_
      refine TL.done ?_
      exact TC.nrm () [] ⟨rfl, trivial⟩ [0, 0] rfl
    · intro b7_ g1
      refine TL.assign rfl rfl (v := .int .i64 r_5) rfl ?_
      refine TL.done ?_
      exact TC.nrm () [] ⟨rfl, trivial⟩ [0, 0] rfl
    · intro g1
      refine TL.assign rfl rfl (v := .int .i64 r_6) rfl ?_
      refine TL.done ?_
      exact TC.nrm () [] ⟨rfl, trivial⟩ [0, 0] rfl
  · intro g1
    refine TC.asL [box b_2 35 [.one (.int .i64 aH1), .arr 36 (enf u8v aH2)], box b_1 35 [.one (.int .i64 aG1), .arr 36 (enf u8v aG2)]] rfl ?_
    refine TC.seq ?_
    refine TC.wk (Γ' := [(0, sval [.one (.int .i64 aG1), .arr 36 (enf u8v aG2)]), (1, sval [.one (.int .i64 aH1), .arr 36 (enf u8v aH2)]), (2, bp b_1 0), (3, bp b_2 0), (4, .bool false), (10, sval [.one (.int .i64 aG1), .arr 36 (enf u8v aG2)]), (11, sval [.one (.int .i64 r_1), .arr 36 (enf u8v r_2)]), (12, sval [.one (.int .i64 aH1), .arr 36 (enf u8v aH2)]), (13, sval [.one (.int .i64 r_3), .arr 36 (enf u8v r_4)]), (14, .tuple #[.int .i64 r_5, .int .i64 r_6]), (9, .tuple #[.int .i64 r_5, .int .i64 r_6]), (15, .int .i64 r_5), (16, .int .i64 r_6), (5, .int .i64 r_5), (6, .int .i64 r_6)]) ⟨rfl, rfl, rfl, rfl, rfl, rfl, rfl, rfl, rfl, rfl, rfl, rfl, rfl, rfl, rfl, trivial⟩ ?_
    refine TC.bindE ?_
    rintro ⟨r_7, r_8⟩ hr4
    refine TC.bindE ?_
    rintro ⟨r_9, r_10⟩ hr5
    refine TC.bindE ?_
    rintro ⟨r_11, r_12⟩ hr6
    refine TC.drawG [(0, sval [.one (.int .i64 aG1), .arr 36 (enf u8v aG2)]), (1, sval [.one (.int .i64 aH1), .arr 36 (enf u8v aH2)]), (2, bp b_1 0), (3, bp b_2 0), (4, .bool false), (10, sval [.one (.int .i64 aG1), .arr 36 (enf u8v aG2)]), (11, sval [.one (.int .i64 r_1), .arr 36 (enf u8v r_2)]), (12, sval [.one (.int .i64 aH1), .arr 36 (enf u8v aH2)]), (13, sval [.one (.int .i64 r_3), .arr 36 (enf u8v r_4)]), (14, .tuple #[.int .i64 r_5, .int .i64 r_6]), (9, .tuple #[.int .i64 r_5, .int .i64 r_6]), (15, .int .i64 r_5), (16, .int .i64 r_6), (5, .int .i64 r_5), (6, .int .i64 r_6)] [] ⟨rfl, rfl, rfl, rfl, rfl, rfl, rfl, rfl, rfl, rfl, rfl, rfl, rfl, rfl, rfl, trivial⟩ trivial (fun l_ g2 => [box b_2 35 [.one (.int .i64 aH1), .arr 36 (enf u8v aH2)], box b_1 35 [.one (.int .i64 aG1), .arr 36 (enf u8v aG2)]]) (fun g2 => [sval [.one (.int .i64 aG1), .arr 36 (enf u8v aG2)], sval [.one (.int .i64 r_7), .arr 36 (enf u8v r_8)], sval [.one (.int .i64 aH1), .arr 36 (enf u8v aH2)], sval [.one (.int .i64 r_9), .arr 36 (enf u8v r_10)], .tuple #[.int .i64 r_11, .int .i64 r_12], .tuple #[.int .i64 r_11, .int .i64 r_12], .int .i64 r_11, .int .i64 r_12, .int .i64 r_11, .int .i64 r_12]) [[], [0], [], [0, 1, 2], [0, 1, 2, 3], [0, 1, 2, 3, 4], [0, 1, 2, 3, 4, 5], [0, 1, 2, 3, 4, 5], [0, 1, 2, 3, 4, 5, 6], [0, 1, 2, 3, 4, 5, 6, 7, 8]] [[some false, some false, none, some false, some false, some false, some false, some false, some false, some false], [some true, some false, none, some false, some false, some false, some false, some false, some false, some false], [none, none, some false, some false, some false, some false, some false, some false, some false, some false], [some true, some true, some true, some false, some false, some false, some false, some false, some false, some false], [some true, some true, some true, some true, some false, some false, some false, some false, some false, some false], [some true, some true, some true, some true, some true, some false, some false, some false, some false, some false], [some true, some true, some true, some true, some true, some true, some false, none, some false, some false], [some true, some true, some true, some true, some true, some true, none, some false, none, some false], [some true, some true, some true, some true, some true, some true, some true, none, some false, some false], [some true, some true, some true, some true, some true, some true, some true, some true, some true, some false]] (by kernel_rfl) (fun _ => rfl) rfl rfl rfl rfl rfl (fun _ _ => ⟨⟨⟨⟨⟨⟨⟨⟨⟨⟨trivial, rfl⟩, rfl⟩, rfl⟩, rfl⟩, rfl⟩, rfl⟩, rfl⟩, rfl⟩, rfl⟩, rfl⟩) 0 [0, 0] (fun _ => rfl) ?_ ?_
    · refine ⟨rfl, ?_, rfl, ?_, rfl, ?_, rfl, ?_, rfl, ?_, rfl, ?_, rfl, ?_, rfl, ?_, rfl, ?_, rfl, ?_, trivial⟩
      · intro b2_ g2
        refine TL.asL [box b_2 35 [.one (.int .i64 aH1), .arr 36 (enf u8v aH2)], box b_1 35 [.one (.int .i64 aG1), .arr 36 (enf u8v aG2)]] rfl ?_
        refine TL.loadM 0 2 (Src.box 1 rfl) Try.isAgg35 Try.sizeOf35 (mid := [.one (.int .i64 aG1), .arr 36 (enf u8v aG2)]) rfl rfl rfl rfl rfl rfl ?_
        refine TL.done ?_
        exact TC.nrm () [] ⟨rfl, trivial⟩ [0, 0] rfl
      · intro b2_ g2
        refine TL.asL [box b_2 35 [.one (.int .i64 aH1), .arr 36 (enf u8v aH2)], box b_1 35 [.one (.int .i64 aG1), .arr 36 (enf u8v aG2)]] rfl ?_
        refine TL.callH (R := G.laws_toGroup.R) hr4 Try.call24 rfl rfl rfl (fun w hS => G.laws_toGroup.calls w aG1 aG2) ?_
        rintro _ _ ⟨rfl, rfl⟩
        refine TL.done ?_
        exact TC.nrm () [] ⟨rfl, trivial⟩ [0, 0] rfl
      · intro b0_ b1_ g2
        refine TL.asL [box b_2 35 [.one (.int .i64 aH1), .arr 36 (enf u8v aH2)], box b_1 35 [.one (.int .i64 aG1), .arr 36 (enf u8v aG2)]] rfl ?_
        refine TL.loadM 0 2 (Src.box 0 rfl) Try.isAgg35 Try.sizeOf35 (mid := [.one (.int .i64 aH1), .arr 36 (enf u8v aH2)]) rfl rfl rfl rfl rfl rfl ?_
        refine TL.done ?_
        exact TC.nrm () [] ⟨rfl, trivial⟩ [0, 0] rfl
      · intro g2
        refine TL.asL [box b_2 35 [.one (.int .i64 aH1), .arr 36 (enf u8v aH2)], box b_1 35 [.one (.int .i64 aG1), .arr 36 (enf u8v aG2)]] rfl ?_
        refine TL.callH (R := G.laws_toGroup.R) hr5 Try.call24 rfl rfl rfl (fun w hS => G.laws_toGroup.calls w aH1 aH2) ?_
        rintro _ _ ⟨rfl, rfl⟩
        refine TL.done ?_
        exact TC.nrm () [] ⟨rfl, trivial⟩ [0, 0] rfl
      · intro g2
        refine TL.asL [box b_2 35 [.one (.int .i64 aH1), .arr 36 (enf u8v aH2)], box b_1 35 [.one (.int .i64 aG1), .arr 36 (enf u8v aG2)]] rfl ?_
        refine TL.callH (R := G.impl_CountHomomorphisms.R) hr6 Try.call27 rfl rfl rfl (fun w hS => G.impl_CountHomomorphisms.calls w r_7 r_8 r_9 r_10) ?_
        rintro _ _ ⟨rfl, rfl⟩
        refine TL.done ?_
        exact TC.nrm () [] ⟨rfl, trivial⟩ [0, 0] rfl
      · intro g2
        refine TL.move rfl rfl (v := .tuple #[.int .i64 r_11, .int .i64 r_12]) rfl ?_
        refine TL.done ?_
        exact TC.nrm () [] ⟨rfl, trivial⟩ [0, 0] rfl
      · intro b7_ g2
        refine TL.extract rfl rfl rfl (v := .int .i64 r_11) rfl ?_
        refine TL.done ?_
        exact TC.nrm () [] ⟨rfl, trivial⟩ [0, 0] rfl
      · intro b6_ b8_ g2
        refine TL.extract rfl rfl rfl (v := .int .i64 r_12) rfl ?_
        refine TL.done ?_
        exact TC.nrm () [] ⟨rfl, trivial⟩ [0, 0] rfl
      · intro b7_ g2
        refine TL.assign rfl rfl (v := .int .i64 r_11) rfl ?_
        refine TL.done ?_
        exact TC.nrm () [] ⟨rfl, trivial⟩ [0, 0] rfl
      · intro g2
        refine TL.assign rfl rfl (v := .int .i64 r_12) rfl ?_
        refine TL.done ?_
        exact TC.nrm () [] ⟨rfl, trivial⟩ [0, 0] rfl
    · intro g2
      refine TC.asL [box b_2 35 [.one (.int .i64 aH1), .arr 36 (enf u8v aH2)], box b_1 35 [.one (.int .i64 aG1), .arr 36 (enf u8v aG2)]] rfl ?_
      refine TC.seq ?_
      refine TC.seq ?_
      refine TC.region ?_
      refine TL.move rfl rfl (v := .int .i64 r_11) rfl ?_
      refine TL.move rfl rfl (v := .int .i64 r_5) rfl ?_
      refine TL.bin .i64 r_11 r_5 rfl rfl rfl rfl (v := .bool (r_11 != r_5)) rfl ?_
      refine TL.move rfl rfl (v := .bool (r_11 != r_5)) rfl ?_
      refine TL.cutU 4 [(32, .bool ((r_11 != r_5) || (r_12 != r_6))), (0, sval [.one (.int .i64 aG1), .arr 36 (enf u8v aG2)]), (1, sval [.one (.int .i64 aH1), .arr 36 (enf u8v aH2)]), (2, bp b_1 0), (3, bp b_2 0), (4, .bool false), (10, sval [.one (.int .i64 aG1), .arr 36 (enf u8v aG2)]), (11, sval [.one (.int .i64 r_1), .arr 36 (enf u8v r_2)]), (12, sval [.one (.int .i64 aH1), .arr 36 (enf u8v aH2)]), (13, sval [.one (.int .i64 r_3), .arr 36 (enf u8v r_4)]), (14, .tuple #[.int .i64 r_5, .int .i64 r_6]), (9, .tuple #[.int .i64 r_5, .int .i64 r_6]), (15, .int .i64 r_5), (16, .int .i64 r_6), (5, .int .i64 r_5), (6, .int .i64 r_6), (18, sval [.one (.int .i64 aG1), .arr 36 (enf u8v aG2)]), (19, sval [.one (.int .i64 r_7), .arr 36 (enf u8v r_8)]), (20, sval [.one (.int .i64 aH1), .arr 36 (enf u8v aH2)]), (21, sval [.one (.int .i64 r_9), .arr 36 (enf u8v r_10)]), (22, .tuple #[.int .i64 r_11, .int .i64 r_12]), (17, .tuple #[.int .i64 r_11, .int .i64 r_12]), (23, .int .i64 r_11), (24, .int .i64 r_12), (7, .int .i64 r_11), (8, .int .i64 r_12), (25, .int .i64 r_11), (26, .int .i64 r_5), (27, .bool (r_11 != r_5)), (28, .bool (r_11 != r_5))] [box b_2 35 [.one (.int .i64 aH1), .arr 36 (enf u8v aH2)], box b_1 35 [.one (.int .i64 aG1), .arr 36 (enf u8v aG2)]] ?_ ?_
      · refine TL.cases (t := 28) (b := (r_11 != r_5)) rfl (fun c1 => ?_) (fun c2 => ?_)
        · refine TL.skip rfl rfl (by decide) ?_
          refine TL.skip rfl rfl (by decide) ?_
          refine TL.skip rfl rfl (by decide) ?_
          refine TL.pick rfl rfl (b := true) rfl (r := .bool true) rfl ?_
          refine TL.done ?_
          exact TC.nrm () () ⟨(by rw [c1]; rfl), rfl, rfl, rfl, rfl, rfl, rfl, rfl, rfl, rfl, rfl, rfl, rfl, rfl, rfl, rfl, rfl, rfl, rfl, rfl, rfl, rfl, rfl, rfl, rfl, rfl, rfl, rfl, rfl, (by rw [c1]; rfl), trivial⟩ [0, 0] rfl
        · refine TL.move rfl rfl (v := .int .i64 r_12) rfl ?_
          refine TL.move rfl rfl (v := .int .i64 r_6) rfl ?_
          refine TL.bin .i64 r_12 r_6 rfl rfl rfl rfl (v := .bool (r_12 != r_6)) rfl ?_
          refine TL.pick rfl rfl (b := false) rfl (r := .bool (r_12 != r_6)) rfl ?_
          refine TL.done ?_
          exact TC.nrm () () ⟨(by rw [c2]; rfl), rfl, rfl, rfl, rfl, rfl, rfl, rfl, rfl, rfl, rfl, rfl, rfl, rfl, rfl, rfl, rfl, rfl, rfl, rfl, rfl, rfl, rfl, rfl, rfl, rfl, rfl, rfl, rfl, (by rw [c2]; rfl), trivial⟩ [0, 0] rfl
      · refine TL.done ?_
        refine TC.cond (b := ((r_11 != r_5) || (r_12 != r_6))) rfl (fun c3 => ?_) (fun c4 => ?_)
        · refine TC.seq ?_
          refine TC.region ?_
          refine TL.assign rfl rfl (v := .bool false) rfl ?_
          refine TL.done ?_
          exact TC.retF (Fin.body (fin1 (.inr rfl) rfl (.tmp rfl) [] rfl ⟨rfl, rfl⟩))
        · refine TC.skip ?_
          refine TC.seq ?_
          refine TC.region ?_
          refine TL.assign rfl rfl (v := .bool true) rfl ?_
          refine TL.done ?_
          exact TC.retF (Fin.body (fin1 (.inr rfl) rfl (.tmp rfl) [] rfl ⟨rfl, rfl⟩))

end Go.Proofs.Ytcombgcjgdkbiaa.G
