/- impl.groupOf, as a pure function. -/
import Derived.Test.YtgljkechjkllgaaProg
import Derived.Test.YtgljkechjkllgaaSx9
set_option linter.unusedVariables false
namespace Go.Proofs.Ytgljkechjkllgaa.G
open Go Go.Sx Go.Proofs

def impl_groupOf.b0 (n_1 : Int) (product1 : Int → Int → Option Int) (x1 : Int) : (Nat → UInt8) × Int → Option (LB ((Nat → UInt8) × Int)) := fun p => match p with | (g2, x2) => (bif (decide (x2 < n_1)) then (product1 x1 x2).bind (fun r_1 => chk x1 6 (chk x2 6 (some (.next ((upd g2 (x1.toNat * 6 + x2.toNat) (UInt8.ofInt r_1)), (w64 (x2 + 1))))))) else some (.brk (g2, x2)))

def impl_groupOf.b1 (n_1 : Int) (product1 : Int → Int → Option Int) : (Nat → UInt8) × Int → Option (LB ((Nat → UInt8) × Int)) := fun p => match p with | (g1, x1) => (bif (decide (x1 < n_1)) then (loop1 (impl_groupOf.b0 n_1 product1 x1) (g1, 0)).bind (fun p => match p with | (g2, x2) => some (.next (g2, (w64 (x1 + 1))))) else some (.brk (g1, x1)))

def impl_groupOf.f (n_1 : Int) (product1 : Int → Int → Option Int) : Option (Int × (Nat → UInt8)) := (loop1 (impl_groupOf.b1 n_1 product1) ((fun _ => (0 : UInt8)), 0)).bind (fun p => match p with | (g1, x1) => some (n_1, g1))

def impl_groupOf.R (r : Int × (Nat → UInt8)) (v : Value) (L : List Asn) : Prop := v = sval [.one (.int .i64 r.1), .arr 36 (enf u8v r.2)] ∧ L = []

set_option maxRecDepth 100000 in
set_option maxHeartbeats 4000000 in
theorem impl_groupOf.calls (w : World) (n_1 : Int) (f1 : Nat) (cap1 : List Value) (product1 : Int → Int → Option Int) (hc1 : ∀ (args_ : Array Value) (w_ : World), (callFunc f1 args_).run Try.prog w_ = .ok (.enter f1 args_) w_) (hf1 : ∀ w_, Hle (hp w) (hp w_) → ∀ (x0_ : Int) (x1_ : Int), ∀ r_, product1 x0_ x1_ = some r_ → Calls Try.prog f1 (([.int .i64 x0_, .int .i64 x1_] : List Value) ++ cap1).toArray w_ (Ret w_ (fun (v_ : Value) (L_ : List Asn) => v_ = .int .i64 r_ ∧ L_ = []))) :
    ∀ r, impl_groupOf.f n_1 product1 = some r → Calls Try.prog 63 #[.int .i64 n_1, .func (.func f1) #[] cap1.toArray] w (Ret w (impl_groupOf.R r)) := by

  refine calls_T (n := 31) (Γ := [(0, .int .i64 n_1), (1, .func (.func f1) #[] cap1.toArray)]) (R := impl_groupOf.R) Try.func63 rfl rfl (Nat.le_of_ble_eq_true rfl) ⟨rfl, rfl, trivial⟩ ?_
  unfold impl_groupOf.f
  refine TC.seq ?_
  refine TC.region ?_
  refine TL.alloc [.one (.int .i64 0), .arr 36 (enf u8v (fun _ => (0 : UInt8)))] rfl rfl Try.zeroValue38 rfl fun b_1 => ?_
  refine TL.done ?_
  refine TC.seq ?_
  refine TC.region ?_
  refine TL.move rfl rfl (v := .int .i64 n_1) rfl ?_
  refine TL.buildS (segs0 := [.one (.int .i64 0), .arr 36 (enf u8v (fun _ => (0 : UInt8)))]) (segs := [.one (.int .i64 n_1), .arr 36 (enf u8v (fun _ => (0 : UInt8)))]) [1, 36] Try.underlying38 ⟨Try.sizeOf2, Try.sizeOf34, trivial⟩ Try.zeroValue38 rfl [(0, .int .i64 n_1)] rfl (fun pl hpl => by subst hpl; exact fill_one 0 rfl rfl rfl rfl (rfl)) rfl rfl ?_
  refine TL.alloc [.one (.int .i64 0), .arr 36 (enf u8v (fun _ => (0 : UInt8)))] rfl rfl Try.zeroValue38 rfl fun b_2 => ?_
  refine TL.stM (news := [.one (.int .i64 n_1), .arr 36 (enf u8v (fun _ => (0 : UInt8)))]) 0 0 2 rfl Try.sizeOf38 (ones_one rfl (ones_arr (fun _ => rfl) ones_nil)) rfl rfl rfl rfl rfl rfl ?_
  refine TL.done ?_
  refine TC.seq ?_
  refine TC.seq ?_
  refine TC.region ?_
  refine TL.move rfl rfl (v := .int .i64 n_1) rfl ?_
  refine TL.move rfl rfl (v := .int .i64 0) rfl ?_
  refine TL.done ?_
  refine TC.loop1 (σ := (Nat → UInt8) × Int) (γ := Unit) (Γ' := (fun p q => match p, q with | (g1, x1), _ => [(0, .int .i64 n_1), (1, .func (.func f1) #[] cap1.toArray), (4, bp b_1 0), (5, bp b_2 0), (10, .int .i64 n_1), (11, .int .i64 x1)])) (L' := (fun p q => match p, q with | (g1, x1), _ => [box b_1 38 [.one (.int .i64 0), .arr 36 (enf u8v (fun _ => (0 : UInt8)))], box b_2 38 [.one (.int .i64 n_1), .arr 36 (enf u8v g1)]])) (Γb := (fun p q => match p, q with | (g1, x1), _ => [(0, .int .i64 n_1), (1, .func (.func f1) #[] cap1.toArray), (4, bp b_1 0), (5, bp b_2 0), (10, .int .i64 n_1), (11, .int .i64 x1)])) (Lb := (fun p q => match p, q with | (g1, x1), _ => [box b_1 38 [.one (.int .i64 0), .arr 36 (enf u8v (fun _ => (0 : UInt8)))], box b_2 38 [.one (.int .i64 n_1), .arr 36 (enf u8v g1)]])) (((fun _ => (0 : UInt8)), 0)) (()) ⟨rfl, rfl, rfl, rfl, rfl, rfl, trivial⟩ [1, 0] rfl ?_ ?_
  · rintro ⟨g1, x1⟩ _
    refine TC.seq ?_
    refine TC.region ?_
    refine TL.bin .i64 x1 n_1 rfl rfl rfl rfl (v := .bool (decide (x1 < n_1))) rfl ?_
    refine TL.done ?_
    refine TC.seq ?_
    refine TC.cond (b := (decide (x1 < n_1))) rfl (fun c1 => ?_) (fun c2 => ?_)
    · refine TC.skip ?_
      refine TC.seq ?_
      refine TC.block (NoEx.loop1 rfl) ?_
      refine TC.seq ?_
      refine TC.region ?_
      refine TL.move rfl rfl (v := .int .i64 x1) rfl ?_
      refine TL.assign rfl rfl (v := .int .i64 x1) rfl ?_
      refine TL.done ?_
      refine TC.seq ?_
      refine TC.region ?_
      refine TL.move rfl rfl (v := .int .i64 n_1) rfl ?_
      refine TL.move rfl rfl (v := .int .i64 0) rfl ?_
      refine TL.done ?_
      refine TC.loop1 (σ := (Nat → UInt8) × Int) (γ := Unit) (Γ' := (fun p q => match p, q with | (g2, x2), _ => [(0, .int .i64 n_1), (1, .func (.func f1) #[] cap1.toArray), (4, bp b_1 0), (5, bp b_2 0), (6, .int .i64 x1), (10, .int .i64 n_1), (11, .int .i64 x1), (14, .int .i64 n_1), (15, .int .i64 x2)])) (L' := (fun p q => match p, q with | (g2, x2), _ => [box b_1 38 [.one (.int .i64 0), .arr 36 (enf u8v (fun _ => (0 : UInt8)))], box b_2 38 [.one (.int .i64 n_1), .arr 36 (enf u8v g2)]])) (Γb := (fun p q => match p, q with | (g2, x2), _ => [(0, .int .i64 n_1), (1, .func (.func f1) #[] cap1.toArray), (4, bp b_1 0), (5, bp b_2 0), (6, .int .i64 x1), (10, .int .i64 n_1), (11, .int .i64 x1), (14, .int .i64 n_1), (15, .int .i64 x2)])) (Lb := (fun p q => match p, q with | (g2, x2), _ => [box b_1 38 [.one (.int .i64 0), .arr 36 (enf u8v (fun _ => (0 : UInt8)))], box b_2 38 [.one (.int .i64 n_1), .arr 36 (enf u8v g2)]])) ((g1, 0)) (()) ⟨rfl, rfl, rfl, rfl, rfl, rfl, rfl, rfl, rfl, trivial⟩ [0, 0] rfl ?_ ?_
      · rintro ⟨g2, x2⟩ _
        refine TC.seq ?_
        refine TC.region ?_
        refine TL.bin .i64 x2 n_1 rfl rfl rfl rfl (v := .bool (decide (x2 < n_1))) rfl ?_
        refine TL.done ?_
        refine TC.seq ?_
        refine TC.cond (b := (decide (x2 < n_1))) rfl (fun c3 => ?_) (fun c4 => ?_)
        · refine TC.skip ?_
          refine TC.seq ?_
          refine TC.block (NoEx.loop1 rfl) ?_
          refine TC.seq ?_
          refine TC.region ?_
          refine TL.move rfl rfl (v := .int .i64 x2) rfl ?_
          refine TL.assign rfl rfl (v := .int .i64 x2) rfl ?_
          refine TL.done ?_
          refine TC.wk (Γ' := [(0, .int .i64 n_1), (1, .func (.func f1) #[] cap1.toArray), (4, bp b_1 0), (5, bp b_2 0), (6, .int .i64 x1), (10, .int .i64 n_1), (11, .int .i64 x1), (14, .int .i64 n_1), (15, .int .i64 x2), (16, .bool (decide (x2 < n_1))), (17, .int .i64 x2), (7, .int .i64 x2)]) ⟨rfl, rfl, rfl, rfl, rfl, rfl, rfl, rfl, rfl, rfl, rfl, rfl, trivial⟩ ?_
          refine TC.bindE ?_
          rintro r_1 hr1
          refine TC.chk fun h1 => ?_
          refine TC.chk fun h2 => ?_
          refine TC.drawG (fun l_ g3 => [box b_1 38 [.one (.int .i64 0), .arr 36 (enf u8v (fun _ => (0 : UInt8)))], (bif nb l_ 10 then box b_2 38 [.one (.int .i64 n_1), .arr 36 (enf u8v (upd g2 (x1.toNat * 6 + x2.toNat) (UInt8.ofInt r_1)))] else box b_2 38 [.one (.int .i64 n_1), .arr 36 (enf u8v g2)])]) (fun g3 => [.int .i64 x1, .int .i64 x2, .func (.func f1) #[] cap1.toArray, .int .i64 x1, .int .i64 x2, .int .i64 r_1, u8v (UInt8.ofInt r_1), bp b_2 1, bp b_2 (1 + x1.toNat * 6), bp b_2 (1 + (x1.toNat * 6 + x2.toNat)), undef]) [[], [], [], [], [], [2, 3, 4], [2, 3, 4, 5], [], [0, 7], [0, 1, 2, 3, 4, 5, 6, 7, 8], [0, 1, 2, 3, 4, 5, 6, 7, 8, 9]] [[some false, none, none, none, none, none, none, none, some false, some false, some false], [none, some false, none, none, none, none, none, none, none, some false, some false], [none, none, some false, none, none, some false, some false, none, none, some false, some false], [none, none, none, some false, none, some false, some false, none, none, some false, some false], [none, none, none, none, some false, some false, some false, none, none, some false, some false], [none, none, some true, some true, some true, some false, some false, none, none, some false, some false], [none, none, some true, some true, some true, some true, some false, none, none, some false, some false], [none, none, none, none, none, none, none, some false, some false, some false, some false], [some true, none, none, none, none, none, none, some true, some false, some false, some false], [some true, some true, some true, some true, some true, some true, some true, some true, some true, some false, some false], [some true, some true, some true, some true, some true, some true, some true, some true, some true, some true, some false]] (by kernel_rfl) (fun _ => rfl) rfl rfl rfl rfl (fun _ _ => ⟨⟨⟨⟨⟨⟨⟨⟨⟨⟨⟨trivial, rfl⟩, rfl⟩, rfl⟩, rfl⟩, rfl⟩, rfl⟩, rfl⟩, rfl⟩, rfl⟩, rfl⟩, rfl⟩) 0 [0, 0] (fun _ => rfl) ?_ ?_
          · refine ⟨rfl, ?_, rfl, ?_, rfl, ?_, rfl, ?_, rfl, ?_, rfl, ?_, rfl, ?_, rfl, ?_, rfl, ?_, rfl, ?_, rfl, ?_, trivial⟩
            · intro b1_ b2_ b3_ b4_ b5_ b6_ b7_ g3
              refine TL.move rfl rfl (v := .int .i64 x1) rfl ?_
              refine TL.done ?_
              exact TC.nrm () [] ⟨rfl, trivial⟩ [0, 0] rfl
            · intro b0_ b2_ b3_ b4_ b5_ b6_ b7_ b8_ g3
              refine TL.move rfl rfl (v := .int .i64 x2) rfl ?_
              refine TL.done ?_
              exact TC.nrm () [] ⟨rfl, trivial⟩ [0, 0] rfl
            · intro b0_ b1_ b3_ b4_ b7_ b8_ g3
              refine TL.move rfl rfl (v := .func (.func f1) #[] cap1.toArray) rfl ?_
              refine TL.done ?_
              exact TC.nrm () [] ⟨rfl, trivial⟩ [0, 0] rfl
            · intro b0_ b1_ b2_ b4_ b7_ b8_ g3
              refine TL.move rfl rfl (v := .int .i64 x1) rfl ?_
              refine TL.done ?_
              exact TC.nrm () [] ⟨rfl, trivial⟩ [0, 0] rfl
            · intro b0_ b1_ b2_ b3_ b7_ b8_ g3
              refine TL.move rfl rfl (v := .int .i64 x2) rfl ?_
              refine TL.done ?_
              exact TC.nrm () [] ⟨rfl, trivial⟩ [0, 0] rfl
            · intro b0_ b1_ b7_ b8_ g3
              refine TL.asL [box b_1 38 [.one (.int .i64 0), .arr 36 (enf u8v (fun _ => (0 : UInt8)))], box b_2 38 [.one (.int .i64 n_1), .arr 36 (enf u8v g2)]] rfl ?_
              refine TL.callvH (R := (fun r_ => (fun (v_ : Value) (L_ : List Asn) => v_ = .int .i64 r_ ∧ L_ = []))) hr1 (vs := [.int .i64 x1, .int .i64 x2]) hc1 rfl rfl rfl rfl (fun w hS => hf1 w hS.iw x1 x2) ?_
              rintro _ _ ⟨rfl, rfl⟩
              refine TL.done ?_
              exact TC.nrm () [] ⟨rfl, trivial⟩ [0, 0] rfl
            · intro b0_ b1_ b7_ b8_ g3
              refine TL.conv .i64 .u8 r_1 _ rfl rfl rfl Try.underlying3 Try.underlying5 (v := u8v (UInt8.ofInt r_1)) (conv_i64_u8 _) ?_
              refine TL.done ?_
              exact TC.nrm () [] ⟨rfl, trivial⟩ [0, 0] rfl
            · intro b0_ b1_ b2_ b3_ b4_ b5_ b6_ g3
              refine TL.asL [box b_1 38 [.one (.int .i64 0), .arr 36 (enf u8v (fun _ => (0 : UInt8)))], box b_2 38 [.one (.int .i64 n_1), .arr 36 (enf u8v g2)]] rfl ?_
              refine TL.fa Try.underlying38 rfl Try.sizeOf34 rfl 1 rfl rfl rfl rfl ?_
              refine TL.done ?_
              exact TC.nrm () [] ⟨rfl, trivial⟩ [0, 0] rfl
            · intro b1_ b2_ b3_ b4_ b5_ b6_ g3
              refine TL.asL [box b_1 38 [.one (.int .i64 0), .arr 36 (enf u8v (fun _ => (0 : UInt8)))], box b_2 38 [.one (.int .i64 n_1), .arr 36 (enf u8v g2)]] rfl ?_
              refine TL.ixa x1 (1 + x1.toNat * 6) h1 Try.underlying34 Try.sizeOf33 rfl rfl rfl rfl (by omega) ?_
              refine TL.done ?_
              exact TC.nrm () [] ⟨rfl, trivial⟩ [0, 0] rfl
            · intro g3
              refine TL.asL [box b_1 38 [.one (.int .i64 0), .arr 36 (enf u8v (fun _ => (0 : UInt8)))], box b_2 38 [.one (.int .i64 n_1), .arr 36 (enf u8v g2)]] rfl ?_
              refine TL.ixa x2 (1 + (x1.toNat * 6 + x2.toNat)) h2 Try.underlying33 Try.sizeOf5 rfl rfl rfl rfl (by omega) ?_
              refine TL.done ?_
              exact TC.nrm () [] ⟨rfl, trivial⟩ [0, 0] rfl
            · intro g3
              refine TL.asL [box b_1 38 [.one (.int .i64 0), .arr 36 (enf u8v (fun _ => (0 : UInt8)))], box b_2 38 [.one (.int .i64 n_1), .arr 36 (enf u8v g2)]] rfl ?_
              refine TL.stA (e := u8v) (z := (UInt8.ofInt r_1)) 1 1 (x1.toNat * 6 + x2.toNat) rfl Try.sizeOf5 rfl (by omega) (s := 1) rfl (by omega) rfl rfl rfl rfl rfl ?_
              refine TL.done ?_
              exact TC.nrm () [] trivial [0, 0] rfl
          · intro g3
            refine TC.asL [box b_1 38 [.one (.int .i64 0), .arr 36 (enf u8v (fun _ => (0 : UInt8)))], box b_2 38 [.one (.int .i64 n_1), .arr 36 (enf u8v (upd g2 (x1.toNat * 6 + x2.toNat) (UInt8.ofInt r_1)))]] rfl ?_
            refine TC.region ?_
            refine TL.bin .i64 x2 1 rfl rfl rfl rfl (v := .int .i64 (w64 (x2 + 1))) rfl ?_
            refine TL.move rfl rfl (v := .int .i64 (w64 (x2 + 1))) rfl ?_
            refine TL.done ?_
            exact TC.next1 (((upd g2 (x1.toNat * 6 + x2.toNat) (UInt8.ofInt r_1)), (w64 (x2 + 1)))) (()) ⟨rfl, rfl, rfl, rfl, rfl, rfl, rfl, rfl, rfl, trivial⟩ [0, 0] rfl
        · exact TC.brk1 ((g2, x2)) (()) ⟨rfl, rfl, rfl, rfl, rfl, rfl, rfl, rfl, rfl, trivial⟩ [0, 0] rfl
      · rintro ⟨g2, x2⟩ _
        refine TC.region ?_
        refine TL.bin .i64 x1 1 rfl rfl rfl rfl (v := .int .i64 (w64 (x1 + 1))) rfl ?_
        refine TL.move rfl rfl (v := .int .i64 (w64 (x1 + 1))) rfl ?_
        refine TL.done ?_
        exact TC.next1 ((g2, (w64 (x1 + 1)))) (()) ⟨rfl, rfl, rfl, rfl, rfl, rfl, trivial⟩ [0, 0] rfl
    · exact TC.brk1 ((g1, x1)) (()) ⟨rfl, rfl, rfl, rfl, rfl, rfl, trivial⟩ [0, 0] rfl
  · rintro ⟨g1, x1⟩ _
    refine TC.seq ?_
    refine TC.region ?_
    refine TL.loadM 0 2 (Src.box 1 rfl) Try.isAgg38 Try.sizeOf38 (mid := [.one (.int .i64 n_1), .arr 36 (enf u8v g1)]) rfl rfl rfl rfl rfl rfl ?_
    refine TL.stM (news := [.one (.int .i64 n_1), .arr 36 (enf u8v g1)]) 0 0 2 rfl Try.sizeOf38 (ones_one rfl (ones_arr (fun _ => rfl) ones_nil)) rfl rfl rfl rfl rfl rfl ?_
    refine TL.done ?_
    exact TC.retF (Fin.body (fin1 (.inr rfl) rfl (.cellN rfl (Src.box 0 rfl) Try.isAgg38 Try.sizeOf38 rfl) [] rfl ⟨rfl, rfl⟩))

end Go.Proofs.Ytgljkechjkllgaa.G
