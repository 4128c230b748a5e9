/- Functions of the program, as pure functions. -/
import Derived.Test.YtiiljfpbcanphaaMFnSurfaces5
import Derived.Test.YtiiljfpbcanphaaProg
/- impl.pool).add, as a pure function. -/
set_option linter.unusedVariables false
namespace Go.Proofs.Ytiiljfpbcanphaa.G
open Go Go.Sx Go.Proofs

def impl_pool_add.f (p1 : List Int) : Option (Int × (List Int)) := small (p1.length + ([(p1.length : Int)] : List Int).length) (some ((w64 (((p1 ++ ([(p1.length : Int)] : List Int)).length : Int) - 1)), (p1 ++ ([(p1.length : Int)] : List Int))))

def impl_pool_add.R (b_1 : Nat) (r : Int × (List Int)) (v : Value) (L : List Asn) : Prop := ∃ (s0 : SV), v = .int .i64 r.1 ∧ L = [box b_1 150 [.one (SV.v s0)], row Ei 3 s0 r.2]

set_option maxRecDepth 100000 in
set_option maxHeartbeats 4000000 in
theorem impl_pool_add.calls (w0 : World) (I : Hp) (w : World) (b_1 : Nat) (s1 : SV) (p1 : List Int) (hS : St w0 I [box b_1 150 [.one (SV.v s1)], row Ei 3 s1 p1] w) :
  ∀ r, impl_pool_add.f p1 = some r → Calls Try.prog 188 #[bp b_1 0] w (RetM w0 I ((impl_pool_add.R b_1) r)) := by

 refine calls_TM (w0 := w0) (I := I) (L := [box b_1 150 [.one (SV.v s1)], row Ei 3 s1 p1]) (n := 19) (Γ := [(0, bp b_1 0)]) (R := (impl_pool_add.R b_1)) Try.func188 rfl rfl (Nat.le_of_ble_eq_true rfl) ⟨rfl, trivial⟩ ?_ w hS
 unfold impl_pool_add.f
 refine TC.seq ?_
 refine TC.region ?_
 refine TL.assign rfl rfl (v := .int .i64 0) rfl ?_
 refine TL.done ?_
 refine TC.seq ?_
 refine TC.wk (Γ' := [(0, bp b_1 0), (2, .int .i64 0)]) ⟨rfl, rfl, trivial⟩ ?_
 refine TC.small fun h1 => ?_
 refine TC.drawG [(0, bp b_1 0), (2, .int .i64 0)] [] ⟨rfl, rfl, trivial⟩ trivial (fun l_ g1 => [(bif nb l_ 11 then box b_1 150 [.one (SV.v (gs (g1 72)))] else box b_1 150 [.one (SV.v s1)]), (bif nb l_ 9 then row Ei 3 (gs (g1 72)) (p1 ++ ([(p1.length : Int)] : List Int)) else row Ei 3 s1 p1), (bif nb l_ 8 then row Ei 3 (gs (g1 64)) ([(p1.length : Int)] : List Int) else emp)]) (fun g1 => [bp b_1 0, bp b_1 0, bp b_1 0, SV.v s1, bp b_1 0, bp b_1 0, SV.v s1, .int .i64 (p1.length : Int), SV.v (gs (g1 64)), SV.v (gs (g1 72)), bp b_1 0, undef]) [[], [], [1], [1, 2], [], [4], [4, 5], [4, 5, 6], [4, 5, 6, 7], [1, 2, 3, 4, 5, 6, 7, 8], [0, 1, 2, 3, 4, 5, 6, 7, 8, 9], [0, 1, 2, 3, 4, 5, 6, 7, 8, 9, 10]] [[some false, none, none, none, none, none, none, none, none, none, some false, some false], [none, some false, some false, some false, none, none, none, none, none, some false, some false, some false], [none, some true, some false, some false, none, none, none, none, none, some false, some false, some false], [none, some true, some true, some false, none, none, none, none, none, some false, some false, some false], [none, none, none, none, some false, some false, some false, some false, some false, some false, some false, some false], [none, none, none, none, some true, some false, some false, some false, some false, some false, some false, some false], [none, none, none, none, some true, some true, some false, some false, some false, some false, some false, some false], [none, none, none, none, some true, some true, some true, some false, some false, some false, some false, some false], [none, none, none, none, some true, some true, some true, some true, some false, some false, some false, some false], [none, some true, some true, some true, some true, some true, some true, some true, some true, some false, some false, some false], [some true, some true, some true, some true, some true, some true, some true, some true, some true, some true, some false, some false], [some true, some true, some true, some true, some true, some true, some true, some true, some true, some true, some true, some false]] (by kernel_rfl) (fun _ => rfl) rfl rfl rfl rfl rfl (fun _ _ => ⟨⟨⟨⟨⟨⟨⟨⟨⟨⟨⟨⟨trivial, rfl⟩, rfl⟩, rfl⟩, rfl⟩, rfl⟩, rfl⟩, rfl⟩, rfl⟩, rfl⟩, rfl⟩, rfl⟩, rfl⟩) 1 [1, 1, 0] (fun _ => by kernel_rfl) ?_ ?_
 ·refine ⟨rfl, ?_, rfl, ?_, rfl, ?_, rfl, ?_, rfl, ?_, rfl, ?_, rfl, ?_, rfl, ?_, rfl, ?_, rfl, ?_, rfl, ?_, rfl, ?_, trivial⟩
  ·intro b1_ b2_ b3_ b4_ b5_ b6_ b7_ b8_ b9_ g1
   refine TL.move rfl rfl (v := bp b_1 0) rfl ?_
   refine TL.done ?_
   exact TC.nrm () [] ⟨rfl, trivial⟩ [0, 0, 0] (by kernel_rfl)
  ·intro b0_ b4_ b5_ b6_ b7_ b8_ g1
   refine TL.move rfl rfl (v := bp b_1 0) rfl ?_
   refine TL.done ?_
   exact TC.nrm () [] ⟨rfl, trivial⟩ [0, 0, 0] (by kernel_rfl)
  ·intro b0_ b4_ b5_ b6_ b7_ b8_ g1
   refine TL.nilCheck rfl rfl rfl ?_
   refine TL.done ?_
   exact TC.nrm () [] ⟨rfl, trivial⟩ [0, 0, 0] (by kernel_rfl)
  ·intro b0_ b4_ b5_ b6_ b7_ b8_ g1
   refine TL.asL [box b_1 150 [.one (SV.v s1)], row Ei 3 s1 p1, (bif b8_ then row Ei 3 (gs (g1 64)) ([(p1.length : Int)] : List Int) else emp)] (by kernel_rfl) ?_
   refine TL.load1 0 (Src.box 0 rfl) Try.isAgg150 rfl rfl rfl rfl rfl ?_
   refine TL.done ?_
   exact TC.nrm () [] ⟨rfl, trivial⟩ [0, 0, 0] (by kernel_rfl)
  ·intro b0_ b1_ b2_ b3_ g1
   refine TL.move rfl rfl (v := bp b_1 0) rfl ?_
   refine TL.done ?_
   exact TC.nrm () [] ⟨rfl, trivial⟩ [0, 0, 0] (by kernel_rfl)
  ·intro b0_ b1_ b2_ b3_ g1
   refine TL.nilCheck rfl rfl rfl ?_
   refine TL.done ?_
   exact TC.nrm () [] ⟨rfl, trivial⟩ [0, 0, 0] (by kernel_rfl)
  ·intro b0_ b1_ b2_ b3_ g1
   refine TL.asL [box b_1 150 [.one (SV.v s1)], row Ei 3 s1 p1, emp] (by kernel_rfl) ?_
   refine TL.load1 0 (Src.box 0 rfl) Try.isAgg150 rfl rfl rfl rfl rfl ?_
   refine TL.done ?_
   exact TC.nrm () [] ⟨rfl, trivial⟩ [0, 0, 0] (by kernel_rfl)
  ·intro b0_ b1_ b2_ b3_ g1
   refine TL.asL [box b_1 150 [.one (SV.v s1)], row Ei 3 s1 p1, emp] (by kernel_rfl) ?_
   refine TL.len (Rd.row 1 rfl) Try.underlying150 rfl rfl rfl ?_
   refine TL.done ?_
   exact TC.nrm () [] ⟨rfl, trivial⟩ [0, 0, 0] (by kernel_rfl)
  ·intro b0_ b1_ b2_ b3_ g1
   refine TL.asL [box b_1 150 [.one (SV.v s1)], row Ei 3 s1 p1, emp] (by kernel_rfl) ?_
   refine TL.blit Ei ([(p1.length : Int)] : List Int) Try.underlying150 Try.sizeOf3 Try.zeroValue3 rfl rfl rfl [(0, .int .i64 (p1.length : Int))] rfl ⟨rfl, rfl, trivial⟩ rfl rfl fun s2 => ?_
   refine TL.done ?_
   exact TC.nrm () [[s2]] ⟨rfl, trivial⟩ [1, 1, 0] (by kernel_rfl)
  ·intro b0_ g1
   refine TL.asL [box b_1 150 [.one (SV.v s1)], row Ei 3 s1 p1, row Ei 3 (gs (g1 64)) ([(p1.length : Int)] : List Int)] (by kernel_rfl) ?_
   refine TL.append 1 rfl (Rd.row 2 rfl) Try.underlying150 (info_of Try.type3) (zv := (Try.t3.zero.getD (.bool false))) rfl rfl rfl (by decide) h1 rfl rfl rfl rfl fun s3 => ?_
   refine TL.done ?_
   exact TC.nrm () [[s3]] ⟨rfl, trivial⟩ [0, 0, 0] (by kernel_rfl)
  ·intro g1
   refine TL.nilCheck rfl rfl rfl ?_
   refine TL.done ?_
   exact TC.nrm () [] ⟨rfl, trivial⟩ [0, 0, 0] (by kernel_rfl)
  ·intro g1
   refine TL.asL [box b_1 150 [.one (SV.v s1)], row Ei 3 (gs (g1 72)) (p1 ++ ([(p1.length : Int)] : List Int)), row Ei 3 (gs (g1 64)) ([(p1.length : Int)] : List Int)] (by kernel_rfl) ?_
   refine TL.st1 0 0 rfl Try.sizeOf150 rfl rfl rfl rfl rfl rfl rfl ?_
   refine TL.done ?_
   exact TC.nrm () [] trivial [0, 0, 0] (by kernel_rfl)
 ·intro g1
  refine TC.asL [box b_1 150 [.one (SV.v (gs (g1 72)))], row Ei 3 (gs (g1 72)) (p1 ++ ([(p1.length : Int)] : List Int)), row Ei 3 (gs (g1 64)) ([(p1.length : Int)] : List Int)] (by kernel_rfl) ?_
  refine TC.seq ?_
  refine TC.region ?_
  refine TL.move rfl rfl (v := bp b_1 0) rfl ?_
  refine TL.nilCheck rfl rfl rfl ?_
  refine TL.load1 0 (Src.box 0 rfl) Try.isAgg150 rfl rfl rfl rfl rfl ?_
  refine TL.len (Rd.row 1 rfl) Try.underlying150 rfl rfl rfl ?_
  refine TL.bin .i64 ((p1 ++ ([(p1.length : Int)] : List Int)).length : Int) 1 rfl rfl rfl rfl (v := .int .i64 (w64 (((p1 ++ ([(p1.length : Int)] : List Int)).length : Int) - 1))) rfl ?_
  refine TL.assign rfl rfl (v := .int .i64 (w64 (((p1 ++ ([(p1.length : Int)] : List Int)).length : Int) - 1))) rfl ?_
  refine TL.done ?_
  exact TC.retF (Fin.body (fin1 (.inr rfl) rfl (.tmp rfl) [0, 0] rfl ⟨(gs (g1 72)), rfl, rfl⟩))

end Go.Proofs.Ytiiljfpbcanphaa.G

/- impl.poolOf, as a pure function. -/
set_option linter.unusedVariables false
namespace Go.Proofs.Ytiiljfpbcanphaa.G
open Go Go.Sx Go.Proofs

def impl_poolOf.b0 (n_1 : Int) : (List Int) × Int → Option (LB ((List Int) × Int)) := fun p => match p with | (p1, x1) => (bif (decide (x1 < n_1)) then (G.impl_pool_add.f p1).bind (fun p => match p with | (r_1, p2) => some (.next (p2, (w64 (x1 + 1))))) else some (.brk (p1, x1)))

def impl_poolOf.f (n_1 : Int) : Option (List Int) := (loop1 (impl_poolOf.b0 n_1) (([] : List Int), 0)).bind (fun p => match p with | (p1, x1) => some p1)

def impl_poolOf.R (r : List Int) (v : Value) (L : List Asn) : Prop := ∃ (s0 : SV), v = SV.v s0 ∧ L = [row Ei 3 s0 r]

set_option maxRecDepth 100000 in
set_option maxHeartbeats 4000000 in
theorem impl_poolOf.calls (w : World) (n_1 : Int) :
  ∀ r, impl_poolOf.f n_1 = some r → Calls Try.prog 170 #[.int .i64 n_1] w (Ret w (impl_poolOf.R r)) := by

 refine calls_T (n := 11) (Γ := [(0, .int .i64 n_1)]) (R := impl_poolOf.R) Try.func170 rfl rfl (Nat.le_of_ble_eq_true rfl) ⟨rfl, trivial⟩ ?_
 unfold impl_poolOf.f
 refine TC.seq ?_
 refine TC.region ?_
 refine TL.assign rfl rfl (v := SV.v ⟨none, 0, 0⟩) rfl ?_
 refine TL.done ?_
 refine TC.seq ?_
 refine TC.region ?_
 refine TL.bslice0 Ei Try.underlying150 Try.sizeOf3 rfl rfl fun s1 => ?_
 refine TL.alloc [.one (SV.v ⟨none, 0, 0⟩)] rfl rfl Try.zeroValue150 rfl fun b_1 => ?_
 refine TL.st1 0 0 rfl Try.sizeOf150 rfl rfl rfl rfl rfl rfl rfl ?_
 refine TL.done ?_
 refine TC.seq ?_
 refine TC.seq ?_
 refine TC.region ?_
 refine TL.move rfl rfl (v := .int .i64 n_1) rfl ?_
 refine TL.move rfl rfl (v := .int .i64 0) rfl ?_
 refine TL.done ?_
 refine TC.loop1 (σ := (List Int) × Int) (γ := SV) (Γ' := (fun p q => match p, q with | (p1, x1), s2 => [(3, bp b_1 0), (5, .int .i64 n_1), (6, .int .i64 x1)])) (L' := (fun p q => match p, q with | (p1, x1), s2 => [box b_1 150 [.one (SV.v s2)], row Ei 3 s2 p1])) (Γb := (fun p q => match p, q with | (p1, x1), s2 => [(3, bp b_1 0), (5, .int .i64 n_1), (6, .int .i64 x1)])) (Lb := (fun p q => match p, q with | (p1, x1), s2 => [box b_1 150 [.one (SV.v s2)], row Ei 3 s2 p1])) ((([] : List Int), 0)) (s1) ⟨rfl, rfl, rfl, trivial⟩ [0, 0] rfl ?_ ?_
 ·rintro ⟨p1, x1⟩ s2
  refine TC.seq ?_
  refine TC.region ?_
  refine TL.bin .i64 x1 n_1 rfl rfl rfl rfl (v := .bool (decide (x1 < n_1))) rfl ?_
  refine TL.done ?_
  refine TC.seq ?_
  refine TC.cond (b := (decide (x1 < n_1))) rfl (fun c1 => ?_) (fun c2 => ?_)
  ·refine TC.skip ?_
   refine TC.seq ?_
   refine TC.block (NoEx.loop1 rfl) ?_
   refine TC.region ?_
   refine TL.callX (R := G.impl_pool_add.R b_1) [0, 0] [box b_1 150 [.one (SV.v s2)], row Ei 3 s2 p1] [] rfl Try.call188 rfl rfl rfl (fun w I_ hle hB hS => G.impl_pool_add.calls _ I_ w b_1 s2 p1 hS) ?_
   rintro ⟨r_1, p2⟩ _ _ ⟨s3, rfl, rfl⟩
   refine TL.done ?_
   refine TC.region ?_
   refine TL.bin .i64 x1 1 rfl rfl rfl rfl (v := .int .i64 (w64 (x1 + 1))) rfl ?_
   refine TL.move rfl rfl (v := .int .i64 (w64 (x1 + 1))) rfl ?_
   refine TL.done ?_
   exact TC.next1 ((p2, (w64 (x1 + 1)))) (s3) ⟨rfl, rfl, rfl, trivial⟩ [0, 0] rfl
  ·exact TC.brk1 ((p1, x1)) (s2) ⟨rfl, rfl, rfl, trivial⟩ [0, 0] rfl
 ·rintro ⟨p1, x1⟩ s2
  refine TC.seq ?_
  refine TC.region ?_
  refine TL.load1 0 (Src.box 0 rfl) Try.isAgg150 rfl rfl rfl rfl rfl ?_
  refine TL.assign rfl rfl (v := SV.v s2) rfl ?_
  refine TL.done ?_
  exact TC.retF (Fin.body (fin1 (.inr rfl) rfl (.tmp rfl) [1] rfl ⟨s2, rfl, rfl⟩))

end Go.Proofs.Ytiiljfpbcanphaa.G

/- impl.ends, as a pure function. -/
set_option linter.unusedVariables false
namespace Go.Proofs.Ytiiljfpbcanphaa.G
open Go Go.Sx Go.Proofs

def impl_ends.f (k_1 : Int) : Option (Int × Int) := (G.impl_size.f k_1).bind (fun r_1 => (bif (decide (k_1 > 0)) then some ((w64 (2 * (w64 (r_1 - 1)))), (w64 ((w64 (2 * (w64 (r_1 - 1)))) + 1))) else some ((w64 ((w64 (2 * (w64 (r_1 - 1)))) + 1)), (w64 (2 * (w64 (r_1 - 1)))))))

def impl_ends.R (r : Int × Int) (v : Value) (L : List Asn) : Prop := v = .tuple #[.int .i64 r.1, .int .i64 r.2] ∧ L = []

set_option maxRecDepth 100000 in
set_option maxHeartbeats 4000000 in
theorem impl_ends.calls (w : World) (k_1 : Int) :
  ∀ r, impl_ends.f k_1 = some r → Calls Try.prog 171 #[.int .i64 k_1] w (Ret w (impl_ends.R r)) := by

 refine calls_T (n := 17) (Γ := [(0, .int .i64 k_1)]) (R := impl_ends.R) Try.func171 rfl rfl (Nat.le_of_ble_eq_true rfl) ⟨rfl, trivial⟩ ?_
 unfold impl_ends.f
 refine TC.seq ?_
 refine TC.region ?_
 refine TL.assign rfl rfl (v := .int .i64 0) rfl ?_
 refine TL.assign rfl rfl (v := .int .i64 0) rfl ?_
 refine TL.done ?_
 refine TC.seq ?_
 refine TC.region ?_
 refine TL.move rfl rfl (v := .int .i64 k_1) rfl ?_
 refine TL.call (R := G.impl_size.R) Try.call167 rfl rfl rfl (fun w hS => G.impl_size.calls w k_1) ?_
 rintro r_1 _ _ ⟨rfl, rfl⟩
 refine TL.bin .i64 r_1 1 rfl rfl rfl rfl (v := .int .i64 (w64 (r_1 - 1))) rfl ?_
 refine TL.bin .i64 2 (w64 (r_1 - 1)) rfl rfl rfl rfl (v := .int .i64 (w64 (2 * (w64 (r_1 - 1))))) rfl ?_
 refine TL.assign rfl rfl (v := .int .i64 (w64 (2 * (w64 (r_1 - 1))))) rfl ?_
 refine TL.done ?_
 refine TC.seq ?_
 refine TC.seq ?_
 refine TC.region ?_
 refine TL.move rfl rfl (v := .int .i64 k_1) rfl ?_
 refine TL.bin .i64 k_1 0 rfl rfl rfl rfl (v := .bool (decide (k_1 > 0))) rfl ?_
 refine TL.done ?_
 refine TC.cond (b := (decide (k_1 > 0))) rfl (fun c1 => ?_) (fun c2 => ?_)
 ·refine TC.seq ?_
  refine TC.region ?_
  refine TL.move rfl rfl (v := .int .i64 (w64 (2 * (w64 (r_1 - 1))))) rfl ?_
  refine TL.move rfl rfl (v := .int .i64 (w64 (2 * (w64 (r_1 - 1))))) rfl ?_
  refine TL.bin .i64 (w64 (2 * (w64 (r_1 - 1)))) 1 rfl rfl rfl rfl (v := .int .i64 (w64 ((w64 (2 * (w64 (r_1 - 1)))) + 1))) rfl ?_
  refine TL.assign rfl rfl (v := .int .i64 (w64 (2 * (w64 (r_1 - 1))))) rfl ?_
  refine TL.assign rfl rfl (v := .int .i64 (w64 ((w64 (2 * (w64 (r_1 - 1)))) + 1))) rfl ?_
  refine TL.done ?_
  exact TC.retF (Fin.body (fin2 (.inr rfl) rfl (.tmp rfl) (.tmp rfl) [] rfl ⟨rfl, rfl⟩))
 ·refine TC.skip ?_
  refine TC.seq ?_
  refine TC.region ?_
  refine TL.move rfl rfl (v := .int .i64 (w64 (2 * (w64 (r_1 - 1))))) rfl ?_
  refine TL.bin .i64 (w64 (2 * (w64 (r_1 - 1)))) 1 rfl rfl rfl rfl (v := .int .i64 (w64 ((w64 (2 * (w64 (r_1 - 1)))) + 1))) rfl ?_
  refine TL.move rfl rfl (v := .int .i64 (w64 (2 * (w64 (r_1 - 1))))) rfl ?_
  refine TL.assign rfl rfl (v := .int .i64 (w64 ((w64 (2 * (w64 (r_1 - 1)))) + 1))) rfl ?_
  refine TL.assign rfl rfl (v := .int .i64 (w64 (2 * (w64 (r_1 - 1))))) rfl ?_
  refine TL.done ?_
  exact TC.retF (Fin.body (fin2 (.inr rfl) rfl (.tmp rfl) (.tmp rfl) [] rfl ⟨rfl, rfl⟩))

end Go.Proofs.Ytiiljfpbcanphaa.G

/- impl.pool).find, as a pure function. -/
set_option linter.unusedVariables false
namespace Go.Proofs.Ytiiljfpbcanphaa.G
open Go Go.Sx Go.Proofs

def impl_pool_find.b0 (p1 : List Int) : Int → Option (LB Int) := fun i2 => chk i2 p1.length ((bif ((gt p1 i2) != i2) then some (.next (gt p1 i2)) else some (.brk i2)))

def impl_pool_find.f (p1 : List Int) (i1 : Int) : Option Int := (loop1 (impl_pool_find.b0 p1) i1).bind (fun i2 => some i2)

def impl_pool_find.R (r : Int) (v : Value) (L : List Asn) : Prop := v = .int .i64 r ∧ L = []

set_option maxRecDepth 100000 in
set_option maxHeartbeats 4000000 in
theorem impl_pool_find.calls (w : World) (s1 : SV) (p1 : List Int) (i1 : Int) (h1 : Reads Ei (hp w) s1 p1) :
  ∀ r, impl_pool_find.f p1 i1 = some r → Calls Try.prog 189 #[SV.v s1, .int .i64 i1] w (Ret w (impl_pool_find.R r)) := by

 refine calls_T (n := 16) (Γ := [(0, SV.v s1), (1, .int .i64 i1)]) (R := impl_pool_find.R) Try.func189 rfl rfl (Nat.le_of_ble_eq_true rfl) ⟨rfl, rfl, trivial⟩ ?_
 unfold impl_pool_find.f
 refine TC.seq ?_
 refine TC.region ?_
 refine TL.assign rfl rfl (v := .int .i64 0) rfl ?_
 refine TL.done ?_
 refine TC.seq ?_
 refine TC.loop1 (σ := Int) (γ := Unit) (Γ' := (fun i2 _ => [(0, SV.v s1), (1, .int .i64 i2)])) (L' := (fun i2 _ => [])) (Γb := (fun i2 _ => [(0, SV.v s1), (1, .int .i64 i2)])) (Lb := (fun i2 _ => [])) (i1) (()) ⟨rfl, rfl, trivial⟩ [] rfl ?_ ?_
 ·rintro i2 _
  refine TC.seq ?_
  refine TC.seq ?_
  refine TC.region ?_
  refine TL.move rfl rfl (v := SV.v s1) rfl ?_
  refine TL.move rfl rfl (v := .int .i64 i2) rfl ?_
  refine TL.chk fun h2 => ?_
  refine TL.ixs i2 i2.toNat (Rd.old h1) h2 Try.underlying150 Try.sizeOf3 rfl rfl rfl rfl (by omega) ?_
  refine TL.loadE (Rd.old h1) Try.isAgg3 i2.toNat 0 (gt_spec h2) (v := .int .i64 (gt p1 i2)) rfl (by simp only [show Ei.sz = 1 from rfl] <;> omega) rfl rfl rfl ?_
  refine TL.move rfl rfl (v := .int .i64 i2) rfl ?_
  refine TL.bin .i64 (gt p1 i2) i2 rfl rfl rfl rfl (v := .bool ((gt p1 i2) != i2)) rfl ?_
  refine TL.done ?_
  refine TC.cond (b := ((gt p1 i2) != i2)) rfl (fun c1 => ?_) (fun c2 => ?_)
  ·refine TC.skip ?_
   refine TC.block (NoEx.loop1 rfl) ?_
   refine TC.region ?_
   refine TL.move rfl rfl (v := SV.v s1) rfl ?_
   refine TL.move rfl rfl (v := .int .i64 i2) rfl ?_
   refine TL.ixs i2 i2.toNat (Rd.old h1) h2 Try.underlying150 Try.sizeOf3 rfl rfl rfl rfl (by omega) ?_
   refine TL.loadE (Rd.old h1) Try.isAgg3 i2.toNat 0 (gt_spec h2) (v := .int .i64 (gt p1 i2)) rfl (by simp only [show Ei.sz = 1 from rfl] <;> omega) rfl rfl rfl ?_
   refine TL.assign rfl rfl (v := .int .i64 (gt p1 i2)) rfl ?_
   refine TL.done ?_
   exact TC.next1 ((gt p1 i2)) (()) ⟨rfl, rfl, trivial⟩ [] rfl
  ·exact TC.brk1 (i2) (()) ⟨rfl, rfl, trivial⟩ [] rfl
 ·rintro i2 _
  refine TC.seq ?_
  refine TC.region ?_
  refine TL.move rfl rfl (v := .int .i64 i2) rfl ?_
  refine TL.assign rfl rfl (v := .int .i64 i2) rfl ?_
  refine TL.done ?_
  exact TC.retF (Fin.body (fin1 (.inr rfl) rfl (.tmp rfl) [] rfl ⟨rfl, rfl⟩))

end Go.Proofs.Ytiiljfpbcanphaa.G

/- impl.pool).join, as a pure function. -/
set_option linter.unusedVariables false
namespace Go.Proofs.Ytiiljfpbcanphaa.G
open Go Go.Sx Go.Proofs

def impl_pool_join.f (p1 : List Int) (i1 : Int) (k_1 : Int) : Option (List Int) := (G.impl_pool_find.f p1 i1).bind (fun r_1 => (G.impl_pool_find.f p1 k_1).bind (fun r_2 => chk (if r_2 > r_1 then r_2 else r_1) p1.length (some (p1.set (if r_2 > r_1 then r_2 else r_1).toNat (if r_2 < r_1 then r_2 else r_1)))))

def impl_pool_join.R (s1 : SV) (r : List Int) (v : Value) (L : List Asn) : Prop := v = .tuple #[] ∧ L = [row Ei 3 s1 r]

set_option maxRecDepth 100000 in
set_option maxHeartbeats 4000000 in
theorem impl_pool_join.calls (w0 : World) (I : Hp) (w : World) (s1 : SV) (p1 : List Int) (i1 : Int) (k_1 : Int) (hS : St w0 I [row Ei 3 s1 p1] w) :
  ∀ r, impl_pool_join.f p1 i1 k_1 = some r → Calls Try.prog 172 #[SV.v s1, .int .i64 i1, .int .i64 k_1] w (RetM w0 I ((impl_pool_join.R s1) r)) := by

 refine calls_TM (w0 := w0) (I := I) (L := [row Ei 3 s1 p1]) (n := 22) (Γ := [(0, SV.v s1), (1, .int .i64 i1), (2, .int .i64 k_1)]) (R := (impl_pool_join.R s1)) Try.func172 rfl rfl (Nat.le_of_ble_eq_true rfl) ⟨rfl, rfl, rfl, trivial⟩ ?_ w hS
 unfold impl_pool_join.f
 refine TC.seq ?_
 refine TC.region ?_
 refine TL.move rfl rfl (v := SV.v s1) rfl ?_
 refine TL.move rfl rfl (v := .int .i64 i1) rfl ?_
 refine TL.call (R := G.impl_pool_find.R) Try.call189 rfl rfl rfl (fun w hS => G.impl_pool_find.calls w s1 p1 i1 ((Rd.row 0 rfl) w hS)) ?_
 rintro r_1 _ _ ⟨rfl, rfl⟩
 refine TL.move rfl rfl (v := SV.v s1) rfl ?_
 refine TL.move rfl rfl (v := .int .i64 k_1) rfl ?_
 refine TL.call (R := G.impl_pool_find.R) Try.call189 rfl rfl rfl (fun w hS => G.impl_pool_find.calls w s1 p1 k_1 ((Rd.row 0 rfl) w hS)) ?_
 rintro r_2 _ _ ⟨rfl, rfl⟩
 refine TL.assign rfl rfl (v := .int .i64 r_1) rfl ?_
 refine TL.assign rfl rfl (v := .int .i64 r_2) rfl ?_
 refine TL.done ?_
 refine TC.region ?_
 refine TL.move rfl rfl (v := SV.v s1) rfl ?_
 refine TL.move rfl rfl (v := .int .i64 r_1) rfl ?_
 refine TL.move rfl rfl (v := .int .i64 r_2) rfl ?_
 refine TL.max2 rfl rfl rfl rfl ?_
 refine TL.move rfl rfl (v := .int .i64 r_1) rfl ?_
 refine TL.move rfl rfl (v := .int .i64 r_2) rfl ?_
 refine TL.min2 rfl rfl rfl rfl ?_
 refine TL.chk fun h1 => ?_
 refine TL.ixs (if r_2 > r_1 then r_2 else r_1) ((if r_2 > r_1 then r_2 else r_1).toNat) (Rd.row 0 rfl) h1 Try.underlying150 Try.sizeOf3 rfl rfl rfl rfl (by omega) ?_
 refine TL.stE 0 ((if r_2 > r_1 then r_2 else r_1).toNat) (if r_2 < r_1 then r_2 else r_1) (v := .int .i64 (if r_2 < r_1 then r_2 else r_1)) rfl Try.sizeOf3 rfl rfl rfl (by have h_ := h1; omega) (by simp only [show Ei.sz = 1 from rfl] <;> omega) rfl rfl rfl ?_
 refine TL.done ?_
 exact TC.nilF (Fin.body (fin0 (.inl rfl) rfl [0] rfl ⟨rfl, rfl⟩))

end Go.Proofs.Ytiiljfpbcanphaa.G

/- impl.pool).distinct, as a pure function. -/
set_option linter.unusedVariables false
namespace Go.Proofs.Ytiiljfpbcanphaa.G
open Go Go.Sx Go.Proofs

def impl_pool_distinct.b0 (p1 : List Int) : Int × Int → Option (LB (Int × Int)) := fun p => match p with | (many_1, x1) => (bif (decide (x1 < (p1.length : Int))) then (G.impl_pool_find.f p1 x1).bind (fun r_1 => ((bif (r_1 == x1) then some (w64 (many_1 + 1)) else some many_1)).bind (fun many_2 => some (.next (many_2, (w64 (x1 + 1)))))) else some (.brk (many_1, x1)))

def impl_pool_distinct.f (p1 : List Int) : Option Int := (loop1 (impl_pool_distinct.b0 p1) (0, 0)).bind (fun p => match p with | (many_1, x1) => some many_1)

def impl_pool_distinct.R (r : Int) (v : Value) (L : List Asn) : Prop := v = .int .i64 r ∧ L = []

set_option maxRecDepth 100000 in
set_option maxHeartbeats 4000000 in
theorem impl_pool_distinct.calls (w : World) (s1 : SV) (p1 : List Int) (h1 : Reads Ei (hp w) s1 p1) :
  ∀ r, impl_pool_distinct.f p1 = some r → Calls Try.prog 173 #[SV.v s1] w (Ret w (impl_pool_distinct.R r)) := by

 refine calls_T (n := 19) (Γ := [(0, SV.v s1)]) (R := impl_pool_distinct.R) Try.func173 rfl rfl (Nat.le_of_ble_eq_true rfl) ⟨rfl, trivial⟩ ?_
 unfold impl_pool_distinct.f
 refine TC.seq ?_
 refine TC.region ?_
 refine TL.assign rfl rfl (v := .int .i64 0) rfl ?_
 refine TL.done ?_
 refine TC.seq ?_
 refine TC.region ?_
 refine TL.assign rfl rfl (v := .int .i64 0) rfl ?_
 refine TL.done ?_
 refine TC.seq ?_
 refine TC.seq ?_
 refine TC.region ?_
 refine TL.move rfl rfl (v := SV.v s1) rfl ?_
 refine TL.len (Rd.old h1) Try.underlying150 rfl rfl rfl ?_
 refine TL.move rfl rfl (v := .int .i64 0) rfl ?_
 refine TL.done ?_
 refine TC.loop1 (σ := Int × Int) (γ := Unit) (Γ' := (fun p q => match p, q with | (many_1, x1), _ => [(0, SV.v s1), (3, .int .i64 many_1), (6, .int .i64 (p1.length : Int)), (7, .int .i64 x1)])) (L' := (fun p q => match p, q with | (many_1, x1), _ => [])) (Γb := (fun p q => match p, q with | (many_1, x1), _ => [(0, SV.v s1), (3, .int .i64 many_1), (6, .int .i64 (p1.length : Int)), (7, .int .i64 x1)])) (Lb := (fun p q => match p, q with | (many_1, x1), _ => [])) ((0, 0)) (()) ⟨rfl, rfl, rfl, rfl, trivial⟩ [] rfl ?_ ?_
 ·rintro ⟨many_1, x1⟩ _
  refine TC.seq ?_
  refine TC.region ?_
  refine TL.bin .i64 x1 (p1.length : Int) rfl rfl rfl rfl (v := .bool (decide (x1 < (p1.length : Int)))) rfl ?_
  refine TL.done ?_
  refine TC.seq ?_
  refine TC.cond (b := (decide (x1 < (p1.length : Int)))) rfl (fun c1 => ?_) (fun c2 => ?_)
  ·refine TC.skip ?_
   refine TC.seq ?_
   refine TC.block (NoEx.loop1 rfl) ?_
   refine TC.seq ?_
   refine TC.region ?_
   refine TL.move rfl rfl (v := .int .i64 x1) rfl ?_
   refine TL.assign rfl rfl (v := .int .i64 x1) rfl ?_
   refine TL.done ?_
   refine TC.seq ?_
   refine TC.region ?_
   refine TL.move rfl rfl (v := SV.v s1) rfl ?_
   refine TL.move rfl rfl (v := .int .i64 x1) rfl ?_
   refine TL.call (R := G.impl_pool_find.R) Try.call189 rfl rfl rfl (fun w hS => G.impl_pool_find.calls w s1 p1 x1 ((Rd.old h1) w hS)) ?_
   rintro r_1 _ _ ⟨rfl, rfl⟩
   refine TL.move rfl rfl (v := .int .i64 x1) rfl ?_
   refine TL.bin .i64 r_1 x1 rfl rfl rfl rfl (v := .bool (r_1 == x1)) rfl ?_
   refine TL.done ?_
   refine TC.join1 (σ := Int) (γ := Unit) (Γ' := (fun many_2 _ => [(0, SV.v s1), (3, .int .i64 many_2), (6, .int .i64 (p1.length : Int)), (7, .int .i64 x1)])) (L' := (fun many_2 _ => [])) ?_ ?_
   ·refine TC.cond (b := (r_1 == x1)) rfl (fun c3 => ?_) (fun c4 => ?_)
    ·refine TC.region ?_
     refine TL.move rfl rfl (v := .int .i64 many_1) rfl ?_
     refine TL.bin .i64 many_1 1 rfl rfl rfl rfl (v := .int .i64 (w64 (many_1 + 1))) rfl ?_
     refine TL.assign rfl rfl (v := .int .i64 (w64 (many_1 + 1))) rfl ?_
     refine TL.done ?_
     exact TC.nrm ((w64 (many_1 + 1))) (()) ⟨rfl, rfl, rfl, rfl, trivial⟩ [] rfl
    ·refine TC.skip ?_
     exact TC.nrm (many_1) (()) ⟨rfl, rfl, rfl, rfl, trivial⟩ [] rfl
   ·rintro many_2 _
    refine TC.region ?_
    refine TL.bin .i64 x1 1 rfl rfl rfl rfl (v := .int .i64 (w64 (x1 + 1))) rfl ?_
    refine TL.move rfl rfl (v := .int .i64 (w64 (x1 + 1))) rfl ?_
    refine TL.done ?_
    exact TC.next1 ((many_2, (w64 (x1 + 1)))) (()) ⟨rfl, rfl, rfl, rfl, trivial⟩ [] rfl
  ·exact TC.brk1 ((many_1, x1)) (()) ⟨rfl, rfl, rfl, rfl, trivial⟩ [] rfl
 ·rintro ⟨many_1, x1⟩ _
  refine TC.seq ?_
  refine TC.region ?_
  refine TL.move rfl rfl (v := .int .i64 many_1) rfl ?_
  refine TL.assign rfl rfl (v := .int .i64 many_1) rfl ?_
  refine TL.done ?_
  exact TC.retF (Fin.body (fin1 (.inr rfl) rfl (.tmp rfl) [] rfl ⟨rfl, rfl⟩))

end Go.Proofs.Ytiiljfpbcanphaa.G

/- impl.vertices, as a pure function. -/
set_option linter.unusedVariables false
namespace Go.Proofs.Ytiiljfpbcanphaa.G
open Go Go.Sx Go.Proofs

def impl_vertices.b0 (s1 : List (List Int)) (x1 : Int) : (List Int) × Int → Option (LB ((List Int) × Int)) := fun p => match p with | (p2, x2) => (bif (decide (x2 < ((gt s1 x1).length : Int))) then chk x2 ((gt s1 x1).length) ((G.impl_ends.f (gt (gt s1 x1) x2)).bind (fun p => match p with | (r_3, r_4) => chk (Int.tmod (w64 (x2 + 1)) 3) ((gt s1 x1).length) ((G.impl_ends.f (gt (gt s1 x1) (Int.tmod (w64 (x2 + 1)) 3))).bind (fun p => match p with | (r_5, r_6) => (G.impl_pool_join.f p2 r_4 r_5).bind (fun p3 => some (.next (p3, (w64 (x2 + 1))))))))) else some (.brk (p2, x2)))

def impl_vertices.b1 (s1 : List (List Int)) : (List Int) × Int → Option (LB ((List Int) × Int)) := fun p => match p with | (p1, x1) => (bif (decide (x1 < (s1.length : Int))) then chk x1 s1.length ((loop1 (impl_vertices.b0 s1 x1) (p1, 0)).bind (fun p => match p with | (p2, x2) => some (.next (p2, (w64 (x1 + 1)))))) else some (.brk (p1, x1)))

def impl_vertices.f (s1 : List (List Int)) : Option Int := (G.impl_edgesOf.f s1).bind (fun r_1 => (G.impl_poolOf.f (w64 (2 * r_1))).bind (fun r_2 => (loop1 (impl_vertices.b1 s1) (r_2, 0)).bind (fun p => match p with | (p1, x1) => (G.impl_pool_distinct.f p1).bind (fun r_7 => some r_7))))

def impl_vertices.R (r : Int) (v : Value) (L : List Asn) : Prop := v = .int .i64 r ∧ L = []

set_option maxRecDepth 100000 in
set_option maxHeartbeats 4000000 in
theorem impl_vertices.calls (w : World) (s2 : SV) (ss1 : List SV) (s1 : List (List Int)) (h1 : ReadsM Ei (hp w) s2 ss1 s1) :
  ∀ r, impl_vertices.f s1 = some r → Calls Try.prog 131 #[SV.v s2] w (Ret w (impl_vertices.R r)) := by

 refine calls_T (n := 52) (Γ := [(0, SV.v s2)]) (R := impl_vertices.R) Try.func131 rfl rfl (Nat.le_of_ble_eq_true rfl) ⟨rfl, trivial⟩ ?_
 unfold impl_vertices.f
 refine TC.seq ?_
 refine TC.region ?_
 refine TL.assign rfl rfl (v := .int .i64 0) rfl ?_
 refine TL.done ?_
 refine TC.seq ?_
 refine TC.region ?_
 refine TL.move rfl rfl (v := SV.v s2) rfl ?_
 refine TL.call (R := G.impl_edgesOf.R) Try.call118 rfl rfl rfl (fun w hS => G.impl_edgesOf.calls w s2 ss1 s1 ((RdM.old h1) w hS)) ?_
 rintro r_1 _ _ ⟨rfl, rfl⟩
 refine TL.bin .i64 2 r_1 rfl rfl rfl rfl (v := .int .i64 (w64 (2 * r_1))) rfl ?_
 refine TL.call (R := G.impl_poolOf.R) Try.call170 rfl rfl rfl (fun w hS => G.impl_poolOf.calls w (w64 (2 * r_1))) ?_
 rintro r_2 _ _ ⟨s3, rfl, rfl⟩
 refine TL.assign rfl rfl (v := SV.v s3) rfl ?_
 refine TL.done ?_
 refine TC.seq ?_
 refine TC.seq ?_
 refine TC.region ?_
 refine TL.move rfl rfl (v := SV.v s2) rfl ?_
 refine TL.lenM (RdM.old h1) Try.underlying32 rfl rfl rfl ?_
 refine TL.move rfl rfl (v := .int .i64 0) rfl ?_
 refine TL.done ?_
 refine TC.loop1 (σ := (List Int) × Int) (γ := Unit) (Γ' := (fun p q => match p, q with | (p1, x1), _ => [(3, SV.v s3), (16, SV.v s2), (17, .int .i64 (s1.length : Int)), (18, .int .i64 x1)])) (L' := (fun p q => match p, q with | (p1, x1), _ => [row Ei 3 s3 p1])) (Γb := (fun p q => match p, q with | (p1, x1), _ => [(3, SV.v s3), (16, SV.v s2), (17, .int .i64 (s1.length : Int)), (18, .int .i64 x1)])) (Lb := (fun p q => match p, q with | (p1, x1), _ => [row Ei 3 s3 p1])) ((r_2, 0)) (()) ⟨rfl, rfl, rfl, rfl, trivial⟩ [0] rfl ?_ ?_
 ·rintro ⟨p1, x1⟩ _
  refine TC.seq ?_
  refine TC.region ?_
  refine TL.bin .i64 x1 (s1.length : Int) rfl rfl rfl rfl (v := .bool (decide (x1 < (s1.length : Int)))) rfl ?_
  refine TL.done ?_
  refine TC.seq ?_
  refine TC.cond (b := (decide (x1 < (s1.length : Int)))) rfl (fun c1 => ?_) (fun c2 => ?_)
  ·refine TC.skip ?_
   refine TC.seq ?_
   refine TC.block (NoEx.loop1 rfl) ?_
   refine TC.seq ?_
   refine TC.region ?_
   refine TL.chk fun h2 => ?_
   refine TL.ixsM x1 x1.toNat (RdM.old h1) h2 Try.underlying32 Try.sizeOf22 rfl rfl rfl rfl (by omega) ?_
   refine TL.loadM2 (RdM.old h1) Try.isAgg22 x1 h2 (by omega) rfl rfl rfl ?_
   refine TL.assign rfl rfl (v := SV.v (gt ss1 x1)) rfl ?_
   refine TL.done ?_
   refine TC.seq ?_
   refine TC.region ?_
   refine TL.move rfl rfl (v := SV.v (gt ss1 x1)) rfl ?_
   refine TL.len (RdM.inn (RdM.old h1) h2) Try.underlying22 rfl rfl rfl ?_
   refine TL.move rfl rfl (v := .int .i64 0) rfl ?_
   refine TL.done ?_
   refine TC.loop1 (σ := (List Int) × Int) (γ := Unit) (Γ' := (fun p q => match p, q with | (p2, x2), _ => [(3, SV.v s3), (5, SV.v (gt ss1 x1)), (16, SV.v s2), (17, .int .i64 (s1.length : Int)), (18, .int .i64 x1), (22, SV.v (gt ss1 x1)), (23, .int .i64 ((gt s1 x1).length : Int)), (24, .int .i64 x2)])) (L' := (fun p q => match p, q with | (p2, x2), _ => [row Ei 3 s3 p2])) (Γb := (fun p q => match p, q with | (p2, x2), _ => [(3, SV.v s3), (5, SV.v (gt ss1 x1)), (16, SV.v s2), (17, .int .i64 (s1.length : Int)), (18, .int .i64 x1), (22, SV.v (gt ss1 x1)), (23, .int .i64 ((gt s1 x1).length : Int)), (24, .int .i64 x2)])) (Lb := (fun p q => match p, q with | (p2, x2), _ => [row Ei 3 s3 p2])) ((p1, 0)) (()) ⟨rfl, rfl, rfl, rfl, rfl, rfl, rfl, rfl, trivial⟩ [0] rfl ?_ ?_
   ·rintro ⟨p2, x2⟩ _
    refine TC.seq ?_
    refine TC.region ?_
    refine TL.bin .i64 x2 ((gt s1 x1).length : Int) rfl rfl rfl rfl (v := .bool (decide (x2 < ((gt s1 x1).length : Int)))) rfl ?_
    refine TL.done ?_
    refine TC.seq ?_
    refine TC.cond (b := (decide (x2 < ((gt s1 x1).length : Int)))) rfl (fun c3 => ?_) (fun c4 => ?_)
    ·refine TC.skip ?_
     refine TC.seq ?_
     refine TC.block (NoEx.loop1 rfl) ?_
     refine TC.seq ?_
     refine TC.region ?_
     refine TL.move rfl rfl (v := .int .i64 x2) rfl ?_
     refine TL.chk fun h3 => ?_
     refine TL.ixs x2 x2.toNat (RdM.inn (RdM.old h1) h2) h3 Try.underlying22 Try.sizeOf2 rfl rfl rfl rfl (by omega) ?_
     refine TL.loadE (RdM.inn (RdM.old h1) h2) Try.isAgg2 x2.toNat 0 (gt_spec h3) (v := .int .i64 (gt (gt s1 x1) x2)) rfl (by simp only [show Ei.sz = 1 from rfl] <;> omega) rfl rfl rfl ?_
     refine TL.assign rfl rfl (v := .int .i64 x2) rfl ?_
     refine TL.assign rfl rfl (v := .int .i64 (gt (gt s1 x1) x2)) rfl ?_
     refine TL.done ?_
     refine TC.seq ?_
     refine TC.region ?_
     refine TL.move rfl rfl (v := .int .i64 (gt (gt s1 x1) x2)) rfl ?_
     refine TL.call (R := G.impl_ends.R) Try.call171 rfl rfl rfl (fun w hS => G.impl_ends.calls w (gt (gt s1 x1) x2)) ?_
     rintro ⟨r_3, r_4⟩ _ _ ⟨rfl, rfl⟩
     refine TL.move rfl rfl (v := .tuple #[.int .i64 r_3, .int .i64 r_4]) rfl ?_
     refine TL.extract rfl rfl rfl (v := .int .i64 r_3) rfl ?_
     refine TL.extract rfl rfl rfl (v := .int .i64 r_4) rfl ?_
     refine TL.assign rfl rfl (v := .int .i64 r_3) rfl ?_
     refine TL.assign rfl rfl (v := .int .i64 r_4) rfl ?_
     refine TL.done ?_
     refine TC.seq ?_
     refine TC.region ?_
     refine TL.move rfl rfl (v := SV.v (gt ss1 x1)) rfl ?_
     refine TL.move rfl rfl (v := .int .i64 x2) rfl ?_
     refine TL.bin .i64 x2 1 rfl rfl rfl rfl (v := .int .i64 (w64 (x2 + 1))) rfl ?_
     refine TL.rem .i64 (w64 (x2 + 1)) 3 (by decide) rfl rfl rfl rfl ?_
     refine TL.chk fun h4 => ?_
     refine TL.ixs (Int.tmod (w64 (x2 + 1)) 3) ((Int.tmod (w64 (x2 + 1)) 3).toNat) (RdM.inn (RdM.old h1) h2) h4 Try.underlying22 Try.sizeOf2 rfl rfl rfl rfl (by omega) ?_
     refine TL.loadE (RdM.inn (RdM.old h1) h2) Try.isAgg2 (Int.tmod (w64 (x2 + 1)) 3).toNat 0 (gt_spec h4) (v := .int .i64 (gt (gt s1 x1) (Int.tmod (w64 (x2 + 1)) 3))) rfl (by simp only [show Ei.sz = 1 from rfl] <;> omega) rfl rfl rfl ?_
     refine TL.call (R := G.impl_ends.R) Try.call171 rfl rfl rfl (fun w hS => G.impl_ends.calls w (gt (gt s1 x1) (Int.tmod (w64 (x2 + 1)) 3))) ?_
     rintro ⟨r_5, r_6⟩ _ _ ⟨rfl, rfl⟩
     refine TL.move rfl rfl (v := .tuple #[.int .i64 r_5, .int .i64 r_6]) rfl ?_
     refine TL.extract rfl rfl rfl (v := .int .i64 r_5) rfl ?_
     refine TL.extract rfl rfl rfl (v := .int .i64 r_6) rfl ?_
     refine TL.assign rfl rfl (v := .int .i64 r_5) rfl ?_
     refine TL.assign rfl rfl (v := .int .i64 r_6) rfl ?_
     refine TL.done ?_
     refine TC.region ?_
     refine TL.move rfl rfl (v := SV.v s3) rfl ?_
     refine TL.move rfl rfl (v := .int .i64 r_4) rfl ?_
     refine TL.move rfl rfl (v := .int .i64 r_5) rfl ?_
     refine TL.callX (R := G.impl_pool_join.R s3) [0] [row Ei 3 s3 p2] [] rfl Try.call172 rfl rfl rfl (fun w I_ hle hB hS => G.impl_pool_join.calls _ I_ w s3 p2 r_4 r_5 hS) ?_
     rintro p3 _ _ ⟨rfl, rfl⟩
     refine TL.done ?_
     refine TC.region ?_
     refine TL.bin .i64 x2 1 rfl rfl rfl rfl (v := .int .i64 (w64 (x2 + 1))) rfl ?_
     refine TL.move rfl rfl (v := .int .i64 (w64 (x2 + 1))) rfl ?_
     refine TL.done ?_
     exact TC.next1 ((p3, (w64 (x2 + 1)))) (()) ⟨rfl, rfl, rfl, rfl, rfl, rfl, rfl, rfl, trivial⟩ [0] rfl
    ·exact TC.brk1 ((p2, x2)) (()) ⟨rfl, rfl, rfl, rfl, rfl, rfl, rfl, rfl, trivial⟩ [0] rfl
   ·rintro ⟨p2, x2⟩ _
    refine TC.region ?_
    refine TL.bin .i64 x1 1 rfl rfl rfl rfl (v := .int .i64 (w64 (x1 + 1))) rfl ?_
    refine TL.move rfl rfl (v := .int .i64 (w64 (x1 + 1))) rfl ?_
    refine TL.done ?_
    exact TC.next1 ((p2, (w64 (x1 + 1)))) (()) ⟨rfl, rfl, rfl, rfl, trivial⟩ [0] rfl
  ·exact TC.brk1 ((p1, x1)) (()) ⟨rfl, rfl, rfl, rfl, trivial⟩ [0] rfl
 ·rintro ⟨p1, x1⟩ _
  refine TC.seq ?_
  refine TC.region ?_
  refine TL.move rfl rfl (v := SV.v s3) rfl ?_
  refine TL.call (R := G.impl_pool_distinct.R) Try.call173 rfl rfl rfl (fun w hS => G.impl_pool_distinct.calls w s3 p1 ((Rd.row 0 rfl) w hS)) ?_
  rintro r_7 _ _ ⟨rfl, rfl⟩
  refine TL.assign rfl rfl (v := .int .i64 r_7) rfl ?_
  refine TL.done ?_
  exact TC.retF (Fin.body (fin1 (.inr rfl) rfl (.tmp rfl) [] rfl ⟨rfl, rfl⟩))

end Go.Proofs.Ytiiljfpbcanphaa.G

/- impl.eulerOf, as a pure function. -/
set_option linter.unusedVariables false
namespace Go.Proofs.Ytiiljfpbcanphaa.G
open Go Go.Sx Go.Proofs

def impl_eulerOf.f (s1 : List (List Int)) : Option Int := (G.impl_vertices.f s1).bind (fun r_1 => (G.impl_edgesOf.f s1).bind (fun r_2 => some (w64 ((w64 (r_1 - r_2)) + (s1.length : Int)))))

def impl_eulerOf.R (r : Int) (v : Value) (L : List Asn) : Prop := v = .int .i64 r ∧ L = []

set_option maxRecDepth 100000 in
set_option maxHeartbeats 4000000 in
theorem impl_eulerOf.calls (w : World) (s2 : SV) (ss1 : List SV) (s1 : List (List Int)) (h1 : ReadsM Ei (hp w) s2 ss1 s1) :
  ∀ r, impl_eulerOf.f s1 = some r → Calls Try.prog 128 #[SV.v s2] w (Ret w (impl_eulerOf.R r)) := by

 refine calls_T (n := 11) (Γ := [(0, SV.v s2)]) (R := impl_eulerOf.R) Try.func128 rfl rfl (Nat.le_of_ble_eq_true rfl) ⟨rfl, trivial⟩ ?_
 unfold impl_eulerOf.f
 refine TC.seq ?_
 refine TC.region ?_
 refine TL.assign rfl rfl (v := .int .i64 0) rfl ?_
 refine TL.done ?_
 refine TC.seq ?_
 refine TC.region ?_
 refine TL.move rfl rfl (v := SV.v s2) rfl ?_
 refine TL.call (R := G.impl_vertices.R) Try.call131 rfl rfl rfl (fun w hS => G.impl_vertices.calls w s2 ss1 s1 ((RdM.old h1) w hS)) ?_
 rintro r_1 _ _ ⟨rfl, rfl⟩
 refine TL.move rfl rfl (v := SV.v s2) rfl ?_
 refine TL.call (R := G.impl_edgesOf.R) Try.call118 rfl rfl rfl (fun w hS => G.impl_edgesOf.calls w s2 ss1 s1 ((RdM.old h1) w hS)) ?_
 rintro r_2 _ _ ⟨rfl, rfl⟩
 refine TL.bin .i64 r_1 r_2 rfl rfl rfl rfl (v := .int .i64 (w64 (r_1 - r_2))) rfl ?_
 refine TL.move rfl rfl (v := SV.v s2) rfl ?_
 refine TL.lenM (RdM.old h1) Try.underlying32 rfl rfl rfl ?_
 refine TL.bin .i64 (w64 (r_1 - r_2)) (s1.length : Int) rfl rfl rfl rfl (v := .int .i64 (w64 ((w64 (r_1 - r_2)) + (s1.length : Int)))) rfl ?_
 refine TL.assign rfl rfl (v := .int .i64 (w64 ((w64 (r_1 - r_2)) + (s1.length : Int)))) rfl ?_
 refine TL.done ?_
 exact TC.retF (Fin.body (fin1 (.inr rfl) rfl (.tmp rfl) [] rfl ⟨rfl, rfl⟩))

end Go.Proofs.Ytiiljfpbcanphaa.G

/- impl.EulerNumber, as a pure function. -/
set_option linter.unusedVariables false
namespace Go.Proofs.Ytiiljfpbcanphaa.G
open Go Go.Sx Go.Proofs

def impl_EulerNumber.f (s1 : List (List Int)) : Option (Int × Int) := (G.impl_ofSurface.f s1 G.impl_eulerOf.f).bind (fun p => match p with | (r_1, r_2) => some (r_1, r_2))

def impl_EulerNumber.R (r : Int × Int) (v : Value) (L : List Asn) : Prop := v = .tuple #[.int .i64 r.1, .int .i64 r.2] ∧ L = []

set_option maxRecDepth 100000 in
set_option maxHeartbeats 4000000 in
theorem impl_EulerNumber.calls (w : World) (s2 : SV) (ss1 : List SV) (s1 : List (List Int)) (h1 : ReadsM Ei (hp w) s2 ss1 s1) :
  ∀ r, impl_EulerNumber.f s1 = some r → Calls Try.prog 46 #[SV.v s2] w (Ret w (impl_EulerNumber.R r)) := by

 refine calls_T (n := 8) (Γ := [(0, SV.v s2)]) (R := impl_EulerNumber.R) Try.func46 rfl rfl (Nat.le_of_ble_eq_true rfl) ⟨rfl, trivial⟩ ?_
 unfold impl_EulerNumber.f
 refine TC.seq ?_
 refine TC.region ?_
 refine TL.assign rfl rfl (v := .int .i64 0) rfl ?_
 refine TL.assign rfl rfl (v := .int .i64 0) rfl ?_
 refine TL.done ?_
 refine TC.seq ?_
 refine TC.region ?_
 refine TL.move rfl rfl (v := SV.v s2) rfl ?_
 refine TL.call (R := G.impl_ofSurface.R) Try.call127 rfl rfl rfl (fun w hS => G.impl_ofSurface.calls w s2 ss1 s1 128 [] [] G.impl_eulerOf.f ((RdM.old h1) w hS) Try.call128 (fun w_ hle_ s1_ ss1_ x0_ h0_ r_ hr_ => G.impl_eulerOf.calls w_ s1_ ss1_ x0_ h0_ r_ hr_)) ?_
 rintro ⟨r_1, r_2⟩ _ _ ⟨rfl, rfl⟩
 refine TL.extract rfl rfl rfl (v := .int .i64 r_1) rfl ?_
 refine TL.extract rfl rfl rfl (v := .int .i64 r_2) rfl ?_
 refine TL.assign rfl rfl (v := .int .i64 r_1) rfl ?_
 refine TL.assign rfl rfl (v := .int .i64 r_2) rfl ?_
 refine TL.done ?_
 exact TC.retF (Fin.body (fin2 (.inr rfl) rfl (.tmp rfl) (.tmp rfl) [] rfl ⟨rfl, rfl⟩))

end Go.Proofs.Ytiiljfpbcanphaa.G

/- impl.IsOriented, as a pure function. -/
set_option linter.unusedVariables false
namespace Go.Proofs.Ytiiljfpbcanphaa.G
open Go Go.Sx Go.Proofs

def impl_IsOriented.f (s1 : List (List Int)) : Option (Bool × Int) := (G.impl_IsSurface.f s1).bind (fun r_1 => (bif (!r_1) then some (false, 1) else (G.impl_oriented.f s1).bind (fun r_2 => some (r_2, 0))))

def impl_IsOriented.R (r : Bool × Int) (v : Value) (L : List Asn) : Prop := v = .tuple #[.bool r.1, .int .i64 r.2] ∧ L = []

set_option maxRecDepth 100000 in
set_option maxHeartbeats 4000000 in
theorem impl_IsOriented.calls (w : World) (s2 : SV) (ss1 : List SV) (s1 : List (List Int)) (h1 : ReadsM Ei (hp w) s2 ss1 s1) :
  ∀ r, impl_IsOriented.f s1 = some r → Calls Try.prog 47 #[SV.v s2] w (Ret w (impl_IsOriented.R r)) := by

 refine calls_T (n := 9) (Γ := [(0, SV.v s2)]) (R := impl_IsOriented.R) Try.func47 rfl rfl (Nat.le_of_ble_eq_true rfl) ⟨rfl, trivial⟩ ?_
 unfold impl_IsOriented.f
 refine TC.seq ?_
 refine TC.region ?_
 refine TL.assign rfl rfl (v := .bool false) rfl ?_
 refine TL.assign rfl rfl (v := .int .i64 0) rfl ?_
 refine TL.done ?_
 refine TC.seq ?_
 refine TC.seq ?_
 refine TC.region ?_
 refine TL.move rfl rfl (v := SV.v s2) rfl ?_
 refine TL.call (R := G.impl_IsSurface.R) Try.call44 rfl rfl rfl (fun w hS => G.impl_IsSurface.calls w s2 ss1 s1 ((RdM.old h1) w hS)) ?_
 rintro r_1 _ _ ⟨rfl, rfl⟩
 refine TL.not r_1 rfl rfl rfl ?_
 refine TL.done ?_
 refine TC.cond (b := (!r_1)) rfl (fun c1 => ?_) (fun c2 => ?_)
 ·refine TC.seq ?_
  refine TC.region ?_
  refine TL.assign rfl rfl (v := .bool false) rfl ?_
  refine TL.assign rfl rfl (v := .int .i64 1) rfl ?_
  refine TL.done ?_
  exact TC.retF (Fin.body (fin2 (.inr rfl) rfl (.tmp rfl) (.tmp rfl) [] rfl ⟨rfl, rfl⟩))
 ·refine TC.skip ?_
  refine TC.seq ?_
  refine TC.region ?_
  refine TL.move rfl rfl (v := SV.v s2) rfl ?_
  refine TL.call (R := G.impl_oriented.R) Try.call108 rfl rfl rfl (fun w hS => G.impl_oriented.calls w s2 ss1 s1 ((RdM.old h1) w hS)) ?_
  rintro r_2 _ _ ⟨rfl, rfl⟩
  refine TL.assign rfl rfl (v := .bool r_2) rfl ?_
  refine TL.assign rfl rfl (v := .int .i64 0) rfl ?_
  refine TL.done ?_
  exact TC.retF (Fin.body (fin2 (.inr rfl) rfl (.tmp rfl) (.tmp rfl) [] rfl ⟨rfl, rfl⟩))

end Go.Proofs.Ytiiljfpbcanphaa.G

/- spec.DrawSplitTriangle, as a pure function. -/
set_option linter.unusedVariables false
namespace Go.Proofs.Ytiiljfpbcanphaa.G
open Go Go.Sx Go.Proofs

def spec_DrawSplitTriangle.b0 (code1 : List UInt8) : Int × Int × (List (List Int)) → Option (LB (Int × Int × (List (List Int)))) := fun p => match p with | (s5, s6, out1) => (G.spec_l01Next.f code1 s5 s6 3).bind (fun p => match p with | (r_4, s8, s9) => (bif (r_4 == 0) then (G.spec_l07Is.f out1).bind (fun r_5 => some r_5) else some false).bind (fun b_2 => (bif (b_2 && (decide ((out1.length : Int) < 12))) then (G.spec_l07Split.f out1 0).bind (fun r_6 => some (.next (s8, s9, r_6))) else some (.brk (s8, s9, out1)))))

def spec_DrawSplitTriangle.f (code1 : List UInt8) : Option ((List (List Int)) × Int) := (G.spec_l01From.f code1).bind (fun p => match p with | (r_1, r_2) => (G.spec_l07Spoil.f code1 r_1 r_2).bind (fun p => match p with | (r_3, s3, s4) => (loop1 (spec_DrawSplitTriangle.b0 code1) (s3, s4, r_3)).bind (fun p => match p with | (s5, s6, out1) => (G.spec_l01Near.f code1 s5 s6 (if 0 > (w64 ((out1.length : Int) - 1)) then 0 else (w64 ((out1.length : Int) - 1)))).bind (fun p => match p with | (r_7, s11, s12) => some (out1, r_7)))))

def spec_DrawSplitTriangle.R (r : (List (List Int)) × Int) (v : Value) (L : List Asn) : Prop := ∃ (s0 : SV) (ss0 : List SV), v = .tuple #[SV.v s0, .int .i64 r.2] ∧ L = [mat Ei 2 22 s0 ss0 r.1]

set_option maxRecDepth 100000 in
set_option maxHeartbeats 4000000 in
theorem spec_DrawSplitTriangle.calls (w : World) (s1 : SV) (code1 : List UInt8) (h1 : Reads Eu (hp w) s1 code1) :
  ∀ r, spec_DrawSplitTriangle.f code1 = some r → Calls Try.prog 48 #[SV.v s1] w (Ret w (spec_DrawSplitTriangle.R r)) := by

 refine calls_T (n := 31) (Γ := [(0, SV.v s1)]) (R := spec_DrawSplitTriangle.R) Try.func48 rfl rfl (Nat.le_of_ble_eq_true rfl) ⟨rfl, trivial⟩ ?_
 unfold spec_DrawSplitTriangle.f
 refine TC.seq ?_
 refine TC.region ?_
 refine TL.assign rfl rfl (v := SV.v ⟨none, 0, 0⟩) rfl ?_
 refine TL.assign rfl rfl (v := .int .i64 0) rfl ?_
 refine TL.done ?_
 refine TC.seq ?_
 refine TC.region ?_
 refine TL.move rfl rfl (v := SV.v s1) rfl ?_
 refine TL.call (R := G.spec_l01From.R s1) Try.call115 rfl rfl rfl (fun w hS => G.spec_l01From.calls w s1 code1 ((Rd.old h1) w hS)) ?_
 rintro ⟨r_1, r_2⟩ _ _ ⟨b_1, rfl, rfl⟩
 refine TL.assign rfl rfl (v := bp b_1 0) rfl ?_
 refine TL.done ?_
 refine TC.seq ?_
 refine TC.region ?_
 refine TL.move rfl rfl (v := bp b_1 0) rfl ?_
 refine TL.callX (R := G.spec_l07Spoil.R b_1 s1) [0] [box b_1 143 [.one (SV.v s1), .one (.int .i64 r_1), .one (.int .u64 r_2)]] [] rfl Try.call116 rfl rfl rfl (fun w I_ hle hB hS => G.spec_l07Spoil.calls _ I_ w b_1 s1 code1 r_1 r_2 hS (h1.mono hle)) ?_
 rintro ⟨r_3, s3, s4⟩ _ _ ⟨s2, ss1, rfl, rfl⟩
 refine TL.assign rfl rfl (v := SV.v s2) rfl ?_
 refine TL.done ?_
 refine TC.seq ?_
 refine TC.loop1 (σ := Int × Int × (List (List Int))) (γ := SV × (List SV)) (Γ' := (fun p q => match p, q with | (s5, s6, out1), (s7, ss2) => [(4, bp b_1 0), (5, SV.v s7)])) (L' := (fun p q => match p, q with | (s5, s6, out1), (s7, ss2) => [box b_1 143 [.one (SV.v s1), .one (.int .i64 s5), .one (.int .u64 s6)], mat Ei 2 22 s7 ss2 out1])) (Γb := (fun p q => match p, q with | (s5, s6, out1), (s7, ss2) => [(4, bp b_1 0), (5, SV.v s7)])) (Lb := (fun p q => match p, q with | (s5, s6, out1), (s7, ss2) => [box b_1 143 [.one (SV.v s1), .one (.int .i64 s5), .one (.int .u64 s6)], mat Ei 2 22 s7 ss2 out1])) ((s3, s4, r_3)) ((s2, ss1)) ⟨rfl, rfl, trivial⟩ [1, 0] rfl ?_ ?_
 ·rintro ⟨s5, s6, out1⟩ ⟨s7, ss2⟩
  refine TC.seq ?_
  refine TC.seq ?_
  refine TC.region ?_
  refine TL.move rfl rfl (v := bp b_1 0) rfl ?_
  refine TL.callX (R := G.spec_l01Next.R b_1 s1) [0, 0] [box b_1 143 [.one (SV.v s1), .one (.int .i64 s5), .one (.int .u64 s6)]] [mat Ei 2 22 s7 ss2 out1] rfl Try.call129 rfl rfl rfl (fun w I_ hle hB hS => G.spec_l01Next.calls _ I_ w b_1 s1 code1 s5 s6 3 hS (h1.mono hle)) ?_
  rintro ⟨r_4, s8, s9⟩ _ _ ⟨rfl, rfl⟩
  refine TL.bin .i64 r_4 0 rfl rfl rfl rfl (v := .bool (r_4 == 0)) rfl ?_
  refine TL.move rfl rfl (v := .bool (r_4 == 0)) rfl ?_
  refine TL.cutJ (σ := Bool) (γ := Unit) (Γ' := fun b_2 _ => [(16, .bool b_2), (4, bp b_1 0), (5, SV.v s7), (10, bp b_1 0), (11, .int .i64 r_4), (12, .bool (r_4 == 0)), (13, .bool (r_4 == 0))]) (L' := fun _ _ => [box b_1 143 [.one (SV.v s1), .one (.int .i64 s8), .one (.int .u64 s9)], mat Ei 2 22 s7 ss2 out1]) 3 ?_ ?_
  ·refine TL.ifb (t := 13) (b := (r_4 == 0)) rfl (fun c1 => ?_) (fun c2 => ?_)
   ·refine TL.move rfl rfl (v := SV.v s7) rfl ?_
    refine TL.call (R := G.spec_l07Is.R) Try.call100 rfl rfl rfl (fun w hS => G.spec_l07Is.calls w s7 ss2 out1 ((RdM.mat 1 rfl) w hS)) ?_
    rintro r_5 _ _ ⟨rfl, rfl⟩
    refine TL.pick rfl rfl (b := true) rfl (r := .bool r_5) rfl ?_
    refine TL.done ?_
    exact TC.nrm (r_5) () ⟨rfl, rfl, rfl, rfl, rfl, rfl, (by rw [c1]; rfl), trivial⟩ [0, 0] (by kernel_rfl)
   ·refine TL.skip rfl rfl (by decide) ?_
    refine TL.skip rfl rfl (by decide) ?_
    refine TL.pick rfl rfl (b := false) rfl (r := .bool false) rfl ?_
    refine TL.done ?_
    exact TC.nrm (false) () ⟨rfl, rfl, rfl, rfl, rfl, rfl, (by rw [c2]; rfl), trivial⟩ [0, 0] (by kernel_rfl)
  ·rintro b_2 _
   refine TL.move rfl rfl (v := .bool b_2) rfl ?_
   refine TL.cutU 4 [(21, .bool (b_2 && (decide ((out1.length : Int) < 12)))), (4, bp b_1 0), (5, SV.v s7), (10, bp b_1 0), (11, .int .i64 r_4), (12, .bool (r_4 == 0)), (13, .bool (r_4 == 0)), (16, .bool b_2), (17, .bool b_2)] [box b_1 143 [.one (SV.v s1), .one (.int .i64 s8), .one (.int .u64 s9)], mat Ei 2 22 s7 ss2 out1] ?_ ?_
   ·refine TL.cases (t := 17) (b := b_2) rfl (fun c3 => ?_) (fun c4 => ?_)
    ·refine TL.move rfl rfl (v := SV.v s7) rfl ?_
     refine TL.lenM (RdM.mat 1 rfl) Try.underlying32 rfl rfl rfl ?_
     refine TL.bin .i64 (out1.length : Int) 12 rfl rfl rfl rfl (v := .bool (decide ((out1.length : Int) < 12))) rfl ?_
     refine TL.pick rfl rfl (b := true) rfl (r := .bool (decide ((out1.length : Int) < 12))) rfl ?_
     refine TL.done ?_
     exact TC.nrm () () ⟨(by rw [c3]; rfl), rfl, rfl, rfl, rfl, rfl, rfl, rfl, (by rw [c3]; rfl), trivial⟩ [0, 0] (by kernel_rfl)
    ·refine TL.skip rfl rfl (by decide) ?_
     refine TL.skip rfl rfl (by decide) ?_
     refine TL.skip rfl rfl (by decide) ?_
     refine TL.pick rfl rfl (b := false) rfl (r := .bool false) rfl ?_
     refine TL.done ?_
     exact TC.nrm () () ⟨(by rw [c4]; rfl), rfl, rfl, rfl, rfl, rfl, rfl, rfl, (by rw [c4]; rfl), trivial⟩ [0, 0] (by kernel_rfl)
   ·refine TL.done ?_
    refine TC.cond (b := (b_2 && (decide ((out1.length : Int) < 12)))) rfl (fun c5 => ?_) (fun c6 => ?_)
    ·refine TC.skip ?_
     refine TC.block (NoEx.loop1 rfl) ?_
     refine TC.region ?_
     refine TL.move rfl rfl (v := SV.v s7) rfl ?_
     refine TL.call (R := G.spec_l07Split.R) Try.call130 rfl rfl rfl (fun w hS => G.spec_l07Split.calls w s7 ss2 out1 0 ((RdM.mat 1 rfl) w hS)) ?_
     rintro r_6 _ _ ⟨s10, ss3, rfl, rfl⟩
     refine TL.assign rfl rfl (v := SV.v s10) rfl ?_
     refine TL.done ?_
     exact TC.next1 ((s8, s9, r_6)) ((s10, ss3)) ⟨rfl, rfl, trivial⟩ [1, 0] rfl
    ·exact TC.brk1 ((s8, s9, out1)) ((s7, ss2)) ⟨rfl, rfl, trivial⟩ [0, 0] rfl
 ·rintro ⟨s5, s6, out1⟩ ⟨s7, ss2⟩
  refine TC.seq ?_
  refine TC.region ?_
  refine TL.move rfl rfl (v := SV.v s7) rfl ?_
  refine TL.move rfl rfl (v := bp b_1 0) rfl ?_
  refine TL.move rfl rfl (v := SV.v s7) rfl ?_
  refine TL.lenM (RdM.mat 1 rfl) Try.underlying32 rfl rfl rfl ?_
  refine TL.bin .i64 (out1.length : Int) 1 rfl rfl rfl rfl (v := .int .i64 (w64 ((out1.length : Int) - 1))) rfl ?_
  refine TL.max2 rfl rfl rfl rfl ?_
  refine TL.callX (R := G.spec_l01Near.R b_1 s1) [0, 0] [box b_1 143 [.one (SV.v s1), .one (.int .i64 s5), .one (.int .u64 s6)]] [mat Ei 2 22 s7 ss2 out1] rfl Try.call117 rfl rfl rfl (fun w I_ hle hB hS => G.spec_l01Near.calls _ I_ w b_1 s1 code1 s5 s6 (if 0 > (w64 ((out1.length : Int) - 1)) then 0 else (w64 ((out1.length : Int) - 1))) hS (h1.mono hle)) ?_
  rintro ⟨r_7, s11, s12⟩ _ _ ⟨rfl, rfl⟩
  refine TL.assign rfl rfl (v := SV.v s7) rfl ?_
  refine TL.assign rfl rfl (v := .int .i64 r_7) rfl ?_
  refine TL.done ?_
  exact TC.retF (Fin.body (fin2 (.inr rfl) rfl (.tmp rfl) (.tmp rfl) [1] rfl ⟨s7, ss2, rfl, rfl⟩))

end Go.Proofs.Ytiiljfpbcanphaa.G

/- impl.SplitTriangle, as a pure function. -/
set_option linter.unusedVariables false
namespace Go.Proofs.Ytiiljfpbcanphaa.G
open Go Go.Sx Go.Proofs

def impl_SplitTriangle.f (x1 : List (List Int)) (x2 : Int) : Option ((List (List Int)) × Int) := (G.impl_IsSurface.f x1).bind (fun r_1 => (bif (!r_1) then some (([] : List (List Int)), 1) else (G.impl_in.f x2 0 (w64 ((x1.length : Int) - 1))).bind (fun r_2 => (bif (!r_2) then some (([] : List (List Int)), 2) else (bif (decide ((w64 ((x1.length : Int) + 2)) > 12)) then some (([] : List (List Int)), 3) else (G.impl_cloneSurface.f x1).bind (fun r_3 => (G.impl_edgesOf.f x1).bind (fun r_4 => chk x2 x1.length (chk 0 ((gt x1 x2).length) (chk x2 r_3.length (chk 1 ((gt x1 x2).length) (chk 2 ((gt x1 x2).length) (small ((r_3.set x2.toNat ([(gt (gt x1 x2) 0), (w64 (r_4 + 1)), (w64 (0 - (w64 (r_4 + 2))))] : List Int)).length + 2) (some (((r_3.set x2.toNat ([(gt (gt x1 x2) 0), (w64 (r_4 + 1)), (w64 (0 - (w64 (r_4 + 2))))] : List Int)) ++ [([(gt (gt x1 x2) 1), (w64 (r_4 + 3)), (w64 (0 - (w64 (r_4 + 1))))] : List Int), ([(gt (gt x1 x2) 2), (w64 (r_4 + 2)), (w64 (0 - (w64 (r_4 + 3))))] : List Int)]), 0))))))))))))))

def impl_SplitTriangle.R (r : (List (List Int)) × Int) (v : Value) (L : List Asn) : Prop := ∃ (s0 : SV) (ss0 : List SV), v = .tuple #[SV.v s0, .int .i64 r.2] ∧ L = [mat Ei 2 22 s0 ss0 r.1]

set_option maxRecDepth 100000 in
set_option maxHeartbeats 4000000 in
theorem impl_SplitTriangle.calls (w : World) (s1 : SV) (ss1 : List SV) (x1 : List (List Int)) (x2 : Int) (h1 : ReadsM Ei (hp w) s1 ss1 x1) :
  ∀ r, impl_SplitTriangle.f x1 x2 = some r → Calls Try.prog 49 #[SV.v s1, .int .i64 x2] w (Ret w (impl_SplitTriangle.R r)) := by

 refine calls_T (n := 66) (Γ := [(0, SV.v s1), (1, .int .i64 x2)]) (R := impl_SplitTriangle.R) Try.func49 rfl rfl (Nat.le_of_ble_eq_true rfl) ⟨rfl, rfl, trivial⟩ ?_
 unfold impl_SplitTriangle.f
 refine TC.seq ?_
 refine TC.region ?_
 refine TL.assign rfl rfl (v := SV.v ⟨none, 0, 0⟩) rfl ?_
 refine TL.assign rfl rfl (v := .int .i64 0) rfl ?_
 refine TL.done ?_
 refine TC.seq ?_
 refine TC.block NoEx.body ?_
 refine TC.seq ?_
 refine TC.region ?_
 refine TL.move rfl rfl (v := SV.v s1) rfl ?_
 refine TL.call (R := G.impl_IsSurface.R) Try.call44 rfl rfl rfl (fun w hS => G.impl_IsSurface.calls w s1 ss1 x1 ((RdM.old h1) w hS)) ?_
 rintro r_1 _ _ ⟨rfl, rfl⟩
 refine TL.not r_1 rfl rfl rfl ?_
 refine TL.assign rfl rfl (v := .bool (!r_1)) rfl ?_
 refine TL.done ?_
 refine TC.cond (b := (!r_1)) rfl (fun c1 => ?_) (fun c2 => ?_)
 ·refine TC.seq ?_
  refine TC.region ?_
  refine TL.assign rfl rfl (v := SV.v ⟨none, 0, 0⟩) rfl ?_
  refine TL.assign rfl rfl (v := .int .i64 1) rfl ?_
  refine TL.done ?_
  refine TC.nilmat Ei 2 22 ?_
  exact TC.retF (Fin.body (fin2 (.inr rfl) rfl (.tmp rfl) (.tmp rfl) [0] rfl ⟨⟨none, 0, 0⟩, [], rfl, rfl⟩))
 ·refine TC.seq ?_
  refine TC.region ?_
  refine TL.move rfl rfl (v := .int .i64 x2) rfl ?_
  refine TL.move rfl rfl (v := SV.v s1) rfl ?_
  refine TL.lenM (RdM.old h1) Try.underlying32 rfl rfl rfl ?_
  refine TL.bin .i64 (x1.length : Int) 1 rfl rfl rfl rfl (v := .int .i64 (w64 ((x1.length : Int) - 1))) rfl ?_
  refine TL.call (R := G.impl_in.R) Try.call72 rfl rfl rfl (fun w hS => G.impl_in.calls w x2 0 (w64 ((x1.length : Int) - 1))) ?_
  rintro r_2 _ _ ⟨rfl, rfl⟩
  refine TL.not r_2 rfl rfl rfl ?_
  refine TL.assign rfl rfl (v := .bool (!r_2)) rfl ?_
  refine TL.done ?_
  refine TC.cond (b := (!r_2)) rfl (fun c3 => ?_) (fun c4 => ?_)
  ·refine TC.seq ?_
   refine TC.region ?_
   refine TL.assign rfl rfl (v := SV.v ⟨none, 0, 0⟩) rfl ?_
   refine TL.assign rfl rfl (v := .int .i64 2) rfl ?_
   refine TL.done ?_
   refine TC.nilmat Ei 2 22 ?_
   exact TC.retF (Fin.body (fin2 (.inr rfl) rfl (.tmp rfl) (.tmp rfl) [0] rfl ⟨⟨none, 0, 0⟩, [], rfl, rfl⟩))
  ·refine TC.seq ?_
   refine TC.region ?_
   refine TL.move rfl rfl (v := SV.v s1) rfl ?_
   refine TL.lenM (RdM.old h1) Try.underlying32 rfl rfl rfl ?_
   refine TL.bin .i64 (x1.length : Int) 2 rfl rfl rfl rfl (v := .int .i64 (w64 ((x1.length : Int) + 2))) rfl ?_
   refine TL.bin .i64 (w64 ((x1.length : Int) + 2)) 12 rfl rfl rfl rfl (v := .bool (decide ((w64 ((x1.length : Int) + 2)) > 12))) rfl ?_
   refine TL.assign rfl rfl (v := .bool (decide ((w64 ((x1.length : Int) + 2)) > 12))) rfl ?_
   refine TL.done ?_
   refine TC.cond (b := (decide ((w64 ((x1.length : Int) + 2)) > 12))) rfl (fun c5 => ?_) (fun c6 => ?_)
   ·refine TC.seq ?_
    refine TC.region ?_
    refine TL.assign rfl rfl (v := SV.v ⟨none, 0, 0⟩) rfl ?_
    refine TL.assign rfl rfl (v := .int .i64 3) rfl ?_
    refine TL.done ?_
    refine TC.nilmat Ei 2 22 ?_
    exact TC.retF (Fin.body (fin2 (.inr rfl) rfl (.tmp rfl) (.tmp rfl) [0] rfl ⟨⟨none, 0, 0⟩, [], rfl, rfl⟩))
   ·refine TC.skip ?_
    refine TC.seq ?_
    refine TC.wk (Γ' := [(0, SV.v s1), (1, .int .i64 x2), (4, SV.v ⟨none, 0, 0⟩), (5, .int .i64 0), (10, SV.v s1), (11, .bool r_1), (12, .bool (!r_1)), (9, .bool (!r_1)), (14, .int .i64 x2), (15, SV.v s1), (16, .int .i64 (x1.length : Int)), (17, .int .i64 (w64 ((x1.length : Int) - 1))), (18, .bool r_2), (19, .bool (!r_2)), (13, .bool (!r_2)), (21, SV.v s1), (22, .int .i64 (x1.length : Int)), (23, .int .i64 (w64 ((x1.length : Int) + 2))), (24, .bool (decide ((w64 ((x1.length : Int) + 2)) > 12))), (20, .bool (decide ((w64 ((x1.length : Int) + 2)) > 12)))]) ⟨rfl, rfl, rfl, rfl, rfl, rfl, rfl, rfl, rfl, rfl, rfl, rfl, rfl, rfl, rfl, rfl, rfl, rfl, rfl, rfl, trivial⟩ ?_
    refine TC.bindE ?_
    rintro r_3 hr1
    refine TC.bindE ?_
    rintro r_4 hr2
    refine TC.chk fun h2 => ?_
    refine TC.drawG [(0, SV.v s1), (1, .int .i64 x2), (4, SV.v ⟨none, 0, 0⟩), (5, .int .i64 0), (10, SV.v s1), (11, .bool r_1), (12, .bool (!r_1)), (9, .bool (!r_1)), (14, .int .i64 x2), (15, SV.v s1), (16, .int .i64 (x1.length : Int)), (17, .int .i64 (w64 ((x1.length : Int) - 1))), (18, .bool r_2), (19, .bool (!r_2)), (13, .bool (!r_2)), (21, SV.v s1), (22, .int .i64 (x1.length : Int)), (23, .int .i64 (w64 ((x1.length : Int) + 2))), (24, .bool (decide ((w64 ((x1.length : Int) + 2)) > 12))), (20, .bool (decide ((w64 ((x1.length : Int) + 2)) > 12)))] [] ⟨rfl, rfl, rfl, rfl, rfl, rfl, rfl, rfl, rfl, rfl, rfl, rfl, rfl, rfl, rfl, rfl, rfl, rfl, rfl, rfl, trivial⟩ trivial (fun l_ g1 => [(bif nb l_ 1 then mat Ei 2 22 (gs (g1 8)) (g1 9) r_3 else emp)]) (fun g1 => [SV.v s1, SV.v (gs (g1 8)), SV.v s1, .int .i64 r_4, SV.v s1, .int .i64 x2, ep s1 x2.toNat, SV.v (gt ss1 x2), SV.v (gs (g1 8)), .int .i64 r_4, SV.v (gt ss1 x2)]) [[], [0], [], [0, 1, 2], [], [], [4, 5], [4, 5, 6], [0, 1, 2, 3], [0, 1, 2, 3, 8], [0, 1, 2, 3, 4, 5, 6, 7, 8, 9]] [[some false, some false, none, some false, none, none, none, none, some false, some false, some false], [some true, some false, none, some false, none, none, none, none, some false, some false, some false], [none, none, some false, some false, none, none, none, none, some false, some false, some false], [some true, some true, some true, some false, none, none, none, none, some false, some false, some false], [none, none, none, none, some false, none, some false, some false, none, none, some false], [none, none, none, none, none, some false, some false, some false, none, none, some false], [none, none, none, none, some true, some true, some false, some false, none, none, some false], [none, none, none, none, some true, some true, some true, some false, none, none, some false], [some true, some true, some true, some true, none, none, none, none, some false, some false, some false], [some true, some true, some true, some true, none, none, none, none, some true, some false, some false], [some true, some true, some true, some true, some true, some true, some true, some true, some true, some true, some false]] (by kernel_rfl) (fun _ => rfl) rfl rfl rfl rfl rfl (fun _ _ => ⟨⟨⟨⟨⟨⟨⟨⟨⟨⟨⟨trivial, rfl⟩, rfl⟩, rfl⟩, rfl⟩, rfl⟩, rfl⟩, rfl⟩, rfl⟩, rfl⟩, rfl⟩, rfl⟩) 1 [0] (fun _ => by kernel_rfl) ?_ ?_
    ·refine ⟨rfl, ?_, rfl, ?_, rfl, ?_, rfl, ?_, rfl, ?_, rfl, ?_, rfl, ?_, rfl, ?_, rfl, ?_, rfl, ?_, rfl, ?_, trivial⟩
     ·intro b2_ b4_ b5_ b6_ b7_ g1
      refine TL.move rfl rfl (v := SV.v s1) rfl ?_
      refine TL.done ?_
      exact TC.nrm () [] ⟨rfl, trivial⟩ [0] (by kernel_rfl)
     ·intro b2_ b4_ b5_ b6_ b7_ g1
      refine TL.asL [emp] (by kernel_rfl) ?_
      refine TL.callH (R := G.impl_cloneSurface.R) hr1 Try.call102 rfl rfl rfl (fun w hS => G.impl_cloneSurface.calls w s1 ss1 x1 ((RdM.old h1) w hS)) ?_
      rintro _ _ ⟨s2, ss2, rfl, rfl⟩
      refine TL.done ?_
      exact TC.nrm () [[s2], ss2] ⟨rfl, trivial⟩ [0] (by kernel_rfl)
     ·intro b0_ b1_ b4_ b5_ b6_ b7_ g1
      refine TL.move rfl rfl (v := SV.v s1) rfl ?_
      refine TL.done ?_
      exact TC.nrm () [] ⟨rfl, trivial⟩ [0] (by kernel_rfl)
     ·intro b4_ b5_ b6_ b7_ g1
      refine TL.asL [mat Ei 2 22 (gs (g1 8)) (g1 9) r_3] (by kernel_rfl) ?_
      refine TL.callH (R := G.impl_edgesOf.R) hr2 Try.call118 rfl rfl rfl (fun w hS => G.impl_edgesOf.calls w s1 ss1 x1 ((RdM.old h1) w hS)) ?_
      rintro _ _ ⟨rfl, rfl⟩
      refine TL.done ?_
      exact TC.nrm () [] ⟨rfl, trivial⟩ [0] (by kernel_rfl)
     ·intro b0_ b1_ b2_ b3_ b5_ b8_ b9_ g1
      refine TL.move rfl rfl (v := SV.v s1) rfl ?_
      refine TL.done ?_
      exact TC.nrm () [] ⟨rfl, trivial⟩ [0] (by kernel_rfl)
     ·intro b0_ b1_ b2_ b3_ b4_ b8_ b9_ g1
      refine TL.move rfl rfl (v := .int .i64 x2) rfl ?_
      refine TL.done ?_
      exact TC.nrm () [] ⟨rfl, trivial⟩ [0] (by kernel_rfl)
     ·intro b0_ b1_ b2_ b3_ b8_ b9_ g1
      refine TL.asL [(bif b1_ then mat Ei 2 22 (gs (g1 8)) (g1 9) r_3 else emp)] (by kernel_rfl) ?_
      refine TL.ixsM x2 x2.toNat (RdM.old h1) h2 Try.underlying32 Try.sizeOf22 rfl rfl rfl rfl (by omega) ?_
      refine TL.done ?_
      exact TC.nrm () [] ⟨rfl, trivial⟩ [0] (by kernel_rfl)
     ·intro b0_ b1_ b2_ b3_ b8_ b9_ g1
      refine TL.asL [(bif b1_ then mat Ei 2 22 (gs (g1 8)) (g1 9) r_3 else emp)] (by kernel_rfl) ?_
      refine TL.loadM2 (RdM.old h1) Try.isAgg22 x2 h2 (by omega) rfl rfl rfl ?_
      refine TL.done ?_
      exact TC.nrm () [] ⟨rfl, trivial⟩ [0] (by kernel_rfl)
     ·intro b4_ b5_ b6_ b7_ g1
      refine TL.assign rfl rfl (v := SV.v (gs (g1 8))) rfl ?_
      refine TL.done ?_
      exact TC.nrm () [] ⟨rfl, trivial⟩ [0] (by kernel_rfl)
     ·intro b4_ b5_ b6_ b7_ g1
      refine TL.assign rfl rfl (v := .int .i64 r_4) rfl ?_
      refine TL.done ?_
      exact TC.nrm () [] ⟨rfl, trivial⟩ [0] (by kernel_rfl)
     ·intro g1
      refine TL.assign rfl rfl (v := SV.v (gt ss1 x2)) rfl ?_
      refine TL.done ?_
      exact TC.nrm () [] ⟨rfl, trivial⟩ [0] (by kernel_rfl)
    ·intro g1
     refine TC.asL [mat Ei 2 22 (gs (g1 8)) (g1 9) r_3] (by kernel_rfl) ?_
     refine TC.seq ?_
     refine TC.region ?_
     refine TL.move rfl rfl (v := SV.v (gs (g1 8))) rfl ?_
     refine TL.move rfl rfl (v := .int .i64 x2) rfl ?_
     refine TL.move rfl rfl (v := SV.v (gt ss1 x2)) rfl ?_
     refine TL.chk fun h3 => ?_
     refine TL.ixs 0 0 (RdM.inn (RdM.old h1) h2) h3 Try.underlying22 Try.sizeOf2 rfl rfl rfl rfl rfl ?_
     refine TL.loadE (RdM.inn (RdM.old h1) h2) Try.isAgg2 0 0 (gt_spec h3) (v := .int .i64 (gt (gt x1 x2) 0)) rfl rfl rfl rfl rfl ?_
     refine TL.move rfl rfl (v := .int .i64 r_4) rfl ?_
     refine TL.bin .i64 r_4 1 rfl rfl rfl rfl (v := .int .i64 (w64 (r_4 + 1))) rfl ?_
     refine TL.move rfl rfl (v := .int .i64 r_4) rfl ?_
     refine TL.bin .i64 r_4 2 rfl rfl rfl rfl (v := .int .i64 (w64 (r_4 + 2))) rfl ?_
     refine TL.neg .i64 (w64 (r_4 + 2)) rfl rfl rfl ?_
     refine TL.blit Ei ([(gt (gt x1 x2) 0), (w64 (r_4 + 1)), (w64 (0 - (w64 (r_4 + 2))))] : List Int) Try.underlying22 Try.sizeOf2 Try.zeroValue2 rfl rfl rfl [(0, .int .i64 (gt (gt x1 x2) 0)), (1, .int .i64 (w64 (r_4 + 1))), (2, .int .i64 (w64 (0 - (w64 (r_4 + 2)))))] rfl ⟨rfl, rfl, rfl, rfl, rfl, rfl, trivial⟩ rfl rfl fun s3 => ?_
     refine TL.chk fun h4 => ?_
     refine TL.ixsM x2 x2.toNat (RdM.mat 1 rfl) h4 Try.underlying32 Try.sizeOf22 rfl rfl rfl rfl (by omega) ?_
     refine TL.matlen 1 rfl fun h5 => ?_
     refine TL.matcut 1 rfl ?_
     refine TL.stE 0 (x2.toNat) s3 (v := SV.v s3) rfl Try.sizeOf22 rfl rfl rfl (by have h_ := h4; have l_ := h5; (try simp only [List.length_set] at h_ l_ ⊢); omega) (by simp only [show Ev.sz = 1 from rfl] <;> omega) rfl rfl rfl ?_
     refine TL.hole 2 x2 rfl h4 ?_
     refine TL.rowsPut 1 2 rfl rfl ?_
     refine TL.matmk 0 2 rfl rfl ?_
     refine TL.drop 0 rfl ?_
     refine TL.asL [emp, mat Ei 2 22 (gs (g1 8)) ((g1 9).set x2.toNat s3) (r_3.set x2.toNat ([(gt (gt x1 x2) 0), (w64 (r_4 + 1)), (w64 (0 - (w64 (r_4 + 2))))] : List Int))] (by kernel_rfl) ?_
     refine TL.done ?_
     refine TC.seq ?_
     refine TC.wk (Γ' := [(6, SV.v (gs (g1 8))), (7, .int .i64 r_4), (8, SV.v (gt ss1 x2))]) ⟨rfl, rfl, rfl, trivial⟩ ?_
     refine TC.chk fun h6 => ?_
     refine TC.chk fun h7 => ?_
     refine TC.small fun h8 => ?_
     refine TC.drawG [(6, SV.v (gs (g1 8))), (7, .int .i64 r_4), (8, SV.v (gt ss1 x2))] [] ⟨rfl, rfl, rfl, trivial⟩ trivial (fun l_ g2 => [emp, (bif nb l_ 20 then emp else mat Ei 2 22 (gs (g1 8)) ((g1 9).set x2.toNat s3) (r_3.set x2.toNat ([(gt (gt x1 x2) 0), (w64 (r_4 + 1)), (w64 (0 - (w64 (r_4 + 2))))] : List Int))), (bif nb l_ 20 then emp else (bif nb l_ 9 then row Ei 2 (gs (g2 72)) ([(gt (gt x1 x2) 1), (w64 (r_4 + 3)), (w64 (0 - (w64 (r_4 + 1))))] : List Int) else emp)), (bif nb l_ 20 then mat Ei 2 22 (gs (g2 160)) (((g1 9).set x2.toNat s3) ++ [(gs (g2 72)), (gs (g2 144))]) ((r_3.set x2.toNat ([(gt (gt x1 x2) 0), (w64 (r_4 + 1)), (w64 (0 - (w64 (r_4 + 2))))] : List Int)) ++ [([(gt (gt x1 x2) 1), (w64 (r_4 + 3)), (w64 (0 - (w64 (r_4 + 1))))] : List Int), ([(gt (gt x1 x2) 2), (w64 (r_4 + 2)), (w64 (0 - (w64 (r_4 + 3))))] : List Int)]) else (bif nb l_ 18 then row Ei 2 (gs (g2 144)) ([(gt (gt x1 x2) 2), (w64 (r_4 + 2)), (w64 (0 - (w64 (r_4 + 3))))] : List Int) else emp)), (bif nb l_ 19 then row Ev 22 (gs (g2 152)) ([(gs (g2 72)), (gs (g2 144))] : List SV) else emp)]) (fun g2 => [SV.v (gs (g1 8)), SV.v (gt ss1 x2), ep (gt ss1 x2) 1, .int .i64 (gt (gt x1 x2) 1), .int .i64 r_4, .int .i64 (w64 (r_4 + 3)), .int .i64 r_4, .int .i64 (w64 (r_4 + 1)), .int .i64 (w64 (0 - (w64 (r_4 + 1)))), SV.v (gs (g2 72)), SV.v (gt ss1 x2), ep (gt ss1 x2) 2, .int .i64 (gt (gt x1 x2) 2), .int .i64 r_4, .int .i64 (w64 (r_4 + 2)), .int .i64 r_4, .int .i64 (w64 (r_4 + 3)), .int .i64 (w64 (0 - (w64 (r_4 + 3)))), SV.v (gs (g2 144)), SV.v (gs (g2 152)), SV.v (gs (g2 160)), SV.v (gs (g2 160)), .int .i64 0]) [[], [], [1], [1, 2], [], [4], [], [6], [6, 7], [1, 2, 3, 4, 5, 6, 7, 8], [], [10], [10, 11], [], [13], [], [15], [15, 16], [10, 11, 12, 13, 14, 15, 16, 17], [1, 2, 3, 4, 5, 6, 7, 8, 9, 10, 11, 12, 13, 14, 15, 16, 17, 18], [0, 1, 2, 3, 4, 5, 6, 7, 8, 9, 10, 11, 12, 13, 14, 15, 16, 17, 18, 19], [0, 1, 2, 3, 4, 5, 6, 7, 8, 9, 10, 11, 12, 13, 14, 15, 16, 17, 18, 19, 20], [0, 1, 2, 3, 4, 5, 6, 7, 8, 9, 10, 11, 12, 13, 14, 15, 16, 17, 18, 19, 20, 21]] [[some false, none, none, none, none, none, none, none, none, none, none, none, none, none, none, none, none, none, none, none, some false, some false, some false], [none, some false, some false, some false, none, none, none, none, none, some false, none, none, none, none, none, none, none, none, none, some false, some false, some false, some false], [none, some true, some false, some false, none, none, none, none, none, some false, none, none, none, none, none, none, none, none, none, some false, some false, some false, some false], [none, some true, some true, some false, none, none, none, none, none, some false, none, none, none, none, none, none, none, none, none, some false, some false, some false, some false], [none, none, none, none, some false, some false, none, none, none, some false, none, none, none, none, none, none, none, none, none, some false, some false, some false, some false], [none, none, none, none, some true, some false, none, none, none, some false, none, none, none, none, none, none, none, none, none, some false, some false, some false, some false], [none, none, none, none, none, none, some false, some false, some false, some false, none, none, none, none, none, none, none, none, none, some false, some false, some false, some false], [none, none, none, none, none, none, some true, some false, some false, some false, none, none, none, none, none, none, none, none, none, some false, some false, some false, some false], [none, none, none, none, none, none, some true, some true, some false, some false, none, none, none, none, none, none, none, none, none, some false, some false, some false, some false], [none, some true, some true, some true, some true, some true, some true, some true, some true, some false, none, none, none, none, none, none, none, none, none, some false, some false, some false, some false], [none, none, none, none, none, none, none, none, none, none, some false, some false, some false, none, none, none, none, none, some false, some false, some false, some false, some false], [none, none, none, none, none, none, none, none, none, none, some true, some false, some false, none, none, none, none, none, some false, some false, some false, some false, some false], [none, none, none, none, none, none, none, none, none, none, some true, some true, some false, none, none, none, none, none, some false, some false, some false, some false, some false], [none, none, none, none, none, none, none, none, none, none, none, none, none, some false, some false, none, none, none, some false, some false, some false, some false, some false], [none, none, none, none, none, none, none, none, none, none, none, none, none, some true, some false, none, none, none, some false, some false, some false, some false, some false], [none, none, none, none, none, none, none, none, none, none, none, none, none, none, none, some false, some false, some false, some false, some false, some false, some false, some false], [none, none, none, none, none, none, none, none, none, none, none, none, none, none, none, some true, some false, some false, some false, some false, some false, some false, some false], [none, none, none, none, none, none, none, none, none, none, none, none, none, none, none, some true, some true, some false, some false, some false, some false, some false, some false], [none, none, none, none, none, none, none, none, none, none, some true, some true, some true, some true, some true, some true, some true, some true, some false, some false, some false, some false, some false], [none, some true, some true, some true, some true, some true, some true, some true, some true, some true, some true, some true, some true, some true, some true, some true, some true, some true, some true, some false, some false, some false, some false], [some true, some true, some true, some true, some true, some true, some true, some true, some true, some true, some true, some true, some true, some true, some true, some true, some true, some true, some true, some true, some false, some false, some false], [some true, some true, some true, some true, some true, some true, some true, some true, some true, some true, some true, some true, some true, some true, some true, some true, some true, some true, some true, some true, some true, some false, some false], [some true, some true, some true, some true, some true, some true, some true, some true, some true, some true, some true, some true, some true, some true, some true, some true, some true, some true, some true, some true, some true, some true, some false]] (by kernel_rfl) (fun _ => rfl) rfl rfl rfl rfl rfl (fun _ _ => ⟨⟨⟨⟨⟨⟨⟨⟨⟨⟨⟨⟨⟨⟨⟨⟨⟨⟨⟨⟨⟨⟨⟨trivial, rfl⟩, rfl⟩, rfl⟩, rfl⟩, rfl⟩, rfl⟩, rfl⟩, rfl⟩, rfl⟩, rfl⟩, rfl⟩, rfl⟩, rfl⟩, rfl⟩, rfl⟩, rfl⟩, rfl⟩, rfl⟩, rfl⟩, rfl⟩, rfl⟩, rfl⟩, rfl⟩) 3 [3, 3, 0, 0, 0] (fun _ => by kernel_rfl) ?_ ?_
     ·refine ⟨rfl, ?_, rfl, ?_, rfl, ?_, rfl, ?_, rfl, ?_, rfl, ?_, rfl, ?_, rfl, ?_, rfl, ?_, rfl, ?_, rfl, ?_, rfl, ?_, rfl, ?_, rfl, ?_, rfl, ?_, rfl, ?_, rfl, ?_, rfl, ?_, rfl, ?_, rfl, ?_, rfl, ?_, rfl, ?_, rfl, ?_, trivial⟩
      ·intro b1_ b2_ b3_ b4_ b5_ b6_ b7_ b8_ b9_ b10_ b11_ b12_ b13_ b14_ b15_ b16_ b17_ b18_ b19_ g2
       refine TL.move rfl rfl (v := SV.v (gs (g1 8))) rfl ?_
       refine TL.done ?_
       exact TC.nrm () [] ⟨rfl, trivial⟩ [0, 0, 0, 0, 0] (by kernel_rfl)
      ·intro b0_ b4_ b5_ b6_ b7_ b8_ b10_ b11_ b12_ b13_ b14_ b15_ b16_ b17_ b18_ g2
       refine TL.move rfl rfl (v := SV.v (gt ss1 x2)) rfl ?_
       refine TL.done ?_
       exact TC.nrm () [] ⟨rfl, trivial⟩ [0, 0, 0, 0, 0] (by kernel_rfl)
      ·intro b0_ b4_ b5_ b6_ b7_ b8_ b10_ b11_ b12_ b13_ b14_ b15_ b16_ b17_ b18_ g2
       refine TL.asL [emp, mat Ei 2 22 (gs (g1 8)) ((g1 9).set x2.toNat s3) (r_3.set x2.toNat ([(gt (gt x1 x2) 0), (w64 (r_4 + 1)), (w64 (0 - (w64 (r_4 + 2))))] : List Int)), emp, (bif b18_ then row Ei 2 (gs (g2 144)) ([(gt (gt x1 x2) 2), (w64 (r_4 + 2)), (w64 (0 - (w64 (r_4 + 3))))] : List Int) else emp), emp] (by kernel_rfl) ?_
       refine TL.ixs 1 1 (RdM.inn (RdM.old h1) h2) h6 Try.underlying22 Try.sizeOf2 rfl rfl rfl rfl rfl ?_
       refine TL.done ?_
       exact TC.nrm () [] ⟨rfl, trivial⟩ [0, 0, 0, 0, 0] (by kernel_rfl)
      ·intro b0_ b4_ b5_ b6_ b7_ b8_ b10_ b11_ b12_ b13_ b14_ b15_ b16_ b17_ b18_ g2
       refine TL.asL [emp, mat Ei 2 22 (gs (g1 8)) ((g1 9).set x2.toNat s3) (r_3.set x2.toNat ([(gt (gt x1 x2) 0), (w64 (r_4 + 1)), (w64 (0 - (w64 (r_4 + 2))))] : List Int)), emp, (bif b18_ then row Ei 2 (gs (g2 144)) ([(gt (gt x1 x2) 2), (w64 (r_4 + 2)), (w64 (0 - (w64 (r_4 + 3))))] : List Int) else emp), emp] (by kernel_rfl) ?_
       refine TL.loadE (RdM.inn (RdM.old h1) h2) Try.isAgg2 1 0 (gt_spec h6) (v := .int .i64 (gt (gt x1 x2) 1)) rfl rfl rfl rfl rfl ?_
       refine TL.done ?_
       exact TC.nrm () [] ⟨rfl, trivial⟩ [0, 0, 0, 0, 0] (by kernel_rfl)
      ·intro b0_ b1_ b2_ b3_ b6_ b7_ b8_ b10_ b11_ b12_ b13_ b14_ b15_ b16_ b17_ b18_ g2
       refine TL.move rfl rfl (v := .int .i64 r_4) rfl ?_
       refine TL.done ?_
       exact TC.nrm () [] ⟨rfl, trivial⟩ [0, 0, 0, 0, 0] (by kernel_rfl)
      ·intro b0_ b1_ b2_ b3_ b6_ b7_ b8_ b10_ b11_ b12_ b13_ b14_ b15_ b16_ b17_ b18_ g2
       refine TL.bin .i64 r_4 3 rfl rfl rfl rfl (v := .int .i64 (w64 (r_4 + 3))) rfl ?_
       refine TL.done ?_
       exact TC.nrm () [] ⟨rfl, trivial⟩ [0, 0, 0, 0, 0] (by kernel_rfl)
      ·intro b0_ b1_ b2_ b3_ b4_ b5_ b10_ b11_ b12_ b13_ b14_ b15_ b16_ b17_ b18_ g2
       refine TL.move rfl rfl (v := .int .i64 r_4) rfl ?_
       refine TL.done ?_
       exact TC.nrm () [] ⟨rfl, trivial⟩ [0, 0, 0, 0, 0] (by kernel_rfl)
      ·intro b0_ b1_ b2_ b3_ b4_ b5_ b10_ b11_ b12_ b13_ b14_ b15_ b16_ b17_ b18_ g2
       refine TL.bin .i64 r_4 1 rfl rfl rfl rfl (v := .int .i64 (w64 (r_4 + 1))) rfl ?_
       refine TL.done ?_
       exact TC.nrm () [] ⟨rfl, trivial⟩ [0, 0, 0, 0, 0] (by kernel_rfl)
      ·intro b0_ b1_ b2_ b3_ b4_ b5_ b10_ b11_ b12_ b13_ b14_ b15_ b16_ b17_ b18_ g2
       refine TL.neg .i64 (w64 (r_4 + 1)) rfl rfl rfl ?_
       refine TL.done ?_
       exact TC.nrm () [] ⟨rfl, trivial⟩ [0, 0, 0, 0, 0] (by kernel_rfl)
      ·intro b0_ b10_ b11_ b12_ b13_ b14_ b15_ b16_ b17_ b18_ g2
       refine TL.asL [emp, mat Ei 2 22 (gs (g1 8)) ((g1 9).set x2.toNat s3) (r_3.set x2.toNat ([(gt (gt x1 x2) 0), (w64 (r_4 + 1)), (w64 (0 - (w64 (r_4 + 2))))] : List Int)), emp, (bif b18_ then row Ei 2 (gs (g2 144)) ([(gt (gt x1 x2) 2), (w64 (r_4 + 2)), (w64 (0 - (w64 (r_4 + 3))))] : List Int) else emp), emp] (by kernel_rfl) ?_
       refine TL.blit Ei ([(gt (gt x1 x2) 1), (w64 (r_4 + 3)), (w64 (0 - (w64 (r_4 + 1))))] : List Int) Try.underlying22 Try.sizeOf2 Try.zeroValue2 rfl rfl rfl [(0, .int .i64 (gt (gt x1 x2) 1)), (1, .int .i64 (w64 (r_4 + 3))), (2, .int .i64 (w64 (0 - (w64 (r_4 + 1)))))] rfl ⟨rfl, rfl, rfl, rfl, rfl, rfl, trivial⟩ rfl rfl fun s4 => ?_
       refine TL.done ?_
       exact TC.nrm () [[s4]] ⟨rfl, trivial⟩ [1, 1, 0, 1, 1] (by kernel_rfl)
      ·intro b0_ b1_ b2_ b3_ b4_ b5_ b6_ b7_ b8_ b9_ b13_ b14_ b15_ b16_ b17_ g2
       refine TL.move rfl rfl (v := SV.v (gt ss1 x2)) rfl ?_
       refine TL.done ?_
       exact TC.nrm () [] ⟨rfl, trivial⟩ [0, 0, 0, 0, 0] (by kernel_rfl)
      ·intro b0_ b1_ b2_ b3_ b4_ b5_ b6_ b7_ b8_ b9_ b13_ b14_ b15_ b16_ b17_ g2
       refine TL.asL [emp, mat Ei 2 22 (gs (g1 8)) ((g1 9).set x2.toNat s3) (r_3.set x2.toNat ([(gt (gt x1 x2) 0), (w64 (r_4 + 1)), (w64 (0 - (w64 (r_4 + 2))))] : List Int)), (bif b9_ then row Ei 2 (gs (g2 72)) ([(gt (gt x1 x2) 1), (w64 (r_4 + 3)), (w64 (0 - (w64 (r_4 + 1))))] : List Int) else emp), emp, emp] (by kernel_rfl) ?_
       refine TL.ixs 2 2 (RdM.inn (RdM.old h1) h2) h7 Try.underlying22 Try.sizeOf2 rfl rfl rfl rfl rfl ?_
       refine TL.done ?_
       exact TC.nrm () [] ⟨rfl, trivial⟩ [0, 0, 0, 0, 0] (by kernel_rfl)
      ·intro b0_ b1_ b2_ b3_ b4_ b5_ b6_ b7_ b8_ b9_ b13_ b14_ b15_ b16_ b17_ g2
       refine TL.asL [emp, mat Ei 2 22 (gs (g1 8)) ((g1 9).set x2.toNat s3) (r_3.set x2.toNat ([(gt (gt x1 x2) 0), (w64 (r_4 + 1)), (w64 (0 - (w64 (r_4 + 2))))] : List Int)), (bif b9_ then row Ei 2 (gs (g2 72)) ([(gt (gt x1 x2) 1), (w64 (r_4 + 3)), (w64 (0 - (w64 (r_4 + 1))))] : List Int) else emp), emp, emp] (by kernel_rfl) ?_
       refine TL.loadE (RdM.inn (RdM.old h1) h2) Try.isAgg2 2 0 (gt_spec h7) (v := .int .i64 (gt (gt x1 x2) 2)) rfl rfl rfl rfl rfl ?_
       refine TL.done ?_
       exact TC.nrm () [] ⟨rfl, trivial⟩ [0, 0, 0, 0, 0] (by kernel_rfl)
      ·intro b0_ b1_ b2_ b3_ b4_ b5_ b6_ b7_ b8_ b9_ b10_ b11_ b12_ b15_ b16_ b17_ g2
       refine TL.move rfl rfl (v := .int .i64 r_4) rfl ?_
       refine TL.done ?_
       exact TC.nrm () [] ⟨rfl, trivial⟩ [0, 0, 0, 0, 0] (by kernel_rfl)
      ·intro b0_ b1_ b2_ b3_ b4_ b5_ b6_ b7_ b8_ b9_ b10_ b11_ b12_ b15_ b16_ b17_ g2
       refine TL.bin .i64 r_4 2 rfl rfl rfl rfl (v := .int .i64 (w64 (r_4 + 2))) rfl ?_
       refine TL.done ?_
       exact TC.nrm () [] ⟨rfl, trivial⟩ [0, 0, 0, 0, 0] (by kernel_rfl)
      ·intro b0_ b1_ b2_ b3_ b4_ b5_ b6_ b7_ b8_ b9_ b10_ b11_ b12_ b13_ b14_ g2
       refine TL.move rfl rfl (v := .int .i64 r_4) rfl ?_
       refine TL.done ?_
       exact TC.nrm () [] ⟨rfl, trivial⟩ [0, 0, 0, 0, 0] (by kernel_rfl)
      ·intro b0_ b1_ b2_ b3_ b4_ b5_ b6_ b7_ b8_ b9_ b10_ b11_ b12_ b13_ b14_ g2
       refine TL.bin .i64 r_4 3 rfl rfl rfl rfl (v := .int .i64 (w64 (r_4 + 3))) rfl ?_
       refine TL.done ?_
       exact TC.nrm () [] ⟨rfl, trivial⟩ [0, 0, 0, 0, 0] (by kernel_rfl)
      ·intro b0_ b1_ b2_ b3_ b4_ b5_ b6_ b7_ b8_ b9_ b10_ b11_ b12_ b13_ b14_ g2
       refine TL.neg .i64 (w64 (r_4 + 3)) rfl rfl rfl ?_
       refine TL.done ?_
       exact TC.nrm () [] ⟨rfl, trivial⟩ [0, 0, 0, 0, 0] (by kernel_rfl)
      ·intro b0_ b1_ b2_ b3_ b4_ b5_ b6_ b7_ b8_ b9_ g2
       refine TL.asL [emp, mat Ei 2 22 (gs (g1 8)) ((g1 9).set x2.toNat s3) (r_3.set x2.toNat ([(gt (gt x1 x2) 0), (w64 (r_4 + 1)), (w64 (0 - (w64 (r_4 + 2))))] : List Int)), (bif b9_ then row Ei 2 (gs (g2 72)) ([(gt (gt x1 x2) 1), (w64 (r_4 + 3)), (w64 (0 - (w64 (r_4 + 1))))] : List Int) else emp), emp, emp] (by kernel_rfl) ?_
       refine TL.blit Ei ([(gt (gt x1 x2) 2), (w64 (r_4 + 2)), (w64 (0 - (w64 (r_4 + 3))))] : List Int) Try.underlying22 Try.sizeOf2 Try.zeroValue2 rfl rfl rfl [(0, .int .i64 (gt (gt x1 x2) 2)), (1, .int .i64 (w64 (r_4 + 2))), (2, .int .i64 (w64 (0 - (w64 (r_4 + 3)))))] rfl ⟨rfl, rfl, rfl, rfl, rfl, rfl, trivial⟩ rfl rfl fun s5 => ?_
       refine TL.done ?_
       exact TC.nrm () [[s5]] ⟨rfl, trivial⟩ [1, 1, 1, 0, 1] (by kernel_rfl)
      ·intro b0_ g2
       refine TL.asL [emp, mat Ei 2 22 (gs (g1 8)) ((g1 9).set x2.toNat s3) (r_3.set x2.toNat ([(gt (gt x1 x2) 0), (w64 (r_4 + 1)), (w64 (0 - (w64 (r_4 + 2))))] : List Int)), row Ei 2 (gs (g2 72)) ([(gt (gt x1 x2) 1), (w64 (r_4 + 3)), (w64 (0 - (w64 (r_4 + 1))))] : List Int), row Ei 2 (gs (g2 144)) ([(gt (gt x1 x2) 2), (w64 (r_4 + 2)), (w64 (0 - (w64 (r_4 + 3))))] : List Int), emp] (by kernel_rfl) ?_
       refine TL.blit Ev ([(gs (g2 72)), (gs (g2 144))] : List SV) Try.underlying32 Try.sizeOf22 Try.zeroValue22 rfl rfl rfl [(0, SV.v (gs (g2 72))), (1, SV.v (gs (g2 144)))] rfl ⟨rfl, rfl, rfl, rfl, trivial⟩ rfl rfl fun s6 => ?_
       refine TL.done ?_
       exact TC.nrm () [[s6]] ⟨rfl, trivial⟩ [1, 1, 1, 1, 0] (by kernel_rfl)
      ·intro g2
       refine TL.asL [emp, mat Ei 2 22 (gs (g1 8)) ((g1 9).set x2.toNat s3) (r_3.set x2.toNat ([(gt (gt x1 x2) 0), (w64 (r_4 + 1)), (w64 (0 - (w64 (r_4 + 2))))] : List Int)), row Ei 2 (gs (g2 72)) ([(gt (gt x1 x2) 1), (w64 (r_4 + 3)), (w64 (0 - (w64 (r_4 + 1))))] : List Int), row Ei 2 (gs (g2 144)) ([(gt (gt x1 x2) 2), (w64 (r_4 + 2)), (w64 (0 - (w64 (r_4 + 3))))] : List Int), row Ev 22 (gs (g2 152)) ([(gs (g2 72)), (gs (g2 144))] : List SV)] (by kernel_rfl) ?_
       refine TL.matlen 1 rfl fun h9 => ?_
       refine TL.matcut 1 rfl ?_
       refine TL.append 0 rfl (Rd.row 5 rfl) Try.underlying32 (info_of Try.type22) (zv := (Try.t22.zero.getD (.bool false))) rfl rfl rfl (by decide) (by have h_ := h8; have l_ := h9; (try simp only [List.length_cons, List.length_nil] at h_ l_ ⊢); omega) rfl rfl rfl rfl fun s7 => ?_
       refine TL.rowsPush 2 3 rfl rfl ?_
       refine TL.rowsPush 3 4 rfl rfl ?_
       refine TL.asL [row Ev 22 s7 (((g1 9).set x2.toNat s3) ++ [(gs (g2 72)), (gs (g2 144))]), emp, emp, emp, rows Ei 2 (((g1 9).set x2.toNat s3) ++ [(gs (g2 72)), (gs (g2 144))]) ((r_3.set x2.toNat ([(gt (gt x1 x2) 0), (w64 (r_4 + 1)), (w64 (0 - (w64 (r_4 + 2))))] : List Int)) ++ [([(gt (gt x1 x2) 1), (w64 (r_4 + 3)), (w64 (0 - (w64 (r_4 + 1))))] : List Int), ([(gt (gt x1 x2) 2), (w64 (r_4 + 2)), (w64 (0 - (w64 (r_4 + 3))))] : List Int)]), row Ev 22 (gs (g2 152)) ([(gs (g2 72)), (gs (g2 144))] : List SV)] (by simp only [List.append_assoc, List.cons_append, List.nil_append]; rfl) ?_
       refine TL.matmk 0 4 rfl rfl ?_
       refine TL.drop 0 rfl ?_
       refine TL.asL [emp, emp, emp, mat Ei 2 22 s7 (((g1 9).set x2.toNat s3) ++ [(gs (g2 72)), (gs (g2 144))]) ((r_3.set x2.toNat ([(gt (gt x1 x2) 0), (w64 (r_4 + 1)), (w64 (0 - (w64 (r_4 + 2))))] : List Int)) ++ [([(gt (gt x1 x2) 1), (w64 (r_4 + 3)), (w64 (0 - (w64 (r_4 + 1))))] : List Int), ([(gt (gt x1 x2) 2), (w64 (r_4 + 2)), (w64 (0 - (w64 (r_4 + 3))))] : List Int)]), row Ev 22 (gs (g2 152)) ([(gs (g2 72)), (gs (g2 144))] : List SV)] (by kernel_rfl) ?_
       refine TL.done ?_
       exact TC.nrm () [[s7]] ⟨rfl, trivial⟩ [0, 0, 0, 0, 0] (by kernel_rfl)
      ·intro g2
       refine TL.assign rfl rfl (v := SV.v (gs (g2 160))) rfl ?_
       refine TL.done ?_
       exact TC.nrm () [] ⟨rfl, trivial⟩ [0, 0, 0, 0, 0] (by kernel_rfl)
      ·intro g2
       refine TL.assign rfl rfl (v := .int .i64 0) rfl ?_
       refine TL.done ?_
       exact TC.nrm () [] ⟨rfl, trivial⟩ [0, 0, 0, 0, 0] (by kernel_rfl)
     ·intro g2
      refine TC.asL [emp, emp, emp, mat Ei 2 22 (gs (g2 160)) (((g1 9).set x2.toNat s3) ++ [(gs (g2 72)), (gs (g2 144))]) ((r_3.set x2.toNat ([(gt (gt x1 x2) 0), (w64 (r_4 + 1)), (w64 (0 - (w64 (r_4 + 2))))] : List Int)) ++ [([(gt (gt x1 x2) 1), (w64 (r_4 + 3)), (w64 (0 - (w64 (r_4 + 1))))] : List Int), ([(gt (gt x1 x2) 2), (w64 (r_4 + 2)), (w64 (0 - (w64 (r_4 + 3))))] : List Int)]), row Ev 22 (gs (g2 152)) ([(gs (g2 72)), (gs (g2 144))] : List SV)] (by kernel_rfl) ?_
      exact TC.retF (Fin.body (fin2 (.inr rfl) rfl (.tmp rfl) (.tmp rfl) [3] rfl ⟨(gs (g2 160)), (((g1 9).set x2.toNat s3) ++ [(gs (g2 72)), (gs (g2 144))]), rfl, rfl⟩))

end Go.Proofs.Ytiiljfpbcanphaa.G

/- spec.SplitTriangle, as a pure function. -/
set_option linter.unusedVariables false
namespace Go.Proofs.Ytiiljfpbcanphaa.G
open Go Go.Sx Go.Proofs

def spec_SplitTriangle.f (s1 : List (List Int)) (i1 : Int) : Option ((List (List Int)) × Int) := (G.spec_l07Is.f s1).bind (fun r_1 => (bif (!r_1) then some (([] : List (List Int)), 1) else (G.spec_l01In.f i1 0 (w64 ((s1.length : Int) - 1))).bind (fun r_2 => (bif (!r_2) then some (([] : List (List Int)), 2) else (bif (decide ((w64 ((s1.length : Int) + 2)) > 12)) then some (([] : List (List Int)), 3) else (G.spec_l07Split.f s1 i1).bind (fun r_3 => some (r_3, 0)))))))

def spec_SplitTriangle.R (r : (List (List Int)) × Int) (v : Value) (L : List Asn) : Prop := ∃ (s0 : SV) (ss0 : List SV), v = .tuple #[SV.v s0, .int .i64 r.2] ∧ L = [mat Ei 2 22 s0 ss0 r.1]

set_option maxRecDepth 100000 in
set_option maxHeartbeats 4000000 in
theorem spec_SplitTriangle.calls (w : World) (s2 : SV) (ss1 : List SV) (s1 : List (List Int)) (i1 : Int) (h1 : ReadsM Ei (hp w) s2 ss1 s1) :
  ∀ r, spec_SplitTriangle.f s1 i1 = some r → Calls Try.prog 50 #[SV.v s2, .int .i64 i1] w (Ret w (spec_SplitTriangle.R r)) := by

 refine calls_T (n := 25) (Γ := [(0, SV.v s2), (1, .int .i64 i1)]) (R := spec_SplitTriangle.R) Try.func50 rfl rfl (Nat.le_of_ble_eq_true rfl) ⟨rfl, rfl, trivial⟩ ?_
 unfold spec_SplitTriangle.f
 refine TC.seq ?_
 refine TC.region ?_
 refine TL.assign rfl rfl (v := SV.v ⟨none, 0, 0⟩) rfl ?_
 refine TL.assign rfl rfl (v := .int .i64 0) rfl ?_
 refine TL.done ?_
 refine TC.seq ?_
 refine TC.block NoEx.body ?_
 refine TC.seq ?_
 refine TC.region ?_
 refine TL.move rfl rfl (v := SV.v s2) rfl ?_
 refine TL.call (R := G.spec_l07Is.R) Try.call100 rfl rfl rfl (fun w hS => G.spec_l07Is.calls w s2 ss1 s1 ((RdM.old h1) w hS)) ?_
 rintro r_1 _ _ ⟨rfl, rfl⟩
 refine TL.not r_1 rfl rfl rfl ?_
 refine TL.assign rfl rfl (v := .bool (!r_1)) rfl ?_
 refine TL.done ?_
 refine TC.cond (b := (!r_1)) rfl (fun c1 => ?_) (fun c2 => ?_)
 ·refine TC.seq ?_
  refine TC.region ?_
  refine TL.assign rfl rfl (v := SV.v ⟨none, 0, 0⟩) rfl ?_
  refine TL.assign rfl rfl (v := .int .i64 1) rfl ?_
  refine TL.done ?_
  refine TC.nilmat Ei 2 22 ?_
  exact TC.retF (Fin.body (fin2 (.inr rfl) rfl (.tmp rfl) (.tmp rfl) [0] rfl ⟨⟨none, 0, 0⟩, [], rfl, rfl⟩))
 ·refine TC.seq ?_
  refine TC.region ?_
  refine TL.move rfl rfl (v := .int .i64 i1) rfl ?_
  refine TL.move rfl rfl (v := SV.v s2) rfl ?_
  refine TL.lenM (RdM.old h1) Try.underlying32 rfl rfl rfl ?_
  refine TL.bin .i64 (s1.length : Int) 1 rfl rfl rfl rfl (v := .int .i64 (w64 ((s1.length : Int) - 1))) rfl ?_
  refine TL.call (R := G.spec_l01In.R) Try.call69 rfl rfl rfl (fun w hS => G.spec_l01In.calls w i1 0 (w64 ((s1.length : Int) - 1))) ?_
  rintro r_2 _ _ ⟨rfl, rfl⟩
  refine TL.not r_2 rfl rfl rfl ?_
  refine TL.assign rfl rfl (v := .bool (!r_2)) rfl ?_
  refine TL.done ?_
  refine TC.cond (b := (!r_2)) rfl (fun c3 => ?_) (fun c4 => ?_)
  ·refine TC.seq ?_
   refine TC.region ?_
   refine TL.assign rfl rfl (v := SV.v ⟨none, 0, 0⟩) rfl ?_
   refine TL.assign rfl rfl (v := .int .i64 2) rfl ?_
   refine TL.done ?_
   refine TC.nilmat Ei 2 22 ?_
   exact TC.retF (Fin.body (fin2 (.inr rfl) rfl (.tmp rfl) (.tmp rfl) [0] rfl ⟨⟨none, 0, 0⟩, [], rfl, rfl⟩))
  ·refine TC.seq ?_
   refine TC.region ?_
   refine TL.move rfl rfl (v := SV.v s2) rfl ?_
   refine TL.lenM (RdM.old h1) Try.underlying32 rfl rfl rfl ?_
   refine TL.bin .i64 (s1.length : Int) 2 rfl rfl rfl rfl (v := .int .i64 (w64 ((s1.length : Int) + 2))) rfl ?_
   refine TL.bin .i64 (w64 ((s1.length : Int) + 2)) 12 rfl rfl rfl rfl (v := .bool (decide ((w64 ((s1.length : Int) + 2)) > 12))) rfl ?_
   refine TL.assign rfl rfl (v := .bool (decide ((w64 ((s1.length : Int) + 2)) > 12))) rfl ?_
   refine TL.done ?_
   refine TC.cond (b := (decide ((w64 ((s1.length : Int) + 2)) > 12))) rfl (fun c5 => ?_) (fun c6 => ?_)
   ·refine TC.seq ?_
    refine TC.region ?_
    refine TL.assign rfl rfl (v := SV.v ⟨none, 0, 0⟩) rfl ?_
    refine TL.assign rfl rfl (v := .int .i64 3) rfl ?_
    refine TL.done ?_
    refine TC.nilmat Ei 2 22 ?_
    exact TC.retF (Fin.body (fin2 (.inr rfl) rfl (.tmp rfl) (.tmp rfl) [0] rfl ⟨⟨none, 0, 0⟩, [], rfl, rfl⟩))
   ·refine TC.skip ?_
    refine TC.seq ?_
    refine TC.region ?_
    refine TL.move rfl rfl (v := SV.v s2) rfl ?_
    refine TL.move rfl rfl (v := .int .i64 i1) rfl ?_
    refine TL.call (R := G.spec_l07Split.R) Try.call130 rfl rfl rfl (fun w hS => G.spec_l07Split.calls w s2 ss1 s1 i1 ((RdM.old h1) w hS)) ?_
    rintro r_3 _ _ ⟨s3, ss2, rfl, rfl⟩
    refine TL.assign rfl rfl (v := SV.v s3) rfl ?_
    refine TL.assign rfl rfl (v := .int .i64 0) rfl ?_
    refine TL.done ?_
    exact TC.retF (Fin.body (fin2 (.inr rfl) rfl (.tmp rfl) (.tmp rfl) [0] rfl ⟨s3, ss2, rfl, rfl⟩))

end Go.Proofs.Ytiiljfpbcanphaa.G

/- impl.CountVertices, as a pure function. -/
set_option linter.unusedVariables false
namespace Go.Proofs.Ytiiljfpbcanphaa.G
open Go Go.Sx Go.Proofs

def impl_CountVertices.f (s1 : List (List Int)) : Option (Int × Int) := (G.impl_ofSurface.f s1 G.impl_vertices.f).bind (fun p => match p with | (r_1, r_2) => some (r_1, r_2))

def impl_CountVertices.R (r : Int × Int) (v : Value) (L : List Asn) : Prop := v = .tuple #[.int .i64 r.1, .int .i64 r.2] ∧ L = []

set_option maxRecDepth 100000 in
set_option maxHeartbeats 4000000 in
theorem impl_CountVertices.calls (w : World) (s2 : SV) (ss1 : List SV) (s1 : List (List Int)) (h1 : ReadsM Ei (hp w) s2 ss1 s1) :
  ∀ r, impl_CountVertices.f s1 = some r → Calls Try.prog 51 #[SV.v s2] w (Ret w (impl_CountVertices.R r)) := by

 refine calls_T (n := 8) (Γ := [(0, SV.v s2)]) (R := impl_CountVertices.R) Try.func51 rfl rfl (Nat.le_of_ble_eq_true rfl) ⟨rfl, trivial⟩ ?_
 unfold impl_CountVertices.f
 refine TC.seq ?_
 refine TC.region ?_
 refine TL.assign rfl rfl (v := .int .i64 0) rfl ?_
 refine TL.assign rfl rfl (v := .int .i64 0) rfl ?_
 refine TL.done ?_
 refine TC.seq ?_
 refine TC.region ?_
 refine TL.move rfl rfl (v := SV.v s2) rfl ?_
 refine TL.call (R := G.impl_ofSurface.R) Try.call127 rfl rfl rfl (fun w hS => G.impl_ofSurface.calls w s2 ss1 s1 131 [] [] G.impl_vertices.f ((RdM.old h1) w hS) Try.call131 (fun w_ hle_ s1_ ss1_ x0_ h0_ r_ hr_ => G.impl_vertices.calls w_ s1_ ss1_ x0_ h0_ r_ hr_)) ?_
 rintro ⟨r_1, r_2⟩ _ _ ⟨rfl, rfl⟩
 refine TL.extract rfl rfl rfl (v := .int .i64 r_1) rfl ?_
 refine TL.extract rfl rfl rfl (v := .int .i64 r_2) rfl ?_
 refine TL.assign rfl rfl (v := .int .i64 r_1) rfl ?_
 refine TL.assign rfl rfl (v := .int .i64 r_2) rfl ?_
 refine TL.done ?_
 exact TC.retF (Fin.body (fin2 (.inr rfl) rfl (.tmp rfl) (.tmp rfl) [] rfl ⟨rfl, rfl⟩))

end Go.Proofs.Ytiiljfpbcanphaa.G
