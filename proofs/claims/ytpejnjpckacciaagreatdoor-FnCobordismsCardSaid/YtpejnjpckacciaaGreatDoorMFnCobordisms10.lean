/- Functions of the program, as pure functions. -/
import Derived.Test.YtpejnjpckacciaaGreatDoorMFnCobordisms9
import Derived.Test.YtpejnjpckacciaaGreatDoorProg
set_option linter.unusedVariables false
set_option maxRecDepth 100000
set_option maxHeartbeats 4000000
namespace Go.Proofs.YtpejnjpckacciaaGreatDoor.G
open Go Go.Sx Go.Proofs
def spec_CountPieces.b0 (i1 : Int) (word1 : Str) : (List Int) × Int → Option (LB ((List Int) × Int)) := fun p => match p with | (out2, k_1) => (bif (decide (k_1 < 6)) then chk i1 word1.length (chk k_1 (([105, 120, 109, 115, 117, 101] : Str).length) (((bif (((gt word1 i1).toNat : Int) == ((gt ([105, 120, 109, 115, 117, 101] : Str) k_1).toNat : Int)) then chk k_1 out2.length (some (out2.set k_1.toNat (w64 ((gt out2 k_1) + 1)))) else some out2)).bind (fun out3 => some (.next (out3, (w64 (k_1 + 1))))))) else some (.brk (out2, k_1)))
def spec_CountPieces.b1 (word1 : Str) : (List Int) × Int → Option (LB ((List Int) × Int)) := fun p => match p with | (out1, i1) => (bif (decide (i1 < (word1.length : Int))) then (loop1 (spec_CountPieces.b0 i1 word1) (out1, 0)).bind (fun p => match p with | (out2, k_1) => some (.next (out2, (w64 (i1 + 1))))) else some (.brk (out1, i1)))
def spec_CountPieces.f (word1 : Str) : Option ((List Int) × Int) := (G.spec_l04Is.f word1).bind (fun r_1 => (bif (!r_1) then some (([] : List Int), 1) else (loop1 (spec_CountPieces.b1 word1) ((List.replicate (6 : Int).toNat (0 : Int)), 0)).bind (fun p => match p with | (out1, i1) => some (out1, 0))))
def spec_CountPieces.R (r : (List Int) × Int) (v : Value) (L : List Asn) : Prop := ∃ (s0 : SV), v = .tuple #[SV.v s0, .int .i64 r.2] ∧ L = [row Ei 2 s0 r.1]
theorem spec_CountPieces.calls (w : World) (word1 : Str) :
  ∀ r, spec_CountPieces.f word1 = some r → Calls Tryz.prog 18 #[strv word1] w (Ret w (spec_CountPieces.R r)) := by
 refine calls_T (n := 36) (Γ := [(0, strv word1)]) (R := spec_CountPieces.R) Tryz.func18 rfl rfl (Nat.le_of_ble_eq_true rfl) ⟨rfl, trivial⟩ ?_
 unfold spec_CountPieces.f
 refine TC.seq <| TC.region <| TL.as (SV.v ⟨none, 0, 0⟩) <| TL.as (.int .i64 0) <| TL.done <| TC.seq ?_
 refine TC.seq <| TC.region <| TL.mv (strv word1) ?_
 refine TL.call (R := G.spec_l04Is.R) Tryz.call29 rfl rfl rfl (fun w hS => G.spec_l04Is.calls w word1) ?_
 rintro r_1 _ _ ⟨rfl, rfl⟩
 refine TL.not r_1 rfl rfl rfl ?_
 refine TL.done ?_
 refine TC.cond (b := (!r_1)) rfl (fun c1 => ?_) (fun c2 => ?_)
 ·refine TC.seq <| TC.region <| TL.as (SV.v ⟨none, 0, 0⟩) <| TL.as (.int .i64 1) <| TL.done ?_
  refine TC.nilrow Ei 2 ?_
  exact TC.retF (Fin.body (fin2 (.inr rfl) rfl (.tmp rfl) (.tmp rfl) [0] rfl ⟨⟨none, 0, 0⟩, rfl, rfl⟩))
 refine TC.skip <| TC.seq ?_
 refine TC.wk (Γ' := [(0, strv word1), (2, SV.v ⟨none, 0, 0⟩), (3, .int .i64 0), (8, strv word1), (9, .bool r_1), (10, .bool (!r_1))]) ⟨rfl, rfl, rfl, rfl, rfl, rfl, trivial⟩ ?_
 refine TC.drawG [(0, strv word1), (2, SV.v ⟨none, 0, 0⟩), (3, .int .i64 0), (8, strv word1), (9, .bool r_1), (10, .bool (!r_1))] [] ⟨rfl, rfl, rfl, rfl, rfl, rfl, trivial⟩ trivial (fun l_ g1 => [(bif nb l_ 0 then row Ei 2 (gs (g1 0)) (List.replicate (6 : Int).toNat (0 : Int)) else emp)]) (fun g1 => [SV.v (gs (g1 0)), strv ([105, 120, 109, 115, 117, 101] : Str), SV.v (gs (g1 0))]) [[], [], [0, 1]] [[oF, none, oF], [none, oF, oF], [oT, oT, oF]] (by kernel_rfl) (fun _ => rfl) rfl rfl rfl rfl rfl (fun _ _ => ⟨⟨⟨trivial, rfl⟩, rfl⟩, rfl⟩) 1 [0] (fun _ => by kernel_rfl) ?_ ?_
 ·refine ⟨rfl, ?_, rfl, ?_, rfl, ?_, trivial⟩
  ·intro b1_ g1
   refine TL.ll [emp] ?_
   refine TL.mkslice Ei (0 : Int) 6 Tryz.underlying36 (info_of Tryz.type2) (zv := (Tryz.t2.zero.getD (.bool false))) rfl rfl rfl (by simp [Ei]) (by decide) (by decide) (by decide) rfl rfl rfl rfl fun s1 => ?_
   exact TL.done <| TC.nrm () [[s1]] ⟨rfl, trivial⟩ [0] (by kernel_rfl)
  ·intro b0_ g1
   exact TL.as (strv ([105, 120, 109, 115, 117, 101] : Str)) <| TL.done <| TC.n1 [0]
  intro g1
  exact TL.as (SV.v (gs (g1 0))) <| TL.done <| TC.n1 [0]
 intro g1
 refine TC.ll [row Ei 2 (gs (g1 0)) (List.replicate (6 : Int).toNat (0 : Int))] <| TC.seq <| TC.seq <| TC.region <| TL.as (.int .i64 0) <| TL.done ?_
 refine TC.loop1 (σ := (List Int) × Int) (γ := Unit) (Γ' := (fun p q => match p, q with | (out1, i1), _ => [(0, strv word1), (4, strv ([105, 120, 109, 115, 117, 101] : Str)), (5, SV.v (gs (g1 0))), (6, .int .i64 i1)])) (L' := (fun p q => match p, q with | (out1, i1), _ => [row Ei 2 (gs (g1 0)) out1])) (Γb := (fun p q => match p, q with | (out1, i1), _ => [(0, strv word1), (4, strv ([105, 120, 109, 115, 117, 101] : Str)), (5, SV.v (gs (g1 0))), (6, .int .i64 i1)])) (Lb := (fun p q => match p, q with | (out1, i1), _ => [row Ei 2 (gs (g1 0)) out1])) (((List.replicate (6 : Int).toNat (0 : Int)), 0)) (()) ⟨rfl, rfl, rfl, rfl, trivial⟩ [0] rfl ?_ ?_
 ·rintro ⟨out1, i1⟩ _
  refine TC.seq <| TC.seq <| TC.region <| TL.mv (.int .i64 i1) <| TL.mv (strv word1) <| TL.lenstr Tryz.underlying9 rfl rfl rfl ?_
  refine TL.bn .i64 i1 (word1.length : Int) (.bool (decide (i1 < (word1.length : Int)))) <| TL.done ?_
  refine TC.cond (b := (decide (i1 < (word1.length : Int)))) rfl (fun c3 => ?_) (fun c4 => ?_)
  ·refine TC.skip <| TC.seq <| TC.block (NoEx.loop1 rfl) <| TC.seq <| TC.region <| TL.as (.int .i64 0) ?_
   refine TL.done ?_
   refine TC.loop1 (σ := (List Int) × Int) (γ := Unit) (Γ' := (fun p q => match p, q with | (out2, k_1), _ => [(0, strv word1), (4, strv ([105, 120, 109, 115, 117, 101] : Str)), (5, SV.v (gs (g1 0))), (6, .int .i64 i1), (7, .int .i64 k_1)])) (L' := (fun p q => match p, q with | (out2, k_1), _ => [row Ei 2 (gs (g1 0)) out2])) (Γb := (fun p q => match p, q with | (out2, k_1), _ => [(0, strv word1), (4, strv ([105, 120, 109, 115, 117, 101] : Str)), (5, SV.v (gs (g1 0))), (6, .int .i64 i1), (7, .int .i64 k_1)])) (Lb := (fun p q => match p, q with | (out2, k_1), _ => [row Ei 2 (gs (g1 0)) out2])) ((out1, 0)) (()) ⟨rfl, rfl, rfl, rfl, rfl, trivial⟩ [0] rfl ?_ ?_
   ·rintro ⟨out2, k_1⟩ _
    refine TC.seq <| TC.seq <| TC.region <| TL.mv (.int .i64 k_1) <| TL.bn .i64 k_1 6 (.bool (decide (k_1 < 6))) <| TL.done ?_
    refine TC.cond (b := (decide (k_1 < 6))) rfl (fun c5 => ?_) (fun c6 => ?_)
    ·refine TC.skip <| TC.seq <| TC.block (NoEx.loop1 rfl) <| TC.seq ?_
     refine TC.wk (Γ' := [(0, strv word1), (4, strv ([105, 120, 109, 115, 117, 101] : Str)), (5, SV.v (gs (g1 0))), (6, .int .i64 i1), (7, .int .i64 k_1), (18, .int .i64 k_1), (19, .bool (decide (k_1 < 6)))]) ⟨rfl, rfl, rfl, rfl, rfl, rfl, rfl, trivial⟩ ?_
     refine TC.chk fun h3 => ?_
     refine TC.chk fun h4 => ?_
     refine TC.draw [strv word1, .int .i64 i1, u8v (gt word1 i1), strv ([105, 120, 109, 115, 117, 101] : Str), .int .i64 k_1, u8v (gt ([105, 120, 109, 115, 117, 101] : Str) k_1), .bool (((gt word1 i1).toNat : Int) == ((gt ([105, 120, 109, 115, 117, 101] : Str) k_1).toNat : Int))] 7 [row Ei 2 (gs (g1 0)) out2] (by kernel_rfl) rfl rfl rfl rfl ?_ ?_
     ·refine ⟨?_, ?_, ?_, ?_, ?_, ?_, ?_, trivial⟩
      ·exact TL.mv (strv word1) <| TL.done <| TC.n0 [0]
      ·exact TL.mv (.int .i64 i1) <| TL.done <| TC.n0 [0]
      ·exact TL.ixstr i1 h3 Tryz.underlying9 rfl rfl rfl rfl <| TL.done <| TC.n0 [0]
      ·exact TL.mv (strv ([105, 120, 109, 115, 117, 101] : Str)) <| TL.done <| TC.n0 [0]
      ·exact TL.mv (.int .i64 k_1) <| TL.done <| TC.n0 [0]
      ·exact TL.ixstr k_1 h4 Tryz.underlying9 rfl rfl rfl rfl <| TL.done <| TC.n0 [0]
      exact TL.bn .u8 ((gt word1 i1).toNat : Int) ((gt ([105, 120, 109, 115, 117, 101] : Str) k_1).toNat : Int) (.bool (((gt word1 i1).toNat : Int) == ((gt ([105, 120, 109, 115, 117, 101] : Str) k_1).toNat : Int))) <| TL.done <| TC.n0 [0]
     refine TC.join1 (σ := (List Int)) (γ := Unit) (Γ' := (fun out3 _ => [(0, strv word1), (4, strv ([105, 120, 109, 115, 117, 101] : Str)), (5, SV.v (gs (g1 0))), (6, .int .i64 i1), (7, .int .i64 k_1)])) (L' := (fun out3 _ => [row Ei 2 (gs (g1 0)) out3])) ?_ ?_
     ·refine TC.cond (b := (((gt word1 i1).toNat : Int) == ((gt ([105, 120, 109, 115, 117, 101] : Str) k_1).toNat : Int))) rfl (fun c7 => ?_) (fun c8 => ?_)
      ·refine TC.region <| TL.mv (SV.v (gs (g1 0))) <| TL.mv (.int .i64 k_1) ?_
       refine TL.chk fun h5 => ?_
       refine TL.ixs k_1 k_1.toNat (Rd.row 0 rfl) h5 Tryz.underlying36 Tryz.sizeOf2 rfl rfl rfl rfl (by omega) ?_
       refine TL.loadE (Rd.row 0 rfl) Tryz.isAgg2 k_1.toNat 0 (gt_spec h5) (v := .int .i64 (gt out2 k_1)) rfl (by simp only [show Ei.sz = 1 from rfl] <;> omega) rfl rfl rfl ?_
       refine TL.bn .i64 (gt out2 k_1) 1 (.int .i64 (w64 ((gt out2 k_1) + 1))) <| TL.ixs k_1 k_1.toNat (Rd.row 0 rfl) h5 Tryz.underlying36 Tryz.sizeOf2 rfl rfl rfl rfl (by omega) ?_
       refine TL.stE 0 (k_1.toNat) (w64 ((gt out2 k_1) + 1)) (v := .int .i64 (w64 ((gt out2 k_1) + 1))) rfl Tryz.sizeOf2 rfl rfl rfl (by have h_ := h5; omega) (by simp only [show Ei.sz = 1 from rfl] <;> omega) rfl rfl rfl ?_
       exact TL.done <| TC.nrm ((out2.set k_1.toNat (w64 ((gt out2 k_1) + 1)))) (()) ⟨rfl, rfl, rfl, rfl, rfl, trivial⟩ [0] rfl
      exact TC.skip <| TC.nrm (out2) (()) ⟨rfl, rfl, rfl, rfl, rfl, trivial⟩ [0] rfl
     rintro out3 _
     refine TC.region <| TL.mv (.int .i64 k_1) <| TL.bn .i64 k_1 1 (.int .i64 (w64 (k_1 + 1))) <| TL.as (.int .i64 (w64 (k_1 + 1))) <| TL.done ?_
     exact TC.next1 ((out3, (w64 (k_1 + 1)))) (()) ⟨rfl, rfl, rfl, rfl, rfl, trivial⟩ [0] rfl
    exact TC.brk1 ((out2, k_1)) (()) ⟨rfl, rfl, rfl, rfl, rfl, trivial⟩ [0] rfl
   rintro ⟨out2, k_1⟩ _
   refine TC.region <| TL.mv (.int .i64 i1) <| TL.bn .i64 i1 1 (.int .i64 (w64 (i1 + 1))) <| TL.as (.int .i64 (w64 (i1 + 1))) <| TL.done ?_
   exact TC.next1 ((out2, (w64 (i1 + 1)))) (()) ⟨rfl, rfl, rfl, rfl, trivial⟩ [0] rfl
  exact TC.brk1 ((out1, i1)) (()) ⟨rfl, rfl, rfl, rfl, trivial⟩ [0] rfl
 rintro ⟨out1, i1⟩ _
 refine TC.seq <| TC.region <| TL.mv (SV.v (gs (g1 0))) <| TL.as (SV.v (gs (g1 0))) <| TL.as (.int .i64 0) <| TL.done ?_
 exact TC.retF (Fin.body (fin2 (.inr rfl) rfl (.tmp rfl) (.tmp rfl) [0] rfl ⟨(gs (g1 0)), rfl, rfl⟩))
def spec_l04Two.f (code1 : List UInt8) : Option (Str × Str) := (G.spec_l01From.f code1).bind (fun p => match p with | (r_1, r_2) => (G.spec_l04Draw.f code1 r_1 r_2).bind (fun p => match p with | (r_3, s2, s3) => (G.spec_l04Is.f r_3).bind (fun r_4 => (bif (!r_4) then some (true, s2, s3) else (G.spec_l01Next.f code1 s2 s3 4).bind (fun p => match p with | (r_5, s6, s7) => some ((r_5 == 0), s6, s7))).bind (fun p => match p with | (b_2, s4, s5) => (bif b_2 then (G.spec_l04Draw.f code1 s4 s5).bind (fun p => match p with | (r_6, s8, s9) => some (r_3, r_6)) else (G.spec_l04Ends.f r_3).bind (fun p => match p with | (r_7, r_8) => (G.spec_l01Next.f code1 s4 s5 3).bind (fun p => match p with | (r_9, s10, s11) => (G.spec_l04DrawFrom.f code1 s10 s11 r_8 (w64 (1 + r_9))).bind (fun p => match p with | (r_10, s13, s14) => (G.spec_l04Joined.f r_10).bind (fun r_11 => some (r_3, r_11))))))))))
def spec_l04Two.R (r : Str × Str) (v : Value) (L : List Asn) : Prop := v = .tuple #[strv r.1, strv r.2] ∧ L = []
theorem spec_l04Two.calls (w : World) (s1 : SV) (code1 : List UInt8) (h1 : Reads Eu (hp w) s1 code1) :
  ∀ r, spec_l04Two.f code1 = some r → Calls Tryz.prog 45 #[SV.v s1] w (Ret w (spec_l04Two.R r)) := by
 refine calls_T (n := 36) (Γ := [(0, SV.v s1)]) (R := spec_l04Two.R) Tryz.func45 rfl rfl (Nat.le_of_ble_eq_true rfl) ⟨rfl, trivial⟩ ?_
 unfold spec_l04Two.f
 refine TC.seq <| TC.region <| TL.as (strv ([] : Str)) <| TL.as (strv ([] : Str)) <| TL.done <| TC.seq ?_
 refine TC.region <| TL.mv (SV.v s1) ?_
 refine TL.call (R := G.spec_l01From.R s1) Tryz.call27 rfl rfl rfl (fun w hS => G.spec_l01From.calls w s1 code1 ((Rd.old h1) w hS)) ?_
 rintro ⟨r_1, r_2⟩ _ _ ⟨b_1, rfl, rfl⟩
 refine TL.as (bp b_1 0) <| TL.done <| TC.seq <| TC.region <| TL.mv (bp b_1 0) ?_
 refine TL.callX (R := G.spec_l04Draw.R b_1 s1) [0] [box b_1 71 [.one (SV.v s1), .one (.int .i64 r_1), .one (.int .u64 r_2)]] [] rfl Tryz.call26 rfl rfl rfl (fun w I_ hle hB hS => G.spec_l04Draw.calls _ I_ w b_1 s1 code1 r_1 r_2 hS (h1.mono hle)) ?_
 rintro ⟨r_3, s2, s3⟩ _ _ ⟨rfl, rfl⟩
 refine TL.as (strv r_3) <| TL.done <| TC.seq <| TC.seq <| TC.region <| TL.mv (strv r_3) ?_
 refine TL.call (R := G.spec_l04Is.R) Tryz.call29 rfl rfl rfl (fun w hS => G.spec_l04Is.calls w r_3) ?_
 rintro r_4 _ _ ⟨rfl, rfl⟩
 refine TL.not r_4 rfl rfl rfl ?_
 refine TL.mv (.bool (!r_4)) ?_
 refine TL.cutJ (σ := Bool × Int × Int) (γ := Unit) (Γ' := (fun p _ => match p with | (b_2, s4, s5) => [(19, .bool b_2), (0, SV.v s1), (2, strv ([] : Str)), (3, strv ([] : Str)), (8, SV.v s1), (9, bp b_1 0), (4, bp b_1 0), (10, bp b_1 0), (11, strv r_3), (5, strv r_3), (12, strv r_3), (13, .bool r_4), (14, .bool (!r_4)), (15, .bool (!r_4))])) (L' := (fun p _ => match p with | (b_2, s4, s5) => [box b_1 71 [.one (SV.v s1), .one (.int .i64 s4), .one (.int .u64 s5)]])) 4 ?_ ?_
 ·refine TL.ifb (t := 15) (b := (!r_4)) rfl (fun c1 => ?_) (fun c2 => ?_)
  ·exact TL.sk <| TL.sk <| TL.sk <| TL.pk true (.bool true) <| TL.done <| TC.nrm ((true, s2, s3)) () ⟨rfl, rfl, rfl, rfl, rfl, rfl, rfl, rfl, rfl, rfl, rfl, rfl, rfl, (by rw [c1]; rfl), trivial⟩ [0] (by kernel_rfl)
  refine TL.mv (bp b_1 0) ?_
  refine TL.callX (R := G.spec_l01Next.R b_1 s1) [0] [box b_1 71 [.one (SV.v s1), .one (.int .i64 s2), .one (.int .u64 s3)]] [] rfl Tryz.call53 rfl rfl rfl (fun w I_ hle hB hS => G.spec_l01Next.calls _ I_ w b_1 s1 code1 s2 s3 4 hS (h1.mono hle)) ?_
  rintro ⟨r_5, s6, s7⟩ _ _ ⟨rfl, rfl⟩
  exact TL.bn .i64 r_5 0 (.bool (r_5 == 0)) <| TL.pk false (.bool (r_5 == 0)) <| TL.done <| TC.nrm (((r_5 == 0), s6, s7)) () ⟨rfl, rfl, rfl, rfl, rfl, rfl, rfl, rfl, rfl, rfl, rfl, rfl, rfl, (by rw [c2]; rfl), trivial⟩ [0] (by kernel_rfl)
 rintro ⟨b_2, s4, s5⟩ _
 refine TL.done ?_
 refine TC.cond (b := b_2) rfl (fun c3 => ?_) (fun c4 => ?_)
 ·refine TC.seq <| TC.region <| TL.mv (strv r_3) <| TL.mv (bp b_1 0) ?_
  refine TL.callX (R := G.spec_l04Draw.R b_1 s1) [0] [box b_1 71 [.one (SV.v s1), .one (.int .i64 s4), .one (.int .u64 s5)]] [] rfl Tryz.call26 rfl rfl rfl (fun w I_ hle hB hS => G.spec_l04Draw.calls _ I_ w b_1 s1 code1 s4 s5 hS (h1.mono hle)) ?_
  rintro ⟨r_6, s8, s9⟩ _ _ ⟨rfl, rfl⟩
  exact TL.as (strv r_3) <| TL.as (strv r_6) <| TL.done <| TC.retF (Fin.body (fin2 (.inr rfl) rfl (.tmp rfl) (.tmp rfl) [] rfl ⟨rfl, rfl⟩))
 refine TC.skip <| TC.seq <| TC.region <| TL.mv (strv r_3) ?_
 refine TL.call (R := G.spec_l04Ends.R) Tryz.call35 rfl rfl rfl (fun w hS => G.spec_l04Ends.calls w r_3) ?_
 rintro ⟨r_7, r_8⟩ _ _ ⟨rfl, rfl⟩
 refine TL.mv (.tuple #[.int .i64 r_7, .int .i64 r_8]) <| TL.extract rfl rfl rfl (v := .int .i64 r_7) rfl <| TL.extract rfl rfl rfl (v := .int .i64 r_8) rfl <| TL.as (.int .i64 r_7) <| TL.as (.int .i64 r_8) <| TL.done ?_
 refine TC.seq <| TC.region <| TL.mv (strv r_3) <| TL.mv (bp b_1 0) <| TL.mv (.int .i64 r_8) <| TL.mv (bp b_1 0) ?_
 refine TL.callX (R := G.spec_l01Next.R b_1 s1) [0] [box b_1 71 [.one (SV.v s1), .one (.int .i64 s4), .one (.int .u64 s5)]] [] rfl Tryz.call53 rfl rfl rfl (fun w I_ hle hB hS => G.spec_l01Next.calls _ I_ w b_1 s1 code1 s4 s5 3 hS (h1.mono hle)) ?_
 rintro ⟨r_9, s10, s11⟩ _ _ ⟨rfl, rfl⟩
 refine TL.bn .i64 1 r_9 (.int .i64 (w64 (1 + r_9))) ?_
 refine TL.callX (R := G.spec_l04DrawFrom.R b_1 s1) [0] [box b_1 71 [.one (SV.v s1), .one (.int .i64 s10), .one (.int .u64 s11)]] [] rfl Tryz.call51 rfl rfl rfl (fun w I_ hle hB hS => G.spec_l04DrawFrom.calls _ I_ w b_1 s1 code1 s10 s11 r_8 (w64 (1 + r_9)) hS (h1.mono hle)) ?_
 rintro ⟨r_10, s13, s14⟩ _ _ ⟨s12, rfl, rfl⟩
 refine TL.call (R := G.spec_l04Joined.R) Tryz.call43 rfl rfl rfl (fun w hS => G.spec_l04Joined.calls w s12 r_10 ((Rd.row 0 rfl) w hS)) ?_
 rintro r_11 _ _ ⟨rfl, rfl⟩
 exact TL.as (strv r_3) <| TL.as (strv r_11) <| TL.done <| TC.retF (Fin.body (fin2 (.inr rfl) rfl (.tmp rfl) (.tmp rfl) [] rfl ⟨rfl, rfl⟩))
def spec_DrawComposeWords.f (code1 : List UInt8) : Option (Str × Str) := (G.spec_l04Two.f code1).bind (fun p => match p with | (r_1, r_2) => some (r_1, r_2))
def spec_DrawComposeWords.R (r : Str × Str) (v : Value) (L : List Asn) : Prop := v = .tuple #[strv r.1, strv r.2] ∧ L = []
theorem spec_DrawComposeWords.calls (w : World) (s1 : SV) (code1 : List UInt8) (h1 : Reads Eu (hp w) s1 code1) :
  ∀ r, spec_DrawComposeWords.f code1 = some r → Calls Tryz.prog 20 #[SV.v s1] w (Ret w (spec_DrawComposeWords.R r)) := by
 refine calls_T (n := 8) (Γ := [(0, SV.v s1)]) (R := spec_DrawComposeWords.R) Tryz.func20 rfl rfl (Nat.le_of_ble_eq_true rfl) ⟨rfl, trivial⟩ ?_
 unfold spec_DrawComposeWords.f
 refine TC.seq <| TC.region <| TL.as (strv ([] : Str)) <| TL.as (strv ([] : Str)) <| TL.done <| TC.seq ?_
 refine TC.region <| TL.mv (SV.v s1) ?_
 refine TL.call (R := G.spec_l04Two.R) Tryz.call45 rfl rfl rfl (fun w hS => G.spec_l04Two.calls w s1 code1 ((Rd.old h1) w hS)) ?_
 rintro ⟨r_1, r_2⟩ _ _ ⟨rfl, rfl⟩
 exact TL.extract rfl rfl rfl (v := strv r_1) rfl <| TL.extract rfl rfl rfl (v := strv r_2) rfl <| TL.as (strv r_1) <| TL.as (strv r_2) <| TL.done <| TC.retF (Fin.body (fin2 (.inr rfl) rfl (.tmp rfl) (.tmp rfl) [] rfl ⟨rfl, rfl⟩))
def impl_told.f (word1 : Str) : Option (Str × Int) := (G.impl_small.f word1).bind (fun r_1 => (bif (!r_1) then some (([] : Str), 3) else some (word1, 0)))
def impl_told.R (r : Str × Int) (v : Value) (L : List Asn) : Prop := v = .tuple #[strv r.1, .int .i64 r.2] ∧ L = []
theorem impl_told.calls (w : World) (word1 : Str) :
  ∀ r, impl_told.f word1 = some r → Calls Tryz.prog 46 #[strv word1] w (Ret w (impl_told.R r)) := by
 refine calls_T (n := 8) (Γ := [(0, strv word1)]) (R := impl_told.R) Tryz.func46 rfl rfl (Nat.le_of_ble_eq_true rfl) ⟨rfl, trivial⟩ ?_
 unfold impl_told.f
 refine TC.seq <| TC.region <| TL.as (strv ([] : Str)) <| TL.as (.int .i64 0) <| TL.done <| TC.seq ?_
 refine TC.seq <| TC.region <| TL.mv (strv word1) ?_
 refine TL.call (R := G.impl_small.R) Tryz.call33 rfl rfl rfl (fun w hS => G.impl_small.calls w word1) ?_
 rintro r_1 _ _ ⟨rfl, rfl⟩
 refine TL.not r_1 rfl rfl rfl ?_
 refine TL.done ?_
 refine TC.cond (b := (!r_1)) rfl (fun c1 => ?_) (fun c2 => ?_)
 ·exact TC.seq <| TC.region <| TL.as (strv ([] : Str)) <| TL.as (.int .i64 3) <| TL.done <| TC.retF (Fin.body (fin2 (.inr rfl) rfl (.tmp rfl) (.tmp rfl) [] rfl ⟨rfl, rfl⟩))
 refine TC.skip <| TC.seq <| TC.region <| TL.mv (strv word1) <| TL.as (strv word1) <| TL.as (.int .i64 0) ?_
 exact TL.done <| TC.retF (Fin.body (fin2 (.inr rfl) rfl (.tmp rfl) (.tmp rfl) [] rfl ⟨rfl, rfl⟩))
def impl_ComposeWords.f (v_1 : Str) (w_1 : Str) : Option (Str × Int) := (G.impl_IsWord.f v_1).bind (fun r_1 => (bif (!r_1) then some true else (G.impl_IsWord.f w_1).bind (fun r_2 => some (!r_2))).bind (fun b_1 => (bif b_1 then some (([] : Str), 1) else (G.impl_legs.f v_1).bind (fun p => match p with | (r_3, r_4) => (G.impl_legs.f w_1).bind (fun p => match p with | (r_5, r_6) => (bif (r_4 != r_5) then some (([] : Str), 5) else (bif ((v_1 == ([] : Str)) || (w_1 == ([] : Str))) then tall (v_1.length + w_1.length) (some ((v_1 ++ w_1), 0)) else tall (v_1.length + ([47] : Str).length) (tall ((v_1 ++ ([47] : Str)).length + w_1.length) ((G.impl_told.f ((v_1 ++ ([47] : Str)) ++ w_1)).bind (fun p => match p with | (r_7, r_8) => some (r_7, r_8)))))))))))
def impl_ComposeWords.R (r : Str × Int) (v : Value) (L : List Asn) : Prop := v = .tuple #[strv r.1, .int .i64 r.2] ∧ L = []
theorem impl_ComposeWords.calls (w : World) (v_1 : Str) (w_1 : Str) :
  ∀ r, impl_ComposeWords.f v_1 w_1 = some r → Calls Tryz.prog 21 #[strv v_1, strv w_1] w (Ret w (impl_ComposeWords.R r)) := by
 refine calls_T (n := 49) (Γ := [(0, strv v_1), (1, strv w_1)]) (R := impl_ComposeWords.R) Tryz.func21 rfl rfl (Nat.le_of_ble_eq_true rfl) ⟨rfl, rfl, trivial⟩ ?_
 unfold impl_ComposeWords.f
 refine TC.seq <| TC.region <| TL.as (strv ([] : Str)) <| TL.as (.int .i64 0) <| TL.done <| TC.seq ?_
 refine TC.seq <| TC.region <| TL.mv (strv v_1) ?_
 refine TL.call (R := G.impl_IsWord.R) Tryz.call9 rfl rfl rfl (fun w hS => G.impl_IsWord.calls w v_1) ?_
 rintro r_1 _ _ ⟨rfl, rfl⟩
 refine TL.not r_1 rfl rfl rfl ?_
 refine TL.mv (.bool (!r_1)) ?_
 refine TL.cutJ (σ := Bool) (γ := Unit) (Γ' := fun b_1 _ => [(17, .bool b_1), (0, strv v_1), (1, strv w_1), (4, strv ([] : Str)), (5, .int .i64 0), (10, strv v_1), (11, .bool r_1), (12, .bool (!r_1)), (13, .bool (!r_1))]) (L' := fun _ _ => []) 4 ?_ ?_
 ·refine TL.ifb (t := 13) (b := (!r_1)) rfl (fun c1 => ?_) (fun c2 => ?_)
  ·exact TL.sk <| TL.sk <| TL.sk <| TL.pk true (.bool true) <| TL.done <| TC.nrm (true) () ⟨rfl, rfl, rfl, rfl, rfl, rfl, rfl, rfl, (by rw [c1]; rfl), trivial⟩ [] (by kernel_rfl)
  refine TL.mv (strv w_1) ?_
  refine TL.call (R := G.impl_IsWord.R) Tryz.call9 rfl rfl rfl (fun w hS => G.impl_IsWord.calls w w_1) ?_
  rintro r_2 _ _ ⟨rfl, rfl⟩
  refine TL.not r_2 rfl rfl rfl ?_
  exact TL.pk false (.bool (!r_2)) <| TL.done <| TC.nrm ((!r_2)) () ⟨rfl, rfl, rfl, rfl, rfl, rfl, rfl, rfl, (by rw [c2]; rfl), trivial⟩ [] (by kernel_rfl)
 rintro b_1 _
 refine TL.done ?_
 refine TC.cond (b := b_1) rfl (fun c3 => ?_) (fun c4 => ?_)
 ·exact TC.seq <| TC.region <| TL.as (strv ([] : Str)) <| TL.as (.int .i64 1) <| TL.done <| TC.retF (Fin.body (fin2 (.inr rfl) rfl (.tmp rfl) (.tmp rfl) [] rfl ⟨rfl, rfl⟩))
 refine TC.skip <| TC.seq <| TC.region <| TL.mv (strv v_1) ?_
 refine TL.call (R := G.impl_legs.R) Tryz.call34 rfl rfl rfl (fun w hS => G.impl_legs.calls w v_1) ?_
 rintro ⟨r_3, r_4⟩ _ _ ⟨rfl, rfl⟩
 refine TL.mv (.tuple #[.int .i64 r_3, .int .i64 r_4]) <| TL.extract rfl rfl rfl (v := .int .i64 r_3) rfl <| TL.extract rfl rfl rfl (v := .int .i64 r_4) rfl <| TL.as (.int .i64 r_3) <| TL.as (.int .i64 r_4) <| TL.done ?_
 refine TC.seq <| TC.region <| TL.mv (strv w_1) ?_
 refine TL.call (R := G.impl_legs.R) Tryz.call34 rfl rfl rfl (fun w hS => G.impl_legs.calls w w_1) ?_
 rintro ⟨r_5, r_6⟩ _ _ ⟨rfl, rfl⟩
 refine TL.mv (.tuple #[.int .i64 r_5, .int .i64 r_6]) <| TL.extract rfl rfl rfl (v := .int .i64 r_5) rfl <| TL.extract rfl rfl rfl (v := .int .i64 r_6) rfl <| TL.as (.int .i64 r_5) <| TL.as (.int .i64 r_6) <| TL.done ?_
 refine TC.seq <| TC.block NoEx.body <| TC.seq <| TC.region <| TL.mv (.int .i64 r_4) <| TL.mv (.int .i64 r_5) ?_
 refine TL.bn .i64 r_4 r_5 (.bool (r_4 != r_5)) <| TL.as (.bool (r_4 != r_5)) <| TL.done ?_
 refine TC.cond (b := (r_4 != r_5)) rfl (fun c5 => ?_) (fun c6 => ?_)
 ·exact TC.seq <| TC.region <| TL.as (strv ([] : Str)) <| TL.as (.int .i64 5) <| TL.done <| TC.retF (Fin.body (fin2 (.inr rfl) rfl (.tmp rfl) (.tmp rfl) [] rfl ⟨rfl, rfl⟩))
 refine TC.seq <| TC.region <| TL.mv (strv v_1) <| TL.strEq v_1 ([] : Str) rfl rfl rfl rfl <| TL.mv (.bool (v_1 == ([] : Str))) ?_
 refine TL.cutU 3 [(38, .bool ((v_1 == ([] : Str)) || (w_1 == ([] : Str)))), (0, strv v_1), (1, strv w_1), (4, strv ([] : Str)), (5, .int .i64 0), (10, strv v_1), (11, .bool r_1), (12, .bool (!r_1)), (13, .bool (!r_1)), (17, .bool b_1), (19, strv v_1), (20, .tuple #[.int .i64 r_3, .int .i64 r_4]), (18, .tuple #[.int .i64 r_3, .int .i64 r_4]), (21, .int .i64 r_3), (22, .int .i64 r_4), (6, .int .i64 r_3), (7, .int .i64 r_4), (24, strv w_1), (25, .tuple #[.int .i64 r_5, .int .i64 r_6]), (23, .tuple #[.int .i64 r_5, .int .i64 r_6]), (26, .int .i64 r_5), (27, .int .i64 r_6), (8, .int .i64 r_5), (9, .int .i64 r_6), (29, .int .i64 r_4), (30, .int .i64 r_5), (31, .bool (r_4 != r_5)), (28, .bool (r_4 != r_5)), (33, strv v_1), (34, .bool (v_1 == ([] : Str))), (35, .bool (v_1 == ([] : Str)))] [] ?_ ?_
 ·refine TL.cases (t := 35) (b := (v_1 == ([] : Str))) rfl (fun c7 => ?_) (fun c8 => ?_)
  ·exact TL.sk <| TL.sk <| TL.pk true (.bool true) <| TL.done <| TC.nrm () () ⟨(by rw [c7]; rfl), rfl, rfl, rfl, rfl, rfl, rfl, rfl, rfl, rfl, rfl, rfl, rfl, rfl, rfl, rfl, rfl, rfl, rfl, rfl, rfl, rfl, rfl, rfl, rfl, rfl, rfl, rfl, rfl, rfl, (by rw [c7]; rfl), trivial⟩ [] (by kernel_rfl)
  exact TL.mv (strv w_1) <| TL.strEq w_1 ([] : Str) rfl rfl rfl rfl <| TL.pk false (.bool (w_1 == ([] : Str))) <| TL.done <| TC.nrm () () ⟨(by rw [c8]; rfl), rfl, rfl, rfl, rfl, rfl, rfl, rfl, rfl, rfl, rfl, rfl, rfl, rfl, rfl, rfl, rfl, rfl, rfl, rfl, rfl, rfl, rfl, rfl, rfl, rfl, rfl, rfl, rfl, rfl, (by rw [c8]; rfl), trivial⟩ [] (by kernel_rfl)
 refine TL.as (.bool ((v_1 == ([] : Str)) || (w_1 == ([] : Str)))) <| TL.done ?_
 refine TC.cond (b := ((v_1 == ([] : Str)) || (w_1 == ([] : Str)))) rfl (fun c9 => ?_) (fun c10 => ?_)
 ·refine TC.seq <| TC.region <| TL.mv (strv v_1) <| TL.mv (strv w_1) ?_
  refine TL.tall fun h1 => ?_
  refine TL.catT v_1 w_1 h1 rfl rfl rfl rfl ?_
  exact TL.as (strv (v_1 ++ w_1)) <| TL.as (.int .i64 0) <| TL.done <| TC.retF (Fin.body (fin2 (.inr rfl) rfl (.tmp rfl) (.tmp rfl) [] rfl ⟨rfl, rfl⟩))
 refine TC.skip <| TC.seq <| TC.region <| TL.mv (strv v_1) ?_
 refine TL.tall fun h2 => ?_
 refine TL.catT v_1 ([47] : Str) h2 rfl rfl rfl rfl ?_
 refine TL.mv (strv w_1) ?_
 refine TL.tall fun h3 => ?_
 refine TL.catT (v_1 ++ ([47] : Str)) w_1 h3 rfl rfl rfl rfl ?_
 refine TL.call (R := G.impl_told.R) Tryz.call46 rfl rfl rfl (fun w hS => G.impl_told.calls w ((v_1 ++ ([47] : Str)) ++ w_1)) ?_
 rintro ⟨r_7, r_8⟩ _ _ ⟨rfl, rfl⟩
 exact TL.extract rfl rfl rfl (v := strv r_7) rfl <| TL.extract rfl rfl rfl (v := .int .i64 r_8) rfl <| TL.as (strv r_7) <| TL.as (.int .i64 r_8) <| TL.done <| TC.retF (Fin.body (fin2 (.inr rfl) rfl (.tmp rfl) (.tmp rfl) [] rfl ⟨rfl, rfl⟩))
def spec_l04Told.f (word1 : Str) : Option (Str × Int) := (G.spec_l04Is.f word1).bind (fun r_1 => (bif (!r_1) then some (([] : Str), 3) else some (word1, 0)))
def spec_l04Told.R (r : Str × Int) (v : Value) (L : List Asn) : Prop := v = .tuple #[strv r.1, .int .i64 r.2] ∧ L = []
theorem spec_l04Told.calls (w : World) (word1 : Str) :
  ∀ r, spec_l04Told.f word1 = some r → Calls Tryz.prog 47 #[strv word1] w (Ret w (spec_l04Told.R r)) := by
 refine calls_T (n := 8) (Γ := [(0, strv word1)]) (R := spec_l04Told.R) Tryz.func47 rfl rfl (Nat.le_of_ble_eq_true rfl) ⟨rfl, trivial⟩ ?_
 unfold spec_l04Told.f
 refine TC.seq <| TC.region <| TL.as (strv ([] : Str)) <| TL.as (.int .i64 0) <| TL.done <| TC.seq ?_
 refine TC.seq <| TC.region <| TL.mv (strv word1) ?_
 refine TL.call (R := G.spec_l04Is.R) Tryz.call29 rfl rfl rfl (fun w hS => G.spec_l04Is.calls w word1) ?_
 rintro r_1 _ _ ⟨rfl, rfl⟩
 refine TL.not r_1 rfl rfl rfl ?_
 refine TL.done ?_
 refine TC.cond (b := (!r_1)) rfl (fun c1 => ?_) (fun c2 => ?_)
 ·exact TC.seq <| TC.region <| TL.as (strv ([] : Str)) <| TL.as (.int .i64 3) <| TL.done <| TC.retF (Fin.body (fin2 (.inr rfl) rfl (.tmp rfl) (.tmp rfl) [] rfl ⟨rfl, rfl⟩))
 refine TC.skip <| TC.seq <| TC.region <| TL.mv (strv word1) <| TL.as (strv word1) <| TL.as (.int .i64 0) ?_
 exact TL.done <| TC.retF (Fin.body (fin2 (.inr rfl) rfl (.tmp rfl) (.tmp rfl) [] rfl ⟨rfl, rfl⟩))
def spec_ComposeWords.f (v_1 : Str) (w_1 : Str) : Option (Str × Int) := (G.spec_l04Is.f v_1).bind (fun r_1 => (bif (!r_1) then some true else (G.spec_l04Is.f w_1).bind (fun r_2 => some (!r_2))).bind (fun b_1 => (bif b_1 then some (([] : Str), 1) else (G.spec_l04Ends.f v_1).bind (fun p => match p with | (r_3, r_4) => (G.spec_l04Ends.f w_1).bind (fun p => match p with | (r_5, r_6) => (bif (r_4 != r_5) then some (([] : Str), 5) else (bif (v_1 == ([] : Str)) then some (w_1, 0) else (bif (w_1 == ([] : Str)) then some (v_1, 0) else tall (v_1.length + ([47] : Str).length) (tall ((v_1 ++ ([47] : Str)).length + w_1.length) ((G.spec_l04Told.f ((v_1 ++ ([47] : Str)) ++ w_1)).bind (fun p => match p with | (r_7, r_8) => some (r_7, r_8))))))))))))
def spec_ComposeWords.R (r : Str × Int) (v : Value) (L : List Asn) : Prop := v = .tuple #[strv r.1, .int .i64 r.2] ∧ L = []
theorem spec_ComposeWords.calls (w : World) (v_1 : Str) (w_1 : Str) :
  ∀ r, spec_ComposeWords.f v_1 w_1 = some r → Calls Tryz.prog 22 #[strv v_1, strv w_1] w (Ret w (spec_ComposeWords.R r)) := by
 refine calls_T (n := 52) (Γ := [(0, strv v_1), (1, strv w_1)]) (R := spec_ComposeWords.R) Tryz.func22 rfl rfl (Nat.le_of_ble_eq_true rfl) ⟨rfl, rfl, trivial⟩ ?_
 unfold spec_ComposeWords.f
 refine TC.seq <| TC.region <| TL.as (strv ([] : Str)) <| TL.as (.int .i64 0) <| TL.done <| TC.seq ?_
 refine TC.seq <| TC.region <| TL.mv (strv v_1) ?_
 refine TL.call (R := G.spec_l04Is.R) Tryz.call29 rfl rfl rfl (fun w hS => G.spec_l04Is.calls w v_1) ?_
 rintro r_1 _ _ ⟨rfl, rfl⟩
 refine TL.not r_1 rfl rfl rfl ?_
 refine TL.mv (.bool (!r_1)) ?_
 refine TL.cutJ (σ := Bool) (γ := Unit) (Γ' := fun b_1 _ => [(19, .bool b_1), (0, strv v_1), (1, strv w_1), (4, strv ([] : Str)), (5, .int .i64 0), (12, strv v_1), (13, .bool r_1), (14, .bool (!r_1)), (15, .bool (!r_1))]) (L' := fun _ _ => []) 4 ?_ ?_
 ·refine TL.ifb (t := 15) (b := (!r_1)) rfl (fun c1 => ?_) (fun c2 => ?_)
  ·exact TL.sk <| TL.sk <| TL.sk <| TL.pk true (.bool true) <| TL.done <| TC.nrm (true) () ⟨rfl, rfl, rfl, rfl, rfl, rfl, rfl, rfl, (by rw [c1]; rfl), trivial⟩ [] (by kernel_rfl)
  refine TL.mv (strv w_1) ?_
  refine TL.call (R := G.spec_l04Is.R) Tryz.call29 rfl rfl rfl (fun w hS => G.spec_l04Is.calls w w_1) ?_
  rintro r_2 _ _ ⟨rfl, rfl⟩
  refine TL.not r_2 rfl rfl rfl ?_
  exact TL.pk false (.bool (!r_2)) <| TL.done <| TC.nrm ((!r_2)) () ⟨rfl, rfl, rfl, rfl, rfl, rfl, rfl, rfl, (by rw [c2]; rfl), trivial⟩ [] (by kernel_rfl)
 rintro b_1 _
 refine TL.done ?_
 refine TC.cond (b := b_1) rfl (fun c3 => ?_) (fun c4 => ?_)
 ·exact TC.seq <| TC.region <| TL.as (strv ([] : Str)) <| TL.as (.int .i64 1) <| TL.done <| TC.retF (Fin.body (fin2 (.inr rfl) rfl (.tmp rfl) (.tmp rfl) [] rfl ⟨rfl, rfl⟩))
 refine TC.skip <| TC.seq <| TC.region <| TL.mv (strv v_1) ?_
 refine TL.call (R := G.spec_l04Ends.R) Tryz.call35 rfl rfl rfl (fun w hS => G.spec_l04Ends.calls w v_1) ?_
 rintro ⟨r_3, r_4⟩ _ _ ⟨rfl, rfl⟩
 refine TL.mv (.tuple #[.int .i64 r_3, .int .i64 r_4]) <| TL.extract rfl rfl rfl (v := .int .i64 r_3) rfl <| TL.extract rfl rfl rfl (v := .int .i64 r_4) rfl <| TL.as (.int .i64 r_3) <| TL.as (.int .i64 r_4) <| TL.done ?_
 refine TC.seq <| TC.region <| TL.mv (strv w_1) ?_
 refine TL.call (R := G.spec_l04Ends.R) Tryz.call35 rfl rfl rfl (fun w hS => G.spec_l04Ends.calls w w_1) ?_
 rintro ⟨r_5, r_6⟩ _ _ ⟨rfl, rfl⟩
 refine TL.mv (.tuple #[.int .i64 r_5, .int .i64 r_6]) <| TL.extract rfl rfl rfl (v := .int .i64 r_5) rfl <| TL.extract rfl rfl rfl (v := .int .i64 r_6) rfl <| TL.as (.int .i64 r_5) <| TL.as (.int .i64 r_6) <| TL.done ?_
 refine TC.seq <| TC.block NoEx.body <| TC.seq <| TC.region <| TL.mv (.int .i64 r_4) <| TL.mv (.int .i64 r_5) ?_
 refine TL.bn .i64 r_4 r_5 (.bool (r_4 != r_5)) <| TL.as (.bool (r_4 != r_5)) <| TL.done ?_
 refine TC.cond (b := (r_4 != r_5)) rfl (fun c5 => ?_) (fun c6 => ?_)
 ·exact TC.seq <| TC.region <| TL.as (strv ([] : Str)) <| TL.as (.int .i64 5) <| TL.done <| TC.retF (Fin.body (fin2 (.inr rfl) rfl (.tmp rfl) (.tmp rfl) [] rfl ⟨rfl, rfl⟩))
 refine TC.seq <| TC.region <| TL.mv (strv v_1) <| TL.strEq v_1 ([] : Str) rfl rfl rfl rfl <| TL.as (.bool (v_1 == ([] : Str))) <| TL.done ?_
 refine TC.cond (b := (v_1 == ([] : Str))) rfl (fun c7 => ?_) (fun c8 => ?_)
 ·refine TC.seq <| TC.region <| TL.mv (strv w_1) <| TL.as (strv w_1) <| TL.as (.int .i64 0) <| TL.done ?_
  exact TC.retF (Fin.body (fin2 (.inr rfl) rfl (.tmp rfl) (.tmp rfl) [] rfl ⟨rfl, rfl⟩))
 refine TC.seq <| TC.region <| TL.mv (strv w_1) <| TL.strEq w_1 ([] : Str) rfl rfl rfl rfl <| TL.as (.bool (w_1 == ([] : Str))) <| TL.done ?_
 refine TC.cond (b := (w_1 == ([] : Str))) rfl (fun c9 => ?_) (fun c10 => ?_)
 ·refine TC.seq <| TC.region <| TL.mv (strv v_1) <| TL.as (strv v_1) <| TL.as (.int .i64 0) <| TL.done ?_
  exact TC.retF (Fin.body (fin2 (.inr rfl) rfl (.tmp rfl) (.tmp rfl) [] rfl ⟨rfl, rfl⟩))
 refine TC.skip <| TC.seq <| TC.region <| TL.mv (strv v_1) ?_
 refine TL.tall fun h1 => ?_
 refine TL.catT v_1 ([47] : Str) h1 rfl rfl rfl rfl ?_
 refine TL.mv (strv w_1) ?_
 refine TL.tall fun h2 => ?_
 refine TL.catT (v_1 ++ ([47] : Str)) w_1 h2 rfl rfl rfl rfl ?_
 refine TL.call (R := G.spec_l04Told.R) Tryz.call47 rfl rfl rfl (fun w hS => G.spec_l04Told.calls w ((v_1 ++ ([47] : Str)) ++ w_1)) ?_
 rintro ⟨r_7, r_8⟩ _ _ ⟨rfl, rfl⟩
 refine TL.mv (.tuple #[strv r_7, .int .i64 r_8]) <| TL.extract rfl rfl rfl (v := strv r_7) rfl <| TL.extract rfl rfl rfl (v := .int .i64 r_8) rfl <| TL.as (strv r_7) <| TL.as (.int .i64 r_8) <| TL.done ?_
 refine TC.seq <| TC.region <| TL.mv (strv r_7) <| TL.mv (.int .i64 r_8) <| TL.as (strv r_7) <| TL.as (.int .i64 r_8) ?_
 exact TL.done <| TC.retF (Fin.body (fin2 (.inr rfl) rfl (.tmp rfl) (.tmp rfl) [] rfl ⟨rfl, rfl⟩))
def spec_DrawBesideWords.f (code1 : List UInt8) : Option (Str × Str) := (G.spec_l04Two.f code1).bind (fun p => match p with | (r_1, r_2) => some (r_1, r_2))
def spec_DrawBesideWords.R (r : Str × Str) (v : Value) (L : List Asn) : Prop := v = .tuple #[strv r.1, strv r.2] ∧ L = []
theorem spec_DrawBesideWords.calls (w : World) (s1 : SV) (code1 : List UInt8) (h1 : Reads Eu (hp w) s1 code1) :
  ∀ r, spec_DrawBesideWords.f code1 = some r → Calls Tryz.prog 23 #[SV.v s1] w (Ret w (spec_DrawBesideWords.R r)) := by
 refine calls_T (n := 8) (Γ := [(0, SV.v s1)]) (R := spec_DrawBesideWords.R) Tryz.func23 rfl rfl (Nat.le_of_ble_eq_true rfl) ⟨rfl, trivial⟩ ?_
 unfold spec_DrawBesideWords.f
 refine TC.seq <| TC.region <| TL.as (strv ([] : Str)) <| TL.as (strv ([] : Str)) <| TL.done <| TC.seq ?_
 refine TC.region <| TL.mv (SV.v s1) ?_
 refine TL.call (R := G.spec_l04Two.R) Tryz.call45 rfl rfl rfl (fun w hS => G.spec_l04Two.calls w s1 code1 ((Rd.old h1) w hS)) ?_
 rintro ⟨r_1, r_2⟩ _ _ ⟨rfl, rfl⟩
 exact TL.extract rfl rfl rfl (v := strv r_1) rfl <| TL.extract rfl rfl rfl (v := strv r_2) rfl <| TL.as (strv r_1) <| TL.as (strv r_2) <| TL.done <| TC.retF (Fin.body (fin2 (.inr rfl) rfl (.tmp rfl) (.tmp rfl) [] rfl ⟨rfl, rfl⟩))
def impl_units.f (n_1 : Int) : Option Str := (G.strings_Repeat.f ([105] : Str) n_1).bind (fun r_1 => some r_1)
def impl_units.R (r : Str) (v : Value) (L : List Asn) : Prop := v = strv r ∧ L = []
theorem impl_units.calls (w : World) (n_1 : Int) :
  ∀ r, impl_units.f n_1 = some r → Calls Tryz.prog 48 #[.int .i64 n_1] w (Ret w (impl_units.R r)) := by
 refine calls_T (n := 5) (Γ := [(0, .int .i64 n_1)]) (R := impl_units.R) Tryz.func48 rfl rfl (Nat.le_of_ble_eq_true rfl) ⟨rfl, trivial⟩ ?_
 unfold impl_units.f
 refine TC.seq <| TC.region <| TL.as (strv ([] : Str)) <| TL.done <| TC.seq <| TC.region ?_
 refine TL.mv (.int .i64 n_1) ?_
 refine TL.call (R := G.strings_Repeat.R) Tryz.call74 rfl rfl rfl (fun w hS => G.strings_Repeat.calls w ([105] : Str) n_1) ?_
 rintro r_1 _ _ ⟨rfl, rfl⟩
 exact TL.as (strv r_1) <| TL.done <| TC.retF (Fin.body (fin1 (.inr rfl) rfl (.tmp rfl) [] rfl ⟨rfl, rfl⟩))
def impl_BesideWords.b0 (r_4 : List Str) (r_3 : List Str) (r_6 : Int) (r_8 : Int) : (List Str) × Int → Option (LB ((List Str) × Int)) := fun p => match p with | (x3, x4) => (bif (decide (x4 < (if (r_4.length : Int) > (r_3.length : Int) then (r_4.length : Int) else (r_3.length : Int)))) then (G.impl_units.f r_6).bind (fun r_9 => (G.impl_units.f r_8).bind (fun r_10 => ((bif (decide (x4 < (r_3.length : Int))) then chk x4 r_3.length (some (gt r_3 x4)) else some r_9)).bind (fun x5 => ((bif (decide (x4 < (r_4.length : Int))) then chk x4 r_4.length (some (gt r_4 x4)) else some r_10)).bind (fun x6 => tall (x5.length + x6.length) (small (x3.length + ([(x5 ++ x6)] : List Str).length) (some (.next ((x3 ++ ([(x5 ++ x6)] : List Str)), (w64 (x4 + 1)))))))))) else some (.brk (x3, x4)))
def impl_BesideWords.f (x1 : Str) (x2 : Str) : Option (Str × Int) := (G.impl_IsWord.f x1).bind (fun r_1 => (bif (!r_1) then some true else (G.impl_IsWord.f x2).bind (fun r_2 => some (!r_2))).bind (fun b_1 => (bif b_1 then some (([] : Str), 1) else (G.impl_layers.f x1).bind (fun r_3 => (G.impl_layers.f x2).bind (fun r_4 => (G.impl_legs.f x1).bind (fun p => match p with | (r_5, r_6) => (G.impl_legs.f x2).bind (fun p => match p with | (r_7, r_8) => (loop1 (impl_BesideWords.b0 r_4 r_3 r_6 r_8) (([] : List Str), 0)).bind (fun p => match p with | (x3, x4) => (G.strings_Join.f x3 ([47] : Str)).bind (fun r_11 => (G.impl_told.f r_11).bind (fun p => match p with | (r_12, r_13) => some (r_12, r_13)))))))))))
def impl_BesideWords.R (r : Str × Int) (v : Value) (L : List Asn) : Prop := v = .tuple #[strv r.1, .int .i64 r.2] ∧ L = []
theorem impl_BesideWords.calls (w : World) (x1 : Str) (x2 : Str) :
  ∀ r, impl_BesideWords.f x1 x2 = some r → Calls Tryz.prog 24 #[strv x1, strv x2] w (Ret w (impl_BesideWords.R r)) := by
 refine calls_T (n := 79) (Γ := [(0, strv x1), (1, strv x2)]) (R := impl_BesideWords.R) Tryz.func24 rfl rfl (Nat.le_of_ble_eq_true rfl) ⟨rfl, rfl, trivial⟩ ?_
 unfold impl_BesideWords.f
 refine TC.seq <| TC.region <| TL.as (strv ([] : Str)) <| TL.as (.int .i64 0) <| TL.done <| TC.seq ?_
 refine TC.seq <| TC.region <| TL.mv (strv x1) ?_
 refine TL.call (R := G.impl_IsWord.R) Tryz.call9 rfl rfl rfl (fun w hS => G.impl_IsWord.calls w x1) ?_
 rintro r_1 _ _ ⟨rfl, rfl⟩
 refine TL.not r_1 rfl rfl rfl ?_
 refine TL.mv (.bool (!r_1)) ?_
 refine TL.cutJ (σ := Bool) (γ := Unit) (Γ' := fun b_1 _ => [(23, .bool b_1), (0, strv x1), (1, strv x2), (4, strv ([] : Str)), (5, .int .i64 0), (16, strv x1), (17, .bool r_1), (18, .bool (!r_1)), (19, .bool (!r_1))]) (L' := fun _ _ => []) 4 ?_ ?_
 ·refine TL.ifb (t := 19) (b := (!r_1)) rfl (fun c1 => ?_) (fun c2 => ?_)
  ·exact TL.sk <| TL.sk <| TL.sk <| TL.pk true (.bool true) <| TL.done <| TC.nrm (true) () ⟨rfl, rfl, rfl, rfl, rfl, rfl, rfl, rfl, (by rw [c1]; rfl), trivial⟩ [] (by kernel_rfl)
  refine TL.mv (strv x2) ?_
  refine TL.call (R := G.impl_IsWord.R) Tryz.call9 rfl rfl rfl (fun w hS => G.impl_IsWord.calls w x2) ?_
  rintro r_2 _ _ ⟨rfl, rfl⟩
  refine TL.not r_2 rfl rfl rfl ?_
  exact TL.pk false (.bool (!r_2)) <| TL.done <| TC.nrm ((!r_2)) () ⟨rfl, rfl, rfl, rfl, rfl, rfl, rfl, rfl, (by rw [c2]; rfl), trivial⟩ [] (by kernel_rfl)
 rintro b_1 _
 refine TL.done ?_
 refine TC.cond (b := b_1) rfl (fun c3 => ?_) (fun c4 => ?_)
 ·exact TC.seq <| TC.region <| TL.as (strv ([] : Str)) <| TL.as (.int .i64 1) <| TL.done <| TC.retF (Fin.body (fin2 (.inr rfl) rfl (.tmp rfl) (.tmp rfl) [] rfl ⟨rfl, rfl⟩))
 refine TC.skip <| TC.seq <| TC.region <| TL.mv (strv x1) ?_
 refine TL.call (R := G.impl_layers.R) Tryz.call31 rfl rfl rfl (fun w hS => G.impl_layers.calls w x1) ?_
 rintro r_3 _ _ ⟨s1, rfl, rfl⟩
 refine TL.mv (strv x2) ?_
 refine TL.call (R := G.impl_layers.R) Tryz.call31 rfl rfl rfl (fun w hS => G.impl_layers.calls w x2) ?_
 rintro r_4 _ _ ⟨s2, rfl, rfl⟩
 refine TL.bslice0 Es Tryz.underlying49 Tryz.sizeOf9 rfl rfl fun s3 => ?_
 refine TL.as (SV.v s1) <| TL.as (SV.v s2) <| TL.as (SV.v s3) <| TL.done <| TC.seq <| TC.region ?_
 refine TL.mv (strv x1) ?_
 refine TL.call (R := G.impl_legs.R) Tryz.call34 rfl rfl rfl (fun w hS => G.impl_legs.calls w x1) ?_
 rintro ⟨r_5, r_6⟩ _ _ ⟨rfl, rfl⟩
 refine TL.mv (.tuple #[.int .i64 r_5, .int .i64 r_6]) <| TL.extract rfl rfl rfl (v := .int .i64 r_5) rfl <| TL.extract rfl rfl rfl (v := .int .i64 r_6) rfl <| TL.as (.int .i64 r_5) <| TL.as (.int .i64 r_6) <| TL.done ?_
 refine TC.seq <| TC.region <| TL.mv (strv x2) ?_
 refine TL.call (R := G.impl_legs.R) Tryz.call34 rfl rfl rfl (fun w hS => G.impl_legs.calls w x2) ?_
 rintro ⟨r_7, r_8⟩ _ _ ⟨rfl, rfl⟩
 refine TL.mv (.tuple #[.int .i64 r_7, .int .i64 r_8]) <| TL.extract rfl rfl rfl (v := .int .i64 r_7) rfl <| TL.extract rfl rfl rfl (v := .int .i64 r_8) rfl <| TL.as (.int .i64 r_7) <| TL.as (.int .i64 r_8) <| TL.done ?_
 refine TC.seq <| TC.seq <| TC.region <| TL.mv (SV.v s1) <| TL.len (Rd.row 2 rfl) Tryz.underlying49 rfl rfl rfl <| TL.mv (SV.v s2) ?_
 refine TL.len (Rd.row 1 rfl) Tryz.underlying49 rfl rfl rfl ?_
 refine TL.max2 rfl rfl rfl rfl ?_
 refine TL.mv (.int .i64 0) <| TL.done ?_
 refine TC.loop1 (σ := (List Str) × Int) (γ := SV) (Γ' := (fun p q => match p, q with | (x3, x4), s4 => [(6, SV.v s1), (7, SV.v s2), (8, SV.v s4), (10, .int .i64 r_6), (12, .int .i64 r_8), (43, .int .i64 (if (r_4.length : Int) > (r_3.length : Int) then (r_4.length : Int) else (r_3.length : Int))), (44, .int .i64 x4)])) (L' := (fun p q => match p, q with | (x3, x4), s4 => [row Es 9 s1 r_3, row Es 9 s2 r_4, row Es 9 s4 x3])) (Γb := (fun p q => match p, q with | (x3, x4), s4 => [(6, SV.v s1), (7, SV.v s2), (8, SV.v s4), (10, .int .i64 r_6), (12, .int .i64 r_8), (43, .int .i64 (if (r_4.length : Int) > (r_3.length : Int) then (r_4.length : Int) else (r_3.length : Int))), (44, .int .i64 x4)])) (Lb := (fun p q => match p, q with | (x3, x4), s4 => [row Es 9 s1 r_3, row Es 9 s2 r_4, row Es 9 s4 x3])) ((([] : List Str), 0)) (s3) ⟨rfl, rfl, rfl, rfl, rfl, rfl, rfl, trivial⟩ [2, 1, 0] rfl ?_ ?_
 ·rintro ⟨x3, x4⟩ s4
  refine TC.seq <| TC.region <| TL.bn .i64 x4 (if (r_4.length : Int) > (r_3.length : Int) then (r_4.length : Int) else (r_3.length : Int)) (.bool (decide (x4 < (if (r_4.length : Int) > (r_3.length : Int) then (r_4.length : Int) else (r_3.length : Int))))) <| TL.done <| TC.seq ?_
  refine TC.cond (b := (decide (x4 < (if (r_4.length : Int) > (r_3.length : Int) then (r_4.length : Int) else (r_3.length : Int))))) rfl (fun c5 => ?_) (fun c6 => ?_)
  ·refine TC.skip <| TC.seq <| TC.block (NoEx.loop1 rfl) <| TC.seq <| TC.region <| TL.mv (.int .i64 x4) ?_
   refine TL.as (.int .i64 x4) <| TL.done <| TC.seq <| TC.region <| TL.mv (.int .i64 r_6) ?_
   refine TL.call (R := G.impl_units.R) Tryz.call48 rfl rfl rfl (fun w hS => G.impl_units.calls w r_6) ?_
   rintro r_9 _ _ ⟨rfl, rfl⟩
   refine TL.mv (.int .i64 r_8) ?_
   refine TL.call (R := G.impl_units.R) Tryz.call48 rfl rfl rfl (fun w hS => G.impl_units.calls w r_8) ?_
   rintro r_10 _ _ ⟨rfl, rfl⟩
   refine TL.as (strv r_9) <| TL.as (strv r_10) <| TL.done <| TC.seq <| TC.seq <| TC.region ?_
   refine TL.mv (.int .i64 x4) <| TL.mv (SV.v s1) <| TL.len (Rd.row 0 rfl) Tryz.underlying49 rfl rfl rfl <| TL.bn .i64 x4 (r_3.length : Int) (.bool (decide (x4 < (r_3.length : Int)))) <| TL.done ?_
   refine TC.join1 (σ := Str) (γ := Unit) (Γ' := (fun x5 _ => [(6, SV.v s1), (7, SV.v s2), (8, SV.v s4), (10, .int .i64 r_6), (12, .int .i64 r_8), (13, .int .i64 x4), (14, strv x5), (15, strv r_10), (43, .int .i64 (if (r_4.length : Int) > (r_3.length : Int) then (r_4.length : Int) else (r_3.length : Int))), (44, .int .i64 x4)])) (L' := (fun x5 _ => [row Es 9 s1 r_3, row Es 9 s2 r_4, row Es 9 s4 x3])) ?_ ?_
   ·refine TC.cond (b := (decide (x4 < (r_3.length : Int)))) rfl (fun c7 => ?_) (fun c8 => ?_)
    ·refine TC.region <| TL.mv (SV.v s1) <| TL.mv (.int .i64 x4) ?_
     refine TL.chk fun h1 => ?_
     refine TL.ixs x4 x4.toNat (Rd.row 0 rfl) h1 Tryz.underlying49 Tryz.sizeOf9 rfl rfl rfl rfl (by omega) ?_
     refine TL.loadE (Rd.row 0 rfl) Tryz.isAgg9 x4.toNat 0 (gt_spec h1) (v := strv (gt r_3 x4)) rfl (by simp only [show Es.sz = 1 from rfl] <;> omega) rfl rfl rfl ?_
     exact TL.as (strv (gt r_3 x4)) <| TL.done <| TC.nrm ((gt r_3 x4)) (()) ⟨rfl, rfl, rfl, rfl, rfl, rfl, rfl, rfl, rfl, rfl, trivial⟩ [0, 0, 0] rfl
    exact TC.skip <| TC.nrm (r_9) (()) ⟨rfl, rfl, rfl, rfl, rfl, rfl, rfl, rfl, rfl, rfl, trivial⟩ [0, 0, 0] rfl
   rintro x5 _
   refine TC.seq <| TC.seq <| TC.region <| TL.mv (.int .i64 x4) <| TL.mv (SV.v s2) <| TL.len (Rd.row 1 rfl) Tryz.underlying49 rfl rfl rfl ?_
   refine TL.bn .i64 x4 (r_4.length : Int) (.bool (decide (x4 < (r_4.length : Int)))) <| TL.done ?_
   refine TC.join1 (σ := Str) (γ := Unit) (Γ' := (fun x6 _ => [(6, SV.v s1), (7, SV.v s2), (8, SV.v s4), (10, .int .i64 r_6), (12, .int .i64 r_8), (14, strv x5), (15, strv x6), (43, .int .i64 (if (r_4.length : Int) > (r_3.length : Int) then (r_4.length : Int) else (r_3.length : Int))), (44, .int .i64 x4)])) (L' := (fun x6 _ => [row Es 9 s1 r_3, row Es 9 s2 r_4, row Es 9 s4 x3])) ?_ ?_
   ·refine TC.cond (b := (decide (x4 < (r_4.length : Int)))) rfl (fun c9 => ?_) (fun c10 => ?_)
    ·refine TC.region <| TL.mv (SV.v s2) <| TL.mv (.int .i64 x4) ?_
     refine TL.chk fun h2 => ?_
     refine TL.ixs x4 x4.toNat (Rd.row 1 rfl) h2 Tryz.underlying49 Tryz.sizeOf9 rfl rfl rfl rfl (by omega) ?_
     refine TL.loadE (Rd.row 1 rfl) Tryz.isAgg9 x4.toNat 0 (gt_spec h2) (v := strv (gt r_4 x4)) rfl (by simp only [show Es.sz = 1 from rfl] <;> omega) rfl rfl rfl ?_
     exact TL.as (strv (gt r_4 x4)) <| TL.done <| TC.nrm ((gt r_4 x4)) (()) ⟨rfl, rfl, rfl, rfl, rfl, rfl, rfl, rfl, rfl, trivial⟩ [0, 0, 0] rfl
    exact TC.skip <| TC.nrm (r_10) (()) ⟨rfl, rfl, rfl, rfl, rfl, rfl, rfl, rfl, rfl, trivial⟩ [0, 0, 0] rfl
   rintro x6 _
   refine TC.region <| TL.mv (SV.v s4) <| TL.mv (strv x5) <| TL.mv (strv x6) ?_
   refine TL.tall fun h3 => ?_
   refine TL.catT x5 x6 h3 rfl rfl rfl rfl ?_
   refine TL.blit Es ([(x5 ++ x6)] : List Str) Tryz.underlying49 Tryz.sizeOf9 Tryz.zeroValue9 rfl rfl rfl [(0, strv (x5 ++ x6))] rfl ⟨rfl, rfl, trivial⟩ rfl rfl fun s5 => ?_
   refine TL.small fun h4 => ?_
   refine TL.append 3 rfl (Rd.row 0 rfl) Tryz.underlying49 (info_of Tryz.type9) (zv := (Tryz.t9.zero.getD (.bool false))) rfl rfl rfl (by decide) h4 rfl rfl rfl rfl fun s6 => ?_
   refine TL.as (SV.v s6) <| TL.done <| TC.region <| TL.bn .i64 x4 1 (.int .i64 (w64 (x4 + 1))) <| TL.mv (.int .i64 (w64 (x4 + 1))) <| TL.done ?_
   exact TC.next1 (((x3 ++ ([(x5 ++ x6)] : List Str)), (w64 (x4 + 1)))) (s6) ⟨rfl, rfl, rfl, rfl, rfl, rfl, rfl, trivial⟩ [1, 1, 1] rfl
  exact TC.brk1 ((x3, x4)) (s4) ⟨rfl, rfl, rfl, rfl, rfl, rfl, rfl, trivial⟩ [0, 0, 0] rfl
 rintro ⟨x3, x4⟩ s4
 refine TC.seq <| TC.region <| TL.mv (SV.v s4) ?_
 refine TL.call (R := G.strings_Join.R) Tryz.call41 rfl rfl rfl (fun w hS => G.strings_Join.calls w s4 x3 ([47] : Str) ((Rd.row 2 rfl) w hS)) ?_
 rintro r_11 _ _ ⟨rfl, rfl⟩
 refine TL.call (R := G.impl_told.R) Tryz.call46 rfl rfl rfl (fun w hS => G.impl_told.calls w r_11) ?_
 rintro ⟨r_12, r_13⟩ _ _ ⟨rfl, rfl⟩
 exact TL.extract rfl rfl rfl (v := strv r_12) rfl <| TL.extract rfl rfl rfl (v := .int .i64 r_13) rfl <| TL.as (strv r_12) <| TL.as (.int .i64 r_13) <| TL.done <| TC.retF (Fin.body (fin2 (.inr rfl) rfl (.tmp rfl) (.tmp rfl) [] rfl ⟨rfl, rfl⟩))
def spec_l04Strands.b0 : Int × Str → Option (LB (Int × Str)) := fun p => match p with | (n_2, out1) => (bif (decide (n_2 > 0)) then tall (out1.length + ([105] : Str).length) (some (.next ((w64 (n_2 - 1)), (out1 ++ ([105] : Str))))) else some (.brk (n_2, out1)))
def spec_l04Strands.f (n_1 : Int) : Option Str := (loop1 (spec_l04Strands.b0) (n_1, ([] : Str))).bind (fun p => match p with | (n_2, out1) => some out1)
def spec_l04Strands.R (r : Str) (v : Value) (L : List Asn) : Prop := v = strv r ∧ L = []
theorem spec_l04Strands.calls (w : World) (n_1 : Int) :
  ∀ r, spec_l04Strands.f n_1 = some r → Calls Tryz.prog 50 #[.int .i64 n_1] w (Ret w (spec_l04Strands.R r)) := by
 refine calls_T (n := 11) (Γ := [(0, .int .i64 n_1)]) (R := spec_l04Strands.R) Tryz.func50 rfl rfl (Nat.le_of_ble_eq_true rfl) ⟨rfl, trivial⟩ ?_
 unfold spec_l04Strands.f
 refine TC.seq <| TC.region <| TL.as (strv ([] : Str)) <| TL.done <| TC.seq <| TC.region ?_
 refine TL.as (strv ([] : Str)) <| TL.done <| TC.seq ?_
 refine TC.loop1 (σ := Int × Str) (γ := Unit) (Γ' := (fun p q => match p, q with | (n_2, out1), _ => [(0, .int .i64 n_2), (3, strv out1)])) (L' := (fun p q => match p, q with | (n_2, out1), _ => [])) (Γb := (fun p q => match p, q with | (n_2, out1), _ => [(0, .int .i64 n_2), (3, strv out1)])) (Lb := (fun p q => match p, q with | (n_2, out1), _ => [])) ((n_1, ([] : Str))) (()) ⟨rfl, rfl, trivial⟩ [] rfl ?_ ?_
 ·rintro ⟨n_2, out1⟩ _
  refine TC.seq <| TC.seq <| TC.region <| TL.mv (.int .i64 n_2) <| TL.bn .i64 n_2 0 (.bool (decide (n_2 > 0))) <| TL.done ?_
  refine TC.cond (b := (decide (n_2 > 0))) rfl (fun c1 => ?_) (fun c2 => ?_)
  ·refine TC.skip <| TC.seq <| TC.block (NoEx.loop1 rfl) <| TC.region <| TL.mv (strv out1) ?_
   refine TL.tall fun h1 => ?_
   refine TL.catT out1 ([105] : Str) h1 rfl rfl rfl rfl ?_
   refine TL.as (strv (out1 ++ ([105] : Str))) <| TL.done <| TC.region <| TL.mv (.int .i64 n_2) <| TL.bn .i64 n_2 1 (.int .i64 (w64 (n_2 - 1))) <| TL.as (.int .i64 (w64 (n_2 - 1))) ?_
   refine TL.done ?_
   exact TC.next1 (((w64 (n_2 - 1)), (out1 ++ ([105] : Str)))) (()) ⟨rfl, rfl, trivial⟩ [] rfl
  exact TC.brk1 ((n_2, out1)) (()) ⟨rfl, rfl, trivial⟩ [] rfl
 rintro ⟨n_2, out1⟩ _
 exact TC.seq <| TC.region <| TL.mv (strv out1) <| TL.as (strv out1) <| TL.done <| TC.retF (Fin.body (fin1 (.inr rfl) rfl (.tmp rfl) [] rfl ⟨rfl, rfl⟩))
def spec_BesideWords.b0 (r_1 : List Str) (r_3 : List Str) (r_6 : Int) (r_8 : Int) : (List Str) × Int → Option (LB ((List Str) × Int)) := fun p => match p with | (x3, x4) => (bif ((decide (x4 < (r_1.length : Int))) || (decide (x4 < (r_3.length : Int)))) then (G.spec_l04Strands.f r_6).bind (fun r_9 => (G.spec_l04Strands.f r_8).bind (fun r_10 => ((bif (decide (x4 < (r_1.length : Int))) then chk x4 r_1.length (some (gt r_1 x4)) else some r_9)).bind (fun x5 => ((bif (decide (x4 < (r_3.length : Int))) then chk x4 r_3.length (some (gt r_3 x4)) else some r_10)).bind (fun x6 => tall (x5.length + x6.length) (small (x3.length + ([(x5 ++ x6)] : List Str).length) (some (.next ((x3 ++ ([(x5 ++ x6)] : List Str)), (w64 (x4 + 1)))))))))) else some (.brk (x3, x4)))
def spec_BesideWords.f (x1 : Str) (x2 : Str) : Option (Str × Int) := (G.spec_l04Layers.f x1).bind (fun p => match p with | (r_1, r_2) => (G.spec_l04Layers.f x2).bind (fun p => match p with | (r_3, r_4) => (bif ((!r_2) || (!r_4)) then some (([] : Str), 1) else (G.spec_l04Ends.f x1).bind (fun p => match p with | (r_5, r_6) => (G.spec_l04Ends.f x2).bind (fun p => match p with | (r_7, r_8) => (loop1 (spec_BesideWords.b0 r_1 r_3 r_6 r_8) (([] : List Str), 0)).bind (fun p => match p with | (x3, x4) => (G.spec_l04Joined.f x3).bind (fun r_11 => (G.spec_l04Told.f r_11).bind (fun p => match p with | (r_12, r_13) => some (r_12, r_13)))))))))
def spec_BesideWords.R (r : Str × Int) (v : Value) (L : List Asn) : Prop := v = .tuple #[strv r.1, .int .i64 r.2] ∧ L = []
theorem spec_BesideWords.calls (w : World) (x1 : Str) (x2 : Str) :
  ∀ r, spec_BesideWords.f x1 x2 = some r → Calls Tryz.prog 25 #[strv x1, strv x2] w (Ret w (spec_BesideWords.R r)) := by
 refine calls_T (n := 93) (Γ := [(0, strv x1), (1, strv x2)]) (R := spec_BesideWords.R) Tryz.func25 rfl rfl (Nat.le_of_ble_eq_true rfl) ⟨rfl, rfl, trivial⟩ ?_
 unfold spec_BesideWords.f
 refine TC.seq <| TC.region <| TL.as (strv ([] : Str)) <| TL.as (.int .i64 0) <| TL.done <| TC.seq ?_
 refine TC.region <| TL.mv (strv x1) ?_
 refine TL.call (R := G.spec_l04Layers.R) Tryz.call49 rfl rfl rfl (fun w hS => G.spec_l04Layers.calls w x1) ?_
 rintro ⟨r_1, r_2⟩ _ _ ⟨s1, rfl, rfl⟩
 refine TL.mv (.tuple #[SV.v s1, .bool r_2]) <| TL.extract rfl rfl rfl (v := SV.v s1) rfl <| TL.extract rfl rfl rfl (v := .bool r_2) rfl <| TL.as (SV.v s1) <| TL.as (.bool r_2) <| TL.done ?_
 refine TC.seq <| TC.region <| TL.mv (strv x2) ?_
 refine TL.call (R := G.spec_l04Layers.R) Tryz.call49 rfl rfl rfl (fun w hS => G.spec_l04Layers.calls w x2) ?_
 rintro ⟨r_3, r_4⟩ _ _ ⟨s2, rfl, rfl⟩
 refine TL.mv (.tuple #[SV.v s2, .bool r_4]) <| TL.extract rfl rfl rfl (v := SV.v s2) rfl <| TL.extract rfl rfl rfl (v := .bool r_4) rfl <| TL.as (SV.v s2) <| TL.as (.bool r_4) <| TL.done ?_
 refine TC.seq <| TC.seq <| TC.region <| TL.mv (.bool r_2) ?_
 refine TL.not r_2 rfl rfl rfl ?_
 refine TL.mv (.bool (!r_2)) ?_
 refine TL.cutU 3 [(35, .bool ((!r_2) || (!r_4))), (0, strv x1), (1, strv x2), (4, strv ([] : Str)), (5, .int .i64 0), (21, strv x1), (22, .tuple #[SV.v s1, .bool r_2]), (20, .tuple #[SV.v s1, .bool r_2]), (23, SV.v s1), (24, .bool r_2), (6, SV.v s1), (7, .bool r_2), (26, strv x2), (27, .tuple #[SV.v s2, .bool r_4]), (25, .tuple #[SV.v s2, .bool r_4]), (28, SV.v s2), (29, .bool r_4), (8, SV.v s2), (9, .bool r_4), (30, .bool r_2), (31, .bool (!r_2)), (32, .bool (!r_2))] [row Es 9 s2 r_3, row Es 9 s1 r_1] ?_ ?_
 ·refine TL.cases (t := 32) (b := (!r_2)) rfl (fun c1 => ?_) (fun c2 => ?_)
  ·exact TL.sk <| TL.sk <| TL.pk true (.bool true) <| TL.done <| TC.nrm () () ⟨(by rw [c1]; rfl), rfl, rfl, rfl, rfl, rfl, rfl, rfl, rfl, rfl, rfl, rfl, rfl, rfl, rfl, rfl, rfl, rfl, rfl, rfl, rfl, (by rw [c1]; rfl), trivial⟩ [0, 0] (by kernel_rfl)
  refine TL.mv (.bool r_4) ?_
  refine TL.not r_4 rfl rfl rfl ?_
  exact TL.pk false (.bool (!r_4)) <| TL.done <| TC.nrm () () ⟨(by rw [c2]; rfl), rfl, rfl, rfl, rfl, rfl, rfl, rfl, rfl, rfl, rfl, rfl, rfl, rfl, rfl, rfl, rfl, rfl, rfl, rfl, rfl, (by rw [c2]; rfl), trivial⟩ [0, 0] (by kernel_rfl)
 refine TL.done ?_
 refine TC.cond (b := ((!r_2) || (!r_4))) rfl (fun c3 => ?_) (fun c4 => ?_)
 ·exact TC.seq <| TC.region <| TL.as (strv ([] : Str)) <| TL.as (.int .i64 1) <| TL.done <| TC.retF (Fin.body (fin2 (.inr rfl) rfl (.tmp rfl) (.tmp rfl) [] rfl ⟨rfl, rfl⟩))
 refine TC.skip <| TC.seq <| TC.region <| TL.mv (strv x1) ?_
 refine TL.call (R := G.spec_l04Ends.R) Tryz.call35 rfl rfl rfl (fun w hS => G.spec_l04Ends.calls w x1) ?_
 rintro ⟨r_5, r_6⟩ _ _ ⟨rfl, rfl⟩
 refine TL.mv (.tuple #[.int .i64 r_5, .int .i64 r_6]) <| TL.extract rfl rfl rfl (v := .int .i64 r_5) rfl <| TL.extract rfl rfl rfl (v := .int .i64 r_6) rfl <| TL.as (.int .i64 r_5) <| TL.as (.int .i64 r_6) <| TL.done ?_
 refine TC.seq <| TC.region <| TL.mv (strv x2) ?_
 refine TL.call (R := G.spec_l04Ends.R) Tryz.call35 rfl rfl rfl (fun w hS => G.spec_l04Ends.calls w x2) ?_
 rintro ⟨r_7, r_8⟩ _ _ ⟨rfl, rfl⟩
 refine TL.mv (.tuple #[.int .i64 r_7, .int .i64 r_8]) <| TL.extract rfl rfl rfl (v := .int .i64 r_7) rfl <| TL.extract rfl rfl rfl (v := .int .i64 r_8) rfl <| TL.as (.int .i64 r_7) <| TL.as (.int .i64 r_8) <| TL.done ?_
 refine TC.seq <| TC.region ?_
 refine TL.bslice0 Es Tryz.underlying49 Tryz.sizeOf9 rfl rfl fun s3 => ?_
 refine TL.as (SV.v s3) <| TL.done <| TC.seq <| TC.seq <| TC.region <| TL.as (.int .i64 0) ?_
 refine TL.done ?_
 refine TC.loop1 (σ := (List Str) × Int) (γ := SV) (Γ' := (fun p q => match p, q with | (x3, x4), s4 => [(6, SV.v s1), (8, SV.v s2), (11, .int .i64 r_6), (13, .int .i64 r_8), (14, SV.v s4), (15, .int .i64 x4)])) (L' := (fun p q => match p, q with | (x3, x4), s4 => [row Es 9 s1 r_1, row Es 9 s2 r_3, row Es 9 s4 x3])) (Γb := (fun p q => match p, q with | (x3, x4), s4 => [(6, SV.v s1), (8, SV.v s2), (11, .int .i64 r_6), (13, .int .i64 r_8), (14, SV.v s4), (15, .int .i64 x4)])) (Lb := (fun p q => match p, q with | (x3, x4), s4 => [row Es 9 s1 r_1, row Es 9 s2 r_3, row Es 9 s4 x3])) ((([] : List Str), 0)) (s3) ⟨rfl, rfl, rfl, rfl, rfl, rfl, trivial⟩ [2, 1, 0] rfl ?_ ?_
 ·rintro ⟨x3, x4⟩ s4
  refine TC.seq <| TC.seq <| TC.region <| TL.mv (.int .i64 x4) <| TL.mv (SV.v s1) <| TL.len (Rd.row 0 rfl) Tryz.underlying49 rfl rfl rfl ?_
  refine TL.bn .i64 x4 (r_1.length : Int) (.bool (decide (x4 < (r_1.length : Int)))) <| TL.mv (.bool (decide (x4 < (r_1.length : Int)))) ?_
  refine TL.cutU 5 [(56, .bool ((decide (x4 < (r_1.length : Int))) || (decide (x4 < (r_3.length : Int))))), (6, SV.v s1), (8, SV.v s2), (11, .int .i64 r_6), (13, .int .i64 r_8), (14, SV.v s4), (15, .int .i64 x4), (47, .int .i64 x4), (48, SV.v s1), (49, .int .i64 (r_1.length : Int)), (50, .bool (decide (x4 < (r_1.length : Int)))), (51, .bool (decide (x4 < (r_1.length : Int))))] [row Es 9 s1 r_1, row Es 9 s2 r_3, row Es 9 s4 x3] ?_ ?_
  ·refine TL.cases (t := 51) (b := (decide (x4 < (r_1.length : Int)))) rfl (fun c5 => ?_) (fun c6 => ?_)
   ·refine TL.sk <| TL.sk <| TL.sk <| TL.sk <| TL.pk true (.bool true) <| TL.done ?_
    exact TC.nrm () () ⟨(by rw [c5]; rfl), rfl, rfl, rfl, rfl, rfl, rfl, rfl, rfl, rfl, rfl, (by rw [c5]; rfl), trivial⟩ [0, 0, 0] (by kernel_rfl)
   refine TL.mv (.int .i64 x4) <| TL.mv (SV.v s2) <| TL.len (Rd.row 1 rfl) Tryz.underlying49 rfl rfl rfl <| TL.bn .i64 x4 (r_3.length : Int) (.bool (decide (x4 < (r_3.length : Int)))) <| TL.pk false (.bool (decide (x4 < (r_3.length : Int)))) <| TL.done ?_
   exact TC.nrm () () ⟨(by rw [c6]; rfl), rfl, rfl, rfl, rfl, rfl, rfl, rfl, rfl, rfl, rfl, (by rw [c6]; rfl), trivial⟩ [0, 0, 0] (by kernel_rfl)
  refine TL.done ?_
  refine TC.cond (b := ((decide (x4 < (r_1.length : Int))) || (decide (x4 < (r_3.length : Int))))) rfl (fun c7 => ?_) (fun c8 => ?_)
  ·refine TC.skip <| TC.seq <| TC.block (NoEx.loop1 rfl) <| TC.seq <| TC.region <| TL.mv (.int .i64 r_6) ?_
   refine TL.call (R := G.spec_l04Strands.R) Tryz.call50 rfl rfl rfl (fun w hS => G.spec_l04Strands.calls w r_6) ?_
   rintro r_9 _ _ ⟨rfl, rfl⟩
   refine TL.mv (.int .i64 r_8) ?_
   refine TL.call (R := G.spec_l04Strands.R) Tryz.call50 rfl rfl rfl (fun w hS => G.spec_l04Strands.calls w r_8) ?_
   rintro r_10 _ _ ⟨rfl, rfl⟩
   refine TL.as (strv r_9) <| TL.as (strv r_10) <| TL.done <| TC.seq <| TC.seq <| TC.region ?_
   refine TL.mv (.int .i64 x4) <| TL.mv (SV.v s1) <| TL.len (Rd.row 0 rfl) Tryz.underlying49 rfl rfl rfl <| TL.bn .i64 x4 (r_1.length : Int) (.bool (decide (x4 < (r_1.length : Int)))) <| TL.done ?_
   refine TC.join1 (σ := Str) (γ := Unit) (Γ' := (fun x5 _ => [(6, SV.v s1), (8, SV.v s2), (11, .int .i64 r_6), (13, .int .i64 r_8), (14, SV.v s4), (15, .int .i64 x4), (16, strv x5), (17, strv r_10)])) (L' := (fun x5 _ => [row Es 9 s1 r_1, row Es 9 s2 r_3, row Es 9 s4 x3])) ?_ ?_
   ·refine TC.cond (b := (decide (x4 < (r_1.length : Int)))) rfl (fun c9 => ?_) (fun c10 => ?_)
    ·refine TC.region <| TL.mv (SV.v s1) <| TL.mv (.int .i64 x4) ?_
     refine TL.chk fun h1 => ?_
     refine TL.ixs x4 x4.toNat (Rd.row 0 rfl) h1 Tryz.underlying49 Tryz.sizeOf9 rfl rfl rfl rfl (by omega) ?_
     refine TL.loadE (Rd.row 0 rfl) Tryz.isAgg9 x4.toNat 0 (gt_spec h1) (v := strv (gt r_1 x4)) rfl (by simp only [show Es.sz = 1 from rfl] <;> omega) rfl rfl rfl ?_
     exact TL.as (strv (gt r_1 x4)) <| TL.done <| TC.nrm ((gt r_1 x4)) (()) ⟨rfl, rfl, rfl, rfl, rfl, rfl, rfl, rfl, trivial⟩ [0, 0, 0] rfl
    exact TC.skip <| TC.nrm (r_9) (()) ⟨rfl, rfl, rfl, rfl, rfl, rfl, rfl, rfl, trivial⟩ [0, 0, 0] rfl
   rintro x5 _
   refine TC.seq <| TC.seq <| TC.region <| TL.mv (.int .i64 x4) <| TL.mv (SV.v s2) <| TL.len (Rd.row 1 rfl) Tryz.underlying49 rfl rfl rfl ?_
   refine TL.bn .i64 x4 (r_3.length : Int) (.bool (decide (x4 < (r_3.length : Int)))) <| TL.done ?_
   refine TC.join1 (σ := Str) (γ := Unit) (Γ' := (fun x6 _ => [(6, SV.v s1), (8, SV.v s2), (11, .int .i64 r_6), (13, .int .i64 r_8), (14, SV.v s4), (15, .int .i64 x4), (16, strv x5), (17, strv x6)])) (L' := (fun x6 _ => [row Es 9 s1 r_1, row Es 9 s2 r_3, row Es 9 s4 x3])) ?_ ?_
   ·refine TC.cond (b := (decide (x4 < (r_3.length : Int)))) rfl (fun c11 => ?_) (fun c12 => ?_)
    ·refine TC.region <| TL.mv (SV.v s2) <| TL.mv (.int .i64 x4) ?_
     refine TL.chk fun h2 => ?_
     refine TL.ixs x4 x4.toNat (Rd.row 1 rfl) h2 Tryz.underlying49 Tryz.sizeOf9 rfl rfl rfl rfl (by omega) ?_
     refine TL.loadE (Rd.row 1 rfl) Tryz.isAgg9 x4.toNat 0 (gt_spec h2) (v := strv (gt r_3 x4)) rfl (by simp only [show Es.sz = 1 from rfl] <;> omega) rfl rfl rfl ?_
     exact TL.as (strv (gt r_3 x4)) <| TL.done <| TC.nrm ((gt r_3 x4)) (()) ⟨rfl, rfl, rfl, rfl, rfl, rfl, rfl, rfl, trivial⟩ [0, 0, 0] rfl
    exact TC.skip <| TC.nrm (r_10) (()) ⟨rfl, rfl, rfl, rfl, rfl, rfl, rfl, rfl, trivial⟩ [0, 0, 0] rfl
   rintro x6 _
   refine TC.region <| TL.mv (SV.v s4) <| TL.mv (strv x5) <| TL.mv (strv x6) ?_
   refine TL.tall fun h3 => ?_
   refine TL.catT x5 x6 h3 rfl rfl rfl rfl ?_
   refine TL.blit Es ([(x5 ++ x6)] : List Str) Tryz.underlying49 Tryz.sizeOf9 Tryz.zeroValue9 rfl rfl rfl [(0, strv (x5 ++ x6))] rfl ⟨rfl, rfl, trivial⟩ rfl rfl fun s5 => ?_
   refine TL.small fun h4 => ?_
   refine TL.append 3 rfl (Rd.row 0 rfl) Tryz.underlying49 (info_of Tryz.type9) (zv := (Tryz.t9.zero.getD (.bool false))) rfl rfl rfl (by decide) h4 rfl rfl rfl rfl fun s6 => ?_
   refine TL.as (SV.v s6) <| TL.done <| TC.region <| TL.mv (.int .i64 x4) <| TL.bn .i64 x4 1 (.int .i64 (w64 (x4 + 1))) <| TL.as (.int .i64 (w64 (x4 + 1))) ?_
   refine TL.done ?_
   exact TC.next1 (((x3 ++ ([(x5 ++ x6)] : List Str)), (w64 (x4 + 1)))) (s6) ⟨rfl, rfl, rfl, rfl, rfl, rfl, trivial⟩ [1, 1, 1] rfl
  exact TC.brk1 ((x3, x4)) (s4) ⟨rfl, rfl, rfl, rfl, rfl, rfl, trivial⟩ [0, 0, 0] rfl
 rintro ⟨x3, x4⟩ s4
 refine TC.seq <| TC.region <| TL.mv (SV.v s4) ?_
 refine TL.call (R := G.spec_l04Joined.R) Tryz.call43 rfl rfl rfl (fun w hS => G.spec_l04Joined.calls w s4 x3 ((Rd.row 2 rfl) w hS)) ?_
 rintro r_11 _ _ ⟨rfl, rfl⟩
 refine TL.call (R := G.spec_l04Told.R) Tryz.call47 rfl rfl rfl (fun w hS => G.spec_l04Told.calls w r_11) ?_
 rintro ⟨r_12, r_13⟩ _ _ ⟨rfl, rfl⟩
 refine TL.mv (.tuple #[strv r_12, .int .i64 r_13]) <| TL.extract rfl rfl rfl (v := strv r_12) rfl <| TL.extract rfl rfl rfl (v := .int .i64 r_13) rfl <| TL.as (strv r_12) <| TL.as (.int .i64 r_13) <| TL.done ?_
 refine TC.seq <| TC.region <| TL.mv (strv r_12) <| TL.mv (.int .i64 r_13) <| TL.as (strv r_12) <| TL.as (.int .i64 r_13) ?_
 exact TL.done <| TC.retF (Fin.body (fin2 (.inr rfl) rfl (.tmp rfl) (.tmp rfl) [] rfl ⟨rfl, rfl⟩))
end Go.Proofs.YtpejnjpckacciaaGreatDoor.G
