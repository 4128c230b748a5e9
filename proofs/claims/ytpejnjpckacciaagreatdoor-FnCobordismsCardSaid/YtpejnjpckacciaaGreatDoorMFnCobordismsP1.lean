/- Plain laws. -/
import Derived.Test.YtpejnjpckacciaaGreatDoorMFnCobordisms11
set_option linter.unusedVariables false
namespace Go.Proofs.YtpejnjpckacciaaGreatDoor.G
def stp (x : Nat) : Nat := (6364136223846793005 * x + 1442695040888963407) % 18446744073709551616
def itn (f : Nat → Nat) : Nat → Nat → Nat
  | 0, x => x
  | n + 1, x => itn f n (f x)
def pw : Nat → Nat × Nat
  | 0 => (6364136223846793005, 1442695040888963407)
  | k + 1 => ((pw k).1 * (pw k).1 % 144115188075855872, ((pw k).1 * (pw k).2 + (pw k).2) % 144115188075855872)
theorem itn_succ (f : Nat → Nat) (n x : Nat) : itn f (n + 1) x = itn f n (f x) := rfl
theorem itn_add (f : Nat → Nat) : ∀ (m n x : Nat), itn f (m + n) x = itn f n (itn f m x)
 | 0, n, x => by rw [Nat.zero_add]; rfl
 | m + 1, n, x => by rw [Nat.add_right_comm, itn_succ, itn_add f m n, itn_succ]
theorem stp_mod (x : Nat) : stp x % 144115188075855872 = (6364136223846793005 * x + 1442695040888963407) % 144115188075855872 := by
 unfold stp
 exact Nat.mod_mod_of_dvd _ ⟨128, rfl⟩
theorem itn_pw (f : Nat → Nat) (hf : ∀ x, f x % 144115188075855872 = (6364136223846793005 * x + 1442695040888963407) % 144115188075855872) : ∀ (k x : Nat), itn f (2 ^ k) x % 144115188075855872 = ((pw k).1 * x + (pw k).2) % 144115188075855872
 | 0, x => hf x
 | k + 1, x => by
  have e : 2 ^ (k + 1) = 2 ^ k + 2 ^ k := by rw [Nat.pow_succ]; omega
  have ih := itn_pw f hf k
  rw [e, itn_add, ih (itn f (2 ^ k) x)]
  have h1 : ((pw k).1 * itn f (2 ^ k) x + (pw k).2) % 144115188075855872 = ((pw k).1 * ((pw k).1 * x + (pw k).2) + (pw k).2) % 144115188075855872 := by
   rw [Nat.add_mod, Nat.mul_mod, ih x, ← Nat.mul_mod, ← Nat.add_mod]
  rw [h1, pw]
  generalize (pw k).1 = a
  generalize (pw k).2 = c
  generalize 144115188075855872 = M
  have h2 : ((a * a % M) * x + (a * c + c) % M) % M = (a * a * x + (a * c + c)) % M := by
   rw [Nat.add_mod, Nat.mul_mod, Nat.mod_mod, Nat.mod_mod, ← Nat.mul_mod, ← Nat.add_mod]
  rw [h2, Nat.mul_add, Nat.mul_assoc, Nat.add_assoc]
theorem pw_step {k a c a' c' : Nat} (h : pw k = (a, c)) (ha : a * a % 144115188075855872 = a') (hc : (a * c + c) % 144115188075855872 = c') : pw (k + 1) = (a', c') := by
 rw [pw, h, ← ha, ← hc]
theorem pw33 : pw 33 = (67174422380806145, 49176800013582336) := by
 have h0 : pw 0 = (6364136223846793005, 1442695040888963407) := rfl
 have h1 : pw 1 = (26907944365829609, 2513558822350130) := pw_step h0 (by decide) (by decide)
 have h2 : pw 2 = (93795916333628945, 51258035923884468) := pw_step h1 (by decide) (by decide)
 have h3 : pw 3 = (116489267882048801, 81477721053882024) := pw_step h2 (by decide) (by decide)
 have h4 : pw 4 = (98566667069210177, 44106070908971600) := pw_step h3 (by decide) (by decide)
 have h5 : pw 5 = (20294252598168705, 117428531195103392) := pw_step h4 (by decide) (by decide)
 have h6 : pw 6 = (10673781576915201, 87064468879466816) := pw_step h5 (by decide) (by decide)
 have h7 : pw 7 = (108315138994188801, 141109832899625600) := pw_step h6 (by decide) (by decide)
 have h8 : pw 8 = (2126514927395841, 77485359592965376) := pw_step h7 (by decide) (by decide)
 have h9 : pw 9 = (115628284586674177, 32836076315740672) := pw_step h8 (by decide) (by decide)
 have h10 : pw 10 = (5666581573898241, 72267226107614208) := pw_step h9 (by decide) (by decide)
 have h11 : pw 11 = (68145684617568257, 47208048633587712) := pw_step h10 (by decide) (by decide)
 have h12 : pw 12 = (44017053890658305, 120404064930385920) := pw_step h11 (by decide) (by decide)
 have h13 : pw 13 = (132865590865723393, 61414204768296960) := pw_step h12 (by decide) (by decide)
 have h14 : pw 14 = (117578570852270081, 119869296523427840) := pw_step h13 (by decide) (by decide)
 have h15 : pw 15 = (49137302046375937, 36112128737968128) := pw_step h14 (by decide) (by decide)
 have h16 : pw 16 = (12846690963030017, 29241311404294144) := pw_step h15 (by decide) (by decide)
 have h17 : pw 17 = (53276898851553281, 5896228647337984) := pw_step h16 (by decide) (by decide)
 have h18 : pw 18 = (715083291295745, 35634061272940544) := pw_step h17 (by decide) (by decide)
 have h19 : pw 19 = (10420873162915841, 22519350383083520) := pw_step h18 (by decide) (by decide)
 have h20 : pw 20 = (56804572647129089, 138273988266688512) := pw_step h19 (by decide) (by decide)
 have h21 : pw 21 = (113345262503591937, 73028374232039424) := pw_step h20 (by decide) (by decide)
 have h22 : pw 22 = (81519805768663041, 52554279638007808) := pw_step h21 (by decide) (by decide)
 have h23 : pw 23 = (14702298810810369, 19329060123443200) := pw_step h22 (by decide) (by decide)
 have h24 : pw 24 = (12516099018981377, 127885687864164352) := pw_step h23 (by decide) (by decide)
 have h25 : pw 25 = (101593391703261185, 36220893894017024) := pw_step h24 (by decide) (by decide)
 have h26 : pw 26 = (77085993840148481, 58930988905922560) := pw_step h25 (by decide) (by decide)
 have h27 : pw 27 = (82114393642369025, 63818782283399168) := pw_step h26 (by decide) (by decide)
 have h28 : pw 28 = (20113599208882177, 55579970528870400) := pw_step h27 (by decide) (by decide)
 have h29 : pw 29 = (40227198417764353, 111159941057740800) := pw_step h28 (by decide) (by decide)
 have h30 : pw 30 = (80454396835528705, 78204694039625728) := pw_step h29 (by decide) (by decide)
 have h31 : pw 31 = (16793605595201537, 12294200003395584) := pw_step h30 (by decide) (by decide)
 have h32 : pw 32 = (33587211190403073, 24588400006791168) := pw_step h31 (by decide) (by decide)
 have h33 : pw 33 = (67174422380806145, 49176800013582336) := pw_step h32 (by decide) (by decide)
 exact h33
theorem pw21 : pw 21 = (113345262503591937, 73028374232039424) := by
 have h0 : pw 0 = (6364136223846793005, 1442695040888963407) := rfl
 have h1 : pw 1 = (26907944365829609, 2513558822350130) := pw_step h0 (by decide) (by decide)
 have h2 : pw 2 = (93795916333628945, 51258035923884468) := pw_step h1 (by decide) (by decide)
 have h3 : pw 3 = (116489267882048801, 81477721053882024) := pw_step h2 (by decide) (by decide)
 have h4 : pw 4 = (98566667069210177, 44106070908971600) := pw_step h3 (by decide) (by decide)
 have h5 : pw 5 = (20294252598168705, 117428531195103392) := pw_step h4 (by decide) (by decide)
 have h6 : pw 6 = (10673781576915201, 87064468879466816) := pw_step h5 (by decide) (by decide)
 have h7 : pw 7 = (108315138994188801, 141109832899625600) := pw_step h6 (by decide) (by decide)
 have h8 : pw 8 = (2126514927395841, 77485359592965376) := pw_step h7 (by decide) (by decide)
 have h9 : pw 9 = (115628284586674177, 32836076315740672) := pw_step h8 (by decide) (by decide)
 have h10 : pw 10 = (5666581573898241, 72267226107614208) := pw_step h9 (by decide) (by decide)
 have h11 : pw 11 = (68145684617568257, 47208048633587712) := pw_step h10 (by decide) (by decide)
 have h12 : pw 12 = (44017053890658305, 120404064930385920) := pw_step h11 (by decide) (by decide)
 have h13 : pw 13 = (132865590865723393, 61414204768296960) := pw_step h12 (by decide) (by decide)
 have h14 : pw 14 = (117578570852270081, 119869296523427840) := pw_step h13 (by decide) (by decide)
 have h15 : pw 15 = (49137302046375937, 36112128737968128) := pw_step h14 (by decide) (by decide)
 have h16 : pw 16 = (12846690963030017, 29241311404294144) := pw_step h15 (by decide) (by decide)
 have h17 : pw 17 = (53276898851553281, 5896228647337984) := pw_step h16 (by decide) (by decide)
 have h18 : pw 18 = (715083291295745, 35634061272940544) := pw_step h17 (by decide) (by decide)
 have h19 : pw 19 = (10420873162915841, 22519350383083520) := pw_step h18 (by decide) (by decide)
 have h20 : pw 20 = (56804572647129089, 138273988266688512) := pw_step h19 (by decide) (by decide)
 have h21 : pw 21 = (113345262503591937, 73028374232039424) := pw_step h20 (by decide) (by decide)
 exact h21
def ox (x : Nat) : Nat := x / 8589934592 % 16777216
def dx (x : Nat) : Nat := (7820132 * x + 5724933) % 16777216
theorem a33 (x : Nat) : 67174422380806145 * x + 49176800013582336 = x + 8589934592 * (7820132 * x + 5724933) := by omega
theorem a21 (x : Nat) : 113345262503591937 * x + 73028374232039424 = x + 2097152 * (2 * (27023616434 * x + 17411321218) + 1) := by omega
theorem o33 {y x E : Nat} (h : y % 144115188075855872 = (x + 8589934592 * E) % 144115188075855872) : y / 8589934592 % 16777216 = (x / 8589934592 % 16777216 + E % 16777216) % 16777216 := by
 have h1 : y / 8589934592 % 16777216 = y % 144115188075855872 / 8589934592 := by omega
 have h2 : (x + 8589934592 * E) % 144115188075855872 / 8589934592 = (x + 8589934592 * E) / 8589934592 % 16777216 := by omega
 have h3 : (x + 8589934592 * E) / 8589934592 = x / 8589934592 + E := by omega
 rw [h1, h, h2, h3, Nat.add_mod]
theorem m33 {y x E : Nat} (h : y % 144115188075855872 = (x + 8589934592 * E) % 144115188075855872) : y % 4194304 = x % 4194304 := by
 have h1 : y % 4194304 = y % 144115188075855872 % 4194304 := (Nat.mod_mod_of_dvd _ ⟨34359738368, rfl⟩).symm
 have h2 : (x + 8589934592 * E) % 144115188075855872 % 4194304 = (x + 8589934592 * E) % 4194304 := Nat.mod_mod_of_dvd _ ⟨34359738368, rfl⟩
 rw [h1, h, h2]
 omega
theorem m21 {y x E : Nat} (h : y % 144115188075855872 = (x + 2097152 * (2 * E + 1)) % 144115188075855872) : y % 4194304 = (x + 2097152) % 4194304 := by
 have h1 : y % 4194304 = y % 144115188075855872 % 4194304 := (Nat.mod_mod_of_dvd _ ⟨34359738368, rfl⟩).symm
 have h2 : (x + 2097152 * (2 * E + 1)) % 144115188075855872 % 4194304 = (x + 2097152 * (2 * E + 1)) % 4194304 := Nat.mod_mod_of_dvd _ ⟨34359738368, rfl⟩
 rw [h1, h, h2]
 omega
theorem dxm (x : Nat) : dx x = (4 * (1955033 * (x % 4194304)) + 5724933) % 16777216 := by
 unfold dx
 have e : x = 4194304 * (x / 4194304) + x % 4194304 := (Nat.div_add_mod _ _).symm
 generalize x / 4194304 = q at e
 generalize x % 4194304 = r at e ⊢
 subst e
 have : 7820132 * (4194304 * q + r) + 5724933 = (4 * (1955033 * r) + 5724933) + 16777216 * (1955033 * q) := by omega
 rw [this, Nat.add_mul_mod_self_left]
theorem fiv1 {p q d : Nat} (hd : d < 16777216) (hp : p < 16777216) (hq : q = (p + d) % 16777216) : q < 16777216 ∧ (q = p + d ∨ q + 16777216 = p + d) := by
 by_cases h : p + d < 16777216
 ·rw [Nat.mod_eq_of_lt h] at hq
  exact ⟨hq ▸ h, .inl hq⟩
 have e : p + d = (p + d - 16777216) + 16777216 := by omega
 rw [e, Nat.add_mod_right, Nat.mod_eq_of_lt (by omega)] at hq
 exact ⟨by omega, .inr (by omega)⟩
theorem fiv2 {p q d : Nat} (g : p % 7 = 6) (g' : q % 7 = 6) (h : q = p + d ∨ q + 16777216 = p + d) : d % 7 = 0 ∧ q = p + d ∨ d % 7 = 1 ∧ q + 16777216 = p + d := by
 rcases h with h | h
 ·exact .inl ⟨by omega, h⟩
 exact .inr ⟨by omega, h⟩
theorem fiv3 {p q d : Nat} (z : d % 7 = 0) (h : d % 7 = 0 ∧ q = p + d ∨ d % 7 = 1 ∧ q + 16777216 = p + d) : q = p + d := by
 rcases h with ⟨_, h⟩ | ⟨h, _⟩
 ·exact h
 rw [h] at z; cases z
theorem fiv4 {p q d : Nat} (z : d % 7 = 1) (h : d % 7 = 0 ∧ q = p + d ∨ d % 7 = 1 ∧ q + 16777216 = p + d) : q + 16777216 = p + d := by
 rcases h with ⟨h, _⟩ | ⟨_, h⟩
 ·rw [h] at z; cases z
 exact h
theorem five {x0 x1 x2 x3 x4 d : Nat} (hx : x0 < 16777216) (hd : d < 16777216) (h1 : x1 = (x0 + d) % 16777216) (h2 : x2 = (x1 + d) % 16777216) (h3 : x3 = (x2 + d) % 16777216) (h4 : x4 = (x3 + d) % 16777216)
  (g0 : x0 % 7 = 6) (g1 : x1 % 7 = 6) (g2 : x2 % 7 = 6) (g3 : x3 % 7 = 6) (g4 : x4 % 7 = 6) : d < 4194304 ∨ 16777216 < d + 4194304 := by
 obtain ⟨b1, w1⟩ := fiv1 hd hx h1
 obtain ⟨b2, w2⟩ := fiv1 hd b1 h2
 obtain ⟨b3, w3⟩ := fiv1 hd b2 h3
 obtain ⟨b4, w4⟩ := fiv1 hd b3 h4
 have w1 := fiv2 g0 g1 w1
 have w2 := fiv2 g1 g2 w2
 have w3 := fiv2 g2 g3 w3
 have w4 := fiv2 g3 g4 w4
 clear h1 h2 h3 h4 g0 g1 g2 g3 g4
 rcases w1 with ⟨z, w1⟩ | ⟨z, w1⟩
 ·have e2 := fiv3 z w2
  have e3 := fiv3 z w3
  have e4 := fiv3 z w4
  clear w2 w3 w4 z
  left; omega
 have e2 := fiv4 z w2
 have e3 := fiv4 z w3
 have e4 := fiv4 z w4
 clear w2 w3 w4 z
 right; omega
def nou (x : Nat) : Bool := ox x % 7 != 6
section
variable {f : Nat → Nat} {b33 b21 : Nat} (h33 : ∀ x, itn f b33 x % 144115188075855872 = (67174422380806145 * x + 49176800013582336) % 144115188075855872)
  (h21 : ∀ x, itn f b21 x % 144115188075855872 = (113345262503591937 * x + 73028374232039424) % 144115188075855872)
include h33 in
theorem ox33 (x : Nat) : ox (itn f b33 x) = (ox x + dx x) % 16777216 := o33 (by rw [h33, a33])
include h33 in
theorem dx33 (x : Nat) : dx (itn f b33 x) = dx x := by
 rw [dxm, dxm, m33 (E := 7820132 * x + 5724933) (by rw [h33, a33])]
include h21 in
theorem dx21 (x : Nat) : dx (itn f b21 x) = (dx x + 8388608) % 16777216 := by
 rw [dxm, dxm, m21 (x := x) (E := 27023616434 * x + 17411321218) (by rw [h21, a21])]
 have h : (x + 2097152) % 4194304 = x % 4194304 + 2097152 ∨ (x + 2097152) % 4194304 + 2097152 = x % 4194304 := by omega
 generalize (x + 2097152) % 4194304 = u at h
 generalize x % 4194304 = v at h
 rcases h with h | h
 ·subst h
  have e : 4 * (1955033 * (v + 2097152)) + 5724933 = (4 * (1955033 * v) + 5724933) + 8388608 + 16777216 * 977516 := by omega
  rw [e, Nat.add_mul_mod_self_left, Nat.add_mod, ← Nat.mod_add_mod, Nat.mod_mod]
 subst h
 have e : (4 * (1955033 * (u + 2097152)) + 5724933) + 8388608 = (4 * (1955033 * u) + 5724933) + 16777216 * 977517 := by omega
 rw [Nat.mod_add_mod, e, Nat.add_mul_mod_self_left]
include h33 in
theorem one_five (x : Nat) (h0 : nou x = false) (h1 : nou (itn f b33 x) = false) (h2 : nou (itn f (b33 + b33) x) = false) (h3 : nou (itn f (b33 + (b33 + b33)) x) = false) (h4 : nou (itn f (b33 + (b33 + (b33 + b33))) x) = false) :
  dx x < 4194304 ∨ 16777216 < dx x + 4194304 := by
 simp only [nou, bne_eq_false_iff_eq, itn_add] at h0 h1 h2 h3 h4
 have e1 := ox33 h33 x
 have e2 := ox33 h33 (itn f b33 x)
 have e3 := ox33 h33 (itn f b33 (itn f b33 x))
 have e4 := ox33 h33 (itn f b33 (itn f b33 (itn f b33 x)))
 simp only [dx33 h33] at e2 e3 e4
 exact five (Nat.mod_lt _ (by decide)) (Nat.mod_lt _ (by decide)) e1 e2 e3 e4 h0 h1 h2 h3 h4
include h33 h21 in
theorem some_off (x : Nat) : ∃ o ∈ [0, b33, b33 + b33, b33 + (b33 + b33), b33 + (b33 + (b33 + b33)), b21, b21 + b33, b21 + (b33 + b33), b21 + (b33 + (b33 + b33)), b21 + (b33 + (b33 + (b33 + b33)))], nou (itn f o x) = true := by
 refine Classical.byContradiction fun hn => ?_
 have hf : ∀ o ∈ [0, b33, b33 + b33, b33 + (b33 + b33), b33 + (b33 + (b33 + b33)), b21, b21 + b33, b21 + (b33 + b33), b21 + (b33 + (b33 + b33)), b21 + (b33 + (b33 + (b33 + b33)))], nou (itn f o x) = false := fun t ht => by
  cases h : nou (itn f t x) with
  | false => rfl
  | true => exact absurd ⟨t, ht, h⟩ hn
 have a := one_five h33 x (hf 0 (by simp)) (hf _ (by simp)) (hf _ (by simp)) (hf _ (by simp)) (hf _ (by simp))
 have b := one_five h33 (itn f b21 x) (hf b21 (by simp)) (by rw [← itn_add]; exact hf _ (by simp)) (by rw [← itn_add]; exact hf _ (by simp)) (by rw [← itn_add]; exact hf _ (by simp)) (by rw [← itn_add]; exact hf _ (by simp))
 rw [dx21 h21] at b
 have hd : dx x < 16777216 := Nat.mod_lt _ (by decide)
 generalize dx x = d at a b hd
 omega
end
theorem offsets : ∃ offs : List Nat, offs.length = 10 ∧ (∀ o ∈ offs, o ≤ 34361835520) ∧ ∀ x, ∃ o ∈ offs, nou (itn stp o x) = true := by
 have h33 : ∀ x, itn stp (2 ^ 33) x % 144115188075855872 = (67174422380806145 * x + 49176800013582336) % 144115188075855872 := fun x => by
  have := itn_pw stp stp_mod 33 x
  rw [pw33] at this
  exact this
 have h21 : ∀ x, itn stp (2 ^ 21) x % 144115188075855872 = (113345262503591937 * x + 73028374232039424) % 144115188075855872 := fun x => by
  have := itn_pw stp stp_mod 21 x
  rw [pw21] at this
  exact this
 have e33 : (2 : Nat) ^ 33 = 8589934592 := by decide
 have e21 : (2 : Nat) ^ 21 = 2097152 := by decide
 generalize (2 : Nat) ^ 33 = b33 at h33 e33
 generalize (2 : Nat) ^ 21 = b21 at h21 e21
 refine ⟨_, rfl, ?_, some_off h33 h21⟩
 intro o ho
 simp only [List.mem_cons, List.not_mem_nil, or_false] at ho
 omega
theorem count_shift (p : Nat → Bool) (o n B : Nat) (ho : o ≤ B) : (List.range n).countP (fun t => p (t + o)) ≤ (List.range (n + B)).countP p := by
 have e : (List.range n).countP (fun t => p (t + o)) = (List.range' o n).countP p := by
  have h1 : List.range' o n = (List.range n).map (fun t => t + o) := by
   rw [List.range'_eq_map_range]
   refine List.map_congr_left fun x _ => ?_
   omega
  rw [h1, List.countP_map]
  rfl
 rw [e]
 refine List.Sublist.countP_le ?_
 have h2 : List.range (n + B) = List.range' 0 o ++ (List.range' o n ++ List.range' (o + n) (B - o)) := by
  have h3 := List.range'_append_1 (s := o) (m := n) (n := B - o)
  have h4 := List.range'_append_1 (s := 0) (m := o) (n := n + (B - o))
  rw [Nat.zero_add, show o + (n + (B - o)) = n + B by omega] at h4
  rw [h3, h4, List.range_eq_range']
 rw [h2]
 exact (List.sublist_append_left _ _).trans (List.sublist_append_right _ _)
theorem count_many {offs : List Nat} {B : Nat} (hB : ∀ o ∈ offs, o ≤ B) (p : Nat → Bool) (hp : ∀ t, ∃ o ∈ offs, p (t + o) = true) (n : Nat) : n ≤ offs.length * (List.range (n + B)).countP p := by
 have h1 : n ≤ (offs.map fun o => (List.range n).countP (fun t => p (t + o))).sum := by
  have key : ∀ m, m ≤ (offs.map fun o => (List.range m).countP (fun t => p (t + o))).sum := by
   intro m
   induction m with
   | zero => exact Nat.zero_le _
   | succ m ih =>
    have hs : ∀ l : List Nat, (l.map fun o => (List.range (m + 1)).countP (fun t => p (t + o))).sum = (l.map fun o => (List.range m).countP (fun t => p (t + o))).sum + (l.map fun o => if p (m + o) then 1 else 0).sum := by
     intro l
     induction l with
     | nil => rfl
     | cons o l ihl =>
      simp only [List.map_cons, List.sum_cons, ihl]
      rw [List.range_succ, List.countP_append, List.countP_cons, List.countP_nil]
      omega
    rw [hs]
    have h1 : 1 ≤ (offs.map fun o => if p (m + o) then 1 else 0).sum := by
     obtain ⟨o, ho, hpo⟩ := hp m
     have : ∀ l : List Nat, o ∈ l → 1 ≤ (l.map fun o => if p (m + o) then 1 else 0).sum := by
      intro l
      induction l with
      | nil => intro h; cases h
      | cons a l ihl =>
       intro h
       rw [List.map_cons, List.sum_cons]
       rcases List.mem_cons.1 h with rfl | h
       ·rw [if_pos hpo]; omega
       have := ihl h; omega
     exact this offs ho
    omega
  exact key n
 have h2 : ∀ l : List Nat, (∀ o ∈ l, o ≤ B) → (l.map fun o => (List.range n).countP (fun t => p (t + o))).sum ≤ l.length * (List.range (n + B)).countP p := by
  intro l
  induction l with
  | nil => intro _; simp
  | cons o l ihl =>
   intro h
   have a := ihl (fun x hx => h x (by simp [hx]))
   have b := count_shift p o n B (h o (by simp))
   rw [List.map_cons, List.sum_cons, List.length_cons, Nat.succ_mul]
   omega
 exact Nat.le_trans h1 (h2 offs hB)
end Go.Proofs.YtpejnjpckacciaaGreatDoor.G
set_option linter.unusedVariables false
namespace Go.Proofs.YtpejnjpckacciaaGreatDoor.G
open Go Go.Sx Go.Proofs Go.Shelf
theorem index_ne {l : Str} (h : l.count 47 ≠ 0) : ∃ i : Nat, Lib.index l [47] = i ∧ i < l.length := by
 rcases index_ge0 47 l with h1 | h1
 ·exact absurd ((index_spl 47 l).1 h1).2 h
 obtain ⟨i, hi⟩ := Int.eq_ofNat_of_zero_le h1
 refine ⟨i, hi, ?_⟩
 have h2 := ((index_spl 47 l).2 i hi).2
 by_cases hl : i < l.length
 ·exact hl
 rw [List.drop_of_length_le (by omega)] at h2
 have h3 : l.count 47 = 1 := by simpa using h2
 exfalso
 have h4 := ((index_spl 47 l).2 i hi).1
 rw [List.take_of_length_le (by omega), List.drop_of_length_le (by omega)] at h4
 -- l holds a slash and yet is its own first piece
 have h5 : ∀ (l : Str) (t : List Str), spl 47 l = l :: t → l.count 47 = 0 := by
  intro l
  induction l with
  | nil => intro t _; rfl
  | cons x l ih =>
   intro t h
   unfold spl at h
   split at h
   ·injection h with h _; cases h
   rename_i hx
   split at h
   ·rename_i a b hs
    injection h with e1 e2
    injection e1 with e1 e3
    subst e3
    rw [List.count_cons, ih _ hs]
    have : (x == 47) = false := by rw [beq_eq_false_iff_ne]; exact hx
    rw [this]; rfl
   rename_i hs
   exact absurd hs (spl_ne 47 l)
 rw [h5 l _ h4] at h3
 cases h3
theorem grd_in {α : Type} {c : Bool} {k : Option α} (h : c = true) : grd c k = k := by subst h; rfl
theorem drop_take {α : Type} (l : List α) (k : Nat) : (l.drop k).take (l.length - k) = l.drop k := List.take_of_length_le (by simp)
theorem genSplit_eq {w : Str} (h1 : w.length < 4611686018427387000) (h2 : w.count 47 ≤ 1000000) : strings_genSplit.f w [47] 0 (-1) = some (spl 47 w) := by
 have hcl : w.count 47 ≤ w.length := List.count_le_length
 unfold strings_genSplit.f
 have e0 : ((-1 : Int) == 0) = false := rfl
 have e1 : (([47] : Str) == ([] : Str)) = false := rfl
 have e2 : decide ((-1 : Int) < 0) = true := rfl
 have e3 : strings_Count.f w [47] = some ((w.count 47 : Nat) : Int) := rfl
 have e4 : w64 (((w.count 47 : Nat) : Int) + 1) = ((w.count 47 + 1 : Nat) : Int) := w64_succ (by omega)
 have e5 : w64 ((w.length : Int) + 1) = ((w.length + 1 : Nat) : Int) := w64_succ (by omega)
 have e6 : (if ((w.length + 1 : Nat) : Int) < ((w.count 47 + 1 : Nat) : Int) then ((w.length + 1 : Nat) : Int) else ((w.count 47 + 1 : Nat) : Int)) = ((w.count 47 + 1 : Nat) : Int) := if_neg (by omega)
 rw [e0, e1, e2, e3]
 simp only [cond_false, cond_true, Option.bind_some, e4, e5, e6]
 have e7 : decide (0 ≤ ((w.count 47 + 1 : Nat) : Int)) = true := decide_eq_true (by omega)
 rw [e7]
 rw [grd_in rfl, Int.toNat_natCast, small_in (by omega)]
 obtain ⟨o, ho, hq⟩ := loop1_run (f := strings_genSplit.b0 w ((w.count 47 + 1 : Nat) : Int) [47] 0) (s := (w, List.replicate (w.count 47 + 1) ([] : Str), 0))
  (fun s => ∃ (k : Nat), s.2.2 = (k : Int) ∧ k + s.1.count 47 = w.count 47 ∧ s.2.1.length = w.count 47 + 1 ∧ s.1.length ≤ w.length ∧ spl 47 w = s.2.1.take k ++ spl 47 s.1)
  (fun s => w.count 47 - s.2.2.toNat)
  (fun s => s.2.2 = ((w.count 47 : Nat) : Int) ∧ s.2.1.length = w.count 47 + 1 ∧ spl 47 w = s.2.1.take (w.count 47) ++ [s.1]) (by
  rintro ⟨x6, l1, x7⟩ ⟨k, rfl, hk, hl, hx, hs⟩
  simp only at hk hl hx hs
  unfold strings_genSplit.b0
  simp only [e5, e6]
  have e8 : w64 (((w.count 47 + 1 : Nat) : Int) - 1) = ((w.count 47 : Nat) : Int) := w64_pred (by omega)
  rw [e8, dlt_nat]
  by_cases hlt : k < w.count 47
  ·left
   obtain ⟨i, hi, hil⟩ := index_ne (l := x6) (by omega)
   have hsp := (index_spl 47 x6).2 i hi
   rw [decide_eq_true hlt]
   have e9 : strings_Index.f x6 [47] = some (i : Int) := by show some (Lib.index x6 [47]) = _; rw [hi]
   rw [e9]
   simp only [cond_true, Option.bind_some]
   have a1 : decide ((i : Int) < 0) = false := decide_eq_false (by omega)
   have a2 : w64 ((i : Int) + 0) = (i : Int) := by rw [w64_in (by omega)]; omega
   have a3 : w64 ((i : Int) + ((([47] : Str).length : Nat) : Int)) = ((i + 1 : Nat) : Int) := w64_succ (by omega)
   rw [a1, a2, a3, w64_succ (by omega : k < _)]
   rw [cond_false, grd_in (by simp; omega), chk_in ⟨by omega, by omega⟩, grd_in (by simp; omega)]
   simp only [Int.toNat_natCast, drop_take]
   refine ⟨_, rfl, ⟨k + 1, rfl, ?_, by simpa using hl, by rw [List.length_drop]; omega, ?_⟩, by show w.count 47 - ((k + 1 : Nat) : Int).toNat < w.count 47 - (k : Int).toNat; omega⟩
   ·show k + 1 + (x6.drop (i + 1)).count 47 = _
    omega
   show spl 47 w = (l1.set k ((x6.drop 0).take (i - 0))).take (k + 1) ++ spl 47 (x6.drop (i + 1))
   rw [hs, hsp.1, List.take_add_one]
   have b1 : (l1.set k ((x6.drop 0).take (i - 0)))[k]? = some (x6.take i) := by rw [List.getElem?_set_self (by omega)]; simp
   rw [b1, List.take_set_of_le (Nat.le_refl _)]
   simp
  right
  rw [decide_eq_false hlt]
  have hke : k = w.count 47 := by omega
  subst hke
  refine ⟨_, rfl, rfl, hl, ?_⟩
  have hz : x6.count 47 = 0 := by omega
  have hsp : spl 47 x6 = [x6] := by
   rcases index_ge0 47 x6 with h1 | h1
   ·exact ((index_spl 47 x6).1 h1).1
   obtain ⟨i, hi⟩ := Int.eq_ofNat_of_zero_le h1
   have := ((index_spl 47 x6).2 i hi).2
   omega
  rw [hs, hsp]) ⟨0, rfl, by simp, by simp, Nat.le_refl _, by simp⟩ (by show w.count 47 - (0 : Int).toNat < _; omega)
 obtain ⟨x6, l1, x7⟩ := o
 obtain ⟨h5, h6, h7⟩ := hq
 simp only at h5 h6 h7
 have ho' : loop1 (strings_genSplit.b0 w ((w.count 47 + 1 : Nat) : Int) [47] 0) (w, List.replicate (w.count 47 + 1) ([] : Str), 0) = some (x6, l1, x7) := ho
 rw [ho']
 subst h5
 simp only [Option.bind_some, Int.toNat_natCast]
 rw [chk_in ⟨by omega, by omega⟩, w64_succ (by omega)]
 rw [grd_in (by simp; omega), Int.toNat_natCast]
 simp only [List.drop_zero, Nat.sub_zero]
 rw [List.take_add_one]
 have b1 : (l1.set (w.count 47) x6)[w.count 47]? = some x6 := List.getElem?_set_self (by omega)
 rw [b1, List.take_set_of_le (Nat.le_refl _), h7]
 rfl
def lays (w : Str) : List Str := if w = [] then [] else spl 47 w
theorem layers_eq {w : Str} (h1 : w.length < 4611686018427387000) (h2 : w.count 47 ≤ 1000000) : impl_layers.f w = some (lays w) := by
 unfold impl_layers.f strings_Split.f lays
 by_cases h : w = []
 ·subst h; rfl
 rw [beq_eq_false_iff_ne.2 h, cond_false, genSplit_eq h1 h2, if_neg h]; rfl
theorem spl_len (c : UInt8) : ∀ l : Str, (spl c l).length = l.count c + 1
 | [] => rfl
 | x :: l => by
  have ih := spl_len c l
  unfold spl
  by_cases hx : x = c
  ·subst hx
   rw [if_pos rfl, List.length_cons, ih, List.count_cons_self]
  have : (x :: l).count c = l.count c := by
   rw [List.count_cons]
   have : (x == c) = false := by rw [beq_eq_false_iff_ne]; exact hx
   rw [this]; rfl
  rw [if_neg hx, this]
  cases hs : spl c l with
  | nil => exact absurd hs (spl_ne c l)
  | cons a b => rw [hs] at ih; simpa using ih
def snoc1 (xs : List Str) (c : UInt8) : List Str := xs.dropLast ++ [xs.getLastD [] ++ [c]]
theorem spl_snoc (c x : UInt8) : ∀ l : Str, spl c (l ++ [x]) = if x = c then spl c l ++ [[]] else snoc1 (spl c l) x
 | [] => by
  by_cases h : x = c <;> simp [spl, h, snoc1]
 | y :: l => by
  have ih := spl_snoc c x l
  rw [List.cons_append, spl, spl, ih]
  have hne := spl_ne c l
  by_cases hy : y = c
  ·rw [if_pos hy, if_pos hy]
   by_cases h : x = c
   ·rw [if_pos h, if_pos h]; rfl
   rw [if_neg h, if_neg h]
   cases hs : spl c l with
   | nil => exact absurd hs hne
   | cons a b => simp [snoc1]
  rw [if_neg hy, if_neg hy]
  by_cases h : x = c
  ·rw [if_pos h, if_pos h]
   cases hs : spl c l with
   | nil => exact absurd hs hne
   | cons a b => simp
  rw [if_neg h, if_neg h]
  cases hs : spl c l with
  | nil => exact absurd hs hne
  | cons a b =>
   cases b with
   | nil => simp [snoc1]
   | cons b t => simp [snoc1]
theorem l01Split_eq {w : Str} (h1 : w.length < 4611686018427387000) (h2 : w.count 47 ≤ 1000000) : spec_l01Split.f w 47 = some (spl 47 w) := by
 unfold spec_l01Split.f
 obtain ⟨o, ho, hq⟩ := loop1_run (f := spec_l01Split.b0 w 47) (s := (([] : List Str), 0, 0))
  (fun s => ∃ (a i : Nat), s.2.1 = (a : Int) ∧ s.2.2 = (i : Int) ∧ a ≤ i ∧ i ≤ w.length ∧ s.1.length ≤ (w.take i).count 47 ∧ spl 47 (w.take i) = s.1 ++ [(w.take i).drop a])
  (fun s => w.length - s.2.2.toNat)
  (fun s => ∃ (a : Nat), s.2.1 = (a : Int) ∧ a ≤ w.length ∧ s.1.length ≤ w.count 47 ∧ spl 47 w = s.1 ++ [w.drop a]) (by
  rintro ⟨out, x1, x2⟩ ⟨a, i, rfl, rfl, hai, hi, hlen, hs⟩
  simp only at hlen hs
  unfold spec_l01Split.b0
  dsimp only
  rw [dlt_nat]
  by_cases hlt : i < w.length
  ·left
   rw [decide_eq_true hlt, cond_true, chk_in ⟨by omega, by omega⟩]
   have hg : w[i]? = some (gt w (i : Int)) := by have := gt_spec (ys := w) (i := (i : Int)) ⟨by omega, by omega⟩; simpa using this
   have ht : w.take (i + 1) = w.take i ++ [gt w (i : Int)] := by rw [List.take_add_one, hg]; rfl
   have hcl : (w.take i).count 47 ≤ w.count 47 := (List.take_sublist i w).count_le 47
   generalize gt w (i : Int) = c at hg ht ⊢
   rw [beq_nat]
   by_cases hc : c = 47
   ·subst hc
    rw [decide_eq_true rfl, cond_true, grd_in (by simp; omega), small_in (by simp; omega), Option.bind_some, w64_succ (by omega)]
    refine ⟨_, rfl, ⟨i + 1, i + 1, rfl, rfl, Nat.le_refl _, by omega, ?_, ?_⟩, by show w.length - ((i + 1 : Nat) : Int).toNat < w.length - (i : Int).toNat; omega⟩
    ·rw [ht, List.count_append]
     simp
     omega
    rw [ht, spl_snoc, if_pos rfl, hs]
    have e : (w.take i ++ [47]).drop (i + 1) = [] := List.drop_of_length_le (by simp; omega)
    rw [e]
    simp only [Int.toNat_natCast, List.drop_take]
   have hc2 : ¬ c.toNat = (47 : UInt8).toNat := fun e => hc (UInt8.toNat_inj.1 e)
   rw [decide_eq_false hc2, cond_false, Option.bind_some, w64_succ (by omega)]
   refine ⟨_, rfl, ⟨a, i + 1, rfl, rfl, by omega, by omega, ?_, ?_⟩, by show w.length - ((i + 1 : Nat) : Int).toNat < w.length - (i : Int).toNat; omega⟩
   ·rw [ht, List.count_append]
    show out.length ≤ _
    omega
   rw [ht, spl_snoc, if_neg hc, hs]
   unfold snoc1
   rw [List.dropLast_concat, List.drop_append_of_le_length (by rw [List.length_take]; omega)]
   simp
  right
  rw [decide_eq_false hlt]
  have : i = w.length := by omega
  subst this
  rw [List.take_length] at hs hlen
  exact ⟨_, rfl, a, rfl, by omega, hlen, hs⟩) ⟨0, 0, rfl, rfl, Nat.le_refl _, Nat.zero_le _, by simp, by simp [spl]⟩ (by show w.length - (0 : Int).toNat < _; omega)
 obtain ⟨out, x1, x2⟩ := o
 obtain ⟨a, h3, h4, h5, h6⟩ := hq
 simp only at h3 h5 h6
 subst h3
 rw [ho, Option.bind_some]
 simp only
 rw [grd_in (by simp; omega), small_in (by simp; omega), Int.toNat_natCast, drop_take, h6]
end Go.Proofs.YtpejnjpckacciaaGreatDoor.G
set_option linter.unusedVariables false
namespace Go.Proofs.YtpejnjpckacciaaGreatDoor.G
open Go Go.Sx Go.Proofs Go.Shelf
theorem beq_u8 (a b : UInt8) : ((a.toNat : Int) == (b.toNat : Int)) = decide (a = b) := by
 rw [beq_nat]
 have : (a.toNat = b.toNat) ↔ a = b := UInt8.toNat_inj
 simp only [this]
def lg (c : UInt8) : Option (Nat × Nat) := if c = 105 then some (1, 1) else if c = 120 then some (2, 2) else if c = 109 then some (2, 1) else if c = 115 then some (1, 2) else if c = 117 then some (0, 1) else if c = 101 then some (1, 0) else none
theorem lg_bound {c : UInt8} {a b : Nat} (h : lg c = some (a, b)) : a ≤ 2 ∧ b ≤ 2 ∧ 1 ≤ a + b := by
 unfold lg at h
 (repeat' split at h) <;> first | (injection h with h; injection h with h1 h2; omega) | cases h
theorem piece_eq (c : UInt8) : impl_legsOfPiece.f c = some (match lg c with | some (a, b) => ((a : Int), (b : Int), true) | none => (0, 0, false)) := by
 unfold impl_legsOfPiece.f lg
 simp only [beq_u8]
 by_cases h1 : c = 105
 ·subst h1; rfl
 by_cases h2 : c = 120
 ·subst h2; rfl
 by_cases h3 : c = 109
 ·subst h3; rfl
 by_cases h4 : c = 115
 ·subst h4; rfl
 by_cases h5 : c = 117
 ·subst h5; rfl
 by_cases h6 : c = 101
 ·subst h6; rfl
 simp only [h1, h2, h3, h4, h5, h6, decide_false, cond_false, if_false]
theorem legs_eq (c : UInt8) : spec_l04Legs.f c = impl_legsOfPiece.f c := rfl
def lgs : Str → Option (Nat × Nat)
  | [] => some (0, 0)
  | c :: l => match lg c, lgs l with
    | some (a, b), some (x, y) => some (a + x, b + y)
    | _, _ => none
theorem lgs_cons {c : UInt8} {l : Str} {a b x y : Nat} (h1 : lg c = some (a, b)) (h2 : lgs l = some (x, y)) : lgs (c :: l) = some (a + x, b + y) := by
 unfold lgs; rw [h1, h2]
theorem lgs_append {l r : Str} : ∀ {a b x y : Nat}, lgs l = some (a, b) → lgs r = some (x, y) → lgs (l ++ r) = some (a + x, b + y) := by
 induction l with
 | nil => intro a b x y h1 h2; injection h1 with h1; injection h1 with e1 e2; subst e1 e2; rw [List.nil_append, h2, Nat.zero_add, Nat.zero_add]
 | cons c l ih =>
  intro a b x y h1 h2
  unfold lgs at h1
  split at h1
  ·rename_i a1 b1 a2 b2 e1 e2
   injection h1 with h1; injection h1 with h3 h4
   rw [List.cons_append, lgs_cons e1 (ih e2 h2), ← h3, ← h4]
   congr 2 <;> omega
  cases h1
theorem lgs_bad {l r : Str} {c : UInt8} (h : lg c = none) : lgs (l ++ c :: r) = none := by
 induction l with
 | nil => rw [List.nil_append, lgs, h]
 | cons x l ih => rw [List.cons_append, lgs, ih]; split <;> first | rfl | (rename_i h; cases h)
theorem lgs_bound : ∀ {l : Str} {a b : Nat}, lgs l = some (a, b) → a ≤ 2 * l.length ∧ b ≤ 2 * l.length ∧ l.length ≤ a + b
 | [], a, b, h => by injection h with h; injection h with h1 h2; subst h1 h2; simp
 | c :: l, a, b, h => by
  unfold lgs at h
  split at h
  ·rename_i a1 b1 a2 b2 e1 e2
   injection h with h; injection h with h3 h4
   have i1 := lg_bound e1
   have i2 := lgs_bound e2
   rw [List.length_cons]
   omega
  cases h
def lv (s : Str) : Int × Int × Bool := match lgs s with
  | some (a, b) => (a, b, s != [])
  | none => (0, 0, false)
def lw (s : Str) : Int × Int × Bool := match lgs s with
  | some (a, b) => (a, b, decide ((s.length : Int) > 0) && decide ((a : Int) ≤ 6) && decide ((b : Int) ≤ 6))
  | none => (0, 0, false)
theorem legs_loop {s : Str} (h : s.length < 1000000000000000000) : loop (ρ := Int × Int × Bool) (impl_legsOfLayer.b0 s) (0, 0, 0) = some (match lgs s with | some (a, b) => .brk ((a : Int), (b : Int), (s.length : Int)) | none => .ret (0, 0, false)) := by
 obtain ⟨o, ho, hq⟩ := loop_run (f := impl_legsOfLayer.b0 s) (s := ((0 : Int), (0 : Int), (0 : Int)))
  (fun p => ∃ (a b i : Nat), p = ((a : Int), (b : Int), (i : Int)) ∧ i ≤ s.length ∧ lgs (s.take i) = some (a, b)) (fun p => s.length - p.2.2.toNat)
  (fun o => o = (match lgs s with | some (a, b) => .brk ((a : Int), (b : Int), (s.length : Int)) | none => .ret (0, 0, false))) (by
  rintro p ⟨a, b, i, rfl, hi, hl⟩
  unfold impl_legsOfLayer.b0
  dsimp only
  rw [dlt_nat]
  have hb := lgs_bound hl
  rw [List.length_take] at hb
  by_cases hlt : i < s.length
  ·rw [decide_eq_true hlt, cond_true, chk_in ⟨by omega, by omega⟩, piece_eq, Option.bind_some]
   have hg : s[i]? = some (gt s (i : Int)) := by have := gt_spec (ys := s) (i := (i : Int)) ⟨by omega, by omega⟩; simpa using this
   have ht : s.take (i + 1) = s.take i ++ [gt s (i : Int)] := by rw [List.take_add_one, hg]; rfl
   have hd : s = s.take i ++ gt s (i : Int) :: s.drop (i + 1) := by
    have e := (List.getElem?_eq_some_iff.1 hg).2
    conv => lhs; rw [← List.take_append_drop i s, List.drop_eq_getElem_cons hlt, e]
   generalize gt s (i : Int) = c at hg ht hd ⊢
   cases hc : lg c with
   | none =>
    refine .inr (.inr ⟨_, rfl, ?_⟩)
    rw [hd, lgs_bad hc]
   | some q =>
    obtain ⟨x, y⟩ := q
    have hq := lg_bound hc
    refine .inl ⟨_, rfl, ⟨a + x, b + y, i + 1, ?_, by omega, ?_⟩, ?_⟩
    ·dsimp only
     rw [w64_in (by omega), w64_in (by omega), w64_succ (by omega)]
     refine Prod.ext ?_ (Prod.ext ?_ rfl)
     ·show (a : Int) + x = ((a + x : Nat) : Int); omega
     show (b : Int) + y = ((b + y : Nat) : Int); omega
    ·rw [ht]
     have h0 : lgs [c] = some (x, y) := by rw [lgs, hc]; simp [lgs]
     exact lgs_append hl h0
    dsimp only
    rw [w64_succ (by omega)]
    show s.length - ((i + 1 : Nat) : Int).toNat < s.length - (i : Int).toNat
    omega
  rw [decide_eq_false hlt]
  have : i = s.length := by omega
  subst this
  rw [List.take_length] at hl
  refine .inr (.inl ⟨_, rfl, ?_⟩)
  rw [hl]) ⟨0, 0, 0, rfl, Nat.zero_le _, by simp [lgs]⟩ (by show s.length - (0 : Int).toNat < _; omega)
 rw [ho, hq]
theorem layer_eq {s : Str} (h : s.length < 1000000000000000000) : impl_legsOfLayer.f s = some (lv s) := by
 unfold impl_legsOfLayer.f lv
 rw [legs_loop h]
 cases lgs s with
 | none => rfl
 | some q => rfl
theorem layer_eq' {s : Str} (h : s.length < 1000000000000000000) : spec_l04Layer.f s = some (lw s) := by
 unfold spec_l04Layer.f lw
 have e : spec_l04Layer.b0 s = impl_legsOfLayer.b0 s := rfl
 rw [e, legs_loop h]
 cases lgs s with
 | none => rfl
 | some q => rfl
end Go.Proofs.YtpejnjpckacciaaGreatDoor.G
namespace Go.Proofs.YtpejnjpckacciaaGreatDoor.G
open Go Go.Sx Go.Proofs
def lz (n : Nat) (g : Nat → Nat) : List Int := (List.range n).map fun k => (g k : Int)
theorem lz_length (n : Nat) (g : Nat → Nat) : (lz n g).length = n := by simp [lz]
theorem lz_gt {n : Nat} (g : Nat → Nat) {k : Nat} (hk : k < n) : gt (lz n g) (k : Int) = (g k : Int) := by simp [gt, lz, List.getD, hk]
theorem lz_set {n : Nat} (g : Nat → Nat) {k v : Nat} (hk : k < n) : (lz n g).set k (v : Int) = lz n (fun x => if x = k then v else g x) := by
 apply List.ext_getElem?
 intro q
 simp only [lz, List.getElem?_set, List.length_map, List.length_range, List.getElem?_map]
 by_cases hq : q < n
 ·by_cases h : k = q
  ·subst h; simp [hk]
  have : ¬ q = k := fun e => h e.symm
  simp [hq, h, this]
 by_cases h : k = q
 ·omega
 simp [hq, h]
theorem lz_congr {n : Nat} {g h : Nat → Nat} (e : ∀ i, i < n → g i = h i) : lz n g = lz n h := by
 unfold lz
 refine List.map_congr_left fun i hi => ?_
 rw [e i (List.mem_range.1 hi)]
theorem lz_succ (n : Nat) (g : Nat → Nat) : lz (n + 1) g = lz n g ++ [(g n : Int)] := by simp [lz, List.range_succ]
end Go.Proofs.YtpejnjpckacciaaGreatDoor.G
namespace Go.Proofs.YtpejnjpckacciaaGreatDoor.G
open Go Go.Sx Go.Proofs
def rt (g : Nat → Nat) (i : Nat) : Nat := if g i < i then rt g (g i) else i
termination_by i
theorem rt_step {g : Nat → Nat} {i : Nat} (h : g i < i) : rt g i = rt g (g i) := by rw [rt, if_pos h]
theorem rt_stop {g : Nat → Nat} {i : Nat} (h : ¬ g i < i) : rt g i = i := by rw [rt, if_neg h]
theorem rt_le (g : Nat → Nat) : ∀ i, rt g i ≤ i := by
 intro i
 induction i using Nat.strongRecOn with
 | _ i ih =>
  by_cases h : g i < i
  ·rw [rt_step h]; have := ih (g i) h; omega
  rw [rt_stop h]; exact Nat.le_refl _
theorem rt_root (g : Nat → Nat) : ∀ i, ¬ g (rt g i) < rt g i := by
 intro i
 induction i using Nat.strongRecOn with
 | _ i ih =>
  by_cases h : g i < i
  ·rw [rt_step h]; exact ih (g i) h
  rw [rt_stop h]; exact h
theorem rt_rt (g : Nat → Nat) (i : Nat) : rt g (rt g i) = rt g i := rt_stop (rt_root g i)
def PoolOk (n : Nat) (g : Nat → Nat) : Prop := ∀ i, i < n → g i ≤ i
theorem find_eq' {n : Nat} {g : Nat → Nat} (hg : PoolOk n g) (hn : n ≤ 1000000) {i : Nat} (hi : i < n) : impl_pool_find.f (lz n g) i = some (rt g i : Int) := by
 unfold impl_pool_find.f
 obtain ⟨o, ho, hq⟩ := loop1_run (f := impl_pool_find.b0 (lz n g)) (fun s => ∃ j : Nat, s = (j : Int) ∧ j < n ∧ rt g j = rt g i) (fun s => s.toNat) (fun o => o = (rt g i : Int)) (by
  rintro s ⟨j, rfl, hj, hr⟩
  unfold impl_pool_find.b0
  rw [lz_length, chk_in (by omega), lz_gt g hj, bne_nat]
  have h1 := hg j hj
  by_cases h : g j = j
  ·right
   have h2 : rt g j = j := rt_stop (by omega)
   rw [decide_eq_true h]
   exact ⟨_, rfl, by rw [← hr, h2]⟩
  left
  have h2 : g j < j := by omega
  rw [decide_eq_false h]
  exact ⟨_, rfl, ⟨g j, rfl, by omega, by rw [← rt_step h2]; exact hr⟩, by simp; omega⟩) (i : Int) ⟨i, rfl, hi, rfl⟩ (by simp; omega)
 rw [ho, hq]; rfl
def jn2 (g : Nat → Nat) (i k : Nat) : Nat → Nat := fun x => if x = max (rt g i) (rt g k) then min (rt g i) (rt g k) else g x
theorem rt_jn (g : Nat → Nat) (hg : ∀ i, g i ≤ i) (i k : Nat) : ∀ x, rt (jn2 g i k) x = if rt g x = max (rt g i) (rt g k) then min (rt g i) (rt g k) else rt g x := by
 have ra : rt g (rt g i) = rt g i := rt_rt g i
 have rb : rt g (rt g k) = rt g k := rt_rt g k
 have rmx : rt g (max (rt g i) (rt g k)) = max (rt g i) (rt g k) := by
  rcases Nat.le_total (rt g i) (rt g k) with h | h
  ·rw [Nat.max_eq_right h]; exact rb
  rw [Nat.max_eq_left h]; exact ra
 have gmn : ¬ g (min (rt g i) (rt g k)) < min (rt g i) (rt g k) := by
  rcases Nat.le_total (rt g i) (rt g k) with h | h
  ·rw [Nat.min_eq_left h]; exact rt_root g i
  rw [Nat.min_eq_right h]; exact rt_root g k
 have hmm : min (rt g i) (rt g k) ≤ max (rt g i) (rt g k) := by omega
 intro x
 induction x using Nat.strongRecOn with
 | _ x ih =>
  by_cases hx : x = max (rt g i) (rt g k)
  ·subst hx
   rw [rmx, if_pos rfl]
   have e : jn2 g i k (max (rt g i) (rt g k)) = min (rt g i) (rt g k) := by simp [jn2]
   by_cases hlt : min (rt g i) (rt g k) < max (rt g i) (rt g k)
   ·rw [rt_step (by rw [e]; exact hlt), e]
    refine rt_stop ?_
    have : jn2 g i k (min (rt g i) (rt g k)) = g (min (rt g i) (rt g k)) := by
     unfold jn2; rw [if_neg (by omega)]
    rw [this]; exact gmn
   have : min (rt g i) (rt g k) = max (rt g i) (rt g k) := by omega
   rw [rt_stop (by rw [e]; exact hlt), this]
  have e : jn2 g i k x = g x := by unfold jn2; rw [if_neg hx]
  by_cases hlt : g x < x
  ·rw [rt_step (by rw [e]; exact hlt), e, ih (g x) hlt, rt_step hlt]
  rw [rt_stop (by rw [e]; exact hlt), rt_stop hlt, if_neg hx]
def Same (g f : Nat → Nat) : Prop := ∀ x y, rt g x = rt g y ↔ f x = f y
def jf (f : Nat → Nat) (i k : Nat) : Nat → Nat := fun x => if f x = f k then f i else f x
theorem Same.join {g f : Nat → Nat} (hg : ∀ i, g i ≤ i) (h : Same g f) (i k : Nat) : Same (jn2 g i k) (jf f i k) := by
 intro x y
 rw [rt_jn g hg, rt_jn g hg]
 unfold jf
 have a1 := h x y
 have a2 := h x i
 have a3 := h x k
 have a4 := h y i
 have a5 := h y k
 have a6 := h i k
 rcases Nat.le_total (rt g i) (rt g k) with hl | hl
 ·rw [Nat.max_eq_right hl, Nat.min_eq_left hl]
  split <;> split <;> split <;> split <;> omega
 rw [Nat.max_eq_left hl, Nat.min_eq_right hl]
 split <;> split <;> split <;> split <;> omega
theorem same_start : Same id id := fun x y => by rw [rt_stop (by simp), rt_stop (by simp)]; rfl
theorem join_impl {n : Nat} {g : Nat → Nat} (hg : ∀ i, g i ≤ i) (hn : n ≤ 1000000) {i k : Nat} (hi : i < n) (hk : k < n) : impl_pool_join.f (lz n g) i k = some (lz n (jn2 g i k)) := by
 unfold impl_pool_join.f
 rw [find_eq' (fun i _ => hg i) hn hi, find_eq' (fun i _ => hg i) hn hk]
 simp only [Option.bind_some]
 have h1 := rt_le g i
 have h2 := rt_le g k
 have e1 : (if (rt g k : Int) > (rt g i : Int) then (rt g k : Int) else (rt g i : Int)) = ((max (rt g i) (rt g k) : Nat) : Int) := by split <;> omega
 have e2 : (if (rt g k : Int) < (rt g i : Int) then (rt g k : Int) else (rt g i : Int)) = ((min (rt g i) (rt g k) : Nat) : Int) := by split <;> omega
 rw [e1, e2, lz_length, chk_in (by omega), Int.toNat_natCast, lz_set g (by omega)]
 rfl
theorem jn2_le {g : Nat → Nat} (hg : ∀ i, g i ≤ i) (i k x : Nat) : jn2 g i k x ≤ x := by
 unfold jn2
 have := hg x
 split <;> omega
theorem join_spec {n : Nat} {f : Nat → Nat} {e a : List Int} (hn : n ≤ 1000000) {i k : Nat} (hi : i < n) (hk : k < n) : spec_l04Join.f (lz n f) e a i k = some (lz n (jf f i k), e, a) := by
 unfold spec_l04Join.f
 rw [lz_length, chk_in (by omega), chk_in (by omega)]
 have hl := loop1_upto (f := spec_l04Join.b0 (lz n f) k i) (fun j => (lz n (fun x => if x < j then jf f i k x else f x), (j : Int))) n (lz n (jf f i k), (n : Int)) (by omega) (fun j hj => by
  unfold spec_l04Join.b0
  simp only [lz_length, dlt_nat, hj, decide_true, cond_true]
  rw [chk_in (by omega), lz_gt _ hj, lz_gt _ hk, lz_gt _ hi, if_neg (Nat.lt_irrefl j), beq_nat, w64_succ (by omega), Int.toNat_natCast]
  by_cases he : f j = f k
  ·rw [decide_eq_true he, cond_true, Option.bind_some, lz_set _ hj]
   congr 3
   refine lz_congr fun x hx => ?_
   by_cases hxj : x = j
   ·subst hxj; simp [he, jf]
   have : x < j ↔ x < j + 1 := by omega
   simp [hxj, this]
  ·rw [decide_eq_false he, cond_false, Option.bind_some]
   congr 3
   refine lz_congr fun x hx => ?_
   by_cases hxj : x = j
   ·subst hxj; simp [he, jf]
   have : x < j ↔ x < j + 1 := by omega
   simp [this]) (by
  unfold spec_l04Join.b0
  simp only [lz_length, dlt_nat, Nat.lt_irrefl, decide_false, cond_false]
  congr 3
  refine lz_congr fun x hx => ?_
  simp [hx])
 have e0 : lz n (fun x => if x < 0 then jf f i k x else f x) = lz n f := lz_congr fun x _ => by simp
 have hl' : loop1 (spec_l04Join.b0 (lz n f) k i) (lz n f, 0) = some (lz n (jf f i k), (n : Int)) := by rw [← e0]; rw [e0]; rw [← e0] at hl; rw [e0] at hl; exact e0 ▸ hl
 rw [hl']; rfl
end Go.Proofs.YtpejnjpckacciaaGreatDoor.G
set_option linter.unusedVariables false
namespace Go.Proofs.YtpejnjpckacciaaGreatDoor.G
open Go Go.Sx Go.Proofs Go.Shelf
def eul (c : UInt8) : Int := if c = 117 then 1 else if c = 101 then 1 else if c = 109 then -1 else if c = 115 then -1 else 0
theorem euler_eq (c : UInt8) : impl_euler.f c = some (eul c) := by
 unfold impl_euler.f eul
 simp only [beq_u8]
 by_cases h1 : c = 117
 ·subst h1; rfl
 by_cases h2 : c = 101
 ·subst h2; rfl
 by_cases h3 : c = 109
 ·subst h3; rfl
 by_cases h4 : c = 115
 ·subst h4; rfl
 simp only [h1, h2, h3, h4, decide_false, cond_false, Option.bind_some, if_false]
theorem euler_eq' (c : UInt8) : spec_l04Euler.f c = some (eul c) := euler_eq c
def il (l : List Nat) : List Int := List.map (fun x : Nat => (x : Int)) l
theorem il_length (l : List Nat) : (il l).length = l.length := by simp [il]
theorem il_append (l r : List Nat) : il (l ++ r) = il l ++ il r := by simp [il]
theorem il_gt {l : List Nat} {i : Nat} (h : i < l.length) : gt (il l) (i : Int) = ((l[i] : Nat) : Int) := by simp [gt, il, List.getD, h]
theorem il_cut (l : List Nat) (k a : Nat) : ((il l).drop k).take a = il ((l.drop k).take a) := by simp [il, List.map_take, List.map_drop]
structure Web where
  n : Nat
  g : Nat → Nat
  f : Nat → Nat
  el : List Int
  mp : List (Int × Int)
def Web.add (w : Web) (e : Int) : Web := { w with n := w.n + 1, el := w.el ++ [e], mp := mput w.mp (w.n : Int) e }
def Web.join (w : Web) (i k : Nat) : Web := { w with g := jn2 w.g i k, f := jf w.f i k }
def joins (w : Web) (own : Nat) (ks : List Nat) : Web := ks.foldl (fun w k => w.join own k) w
def letter (at_ : List Nat) (s : Web × List Nat × Nat) (c : UInt8) : Web × List Nat × Nat :=
  if c = 120 then (s.1, s.2.1 ++ [at_.getD (s.2.2 + 1) 0, at_.getD s.2.2 0], s.2.2 + 2)
  else match lg c with
    | none => s
    | some (a, b) => (joins (s.1.add (eul c)) s.1.n ((at_.drop s.2.2).take a), s.2.1 ++ List.replicate b s.1.n, s.2.2 + a)
structure WI (w : Web) : Prop where
  le : ∀ i, w.g i ≤ i
  gid : ∀ i, w.n ≤ i → w.g i = i
  fid : ∀ i, w.n ≤ i → w.f i = i
  flt : ∀ i, i < w.n → w.f i < w.n
  ff : ∀ i, w.f (w.f i) = w.f i
  same : Same w.g w.f
  ell : w.el.length = w.n
  mpe : ∀ i, i < w.n → mlook w.mp (i : Int) = gt w.el (i : Int)
  mpn : ∀ i : Nat, w.n ≤ i → Sx.look w.mp (i : Int) = none
  elb : ∀ e ∈ w.el, -1 ≤ e ∧ e ≤ 1
theorem look_none_append {l : List (Int × Int)} {k k' v : Int} (h : Sx.look l k = none) : Sx.look (l ++ [(k', v)]) k = if k' = k then some (l.length, v) else none := by
 induction l with
 | nil => simp [Sx.look]
 | cons p l ih =>
  obtain ⟨a, b⟩ := p
  unfold Sx.look at h
  split at h
  ·cases h
  rename_i hne
  cases hl : Sx.look l k with
  | none =>
   rw [List.cons_append, Sx.look, if_neg hne, ih hl]
   split <;> simp
  | some r => rw [hl] at h; cases h
theorem look_some_append {l : List (Int × Int)} {k k' v : Int} {r : Nat × Int} (h : Sx.look l k = some r) : Sx.look (l ++ [(k', v)]) k = some r := by
 induction l generalizing r with
 | nil => cases h
 | cons p l ih =>
  obtain ⟨a, b⟩ := p
  unfold Sx.look at h
  rw [List.cons_append, Sx.look]
  split at h
  ·rename_i he; rw [if_pos he]; exact h
  rename_i hne
  rw [if_neg hne]
  cases hl : Sx.look l k with
  | none => rw [hl] at h; cases h
  | some q => rw [hl] at h; rw [ih hl]; exact h
theorem eul_b (c : UInt8) : -1 ≤ eul c ∧ eul c ≤ 1 := by unfold eul; (repeat' split) <;> omega
theorem WI.add {w : Web} (h : WI w) (e : Int) (he : -1 ≤ e ∧ e ≤ 1) : WI (w.add e) where
 elb x hx := by
  rcases List.mem_append.1 hx with hx | hx
  ·exact h.elb x hx
  obtain rfl := List.mem_singleton.1 hx; exact he
 le := h.le
 gid i hi := h.gid i (by have : w.n + 1 ≤ i := hi; omega)
 fid i hi := h.fid i (by have : w.n + 1 ≤ i := hi; omega)
 flt i hi := by
  have hi : i < w.n + 1 := hi
  show w.f i < w.n + 1
  by_cases hl : i < w.n
  ·have := h.flt i hl; omega
  rw [h.fid i (by omega)]; omega
 ff := h.ff
 same := h.same
 ell := by show (w.el ++ [e]).length = w.n + 1; rw [List.length_append, h.ell]; rfl
 mpe i hi := by
  have hi : i < w.n + 1 := hi
  show mlook (mput w.mp (w.n : Int) e) (i : Int) = gt (w.el ++ [e]) (i : Int)
  have hn := h.mpn w.n (Nat.le_refl _)
  have e1 : mput w.mp (w.n : Int) e = w.mp ++ [((w.n : Int), e)] := by unfold mput; rw [hn]
  rw [e1]
  have h2 := h.ell
  by_cases hl : i < w.n
  ·have h1 := h.mpe i hl
   have e2 : gt (w.el ++ [e]) (i : Int) = gt w.el (i : Int) := by simp [gt, List.getD, List.getElem?_append_left (by omega : i < w.el.length)]
   rw [e2, ← h1]
   unfold mlook
   cases hk : Sx.look w.mp (i : Int) with
   | none => rw [look_none_append hk, if_neg (by omega)]
   | some r => rw [look_some_append hk]
  obtain rfl : i = w.n := by omega
  have e2 : gt (w.el ++ [e]) (w.n : Int) = e := by
   have : (w.el ++ [e])[w.n]? = some e := by rw [← h2]; simp
   simp [gt, List.getD, this]
  rw [e2]
  unfold mlook
  rw [look_none_append hn, if_pos rfl]
 mpn i hi := by
  have hi : w.n + 1 ≤ i := hi
  show Sx.look (mput w.mp (w.n : Int) e) (i : Int) = none
  have hn := h.mpn w.n (Nat.le_refl _)
  have e1 : mput w.mp (w.n : Int) e = w.mp ++ [((w.n : Int), e)] := by unfold mput; rw [hn]
  rw [e1, look_none_append (h.mpn i (by omega)), if_neg (by omega)]
theorem WI.join {w : Web} (h : WI w) {i k : Nat} (hi : i < w.n) (hk : k < w.n) : WI (w.join i k) where
 le := jn2_le h.le i k
 gid x hx := by
  show jn2 w.g i k x = x
  have hx : w.n ≤ x := hx
  have h1 := rt_le w.g i
  have h2 := rt_le w.g k
  unfold jn2
  rw [if_neg (by omega)]
  exact h.gid x hx
 fid x hx := by
  show jf w.f i k x = x
  have hx : w.n ≤ x := hx
  have h1 := h.flt k hk
  unfold jf
  rw [h.fid x hx, if_neg (by omega)]
 flt x hx := by
  show jf w.f i k x < w.n
  have h1 := h.flt x hx
  have h2 := h.flt i hi
  unfold jf
  split
  ·exact h2
  exact h1
 ff x := by
  show jf w.f i k (jf w.f i k x) = jf w.f i k x
  unfold jf
  by_cases hx : w.f x = w.f k
  ·rw [if_pos hx, h.ff i]
   by_cases hik : w.f i = w.f k
   ·rw [if_pos hik]
   rw [if_neg hik]
  rw [if_neg hx, h.ff x, if_neg hx]
 same := Same.join h.le h.same i k
 ell := h.ell
 mpe := h.mpe
 mpn := h.mpn
 elb := h.elb
theorem joins_n (own : Nat) : ∀ (ks : List Nat) (w : Web), (joins w own ks).n = w.n ∧ (joins w own ks).el = w.el ∧ (joins w own ks).mp = w.mp
 | [], w => ⟨rfl, rfl, rfl⟩
 | k :: ks, w => joins_n own ks (w.join own k)
theorem WI.joins {own : Nat} : ∀ {ks : List Nat} {w : Web}, WI w → own < w.n → (∀ k ∈ ks, k < w.n) → WI (joins w own ks)
 | [], w, h, _, _ => h
 | k :: ks, w, h, ho, hk => WI.joins (ks := ks) (w := w.join own k) (h.join ho (hk k (by simp))) ho (fun x hx => hk x (by simp [hx]))
theorem joins_take (w : Web) (own : Nat) {ks : List Nat} {j : Nat} (hj : j < ks.length) : joins w own (ks.take (j + 1)) = (joins w own (ks.take j)).join own ks[j] := by
 rw [List.take_add_one, List.getElem?_eq_getElem hj]
 unfold joins
 rw [List.foldl_append]
 rfl
section
variable {w : Web} {c : UInt8} {a b k i : Nat} {at_ nx : List Nat} {l : Str} (hw : WI w) (hn : w.n ≤ 10000) (hlg : lg c = some (a, b)) (hka : k + a ≤ at_.length) (hat : at_.length ≤ 1000) (hlt : ∀ x ∈ at_, x < w.n) (hnx : nx.length ≤ 1000) (hi : i < l.length) (hll : l.length ≤ 1000) (hc : gt l (i : Int) = c)
include hw hn hlg hka hat hlt hnx hi hll hc
theorem impl_letter : impl_tracer_layer.b1 l (il at_) (lz w.n w.g, w.mp, il nx, (k : Int), (i : Int)) =
  some (.next (lz (letter at_ (w, nx, k) c).1.n (letter at_ (w, nx, k) c).1.g, (letter at_ (w, nx, k) c).1.mp, il (letter at_ (w, nx, k) c).2.1, ((letter at_ (w, nx, k) c).2.2 : Int), ((i + 1 : Nat) : Int))) := by
 have hab := lg_bound hlg
 unfold impl_tracer_layer.b1
 dsimp only
 rw [dlt_nat, decide_eq_true hi, cond_true, chk_in ⟨by omega, by omega⟩, hc, piece_eq, hlg]
 dsimp only
 rw [Option.bind_some]
 dsimp only
 have e1 : w64 ((k : Int) + (a : Int)) = ((k + a : Nat) : Int) := by rw [w64_in (by omega)]; omega
 rw [e1, grd_in (by simp [il_length]; omega), beq_u8, il_length]
 have e2 : (((k + a : Nat) : Int).toNat - (k : Int).toNat) = a := by omega
 rw [e2, Int.toNat_natCast, il_cut, il_length]
 by_cases h120 : c = 120
 ·subst h120
  have hab2 : a = 2 ∧ b = 2 := by
   have : lg 120 = some (2, 2) := rfl
   rw [this] at hlg
   injection hlg with h; injection h with h1 h2
   exact ⟨h1.symm, h2.symm⟩
  obtain ⟨rfl, rfl⟩ := hab2
  have hl2 : ((at_.drop k).take 2).length = 2 := by simp; omega
  rw [decide_eq_true rfl, cond_true, hl2, chk_in ⟨by omega, by omega⟩, chk_in ⟨by omega, by omega⟩, small_in (by simp; omega)]
  simp only [Option.bind_some, jn]
  have g1 : gt (il ((at_.drop k).take 2)) 1 = ((at_.getD (k + 1) 0 : Nat) : Int) := by
   have := il_gt (l := (at_.drop k).take 2) (i := 1) (by omega)
   rw [show ((1 : Nat) : Int) = 1 from rfl] at this
   rw [this]
   have h : at_[k + 1]? = some at_[k + 1] := List.getElem?_eq_getElem (by omega)
   simp [List.getD, h]
  have g0 : gt (il ((at_.drop k).take 2)) 0 = ((at_.getD k 0 : Nat) : Int) := by
   have := il_gt (l := (at_.drop k).take 2) (i := 0) (by omega)
   rw [show ((0 : Nat) : Int) = 0 from rfl] at this
   rw [this]
   have h : at_[k]? = some at_[k] := List.getElem?_eq_getElem (by omega)
   simp [List.getD, h]
  rw [g1, g0, w64_succ (by omega)]
  have el : letter at_ (w, nx, k) 120 = (w, nx ++ [at_.getD (k + 1) 0, at_.getD k 0], k + 2) := by unfold letter; rw [if_pos rfl]
  rw [el]
  dsimp only
  rw [il_append]; rfl
 rw [decide_eq_false h120, cond_false]
 have el : letter at_ (w, nx, k) c = (joins (w.add (eul c)) w.n ((at_.drop k).take a), nx ++ List.replicate b w.n, k + a) := by unfold letter; rw [if_neg h120, hlg]
 rw [el]
 generalize hks : (at_.drop k).take a = ks
 have hkl : ks.length = a := by rw [← hks]; simp; omega
 have hkm : ∀ x ∈ ks, x < w.n := fun x hx => hlt x (List.mem_of_mem_drop (List.mem_of_mem_take (hks ▸ hx)))
 have hadd : impl_pool_add.f (lz w.n w.g) = some ((w.n : Int), lz (w.n + 1) w.g) := by
  unfold impl_pool_add.f
  rw [small_in (by simp [lz_length]; omega), lz_length]
  have : lz w.n w.g ++ [(w.n : Int)] = lz (w.n + 1) w.g := by rw [lz_succ, hw.gid w.n (Nat.le_refl _)]
  rw [this, lz_length, w64_pred (by omega)]
 rw [hadd, Option.bind_some]
 dsimp only
 rw [euler_eq, Option.bind_some]
 have hwa := hw.add (eul c) (eul_b c)
 have hl := loop1_upto (f := impl_tracer_layer.b0 (il at_) (k : Int) (a : Int) (w.n : Int)) (fun j => (lz (w.n + 1) (joins (w.add (eul c)) w.n (ks.take j)).g, (j : Int))) a (lz (w.n + 1) (joins (w.add (eul c)) w.n ks).g, (a : Int)) (by omega) (fun j hj => by
  unfold impl_tracer_layer.b0
  dsimp only
  rw [e1, e2, Int.toNat_natCast, il_cut, hks, il_length, hkl, dlt_nat, decide_eq_true hj, cond_true, chk_in ⟨by omega, by omega⟩, il_gt (by omega)]
  have hwj := hwa.joins (own := w.n) (ks := ks.take j) (by show w.n < w.n + 1; omega) (fun x hx => by have := hkm x (List.mem_of_mem_take hx); show x < w.n + 1; omega)
  have hkj := hkm ks[j] (List.getElem_mem (by omega))
  rw [join_impl hwj.le (by omega) (by omega) (by omega), Option.bind_some, w64_succ (by omega), joins_take _ _ (by omega)]
  rfl) (by
  unfold impl_tracer_layer.b0
  dsimp only
  rw [e1, e2, Int.toNat_natCast, il_cut, hks, il_length, hkl, dlt_nat, decide_eq_false (by omega), List.take_of_length_le (by omega)]; rfl)
 have hl' : loop1 (impl_tracer_layer.b0 (il at_) (k : Int) (a : Int) (w.n : Int)) (lz (w.n + 1) w.g, 0) = some (lz (w.n + 1) (joins (w.add (eul c)) w.n ks).g, (a : Int)) := hl
 rw [hl', Option.bind_some]
 dsimp only
 have hrep : slices_Repeat_int.f [(w.n : Int)] (b : Int) = some (List.replicate b (w.n : Int)) := by
  unfold slices_Repeat_int.f
  dsimp only
  rw [if_pos ⟨by omega, by omega⟩, Int.toNat_natCast]
 rw [hrep, Option.bind_some, small_in (by simp; omega)]
 simp only [Option.bind_some, jn]
 rw [w64_succ (by omega)]
 obtain ⟨j1, j2, j3⟩ := joins_n w.n ks (w.add (eul c))
 rw [j1, j3, il_append]
 have e4 : il (List.replicate b w.n) = List.replicate b (w.n : Int) := by simp [il]
 rw [e4]
 rfl
theorem spec_letter : spec_l04Step.b2 l (lz w.n w.f, w.el, il at_, il nx, (k : Int), (i : Int)) =
  some (.next (lz (letter at_ (w, nx, k) c).1.n (letter at_ (w, nx, k) c).1.f, (letter at_ (w, nx, k) c).1.el, il at_, il (letter at_ (w, nx, k) c).2.1, ((letter at_ (w, nx, k) c).2.2 : Int), ((i + 1 : Nat) : Int))) := by
 have hab := lg_bound hlg
 unfold spec_l04Step.b2
 dsimp only
 rw [dlt_nat, decide_eq_true hi, cond_true, chk_in ⟨by omega, by omega⟩, hc, legs_eq, piece_eq, hlg]
 dsimp only
 rw [Option.bind_some]
 dsimp only
 rw [beq_u8, il_length]
 by_cases h120 : c = 120
 ·subst h120
  have hab2 : a = 2 ∧ b = 2 := by
   have : lg 120 = some (2, 2) := rfl
   rw [this] at hlg
   injection hlg with h; injection h with h1 h2
   exact ⟨h1.symm, h2.symm⟩
  obtain ⟨rfl, rfl⟩ := hab2
  rw [decide_eq_true rfl, cond_true, w64_succ (by omega), chk_in ⟨by omega, by omega⟩, chk_in ⟨by omega, by omega⟩, small_in (by simp [il_length]; omega)]
  simp only [Option.bind_some, jn]
  have g1 : gt (il at_) ((k + 1 : Nat) : Int) = ((at_.getD (k + 1) 0 : Nat) : Int) := by
   rw [il_gt (by omega)]
   have h : at_[k + 1]? = some at_[k + 1] := List.getElem?_eq_getElem (by omega)
   simp [List.getD, h]
  have g0 : gt (il at_) (k : Int) = ((at_.getD k 0 : Nat) : Int) := by
   rw [il_gt (by omega)]
   have h : at_[k]? = some at_[k] := List.getElem?_eq_getElem (by omega)
   simp [List.getD, h]
  rw [g1, g0, w64_succ (by omega)]
  have el : letter at_ (w, nx, k) 120 = (w, nx ++ [at_.getD (k + 1) 0, at_.getD k 0], k + 2) := by unfold letter; rw [if_pos rfl]
  have e5 : w64 ((k : Int) + 2) = ((k + 2 : Nat) : Int) := by rw [w64_in (by omega)]; omega
  rw [el, e5]
  dsimp only
  rw [il_append]; rfl
 rw [decide_eq_false h120, cond_false, euler_eq', Option.bind_some]
 have el : letter at_ (w, nx, k) c = (joins (w.add (eul c)) w.n ((at_.drop k).take a), nx ++ List.replicate b w.n, k + a) := by unfold letter; rw [if_neg h120, hlg]
 rw [el]
 generalize hks : (at_.drop k).take a = ks
 have hkl : ks.length = a := by rw [← hks]; simp; omega
 have hkm : ∀ x ∈ ks, x < w.n := fun x hx => hlt x (List.mem_of_mem_drop (List.mem_of_mem_take (hks ▸ hx)))
 have hwa := hw.add (eul c) (eul_b c)
 have helen := hw.ell
 have hadd : spec_l04Thing.f (lz w.n w.f) w.el (il at_) (eul c) = some (lz (w.n + 1) w.f, w.el ++ [eul c], il at_, (w.n : Int)) := by
  unfold spec_l04Thing.f
  rw [small_in (by simp [lz_length]; omega), small_in (by simp; omega), lz_length]
  have : lz w.n w.f ++ [(w.n : Int)] = lz (w.n + 1) w.f := by rw [lz_succ, hw.fid w.n (Nat.le_refl _)]
  rw [this, lz_length, w64_pred (by omega)]
 rw [hadd, Option.bind_some]
 dsimp only
 have hl := loop1_upto (f := spec_l04Step.b0 (a : Int) (w.n : Int)) (fun j => (lz (w.n + 1) (joins (w.add (eul c)) w.n (ks.take j)).f, w.el ++ [eul c], il at_, ((k + j : Nat) : Int), (j : Int))) a (lz (w.n + 1) (joins (w.add (eul c)) w.n ks).f, w.el ++ [eul c], il at_, ((k + a : Nat) : Int), (a : Int)) (by omega) (fun j hj => by
  unfold spec_l04Step.b0
  dsimp only
  rw [dlt_nat, decide_eq_true hj, cond_true, il_length, chk_in ⟨by omega, by omega⟩, il_gt (by omega)]
  have hwj := hwa.joins (own := w.n) (ks := ks.take j) (by show w.n < w.n + 1; omega) (fun x hx => by have := hkm x (List.mem_of_mem_take hx); show x < w.n + 1; omega)
  have hkj := hkm ks[j] (List.getElem_mem (by omega))
  have hkk : at_[k + j] = ks[j] := by
   have h1 : ks[j]? = at_[k + j]? := by rw [← hks]; simp [hj]
   rw [List.getElem?_eq_getElem (by omega), List.getElem?_eq_getElem (by omega)] at h1
   exact (Option.some.inj h1).symm
  rw [hkk, join_spec (by omega) (by omega) (by omega), Option.bind_some, w64_succ (by omega), w64_succ (by omega), joins_take _ _ (by omega)]
  rfl) (by
  unfold spec_l04Step.b0
  dsimp only
  rw [dlt_nat, decide_eq_false (by omega), List.take_of_length_le (by omega)]; rfl)
 have hl' : loop1 (spec_l04Step.b0 (a : Int) (w.n : Int)) (lz (w.n + 1) w.f, w.el ++ [eul c], il at_, (k : Int), 0) = some (lz (w.n + 1) (joins (w.add (eul c)) w.n ks).f, w.el ++ [eul c], il at_, ((k + a : Nat) : Int), (a : Int)) := hl
 rw [hl', Option.bind_some]
 dsimp only
 have hr := loop1_upto (f := spec_l04Step.b1 (b : Int) (w.n : Int)) (fun j => (il (nx ++ List.replicate j w.n), (j : Int))) b (il (nx ++ List.replicate b w.n), (b : Int)) (by omega) (fun j hj => by
  unfold spec_l04Step.b1
  dsimp only
  rw [dlt_nat, decide_eq_true hj, cond_true, small_in (by simp [il_length]; omega), w64_succ (by omega)]
  have : il (nx ++ List.replicate (j + 1) w.n) = il (nx ++ List.replicate j w.n) ++ [(w.n : Int)] := by
   rw [List.replicate_succ', ← List.append_assoc, il_append]; rfl
  rw [this]) (by
  unfold spec_l04Step.b1
  dsimp only
  rw [dlt_nat, decide_eq_false (by omega)]; rfl)
 have hr' : loop1 (spec_l04Step.b1 (b : Int) (w.n : Int)) (il nx, 0) = some (il (nx ++ List.replicate b w.n), (b : Int)) := by
  have e : il (nx ++ List.replicate 0 w.n) = il nx := by simp
  rw [← e]; exact hr
 rw [hr']
 simp only [Option.bind_some, jn]
 rw [w64_succ (by omega)]
 obtain ⟨j1, j2, j3⟩ := joins_n w.n ks (w.add (eul c))
 rw [j1, j2]
 rfl
end
end Go.Proofs.YtpejnjpckacciaaGreatDoor.G
set_option linter.unusedVariables false
namespace Go.Proofs.YtpejnjpckacciaaGreatDoor.G
open Go Go.Sx Go.Proofs Go.Shelf
def insOf (l : Str) : Nat := ((lgs l).getD (0, 0)).1
def outsOf (l : Str) : Nat := ((lgs l).getD (0, 0)).2
def okL : Option Nat → List Str → Bool
  | _, [] => true
  | p, l :: r => (match lgs l with
    | none => false
    | some (a, b) => (l != []) && decide (a ≤ 6) && decide (b ≤ 6) && (p == none || p == some a)) && okL (some (outsOf l)) r
theorem okL_cons (p : Option Nat) (l : Str) (r : List Str) : okL p (l :: r) = ((match lgs l with
  | none => false
  | some (a, b) => (l != []) && decide (a ≤ 6) && decide (b ≤ 6) && (p == none || p == some a)) && okL (some (outsOf l)) r) := rfl
def okW (w : Str) : Bool := okL none (lays w)
def badp (p : Option Nat) (L : List Str) (i : Nat) : Bool := !(match lgs (L.getD i []) with
    | none => false
    | some (a, b) => (L.getD i [] != []) && decide (a ≤ 6) && decide (b ≤ 6) && ((match i with | 0 => p | j + 1 => some (outsOf (L.getD j []))) == none || (match i with | 0 => p | j + 1 => some (outsOf (L.getD j []))) == some a))
theorem any_okL : ∀ (L : List Str) (p : Option Nat), (List.range L.length).any (badp p L) = !okL p L
 | [], p => rfl
 | l :: L, p => by
  rw [List.length_cons, List.range_succ_eq_map, List.any_cons, List.any_map]
  have ih := any_okL L (some (outsOf l))
  have e : ((List.range L.length).any (badp p (l :: L) ∘ Nat.succ)) = (List.range L.length).any (badp (some (outsOf l)) L) := by
   refine congrArg (List.any (List.range L.length)) (funext fun i => ?_)
   cases i with
   | zero => rfl
   | succ i => rfl
  rw [e, ih]
  rw [okL_cons, Bool.not_and]
  rfl
theorem getD_mem {L : List Str} {i : Nat} (hi : i < L.length) : L.getD i [] ∈ L := by
 rw [List.getD_eq_getElem?_getD, List.getElem?_eq_getElem hi]; exact List.getElem_mem hi
theorem getD_none {L : List Str} {i : Nat} (hi : L.length ≤ i) : L.getD i [] = [] := by
 rw [List.getD_eq_getElem?_getD, List.getElem?_eq_none hi]; rfl
theorem gt_getD {L : List Str} {i : Nat} : gt L (i : Int) = L.getD i [] := by simp [gt]; rfl
theorem okL_mem : ∀ {L : List Str} {p : Option Nat}, okL p L = true → ∀ l ∈ L, ∃ a b, lgs l = some (a, b) ∧ l ≠ [] ∧ a ≤ 6 ∧ b ≤ 6 ∧ l.length ≤ 12
 | [], _, _, l, hl => nomatch hl
 | x :: L, p, h, l, hl => by
  unfold okL at h
  rw [Bool.and_eq_true] at h
  rcases List.mem_cons.1 hl with rfl | hl
  ·have h1 := h.1
   split at h1
   ·cases h1
   rename_i a b e
   simp only [Bool.and_eq_true, decide_eq_true_eq, bne_iff_ne] at h1
   have := lgs_bound e
   exact ⟨a, b, e, h1.1.1.1, h1.1.1.2, h1.1.2, by omega⟩
  exact okL_mem h.2 l hl
theorem joinTail_len {xs : List Str} {k : Nat} (h : ∀ x ∈ xs, x.length ≤ k) : (Lib.joinTail [47] xs).length ≤ (k + 1) * xs.length := by
 induction xs with
 | nil => simp [Lib.joinTail]
 | cons x xs ih =>
  have h1 := h x (by simp)
  have h2 := ih (fun y hy => h y (by simp [hy]))
  simp only [Lib.joinTail, List.map_cons, List.flatten_cons, List.length_append, List.length_cons, List.length_nil] at h2 ⊢
  rw [Nat.mul_succ]
  omega
theorem join_length {xs : List Str} {k : Nat} (h : ∀ x ∈ xs, x.length ≤ k) : (Lib.join xs [47]).length ≤ (k + 1) * xs.length := by
 cases xs with
 | nil => simp [Lib.join, List.intercalate]
 | cons y ys =>
  have h1 := h y (by simp)
  have h2 := joinTail_len (xs := ys) (fun z hz => h z (by simp [hz]))
  rw [Lib.join_cons, List.length_append, List.length_cons, Nat.mul_succ]
  omega
theorem join_cons2 (x y : Str) (r : List Str) : Lib.join (x :: y :: r) [47] = x ++ 47 :: Lib.join (y :: r) [47] := by
 rw [Lib.join_cons, Lib.join_cons]
 simp [Lib.joinTail]
theorem join_spl : ∀ w : Str, Lib.join (spl 47 w) [47] = w
 | [] => rfl
 | x :: l => by
  have ih := join_spl l
  have hne := spl_ne 47 l
  unfold spl
  by_cases hx : x = 47
  ·subst hx
   rw [if_pos rfl]
   cases hs : spl 47 l with
   | nil => exact absurd hs hne
   | cons a b => rw [join_cons2, ← hs, ih]; rfl
  rw [if_neg hx]
  cases hs : spl 47 l with
  | nil => exact absurd hs hne
  | cons a b =>
   rw [hs] at ih
   cases b with
   | nil => rw [Lib.join_one] at ih ⊢; simp only [ih]
   | cons b t => rw [join_cons2] at ih ⊢; rw [← ih]; rfl
theorem spl_join : ∀ {xs : List Str}, xs ≠ [] → (∀ x ∈ xs, x.count 47 = 0) → spl 47 (Lib.join xs [47]) = xs
 | [], h, _ => absurd rfl h
 | [x], _, hx => by
  rw [Lib.join_one]
  have h0 := hx x (by simp)
  rcases index_ge0 47 x with h1 | h1
  ·exact ((index_spl 47 x).1 h1).1
  obtain ⟨i, hi⟩ := Int.eq_ofNat_of_zero_le h1
  have := ((index_spl 47 x).2 i hi).2
  omega
 | x :: y :: r, _, hx => by
  have ih := spl_join (xs := y :: r) (by simp) (fun z hz => hx z (by simp [hz]))
  rw [join_cons2]
  have key : ∀ (x : Str), x.count 47 = 0 → ∀ t : Str, spl 47 (x ++ 47 :: t) = x :: spl 47 t := by
   intro x
   induction x with
   | nil => intro _ t; simp [spl]
   | cons c x ih2 =>
    intro h t
    have hc : c ≠ 47 := by
     rintro rfl
     rw [List.count_cons_self] at h
     omega
    have hx0 : x.count 47 = 0 := by
     rw [List.count_cons] at h
     omega
    rw [List.cons_append, spl, if_neg hc, ih2 hx0 t]
  rw [key x (hx x (by simp)), ih]
theorem lgs_noslash {l : Str} {a b : Nat} (h : lgs l = some (a, b)) : l.count 47 = 0 := by
 induction l generalizing a b with
 | nil => rfl
 | cons c l ih =>
  unfold lgs at h
  split at h
  ·rename_i a1 b1 a2 b2 e1 e2
   rw [List.count_cons, ih e2]
   have : (c == 47) = false := by
    rw [beq_eq_false_iff_ne]
    rintro rfl
    cases e1
   rw [this]; rfl
  cases h
theorem lays_len (w : Str) : (lays w).length ≤ w.count 47 + 1 := by
 unfold lays
 split
 ·simp
 rw [spl_len]; exact Nat.le_refl _
theorem join_lays (w : Str) : Lib.join (lays w) [47] = w := by
 unfold lays
 split
 ·rename_i h; rw [h]; rfl
 exact join_spl w
theorem ok_len {w : Str} (h : okW w = true) (hc : w.count 47 ≤ 20) : w.length ≤ 273 := by
 have h1 := join_length (xs := lays w) (k := 12) (fun x hx => by
  obtain ⟨a, b, _, _, _, _, h5⟩ := okL_mem h x hx
  exact h5)
 rw [join_lays] at h1
 have := lays_len w
 omega
theorem mem_lays_len {w : Str} : ∀ l ∈ lays w, l.length ≤ w.length := by
 have key : ∀ (c : UInt8) (w : Str), ∀ l ∈ spl c w, l.length ≤ w.length := by
  intro c w
  induction w with
  | nil => intro l hl; simp [spl] at hl; subst hl; simp
  | cons x w ih =>
   intro l hl
   unfold spl at hl
   split at hl
   ·rcases List.mem_cons.1 hl with rfl | hl
    ·simp
    have := ih l hl; simp; omega
   split at hl
   ·rename_i h t hs
    rw [hs] at ih
    rcases List.mem_cons.1 hl with rfl | hl
    ·have := ih h (by simp); simp; omega
    have := ih l (by simp [hl]); simp; omega
   rename_i hs; exact absurd hs (spl_ne c w)
 intro l hl
 unfold lays at hl
 split at hl
 ·cases hl
 exact key 47 w l hl
def ab (z : Int) (L : List Str) : Nat → Int
  | 0 => z
  | j + 1 => ((outsOf (L.getD j []) : Nat) : Int)
theorem lv_out (l : Str) : (lv l).2.1 = (outsOf l : Int) := by unfold lv outsOf; cases lgs l <;> rfl
theorem lv_in (l : Str) : (lv l).1 = (insOf l : Int) := by unfold lv insOf; cases lgs l <;> rfl
theorem lw_out (l : Str) : (lw l).2.1 = (outsOf l : Int) := by unfold lw outsOf; cases lgs l <;> rfl
theorem lw_in (l : Str) : (lw l).1 = (insOf l : Int) := by unfold lw insOf; cases lgs l <;> rfl
def bad1 (L : List Str) (i : Nat) : Bool := (!(lv (L.getD i [])).2.2) || (decide (ab (-1) L i ≥ 0) && ((lv (L.getD i [])).1 != ab (-1) L i))
def bad2 (L : List Str) (i : Nat) : Bool := decide ((lv (L.getD i [])).1 > 6) || decide ((lv (L.getD i [])).2.1 > 6)
def bad3 (L : List Str) (i : Nat) : Bool := (!(lw (L.getD i [])).2.2) || (decide ((i : Int) > 0) && ((lw (L.getD i [])).1 != ab 0 L i))
theorem bad3_eq (L : List Str) (i : Nat) : bad3 L i = badp none L i := by
 unfold bad3 badp lw
 cases h : lgs (L.getD i []) with
 | none => rfl
 | some q =>
  obtain ⟨a, b⟩ := q
  dsimp only
  have e0 : decide (((L.getD i []).length : Int) > 0) = (L.getD i [] != []) := by
   cases L.getD i [] with
   | nil => rfl
   | cons x y => simp
  have e1 : decide ((a : Int) ≤ 6) = decide (a ≤ 6) := by rw [decide_eq_decide]; omega
  have e2 : decide ((b : Int) ≤ 6) = decide (b ≤ 6) := by rw [decide_eq_decide]; omega
  rw [e0, e1, e2]
  cases i with
  | zero => simp [ab]
  | succ i =>
   have e3 : decide (((i + 1 : Nat) : Int) > 0) = true := decide_eq_true (by omega)
   rw [e3]
   simp only [ab, Bool.true_and]
   have e4 : ((a : Int) != ((outsOf (L.getD i []) : Nat) : Int)) = !decide (a = outsOf (L.getD i [])) := bne_nat _ _
   rw [e4]
   have e5 : (some (outsOf (L.getD i [])) == some a) = decide (a = outsOf (L.getD i [])) := by
    rw [Bool.eq_iff_iff]; simp; exact eq_comm
   rw [e5]
   simp
theorem bad12_eq (L : List Str) (i : Nat) : (bad1 L i || bad2 L i) = badp none L i := by
 rw [← bad3_eq]
 unfold bad1 bad2 bad3 lv lw
 cases h : lgs (L.getD i []) with
 | none => simp
 | some q =>
  obtain ⟨a, b⟩ := q
  dsimp only
  have e0 : decide (((L.getD i []).length : Int) > 0) = (L.getD i [] != []) := by
   cases L.getD i [] with
   | nil => rfl
   | cons x y => simp
  have e1 : decide ((a : Int) > 6) = !decide ((a : Int) ≤ 6) := by rw [← decide_not, decide_eq_decide]; omega
  have e2 : decide ((b : Int) > 6) = !decide ((b : Int) ≤ 6) := by rw [← decide_not, decide_eq_decide]; omega
  rw [e0, e1, e2]
  cases i with
  | zero =>
   simp only [ab]
   cases (L.getD 0 [] != []) <;> cases decide ((a : Int) ≤ 6) <;> cases decide ((b : Int) ≤ 6) <;> simp
  | succ i =>
   have e3 : decide (((i + 1 : Nat) : Int) > 0) = true := decide_eq_true (by omega)
   have e4 : decide (ab (-1) L (i + 1) ≥ 0) = true := decide_eq_true (by show ((outsOf (L.getD i []) : Nat) : Int) ≥ 0; omega)
   rw [e3, e4]
   simp only [ab]
   cases (L.getD (i + 1) [] != []) <;> cases decide ((a : Int) ≤ 6) <;> cases decide ((b : Int) ≤ 6) <;> cases ((a : Int) != ((outsOf (L.getD i []) : Nat) : Int)) <;> rfl
theorem any_or {n : Nat} {p q r : Nat → Bool} (h : ∀ i, (p i || q i) = r i) : ((List.range n).any p || (List.range n).any q) = (List.range n).any r := by
 rw [Bool.eq_iff_iff, Bool.or_eq_true, List.any_eq_true, List.any_eq_true, List.any_eq_true]
 constructor
 ·rintro (⟨i, h1, h2⟩ | ⟨i, h1, h2⟩)
  ·exact ⟨i, h1, by rw [← h, h2]; rfl⟩
  exact ⟨i, h1, by rw [← h, h2, Bool.or_true]⟩
 rintro ⟨i, h1, h2⟩
 rw [← h, Bool.or_eq_true] at h2
 rcases h2 with h2 | h2
 ·exact .inl ⟨i, h1, h2⟩
 exact .inr ⟨i, h1, h2⟩
section
variable {w : Str} (h1 : w.length < 1000000000000000000) (hc : w.count 47 ≤ 20)
include h1 hc
omit hc in
theorem lay_get (i : Nat) : impl_legsOfLayer.f (gt (lays w) (i : Int)) = some (lv ((lays w).getD i [])) := by
 rw [gt_getD]
 refine layer_eq ?_
 by_cases hi : i < (lays w).length
 ·have := mem_lays_len (w := w) ((lays w).getD i []) (getD_mem hi)
  omega
 rw [getD_none (by omega)]; simp
omit hc in
theorem lay_get' (i : Nat) : spec_l04Layer.f (gt (lays w) (i : Int)) = some (lw ((lays w).getD i [])) := by
 rw [gt_getD]
 refine layer_eq' ?_
 by_cases hi : i < (lays w).length
 ·have := mem_lays_len (w := w) ((lays w).getD i []) (getD_mem hi)
  omega
 rw [getD_none (by omega)]; simp
theorem isword_eq : impl_IsWord.f w = some (okW w) := by
 have hn : (lays w).length ≤ 21 := by have := lays_len w; omega
 have hcl : w.count 47 ≤ w.length := List.count_le_length
 unfold impl_IsWord.f
 rw [layers_eq (by omega) (by omega), Option.bind_some]
 have hl := loop_any (ρ := Bool) (f := impl_IsWord.b0 (lays w)) (fun i => (ab (-1) (lays w) i, (i : Int))) (lays w).length (bad1 (lays w)) false (ab (-1) (lays w) (lays w).length, ((lays w).length : Int)) (by omega) (fun i hi => by
  unfold impl_IsWord.b0
  dsimp only
  rw [dlt_nat, decide_eq_true hi, cond_true, chk_in ⟨by omega, by omega⟩, lay_get h1, Option.bind_some, w64_succ (by omega)]
  show (bif bad1 (lays w) i then _ else some (LR.next ((lv ((lays w).getD i [])).2.1, ((i + 1 : Nat) : Int)))) = _
  rw [lv_out]
  cases bad1 (lays w) i <;> rfl) (by
  unfold impl_IsWord.b0
  dsimp only
  rw [dlt_nat, decide_eq_false (by omega)]; rfl)
 have hl' : loop (ρ := Bool) (impl_IsWord.b0 (lays w)) (-1, 0) = _ := hl
 rw [hl']
 have hs : impl_small.f w = some (bif (List.range (lays w).length).any (bad2 (lays w)) then false else decide ((w.length : Int) - ((w.count 47 : Nat) : Int) ≤ 300)) := by
  unfold impl_small.f
  rw [layers_eq (by omega) (by omega), Option.bind_some]
  have hl := loop_any (ρ := Bool) (f := impl_small.b0 (lays w)) (fun i => (i : Int)) (lays w).length (bad2 (lays w)) false ((lays w).length : Int) (by omega) (fun i hi => by
   unfold impl_small.b0
   dsimp only
   rw [dlt_nat, decide_eq_true hi, cond_true, chk_in ⟨by omega, by omega⟩, lay_get h1, Option.bind_some, w64_succ (by omega)]
   show (bif bad2 (lays w) i then _ else some (LR.next ((i + 1 : Nat) : Int))) = _
   cases bad2 (lays w) i <;> rfl) (by
   unfold impl_small.b0
   dsimp only
   rw [dlt_nat, decide_eq_false (by omega)]; rfl)
  have hl' : loop (ρ := Bool) (impl_small.b0 (lays w)) 0 = _ := hl
  rw [hl']
  cases (List.range (lays w).length).any (bad2 (lays w)) with
  | true => rfl
  | false =>
   have e3 : strings_Count.f w [47] = some ((w.count 47 : Nat) : Int) := rfl
   simp only [cond_false, Option.bind_some, ln]
   unfold impl_letters.f
   rw [e3, Option.bind_some, Option.bind_some, w64_in (by omega)]
 have hor := any_or (n := (lays w).length) (bad12_eq (lays w))
 rw [any_okL] at hor
 have hok : okW w = !((List.range (lays w).length).any (bad1 (lays w)) || (List.range (lays w).length).any (bad2 (lays w))) := by rw [hor, Bool.not_not]; rfl
 cases hb1 : (List.range (lays w).length).any (bad1 (lays w)) with
 | true => rw [hok, hb1]; rfl
 | false =>
  simp only [cond_false, Option.bind_some, ln]
  rw [hs, Option.bind_some, hok, hb1]
  cases hb2 : (List.range (lays w).length).any (bad2 (lays w)) with
  | true => rfl
  | false =>
   have hw : okW w = true := by rw [hok, hb1, hb2]; rfl
   have := ok_len hw hc
   rw [cond_false, decide_eq_true (by omega)]; rfl
theorem small_eq : impl_small.f w = some (bif (List.range (lays w).length).any (bad2 (lays w)) then false else decide ((w.length : Int) - ((w.count 47 : Nat) : Int) ≤ 300)) := by
 have hn : (lays w).length ≤ 21 := by have := lays_len w; omega
 have hcl : w.count 47 ≤ w.length := List.count_le_length
 unfold impl_small.f
 rw [layers_eq (by omega) (by omega), Option.bind_some]
 have hl := loop_any (ρ := Bool) (f := impl_small.b0 (lays w)) (fun i => (i : Int)) (lays w).length (bad2 (lays w)) false ((lays w).length : Int) (by omega) (fun i hi => by
  unfold impl_small.b0
  dsimp only
  rw [dlt_nat, decide_eq_true hi, cond_true, chk_in ⟨by omega, by omega⟩, lay_get h1, Option.bind_some, w64_succ (by omega)]
  show (bif bad2 (lays w) i then _ else some (LR.next ((i + 1 : Nat) : Int))) = _
  cases bad2 (lays w) i <;> rfl) (by
  unfold impl_small.b0
  dsimp only
  rw [dlt_nat, decide_eq_false (by omega)]; rfl)
 have hl' : loop (ρ := Bool) (impl_small.b0 (lays w)) 0 = _ := hl
 rw [hl']
 cases (List.range (lays w).length).any (bad2 (lays w)) with
 | true => rfl
 | false =>
  have e3 : strings_Count.f w [47] = some ((w.count 47 : Nat) : Int) := rfl
  simp only [cond_false, Option.bind_some, ln]
  unfold impl_letters.f
  rw [e3, Option.bind_some, Option.bind_some, w64_in (by omega)]
theorem spec_layers : spec_l04Layers.f w = some (bif okW w then (lays w, true) else ([], false)) := by
 have hn : (lays w).length ≤ 21 := by have := lays_len w; omega
 have hcl : w.count 47 ≤ w.length := List.count_le_length
 unfold spec_l04Layers.f
 by_cases he : w = []
 ·subst he; rfl
 have hlw : lays w = spl 47 w := by unfold lays; rw [if_neg he]
 rw [beq_eq_false_iff_ne.2 he, cond_false, l01Split_eq (by omega) (by omega), Option.bind_some, ← hlw]
 have hl := loop_any (ρ := List Str × Bool) (f := spec_l04Layers.b0 (lays w)) (fun i => (ab 0 (lays w) i, (i : Int))) (lays w).length (bad3 (lays w)) ([], false) (ab 0 (lays w) (lays w).length, ((lays w).length : Int)) (by omega) (fun i hi => by
  unfold spec_l04Layers.b0
  dsimp only
  rw [dlt_nat, decide_eq_true hi, cond_true, chk_in ⟨by omega, by omega⟩, lay_get' h1, Option.bind_some, w64_succ (by omega)]
  show (bif bad3 (lays w) i then _ else some (LR.next ((lw ((lays w).getD i [])).2.1, ((i + 1 : Nat) : Int)))) = _
  rw [lw_out]
  cases bad3 (lays w) i <;> rfl) (by
  unfold spec_l04Layers.b0
  dsimp only
  rw [dlt_nat, decide_eq_false (by omega)]; rfl)
 have hl' : loop (ρ := List Str × Bool) (spec_l04Layers.b0 (lays w)) (0, 0) = _ := hl
 rw [hl']
 have e : (List.range (lays w).length).any (bad3 (lays w)) = !okW w := by
  rw [show bad3 (lays w) = badp none (lays w) from funext (bad3_eq (lays w)), any_okL]; rfl
 rw [e]
 cases hw : okW w with
 | false => rfl
 | true =>
  have := ok_len hw hc
  simp only [Bool.not_true, cond_false, Option.bind_some, ln, cond_true]
  rw [decide_eq_true (by omega)]
theorem spec_is : spec_l04Is.f w = some (okW w) := by
 unfold spec_l04Is.f
 rw [spec_layers h1 hc, Option.bind_some]
 cases okW w <;> rfl
def insW (L : List Str) : Nat := insOf (L.headD [])
def outsW (L : List Str) : Nat := outsOf (L.getLastD [])
theorem impl_ends : impl_legs.f w = some ((insW (lays w) : Int), (outsW (lays w) : Int)) := by
 have hn : (lays w).length ≤ 21 := by have := lays_len w; omega
 have hcl : w.count 47 ≤ w.length := List.count_le_length
 unfold impl_legs.f
 rw [layers_eq (by omega) (by omega), Option.bind_some]
 by_cases he : lays w = []
 ·rw [he]; rfl
 have hp : 0 < (lays w).length := List.length_pos_iff.2 he
 have e0 : (((lays w).length : Int) == 0) = false := by rw [beq_nat0, decide_eq_false (by omega)]
 have e1 : w64 (((lays w).length : Int) - 1) = (((lays w).length - 1 : Nat) : Int) := by rw [w64_in (by omega)]; omega
 have l0 := lay_get h1 0
 have l1 := lay_get h1 ((lays w).length - 1)
 rw [e0, cond_false, chk_in ⟨by omega, by omega⟩]
 have l0' : impl_legsOfLayer.f (gt (lays w) 0) = some (lv ((lays w).getD 0 [])) := l0
 rw [l0', Option.bind_some, e1, l1]
 have i0 := lv_in ((lays w).getD 0 [])
 have i1 := lv_out ((lays w).getD ((lays w).length - 1) [])
 generalize lv ((lays w).getD 0 []) = v0 at i0 ⊢
 generalize lv ((lays w).getD ((lays w).length - 1) []) = v1 at i1 ⊢
 obtain ⟨a0, b0, c0⟩ := v0
 obtain ⟨a1, b1, c1⟩ := v1
 dsimp only at i0 i1 ⊢
 rw [chk_in ⟨by omega, by omega⟩, Option.bind_some]
 dsimp only
 rw [i0, i1]
 unfold insW outsW
 have a1 : (lays w).headD [] = (lays w).getD 0 [] := by cases lays w <;> rfl
 have a2 : (lays w).getLastD [] = (lays w).getD ((lays w).length - 1) [] := by
  rw [List.getLastD_eq_getLast?, List.getLast?_eq_getElem?, List.getD_eq_getElem?_getD]
 rw [a1, a2]
theorem spec_ends (hw : okW w = true) : spec_l04Ends.f w = some ((insW (lays w) : Int), (outsW (lays w) : Int)) := by
 have hn : (lays w).length ≤ 21 := by have := lays_len w; omega
 unfold spec_l04Ends.f
 rw [spec_layers h1 hc, hw, Option.bind_some, cond_true]
 dsimp only
 by_cases he : lays w = []
 ·rw [he]; rfl
 have hp : 0 < (lays w).length := List.length_pos_iff.2 he
 have e0 : (((lays w).length : Int) == 0) = false := by rw [beq_nat0, decide_eq_false (by omega)]
 have e1 : w64 (((lays w).length : Int) - 1) = (((lays w).length - 1 : Nat) : Int) := by rw [w64_in (by omega)]; omega
 have l0 := lay_get' h1 0
 have l1 := lay_get' h1 ((lays w).length - 1)
 rw [e0, cond_false, chk_in ⟨by omega, by omega⟩]
 have l0' : spec_l04Layer.f (gt (lays w) 0) = some (lw ((lays w).getD 0 [])) := l0
 rw [l0', Option.bind_some, e1, l1]
 have i0 := lw_in ((lays w).getD 0 [])
 have i1 := lw_out ((lays w).getD ((lays w).length - 1) [])
 generalize lw ((lays w).getD 0 []) = v0 at i0 ⊢
 generalize lw ((lays w).getD ((lays w).length - 1) []) = v1 at i1 ⊢
 obtain ⟨a0, b0, c0⟩ := v0
 obtain ⟨a1, b1, c1⟩ := v1
 dsimp only at i0 i1 ⊢
 rw [chk_in ⟨by omega, by omega⟩, Option.bind_some]
 dsimp only
 rw [i0, i1]
 unfold insW outsW
 have a1 : (lays w).headD [] = (lays w).getD 0 [] := by cases lays w <;> rfl
 have a2 : (lays w).getLastD [] = (lays w).getD ((lays w).length - 1) [] := by
  rw [List.getLastD_eq_getLast?, List.getLast?_eq_getElem?, List.getD_eq_getElem?_getD]
 rw [a1, a2]
end
end Go.Proofs.YtpejnjpckacciaaGreatDoor.G
set_option linter.unusedVariables false
namespace Go.Proofs.YtpejnjpckacciaaGreatDoor.G
open Go Go.Sx Go.Proofs Go.Shelf
theorem eul_sum_bound : ∀ l : Str, -(l.length : Int) ≤ (l.map eul).sum ∧ (l.map eul).sum ≤ l.length
 | [] => by simp
 | c :: l => by
  have := eul_sum_bound l
  have h := eul_b c
  rw [List.map_cons, List.sum_cons, List.length_cons]
  omega
theorem take_succ_gt {l : Str} {i : Nat} (hi : i < l.length) : l.take (i + 1) = l.take i ++ [gt l (i : Int)] := by
 have hg : l[i]? = some (gt l (i : Int)) := by have := gt_spec (ys := l) (i := (i : Int)) ⟨by omega, by omega⟩; simpa using this
 rw [List.take_add_one, hg]; rfl
theorem likeInts_refl (a : List Int) (h : a.length ≤ 1000000) : laws_likeInts.f a a = some true := by
 unfold laws_likeInts.f
 have e0 : ((a.length : Int) != (a.length : Int)) = false := by simp
 rw [e0, cond_false]
 have hl := loop_any (ρ := Bool) (f := laws_likeInts.b0 a a) (fun i => (i : Int)) a.length (fun _ => false) false (a.length : Int) (by omega) (fun i hi => by
  unfold laws_likeInts.b0
  rw [dlt_nat, decide_eq_true hi, cond_true, chk_in ⟨by omega, by omega⟩, chk_in ⟨by omega, by omega⟩, w64_succ (by omega)]
  have e : (gt a (i : Int) != gt a (i : Int)) = false := by simp
  rw [e]; rfl) (by
  unfold laws_likeInts.b0
  rw [dlt_nat, decide_eq_false (by omega)]; rfl)
 have hl' : loop (ρ := Bool) (laws_likeInts.b0 a a) 0 = _ := hl
 rw [hl']
 have e1 : (List.range a.length).any (fun _ => false) = false := by simp
 rw [e1]; rfl
def legsR (w : Str) : Int × Int × Int := bif okW w then ((insW (lays w) : Int), (outsW (lays w) : Int), 0) else (0, 0, 1)
def eulR (w : Str) : Int × Int := bif okW w then ((w.map eul).sum, 0) else (0, 1)
def cnts (w : Str) : List Int := signs.map fun c => ((w.count c : Nat) : Int)
def cntR (w : Str) : List Int × Int := bif okW w then (cnts w, 0) else ([], 1)
section
variable {w : Str} (h1 : w.length < 1000000000000000000) (hc : w.count 47 ≤ 20)
include h1 hc
theorem legsOf_impl : impl_LegsOf.f w = some (legsR w) := by
 unfold impl_LegsOf.f legsR
 rw [isword_eq h1 hc, Option.bind_some]
 cases hw : okW w with
 | false => rfl
 | true => rw [impl_ends h1 hc]; rfl
theorem legsOf_spec : spec_LegsOf.f w = some (legsR w) := by
 unfold spec_LegsOf.f legsR
 rw [spec_is h1 hc, Option.bind_some]
 cases hw : okW w with
 | false => rfl
 | true => rw [spec_ends h1 hc hw]; rfl
theorem eulerOf_impl : impl_EulerOf.f w = some (eulR w) := by
 unfold impl_EulerOf.f eulR
 rw [isword_eq h1 hc, Option.bind_some]
 cases hw : okW w with
 | false => rfl
 | true =>
  have hlen := ok_len hw hc
  have hl := loop1_upto (f := impl_EulerOf.b0 w) (fun i => (((w.take i).map eul).sum, (i : Int))) w.length ((w.map eul).sum, (w.length : Int)) (by omega) (fun i hi => by
   unfold impl_EulerOf.b0
   dsimp only
   have hb := eul_sum_bound (w.take i)
   rw [List.length_take] at hb
   have he := eul_b (gt w (i : Int))
   rw [dlt_nat, decide_eq_true hi, cond_true, chk_in ⟨by omega, by omega⟩, euler_eq, Option.bind_some, w64_succ (by omega), take_succ_gt hi, List.map_append, List.sum_append, w64_in (by omega)]
   simp) (by
   unfold impl_EulerOf.b0
   dsimp only
   rw [dlt_nat, decide_eq_false (by omega), List.take_length]; rfl)
  have hl' : loop1 (impl_EulerOf.b0 w) (0, 0) = _ := hl
  simp only [Bool.not_true, cond_false, cond_true]
  rw [hl']; rfl
theorem eulerOf_spec : spec_EulerOf.f w = some (eulR w) := by
 unfold spec_EulerOf.f eulR
 rw [spec_is h1 hc, Option.bind_some]
 cases hw : okW w with
 | false => rfl
 | true =>
  have hlen := ok_len hw hc
  have hl := loop1_upto (f := spec_EulerOf.b0 w) (fun i => (((w.take i).map eul).sum, (i : Int))) w.length ((w.map eul).sum, (w.length : Int)) (by omega) (fun i hi => by
   unfold spec_EulerOf.b0
   dsimp only
   have hb := eul_sum_bound (w.take i)
   rw [List.length_take] at hb
   have he := eul_b (gt w (i : Int))
   rw [dlt_nat, decide_eq_true hi, cond_true, chk_in ⟨by omega, by omega⟩, euler_eq', Option.bind_some, w64_succ (by omega), take_succ_gt hi, List.map_append, List.sum_append, w64_in (by omega)]
   simp) (by
   unfold spec_EulerOf.b0
   dsimp only
   rw [dlt_nat, decide_eq_false (by omega), List.take_length]; rfl)
  have hl' : loop1 (spec_EulerOf.b0 w) (0, 0) = _ := hl
  simp only [Bool.not_true, cond_false, cond_true]
  rw [hl']; rfl
theorem countPieces_impl : impl_CountPieces.f w = some (cntR w) := by
 unfold impl_CountPieces.f cntR
 rw [isword_eq h1 hc, Option.bind_some]
 cases hw : okW w with
 | false => rfl
 | true =>
  have hlen := ok_len hw hc
  have hcounts : impl_counts.f w = some (cnts w) := by
   unfold impl_counts.f
   have hl := loop1_upto (f := impl_counts.b0 w) (fun q => ((signs.take q).map fun c => ((w.count c : Nat) : Int), q)) 6 (cnts w, 6) (by omega) (fun q hq => by
    unfold impl_counts.b0
    dsimp only
    rw [decide_eq_true hq, cond_true]
    have hql : q < signs.length := hq
    have e1 : (signs.drop q).take (q + 1 - q) = [signs[q]] := by
     rw [List.drop_eq_getElem_cons hql, show q + 1 - q = 1 by omega]; rfl
    have e2 : strings_Count.f w [signs[q]] = some ((w.count signs[q] : Nat) : Int) := rfl
    have htq : signs.take (q + 1) = signs.take q ++ [signs[q]] := by rw [List.take_add_one, List.getElem?_eq_getElem hql]; rfl
    rw [e1, e2, Option.bind_some, small_in (by simp; omega), htq, List.map_append]; rfl) (by
    unfold impl_counts.b0
    rfl)
   have hl' : loop1 (impl_counts.b0 w) ([], 0) = _ := hl
   rw [hl']; rfl
  simp only [Bool.not_true, cond_false, cond_true]
  rw [hcounts]; rfl
theorem countPieces_spec : spec_CountPieces.f w = some (cntR w) := by
 unfold spec_CountPieces.f cntR
 rw [spec_is h1 hc, Option.bind_some]
 cases hw : okW w with
 | false => rfl
 | true =>
  have hlen := ok_len hw hc
  have hl := loop1_upto (f := spec_CountPieces.b1 w) (fun i => (cnts (w.take i), (i : Int))) w.length (cnts w, (w.length : Int)) (by omega) (fun i hi => by
   unfold spec_CountPieces.b1
   dsimp only
   rw [dlt_nat, decide_eq_true hi, cond_true, w64_succ (by omega)]
   have hin := loop1_upto (f := spec_CountPieces.b0 (i : Int) w) (fun q => ((signs.take q).map (fun c => (((w.take (i + 1)).count c : Nat) : Int)) ++ (signs.drop q).map (fun c => (((w.take i).count c : Nat) : Int)), (q : Int))) 6 (cnts (w.take (i + 1)), 6) (by omega) (fun q hq => by
    unfold spec_CountPieces.b0
    dsimp only
    have hql : q < signs.length := hq
    have e6 : decide ((q : Int) < 6) = true := decide_eq_true (by omega)
    have hsg : gt signs (q : Int) = signs[q] := by simp [gt, List.getD, hql]
    have hsg' : gt ([105, 120, 109, 115, 117, 101] : Str) (q : Int) = signs[q] := hsg
    have hct : (w.take i).count signs[q] ≤ 273 := by
     have := List.count_le_length (a := signs[q]) (l := w.take i)
     rw [List.length_take] at this
     omega
    have hlq : ((signs.take q).map (fun c => (((w.take (i + 1)).count c : Nat) : Int))).length = q := by rw [List.length_map, List.length_take]; omega
    have hdq : signs.drop q = signs[q] :: signs.drop (q + 1) := List.drop_eq_getElem_cons hql
    have htq : signs.take (q + 1) = signs.take q ++ [signs[q]] := by rw [List.take_add_one, List.getElem?_eq_getElem hql]; rfl
    have hcount : (w.take (i + 1)).count signs[q] = (w.take i).count signs[q] + if gt w (i : Int) = signs[q] then 1 else 0 := by
     rw [take_succ_gt hi, List.count_append, List.count_cons]
     by_cases h : gt w (i : Int) = signs[q] <;> simp [h]
    rw [e6, cond_true, chk_in ⟨by omega, by omega⟩, chk_in ⟨by omega, by show (q : Int) < (6 : Nat); omega⟩, hsg', beq_u8, w64_succ (by omega), hdq, htq, List.map_cons, List.map_append, List.map_cons, List.map_nil, hcount]
    by_cases h : gt w (i : Int) = signs[q]
    ·rw [decide_eq_true h, cond_true, if_pos h, chk_in ⟨by omega, by simp; omega⟩, Option.bind_some]
     have hg : gt ((signs.take q).map (fun c => (((w.take (i + 1)).count c : Nat) : Int)) ++ (((w.take i).count signs[q] : Nat) : Int) :: (signs.drop (q + 1)).map (fun c => (((w.take i).count c : Nat) : Int))) (q : Int) = (((w.take i).count signs[q] : Nat) : Int) := by
      simp only [gt, List.getD, Int.toNat_natCast]
      rw [List.getElem?_append_right (by omega), hlq, Nat.sub_self]; rfl
     rw [hg, w64_succ (by omega), Int.toNat_natCast, List.set_append_right _ _ (by omega), hlq, Nat.sub_self, List.set_cons_zero]
     simp
    ·rw [decide_eq_false h, cond_false, if_neg h, Option.bind_some]
     simp) (by
    unfold spec_CountPieces.b0
    rfl)
   have hin' : loop1 (spec_CountPieces.b0 (i : Int) w) (cnts (w.take i), 0) = some (cnts (w.take (i + 1)), 6) := hin
   rw [hin']; rfl) (by
   unfold spec_CountPieces.b1
   dsimp only
   rw [dlt_nat, decide_eq_false (by omega), List.take_length]; rfl)
  have hl' : loop1 (spec_CountPieces.b1 w) (List.replicate (6 : Int).toNat (0 : Int), 0) = some (cnts w, (w.length : Int)) := hl
  simp only [Bool.not_true, cond_false, cond_true]
  rw [hl']; rfl
end
theorem cnts_eul (w : Str) : ((w.count 117 : Nat) : Int) + ((w.count 101 : Nat) : Int) - ((w.count 109 : Nat) : Int) - ((w.count 115 : Nat) : Int) = (w.map eul).sum := by
 induction w with
 | nil => rfl
 | cons c w ih =>
  rw [List.map_cons, List.sum_cons, ← ih]
  simp only [List.count_cons]
  unfold eul
  by_cases h1 : c = 117
  ·subst h1; simp; omega
  by_cases h2 : c = 101
  ·subst h2; simp; omega
  by_cases h3 : c = 109
  ·subst h3; simp; omega
  by_cases h4 : c = 115
  ·subst h4; simp; omega
  simp [h1, h2, h3, h4]
end Go.Proofs.YtpejnjpckacciaaGreatDoor.G
set_option linter.unusedVariables false
namespace Go.Proofs.YtpejnjpckacciaaGreatDoor.G
open Go Go.Sx Go.Proofs Go.Shelf
theorem join_snoc (xs : List Str) (x : Str) (h : xs ≠ []) : Lib.join (xs ++ [x]) [47] = Lib.join xs [47] ++ [47] ++ x := by
 cases xs with
 | nil => exact absurd rfl h
 | cons y ys =>
  rw [List.cons_append, Lib.join_cons, Lib.join_cons]
  simp [Lib.joinTail]
theorem gt_lt {α : Type} [Inhabited α] {a : List α} {i : Nat} (h : i < a.length) : gt a (i : Int) = a[i] := by simp [gt, List.getD, h]
theorem tall_in {α : Type} {n : Nat} {k : Option α} (h : n ≤ 9223372036854775807) : tall n k = k := if_pos h
theorem joined_eq {xs : List Str} {K : Nat} (hn : xs.length ≤ 1000000) (h : ∀ x ∈ xs, x.length ≤ K) (hK : (K + 1) * (xs.length + 1) ≤ 9223372036854775000) : spec_l04Joined.f xs = some (Lib.join xs [47]) := by
 unfold spec_l04Joined.f
 have hl := loop1_upto (f := spec_l04Joined.b0 xs) (fun k => (Lib.join (xs.take k) [47], (k : Int))) xs.length (Lib.join xs [47], (xs.length : Int)) (by omega) (fun k hk => by
  unfold spec_l04Joined.b0
  have hlen := join_length (xs := xs.take k) (k := K) (fun x hx => h x (List.mem_of_mem_take hx))
  rw [List.length_take] at hlen
  have hx := h xs[k] (List.getElem_mem hk)
  have hlen2 : (Lib.join (xs.take k) [47]).length ≤ (K + 1) * xs.length := Nat.le_trans hlen (Nat.mul_le_mul_left _ (by omega))
  have hK2 : (K + 1) * xs.length + (K + 1) ≤ 9223372036854775000 := by rw [Nat.mul_succ] at hK; exact hK
  clear hlen
  dsimp only
  rw [dlt_nat, decide_eq_true hk, cond_true, gt_lt hk, w64_succ (by omega), List.take_add_one, List.getElem?_eq_getElem hk]
  cases k with
  | zero =>
   have d : decide (((0 : Nat) : Int) > 0) = false := by decide
   rw [d, cond_false, Option.bind_some, chk_in (by omega), tall_in (by simp [Lib.join, List.intercalate] <;> omega)]
   simp [Lib.join, List.intercalate]
  | succ k =>
   have d : decide (((k + 1 : Nat) : Int) > 0) = true := decide_eq_true (by omega)
   have hne : xs.take (k + 1) ≠ [] := by
    intro e
    have h0 : (xs.take (k + 1)).length = 0 := by rw [e]; rfl
    rw [List.length_take] at h0
    omega
   rw [d, cond_true, tall_in (by simp only [List.length_cons, List.length_nil]; omega), Option.bind_some, chk_in (by omega), tall_in (by simp only [List.length_append, List.length_cons, List.length_nil]; omega), Option.toList_some, join_snoc _ _ hne]) (by
  unfold spec_l04Joined.b0
  dsimp only
  rw [dlt_nat, decide_eq_false (by omega), List.take_length]; rfl)
 have hl' : loop1 (spec_l04Joined.b0 xs) (([] : Str), 0) = _ := hl
 rw [hl']; rfl
theorem join_impl_eq {xs : List Str} {K : Nat} (hn : xs.length ≤ 1000) (h : ∀ x ∈ xs, x.length ≤ K) (hK : K ≤ 500) : strings_Join.f xs [47] = some (Lib.join xs [47]) := by
 unfold strings_Join.f
 have := join_length h
 have h2 : (K + 1) * xs.length ≤ 501 * 1000 := Nat.mul_le_mul (by omega) hn
 rw [if_pos ⟨by omega, by omega⟩]
theorem map_join (f : UInt8 → UInt8) (h47 : f 47 = 47) : ∀ xs : List Str, (Lib.join xs [47]).map f = Lib.join (xs.map (List.map f)) [47]
 | [] => rfl
 | [x] => by simp [Lib.join_one]
 | x :: y :: r => by
  have ih := map_join f h47 (y :: r)
  rw [join_cons2, List.map_append, List.map_cons, h47, ih]
  simp only [List.map_cons]
  rw [join_cons2]
def good (l : Str) : Prop := (∃ q, lgs l = some q) ∧ l ≠ [] ∧ insOf l ≤ 6 ∧ outsOf l ≤ 6
def link (L : List Str) : Prop := ∀ i, i + 1 < L.length → outsOf (L.getD i []) = insOf (L.getD (i + 1) [])
theorem okL_iff : ∀ {L : List Str} {p : Option Nat}, okL p L = true ↔ (∀ l ∈ L, good l) ∧ link L ∧ (∀ a, p = some a → L ≠ [] → insOf (L.headD []) = a)
 | [], p => ⟨fun _ => ⟨fun l hl => (nomatch hl), fun i hi => absurd hi (by simp), fun a _ h => absurd rfl h⟩, fun _ => rfl⟩
 | l :: L, p => by
  rw [okL_cons, Bool.and_eq_true, okL_iff (L := L)]
  constructor
  ·rintro ⟨h1, h2, h3, h4⟩
   split at h1
   ·cases h1
   rename_i a b e
   simp only [Bool.and_eq_true, decide_eq_true_eq, bne_iff_ne, Bool.or_eq_true, beq_iff_eq] at h1
   have hi : insOf l = a := by unfold insOf; rw [e]; rfl
   have ho : outsOf l = b := by unfold outsOf; rw [e]; rfl
   refine ⟨fun x hx => ?_, fun i hil => ?_, fun a' hp _ => ?_⟩
   ·rcases List.mem_cons.1 hx with rfl | hx
    ·exact ⟨⟨_, e⟩, h1.1.1.1, by omega, by omega⟩
    exact h2 x hx
   ·cases i with
    | zero =>
     cases L with
     | nil => simp at hil
     | cons y r => exact (h4 (outsOf l) rfl (by simp)).symm
    | succ i =>
     rw [List.length_cons] at hil
     exact h3 i (by omega)
   rcases h1.2 with h | h
   ·rw [h] at hp; cases hp
   rw [h] at hp
   injection hp with hp
   show insOf l = a'
   omega
  rintro ⟨h1, h2, h3⟩
  obtain ⟨⟨⟨a, b⟩, e⟩, g1, g2, g3⟩ := h1 l (by simp)
  have hi : insOf l = a := by unfold insOf; rw [e]; rfl
  have ho : outsOf l = b := by unfold outsOf; rw [e]; rfl
  refine ⟨?_, fun x hx => h1 x (by simp [hx]), fun i hil => h2 (i + 1) (by rw [List.length_cons]; omega), fun a' hp hne => ?_⟩
  ·rw [e]
   simp only [Bool.and_eq_true, decide_eq_true_eq, bne_iff_ne, Bool.or_eq_true, beq_iff_eq]
   refine ⟨⟨⟨g1, by omega⟩, by omega⟩, ?_⟩
   cases p with
   | none => exact .inl rfl
   | some a' =>
    have := h3 a' rfl (by simp)
    have h5 : insOf l = a' := this
    exact .inr (by rw [← h5, hi])
  injection hp with hp
  cases L with
  | nil => exact absurd rfl hne
  | cons y r =>
   have := h2 0 (by simp)
   show insOf y = a'
   rw [← hp]
   exact this.symm
theorem good_noslash {l : Str} (h : good l) : l.count 47 = 0 := by
 obtain ⟨⟨⟨a, b⟩, e⟩, _⟩ := h
 exact lgs_noslash e
theorem good_len {l : Str} (h : good l) : l.length ≤ 12 := by
 obtain ⟨⟨⟨a, b⟩, e⟩, _, h2, h3⟩ := h
 have hi : insOf l = a := by unfold insOf; rw [e]; rfl
 have ho : outsOf l = b := by unfold outsOf; rw [e]; rfl
 have := lgs_bound e
 omega
theorem lays_join {xs : List Str} (hne : xs ≠ []) (h : ∀ x ∈ xs, x ≠ [] ∧ x.count 47 = 0) : lays (Lib.join xs [47]) = xs := by
 unfold lays
 rw [if_neg, spl_join hne (fun x hx => (h x hx).2)]
 cases xs with
 | nil => exact absurd rfl hne
 | cons x r =>
  rw [Lib.join_cons]
  intro e
  exact (h x (by simp)).1 (List.append_eq_nil_iff.1 e).1
theorem join_count {xs : List Str} (hne : xs ≠ []) (h : ∀ x ∈ xs, x.count 47 = 0) : (Lib.join xs [47]).count 47 + 1 = xs.length := by
 have := spl_len 47 (Lib.join xs [47])
 rw [spl_join hne h] at this
 exact this.symm
theorem tab_at (c : UInt8) : tab 4 c = if c = 109 then 115 else if c = 115 then 109 else if c = 117 then 101 else if c = 101 then 117 else c := by
 by_cases h1 : c = 109
 ·subst h1; rfl
 by_cases h2 : c = 115
 ·subst h2; rfl
 by_cases h3 : c = 117
 ·subst h3; rfl
 by_cases h4 : c = 101
 ·subst h4; rfl
 rw [if_neg h1, if_neg h2, if_neg h3, if_neg h4]
 unfold tab
 have e : prs.take 4 = prs := rfl
 have hn : prs.find? (·.1 == c) = none := by
  rw [List.find?_eq_none]
  intro x hx
  simp only [prs, List.mem_cons, List.not_mem_nil, or_false] at hx
  rcases hx with rfl | rfl | rfl | rfl <;> simp only [beq_iff_eq] <;> intro h <;> exact absurd h.symm ‹_›
 rw [e, hn]; rfl
def sw (c : UInt8) : UInt8 := tab 4 c
theorem sw_sw (c : UInt8) : sw (sw c) = c := by
 unfold sw
 by_cases h1 : c = 109
 ·subst h1; rfl
 by_cases h2 : c = 115
 ·subst h2; rfl
 by_cases h3 : c = 117
 ·subst h3; rfl
 by_cases h4 : c = 101
 ·subst h4; rfl
 have : tab 4 c = c := by rw [tab_at, if_neg h1, if_neg h2, if_neg h3, if_neg h4]
 rw [this, this]
theorem lg_sw {c : UInt8} {a b : Nat} (h : lg c = some (a, b)) : lg (sw c) = some (b, a) := by
 unfold lg at h
 by_cases h1 : c = 105
 ·subst h1; injection h with h; injection h with h1 h2; subst h1 h2; rfl
 by_cases h2 : c = 120
 ·subst h2; injection h with h; injection h with h1 h2; subst h1 h2; rfl
 by_cases h3 : c = 109
 ·subst h3; injection h with h; injection h with h1 h2; subst h1 h2; rfl
 by_cases h4 : c = 115
 ·subst h4; injection h with h; injection h with h1 h2; subst h1 h2; rfl
 by_cases h5 : c = 117
 ·subst h5; injection h with h; injection h with h1 h2; subst h1 h2; rfl
 by_cases h6 : c = 101
 ·subst h6; injection h with h; injection h with h1 h2; subst h1 h2; rfl
 rw [if_neg h1, if_neg h2, if_neg h3, if_neg h4, if_neg h5, if_neg h6] at h
 cases h
theorem lgs_sw : ∀ {l : Str} {a b : Nat}, lgs l = some (a, b) → lgs (l.map sw) = some (b, a)
 | [], a, b, h => by injection h with h; injection h with h1 h2; subst h1 h2; rfl
 | c :: l, a, b, h => by
  unfold lgs at h
  split at h
  ·rename_i a1 b1 a2 b2 e1 e2
   injection h with h; injection h with h3 h4
   subst h3 h4
   rw [List.map_cons, lgs_cons (lg_sw e1) (lgs_sw e2)]
  cases h
theorem sw_legs {l : Str} (h : good l) : good (l.map sw) ∧ insOf (l.map sw) = outsOf l ∧ outsOf (l.map sw) = insOf l := by
 obtain ⟨⟨⟨a, b⟩, e⟩, h1, h2, h3⟩ := h
 have hi : insOf l = a := by unfold insOf; rw [e]; rfl
 have ho : outsOf l = b := by unfold outsOf; rw [e]; rfl
 have e2 := lgs_sw e
 have hi2 : insOf (l.map sw) = b := by unfold insOf; rw [e2]; rfl
 have ho2 : outsOf (l.map sw) = a := by unfold outsOf; rw [e2]; rfl
 exact ⟨⟨⟨_, e2⟩, by simpa using h1, by omega, by omega⟩, by omega, by omega⟩
def flipL (L : List Str) : List Str := L.reverse.map (List.map sw)
theorem flip_get {L : List Str} {i : Nat} (hi : i < L.length) : (flipL L).getD i [] = (L.getD (L.length - 1 - i) []).map sw := by
 unfold flipL
 rw [List.getD_eq_getElem?_getD, List.getElem?_map, List.getElem?_reverse hi, List.getD_eq_getElem?_getD, List.getElem?_eq_getElem (by omega)]
 rfl
theorem flip_ok {L : List Str} (h : okL none L = true) : okL none (flipL L) = true := by
 obtain ⟨h1, h2, _⟩ := okL_iff.1 h
 refine okL_iff.2 ⟨fun l hl => ?_, fun i hi => ?_, fun a hp => by cases hp⟩
 ·obtain ⟨x, hx, rfl⟩ := List.mem_map.1 hl
  exact (sw_legs (h1 x (List.mem_reverse.1 hx))).1
 have hlen : (flipL L).length = L.length := by simp [flipL]
 rw [hlen] at hi
 rw [flip_get (by omega), flip_get (by omega)]
 have g1 := sw_legs (h1 (L.getD (L.length - 1 - i) []) (getD_mem (by omega)))
 have g2 := sw_legs (h1 (L.getD (L.length - 1 - (i + 1)) []) (getD_mem (by omega)))
 rw [g1.2.2, g2.2.1]
 have := h2 (L.length - 1 - (i + 1)) (by omega)
 rw [this]
 congr 2
 omega
theorem flip_flip (L : List Str) : flipL (flipL L) = L := by
 unfold flipL
 rw [← List.map_reverse, List.reverse_reverse, List.map_map]
 have : (List.map sw ∘ List.map sw) = id := by
  funext l
  simp only [Function.comp, List.map_map, id]
  have : (sw ∘ sw) = id := funext sw_sw
  rw [this, List.map_id]
 rw [this, List.map_id]
def flipW (w : Str) : Str := Lib.join (flipL (lays w)) [47]
def flipR (w : Str) : Str × Int := bif okW w then (flipW w, 0) else ([], 1)
theorem flip_word {w : Str} (h : okW w = true) : okW (flipW w) = true ∧ lays (flipW w) = flipL (lays w) ∧ (flipW w).count 47 = w.count 47 ∧ flipW (flipW w) = w := by
 by_cases hw : w = []
 ·subst hw; exact ⟨rfl, rfl, rfl, rfl⟩
 have hl : lays w = spl 47 w := by unfold lays; rw [if_neg hw]
 have hne : lays w ≠ [] := by rw [hl]; exact spl_ne 47 w
 have hne2 : flipL (lays w) ≠ [] := by unfold flipL; simpa using hne
 have hok := flip_ok h
 have hg := (okL_iff.1 hok).1
 have e1 : lays (flipW w) = flipL (lays w) := lays_join hne2 fun x hx => ⟨(hg x hx).2.1, good_noslash (hg x hx)⟩
 refine ⟨?_, e1, ?_, ?_⟩
 ·show okL none (lays (flipW w)) = true
  rw [e1]; exact hok
 ·have h1 := join_count hne2 (fun x hx => good_noslash (hg x hx))
  have h2 := spl_len 47 w
  have h3 : (flipL (lays w)).length = (lays w).length := by simp [flipL]
  rw [h3, hl, h2] at h1
  unfold flipW
  rw [hl]
  omega
 show Lib.join (flipL (lays (flipW w))) [47] = w
 rw [e1, flip_flip, join_lays]
theorem reverse_eq (l : List Str) (h : l.length ≤ 1000) : slices_Reverse_string_string.f l = some l.reverse := by
 unfold slices_Reverse_string_string.f
 cases hl : l with
 | nil => rfl
 | cons x0 r0 =>
  rw [← hl]
  have hpos : 0 < l.length := by rw [hl]; simp
  have e0 : w64 ((l.length : Int) - 1) = ((l.length - 1 : Nat) : Int) := by rw [w64_in (by omega)]; omega
  rw [e0]
  obtain ⟨o, ho, hq⟩ := loop1_run (f := slices_Reverse_string_string.b0) (s := (l, (0 : Int), ((l.length - 1 : Nat) : Int)))
   (fun s => ∃ k : Nat, s.2.1 = (k : Int) ∧ s.2.2 = ((l.length - 1 - k : Nat) : Int) ∧ k < l.length ∧ s.1.length = l.length ∧ ∀ q, q < l.length → s.1[q]? = if q < k ∨ l.length - k ≤ q then l[l.length - 1 - q]? else l[q]?) (fun s => l.length - s.2.1.toNat)
   (fun s => s.1 = l.reverse) (by
   rintro ⟨s3, i, j⟩ ⟨k, rfl, rfl, hk, hlen, hs⟩
   dsimp only at hlen hs
   unfold slices_Reverse_string_string.b0
   dsimp only
   rw [dlt_nat]
   by_cases hlt : k < l.length - 1 - k
   ·left
    have e1 : w64 (((l.length - 1 - k : Nat) : Int) - 1) = ((l.length - 1 - (k + 1) : Nat) : Int) := by rw [w64_in (by omega)]; omega
    rw [decide_eq_true hlt, cond_true, chk_in ⟨by omega, by omega⟩, chk_in ⟨by omega, by omega⟩, chk_in ⟨by omega, by rw [List.length_set]; omega⟩, w64_succ (by omega), e1]
    have ga : gt s3 (((l.length - 1 - k : Nat) : Int)) = s3[l.length - 1 - k]'(by omega) := gt_lt (by omega)
    have gb : gt s3 (k : Int) = s3[k]'(by omega) := gt_lt (by omega)
    rw [ga, gb, Int.toNat_natCast, Int.toNat_natCast]
    refine ⟨_, rfl, ⟨k + 1, rfl, rfl, by omega, by simpa using hlen, fun q hq => ?_⟩, by show l.length - ((k + 1 : Nat) : Int).toNat < l.length - (k : Int).toNat; omega⟩
    show ((s3.set k (s3[l.length - 1 - k]'(by omega))).set (l.length - 1 - k) (s3[k]'(by omega)))[q]? = _
    rw [List.getElem?_set, List.getElem?_set]
    have h1 := hs (l.length - 1 - k) (by omega)
    have h2 := hs k hk
    rw [if_neg (by omega), List.getElem?_eq_getElem (by omega)] at h1
    rw [if_neg (by omega), List.getElem?_eq_getElem (by omega)] at h2
    by_cases hq1 : l.length - 1 - k = q
    ·subst hq1
     rw [if_pos rfl, if_pos (by rw [List.length_set]; omega), if_pos (by omega)]
     rw [h2]
     congr 1
     omega
    rw [if_neg hq1]
    by_cases hq2 : k = q
    ·subst hq2
     rw [if_pos rfl, if_pos (by omega), if_pos (by omega)]
     exact h1
    rw [if_neg hq2, hs q hq]
    by_cases hc : q < k ∨ l.length - k ≤ q
    ·rw [if_pos hc, if_pos (by omega)]
    rw [if_neg hc, if_neg (by omega)]
   right
   rw [decide_eq_false hlt]
   refine ⟨_, rfl, ?_⟩
   dsimp only
   apply List.ext_getElem?
   intro q
   by_cases hq : q < l.length
   ·rw [hs q hq, List.getElem?_reverse hq]
    by_cases hc : q < k ∨ l.length - k ≤ q
    ·rw [if_pos hc]
    rw [if_neg hc]
    congr 1
    omega
   rw [List.getElem?_eq_none (by omega), List.getElem?_eq_none (by rw [List.length_reverse]; omega)]) ⟨0, rfl, rfl, hpos, rfl, fun q hq => by rw [if_neg (by omega)]⟩ (by show l.length - (0 : Int).toNat < _; omega)
  obtain ⟨s3, i, j⟩ := o
  rw [ho, Option.bind_some]
  dsimp only
  exact congrArg some hq
section
variable {w : Str} (h1 : w.length < 1000000000000000000) (hc : w.count 47 ≤ 20)
include h1 hc
theorem flip_impl : impl_FlipWord.f w = some (flipR w) := by
 have hcl : w.count 47 ≤ w.length := List.count_le_length
 unfold impl_FlipWord.f flipR
 rw [isword_eq h1 hc, Option.bind_some]
 cases hw : okW w with
 | false => rfl
 | true =>
  have hn : (lays w).length ≤ 21 := by have := lays_len w; omega
  have hg := (okL_iff.1 (show okL none (lays w) = true from hw)).1
  simp only [Bool.not_true, cond_false, cond_true]
  rw [layers_eq (by omega) (by omega), Option.bind_some, reverse_eq _ (by omega), Option.bind_some, join_impl_eq (K := 12) (by rw [List.length_reverse]; omega) (fun x hx => good_len (hg x (List.mem_reverse.1 hx))) (by omega), Option.bind_some]
  have : (Lib.join (lays w).reverse [47]).map (tab 4) = flipW w := map_join sw rfl _
  rw [this]
theorem flip_spec : spec_FlipWord.f w = some (flipR w) := by
 have hcl : w.count 47 ≤ w.length := List.count_le_length
 unfold spec_FlipWord.f flipR
 rw [spec_is h1 hc, Option.bind_some]
 cases hw : okW w with
 | false => rfl
 | true =>
  have hsl : ∀ l ∈ spl 47 w, l.length ≤ 12 := by
   by_cases he : w = []
   ·subst he; intro l hl; simp [spl] at hl; subst hl; simp
   have hg := (okL_iff.1 (show okL none (lays w) = true from hw)).1
   have hl : lays w = spl 47 w := by unfold lays; rw [if_neg he]
   rw [hl] at hg
   exact fun l hl => good_len (hg l hl)
  have hsn : (spl 47 w).length ≤ 21 := by rw [spl_len]; omega
  have hsp : 0 < (spl 47 w).length := List.length_pos_iff.2 (spl_ne 47 w)
  simp only [Bool.not_true, cond_false, cond_true]
  rw [l01Split_eq (by omega) (by omega), Option.bind_some]
  generalize hL : spl 47 w = L at hsl hsn hsp
  have e0 : w64 ((L.length : Int) - 1) = (L.length : Int) - 1 := w64_in (by omega)
  rw [e0]
  have hl := loop1_upto (f := spec_FlipWord.b1 L) (fun k => ((L.reverse.take k).map (List.map sw), (L.length : Int) - 1 - k)) L.length (flipL L, -1) (by omega) (fun k hk => by
   unfold spec_FlipWord.b1
   dsimp only
   have e1 : (L.length : Int) - 1 - (k : Int) = ((L.length - 1 - k : Nat) : Int) := by omega
   rw [e1, decide_eq_true (by omega), cond_true]
   generalize hx : L[L.length - 1 - k]'(by omega) = x
   have hgx : gt L ((L.length - 1 - k : Nat) : Int) = x := by rw [gt_lt (by omega), hx]
   have hxl := hsl x (by rw [← hx]; exact List.getElem_mem _)
   have hin := loop1_upto (f := spec_FlipWord.b0 ((L.length - 1 - k : Nat) : Int) L) (fun q => ((x.take q).map sw, (q : Int))) x.length (x.map sw, (x.length : Int)) (by omega) (fun q hq => by
    unfold spec_FlipWord.b0
    dsimp only
    rw [chk_in ⟨by omega, by omega⟩, hgx, dlt_nat, decide_eq_true hq, cond_true, chk_in ⟨by omega, by omega⟩]
    have hc2 : (bif (((gt x (q : Int)).toNat : Int) == ((109 : UInt8).toNat : Int)) then some (115 : UInt8) else (bif (((gt x (q : Int)).toNat : Int) == ((115 : UInt8).toNat : Int)) then some (109 : UInt8) else (bif (((gt x (q : Int)).toNat : Int) == ((117 : UInt8).toNat : Int)) then some (101 : UInt8) else (bif (((gt x (q : Int)).toNat : Int) == ((101 : UInt8).toNat : Int)) then some (117 : UInt8) else some (gt x (q : Int)))))) = some (sw (gt x (q : Int))) := by
     unfold sw
     rw [tab_at]
     simp only [beq_u8]
     generalize gt x (q : Int) = c
     by_cases h1 : c = 109
     ·subst h1; rfl
     by_cases h2 : c = 115
     ·subst h2; rfl
     by_cases h3 : c = 117
     ·subst h3; rfl
     by_cases h4 : c = 101
     ·subst h4; rfl
     rw [decide_eq_false h1, decide_eq_false h2, decide_eq_false h3, decide_eq_false h4, if_neg h1, if_neg h2, if_neg h3, if_neg h4]
     rfl
    rw [hc2, Option.bind_some, small_in (by simp; omega), w64_succ (by omega), take_succ_gt hq, List.map_append]
    rfl) (by
    unfold spec_FlipWord.b0
    dsimp only
    rw [chk_in ⟨by omega, by omega⟩, hgx, dlt_nat, decide_eq_false (by omega), List.take_length]; rfl)
   have hin' : loop1 (spec_FlipWord.b0 ((L.length - 1 - k : Nat) : Int) L) ([], 0) = _ := hin
   rw [hin', Option.bind_some]
   dsimp only
   have hr : L.reverse.take (k + 1) = L.reverse.take k ++ [x] := by
    rw [List.take_add_one, List.getElem?_reverse hk, List.getElem?_eq_getElem (by omega), hx]; rfl
   have e2 : w64 (((L.length - 1 - k : Nat) : Int) - 1) = (L.length : Int) - 1 - ((k + 1 : Nat) : Int) := by rw [w64_in (by omega)]; omega
   rw [small_in (by simp; omega), hr, List.map_append, e2]
   rfl) (by
   unfold spec_FlipWord.b1
   dsimp only
   rw [decide_eq_false (by omega), cond_false, List.take_of_length_le (by simp)]
   have : (L.length : Int) - 1 - (L.length : Int) = -1 := by omega
   rw [this]
   rfl)
  have hl' : loop1 (spec_FlipWord.b1 L) ([], (L.length : Int) - 1) = some (flipL L, -1) := by
   have e3 : (L.length : Int) - 1 - ((0 : Nat) : Int) = (L.length : Int) - 1 := by omega
   have hl2 := hl
   rw [e3] at hl2
   exact hl2
  rw [hl', Option.bind_some]
  dsimp only
  rw [joined_eq (K := 12) (by simp [flipL]; omega) (fun x hx => by
   unfold flipL at hx
   obtain ⟨y, hy, rfl⟩ := List.mem_map.1 hx
   rw [List.length_map]
   exact hsl y (List.mem_reverse.1 hy)) (by simp [flipL]; omega), Option.bind_some]
  have : Lib.join (flipL L) [47] = flipW w := by
   by_cases he : w = []
   ·subst he
    have : L = [[]] := hL.symm
    rw [this]; rfl
   unfold flipW
   have hl : lays w = spl 47 w := by unfold lays; rw [if_neg he]
   rw [hl, hL]
  rw [this]
end
end Go.Proofs.YtpejnjpckacciaaGreatDoor.G
set_option linter.unusedVariables false
namespace Go.Proofs.YtpejnjpckacciaaGreatDoor.G
open Go Go.Sx Go.Proofs Go.Shelf
theorem wrapU (x : Int) : IntKind.u64.wrap x = x % 18446744073709551616 := rfl
theorem mask_eq (a : Nat) (ha : a < 18446744073709551616) : bits .and .u64 (a : Int) 16777215 = ((a % 16777216 : Nat) : Int) := by
 have e : bits .and .u64 (a : Int) 16777215 = IntKind.u64.wrap (((BitVec.ofInt 64 (a : Int) &&& BitVec.ofInt 64 16777215).toNat : Nat) : Int) := rfl
 have h1 : (BitVec.ofInt 64 (a : Int)).toNat = a := by
  rw [BitVec.ofInt_natCast, BitVec.toNat_ofNat]
  exact Nat.mod_eq_of_lt ha
 have h2 : (BitVec.ofInt 64 (16777215 : Int)).toNat = 16777215 := by decide
 have h3 : a &&& 16777215 = a % 16777216 := Nat.and_two_pow_sub_one_eq_mod a 24
 rw [e, BitVec.toNat_and, h1, h2, h3, wrapU]
 omega
theorem hash_eq (h : Nat) : IntKind.u64.wrap ((IntKind.u64.wrap ((h : Int) * 6364136223846793005)) + 1442695040888963407) = ((stp h : Nat) : Int) := by
 rw [wrapU, wrapU]
 unfold stp
 omega
section
variable {code : List UInt8} (hc : code.length ≤ 4096)
include hc
theorem next_at {k h n : Nat} (hk : k ≤ 4096) (hn : 1 ≤ n) : ∃ r k' : Nat, spec_l01Next.f code (k : Int) (h : Int) (n : Int) = some ((r : Int), (k' : Int), ((stp h : Nat) : Int)) ∧ r < n ∧ k' ≤ 4096 ∧ (k < code.length → k' = k + 1) ∧ (code.length ≤ k → k' = k ∧ r = ox (stp h) % n) := by
 unfold spec_l01Next.f
 have hlt : stp h < 18446744073709551616 := Nat.mod_lt _ (by decide)
 have hf : Int.fdiv ((stp h : Nat) : Int) 8589934592 = ((stp h / 8589934592 : Nat) : Int) := by
  rw [Int.fdiv_eq_ediv_of_nonneg _ (by decide)]
  omega
 have hm : bits .and .u64 (Int.fdiv ((stp h : Nat) : Int) 8589934592) 16777215 = ((ox (stp h) : Nat) : Int) := by
  rw [hf, mask_eq _ (by omega)]; rfl
 rw [hash_eq, hm]
 have hox : ox (stp h) < 16777216 := Nat.mod_lt _ (by decide)
 rw [decide_eq_false (by omega), cond_false, dlt_nat]
 by_cases hl : k < code.length
 ·have hx := (gt code (k : Int)).toNat_lt
  rw [decide_eq_true hl, cond_true, chk_in ⟨by omega, by omega⟩, Option.bind_some, w64_in (x := ((ox (stp h) : Nat) : Int)) (by omega), w64_in (x := ((ox (stp h) : Nat) : Int) + _) (by omega), w64_succ (by omega)]
  simp only [nz_in (b := (n : Int)) (by omega)]
  refine ⟨(ox (stp h) + (gt code (k : Int)).toNat) % n, k + 1, ?_, Nat.mod_lt _ (by omega), by omega, fun _ => rfl, fun h => by omega⟩
  congr 2
 rw [decide_eq_false hl, cond_false, Option.bind_some, w64_in (x := ((ox (stp h) : Nat) : Int)) (by omega)]
 simp only [nz_in (b := (n : Int)) (by omega)]
 refine ⟨ox (stp h) % n, k, ?_, Nat.mod_lt _ (by omega), hk, fun h => absurd h hl, fun _ => ⟨rfl, rfl⟩⟩
 congr 2
theorem from_at : ∃ h : Nat, spec_l01From.f code = some (0, (h : Int)) := by
 unfold spec_l01From.f
 have hw : ∀ x : Int, ∃ h : Nat, IntKind.u64.wrap x = (h : Int) := fun x => by
  rw [wrapU]
  exact Int.eq_ofNat_of_zero_le (Int.emod_nonneg _ (by decide))
 obtain ⟨o, ho, hq⟩ := loop1_run (f := spec_l01From.b0 code) (fun p => (∃ h : Nat, p.1 = (h : Int)) ∧ 0 ≤ p.2 ∧ p.2 ≤ 4096) (fun p => 4096 - p.2.toNat) (fun p => ∃ h : Nat, p.1 = (h : Int)) (by
  rintro ⟨a, i⟩ ⟨h0, h1, h2⟩
  simp only at h1 h2
  unfold spec_l01From.b0
  dsimp only
  by_cases hl : i < (code.length : Int)
  ·rw [decide_eq_true hl, decide_eq_true (show i < 4096 by omega)]
   simp only [Bool.and_true, cond_true]
   rw [chk_in (by omega), w64_in (x := i + 1) (by omega)]
   exact .inl ⟨_, rfl, ⟨hw _, by simp only; omega, by simp only; omega⟩, by simp only; omega⟩
  rw [decide_eq_false hl]
  exact .inr ⟨_, rfl, h0⟩) ((IntKind.u64.wrap (12671 + (IntKind.u64.wrap (code.length : Int)))), 0) ⟨hw _, by simp, by simp⟩ (by simp)
 rw [ho]
 obtain ⟨h, hh⟩ := hq
 obtain ⟨a, i⟩ := o
 simp only at hh
 subst hh
 exact ⟨h, rfl⟩
end
def tbl : List UInt8 := [105, 105, 120, 109, 115, 101, 117]
theorem letter_cases {r : Nat} (hr : r < 7) : ∃ a b, lg (gt tbl (r : Int)) = some (a, b) ∧ (r ≠ 6 → 1 ≤ a) ∧ (r = 6 → a = 0 ∧ b = 1 ∧ gt tbl (r : Int) = 117) := by
 have h7 : r = 0 ∨ r = 1 ∨ r = 2 ∨ r = 3 ∨ r = 4 ∨ r = 5 ∨ r = 6 := by omega
 rcases h7 with rfl | rfl | rfl | rfl | rfl | rfl | rfl
 ·exact ⟨1, 1, rfl, by simp, by simp⟩
 ·exact ⟨1, 1, rfl, by simp, by simp⟩
 ·exact ⟨2, 2, rfl, by simp, by simp⟩
 ·exact ⟨2, 1, rfl, by simp, by simp⟩
 ·exact ⟨1, 2, rfl, by simp, by simp⟩
 ·exact ⟨1, 0, rfl, by simp, by simp⟩
 exact ⟨0, 1, rfl, by simp, fun _ => ⟨rfl, rfl, rfl⟩⟩
theorem lg_noslash {c : UInt8} {q : Nat × Nat} (h : lg c = some q) : c ≠ 47 := by rintro rfl; cases h
theorem count_snoc {l : Str} {c : UInt8} (hl : l.count 47 = 0) (hc : c ≠ 47) : (l ++ [c]).count 47 = 0 := by
 rw [List.count_append, hl, List.count_cons, beq_eq_false_iff_ne.2 hc]; rfl
section
variable {code : List UInt8} (hc : code.length ≤ 4096)
include hc
theorem letter_step {k h left up : Nat} {s : Str} (hk : k ≤ 4096) (hs : s.length ≤ 4000000000000000000) (hup : up ≤ 4000000000000000000) (hleft : left ≤ 1000000000000000000) (hgo : 0 < left ∨ s = []) (hns : s.count 47 = 0) :
  ∃ (k' left' up' : Nat) (c : UInt8) (u : Bool), spec_l04DrawFrom.b0 code ((k : Int), (h : Int), s, (left : Int), (up : Int)) = some (.next ((k' : Int), ((stp h : Nat) : Int), s ++ [c], (left' : Int), (up' : Int))) ∧ k' ≤ 4096 ∧ (k < code.length → k' = k + 1) ∧ (code.length ≤ k → k' = k ∧ (u = true ↔ nou (stp h) = false)) ∧
   left' ≤ left ∧ (u = false → 0 < left → left' < left) ∧ up' ≤ up + 2 ∧ c ≠ 47 := by
 unfold spec_l04DrawFrom.b0
 dsimp only
 have hcond : (decide ((left : Int) > 0) || (s == ([] : Str))) = true := by
  rcases hgo with h | h
  ·rw [decide_eq_true (by omega)]; rfl
  rw [h]; simp
 rw [hcond, cond_true]
 obtain ⟨r, k', e, hr, hk', h1, h2⟩ := next_at hc (h := h) hk (n := 7) (by omega)
 have e : spec_l01Next.f code (k : Int) (h : Int) 7 = _ := e
 rw [e, Option.bind_some]
 dsimp only
 have hlen : ([(105 : UInt8), (105 : UInt8), (120 : UInt8), (109 : UInt8), (115 : UInt8), (101 : UInt8), (117 : UInt8)] : List UInt8).length = 7 := rfl
 rw [hlen, chk_in ⟨by omega, by omega⟩]
 have ht : ([(105 : UInt8), (105 : UInt8), (120 : UInt8), (109 : UInt8), (115 : UInt8), (101 : UInt8), (117 : UInt8)] : List UInt8) = tbl := rfl
 rw [ht]
 obtain ⟨a, b, el, ha, hb⟩ := letter_cases hr
 have hab := lg_bound el
 have el2 : spec_l04Legs.f (gt tbl (r : Int)) = some ((a : Int), (b : Int), true) := by rw [legs_eq, piece_eq, el]
 rw [el2, Option.bind_some]
 dsimp only
 have e1 : w64 ((w64 ((w64 ((up : Int) + (b : Int))) + (left : Int))) - (a : Int)) = (up : Int) + b + left - a := by
  rw [w64_in (x := (up : Int) + (b : Int)) (by omega), w64_in (x := (up : Int) + (b : Int) + (left : Int)) (by omega), w64_in (by omega)]
 rw [e1]
 have hns2 := lg_noslash el
 have hu : (decide (r = 6) = true ↔ nou (stp h) = false) → True := fun _ => trivial
 by_cases hl0 : left = 0
 ·-- the layer is empty: one letter u
  subst hl0
  have hz : (((0 : Nat) : Int) == 0) = true := rfl
  rw [hz]
  simp only [cond_true]
  have key : ∀ x12 x13 x14 : Int, True := fun _ _ _ => trivial
  cases hcc : ((decide ((a : Int) > ((0 : Nat) : Int))) || (((decide ((up : Int) + b + ((0 : Nat) : Int) - a > 3)) && (decide ((b : Int) ≥ (a : Int)))) && (decide ((b : Int) > 1)))) with
  | true =>
   rw [cond_true, Option.bind_some]
   dsimp only
   rw [Option.bind_some]
   dsimp only
   rw [tall_in (by simp; omega)]
   refine ⟨k', 0, up + 1, 117, decide (r = 6), ?_, hk', h1, fun hcl => ⟨(h2 hcl).1, ?_⟩, by omega, fun _ h => by omega, by omega, by decide⟩
   ·rw [w64_in (x := ((0 : Nat) : Int) - 0) (by omega), w64_succ (by omega)]
    rfl
   rw [decide_eq_true_iff]
   unfold nou
   rw [(h2 hcl).2]
   simp
  | false =>
   rw [cond_false, Option.bind_some]
   dsimp only
   rw [Option.bind_some]
   dsimp only
   rw [tall_in (by simp; omega)]
   refine ⟨k', 0, up + b, 117, decide (r = 6), ?_, hk', h1, fun hcl => ⟨(h2 hcl).1, ?_⟩, by omega, fun _ h => by omega, by omega, by decide⟩
   ·rw [w64_in (x := ((0 : Nat) : Int) - 0) (by omega), w64_in (x := (up : Int) + (b : Int)) (by omega)]
    have : (up : Int) + (b : Int) = ((up + b : Nat) : Int) := by omega
    rw [this]
    rfl
   rw [decide_eq_true_iff]
   unfold nou
   rw [(h2 hcl).2]
   simp
 have hz : ((left : Int) == 0) = false := by rw [beq_nat0, decide_eq_false hl0]
 rw [hz]
 simp only [cond_false]
 cases hcc : ((decide ((a : Int) > (left : Int))) || (((decide ((up : Int) + b + left - a > 3)) && (decide ((b : Int) ≥ (a : Int)))) && (decide ((b : Int) > 1)))) with
 | true =>
  rw [cond_true, Option.bind_some]
  dsimp only
  rw [Option.bind_some]
  dsimp only
  rw [tall_in (by simp; omega)]
  refine ⟨k', left - 1, up + 1, 105, decide (r = 6), ?_, hk', h1, fun hcl => ⟨(h2 hcl).1, ?_⟩, by omega, fun _ h => by omega, by omega, by decide⟩
  ·rw [w64_in (x := (left : Int) - 1) (by omega), w64_succ (by omega)]
   have : (left : Int) - 1 = ((left - 1 : Nat) : Int) := by omega
   rw [this]
  rw [decide_eq_true_iff]
  unfold nou
  rw [(h2 hcl).2]
  simp
 | false =>
  rw [cond_false, Option.bind_some]
  dsimp only
  rw [Option.bind_some]
  dsimp only
  rw [tall_in (by simp; omega)]
  rw [Bool.or_eq_false_iff, decide_eq_false_iff_not] at hcc
  have hal : a ≤ left := by have := hcc.1; omega
  refine ⟨k', left - a, up + b, gt tbl (r : Int), decide (r = 6), ?_, hk', h1, fun hcl => ⟨(h2 hcl).1, ?_⟩, by omega, fun hu _ => ?_, by omega, hns2⟩
  ·rw [w64_in (x := (left : Int) - (a : Int)) (by omega), w64_in (x := (up : Int) + (b : Int)) (by omega)]
   have e2 : (left : Int) - (a : Int) = ((left - a : Nat) : Int) := by omega
   have e3 : (up : Int) + (b : Int) = ((up + b : Nat) : Int) := by omega
   rw [e2, e3]
  ·rw [decide_eq_true_iff]
   unfold nou
   rw [(h2 hcl).2]
   simp
  have := of_decide_eq_false hu
  have := ha this
  omega
end
theorem itn_snoc (f : Nat → Nat) : ∀ (t x : Nat), itn f (t + 1) x = f (itn f t x)
 | 0, x => rfl
 | t + 1, x => by
  rw [itn_succ, itn_snoc f t (f x), itn_succ]
structure LS (code : List UInt8) (k0 h0 N t : Nat) (q : Nat → Bool) (k h left up : Nat) (s : Str) : Prop where
  kb : k ≤ 4096
  kt : code.length ≤ k ∨ k0 + t ≤ k
  hh : h = itn stp t h0
  len : s.length = t
  lf : left + (List.range t).countP q ≤ N ∨ (left = 0 ∧ t ≠ 0)
  upb : up ≤ 2 * t
  ns : s.count 47 = 0
  qq : ∀ j, j < t → code.length ≤ k0 + j → q j = nou (itn stp (j + 1) h0)
section
variable {code : List UInt8} (hc : code.length ≤ 4096)
include hc
theorem layer_draw {k0 h0 N : Nat} (hk : k0 ≤ 4096) (hN : N ≤ 20000000000000000) : ∃ (k' h' left up : Nat) (s : Str), loop1 (spec_l04DrawFrom.b0 code) ((k0 : Int), (h0 : Int), ([] : Str), (N : Int), 0) = some ((k' : Int), (h' : Int), s, (left : Int), (up : Int)) ∧ k' ≤ 4096 ∧ s.length ≤ 10 * N + 34361840000 ∧ s.count 47 = 0 ∧ 0 < s.length := by
 obtain ⟨offs, o1, o2, o3⟩ := offsets
 obtain ⟨B, hB⟩ : ∃ B : Nat, B = 34361835520 := ⟨_, rfl⟩
 rw [← hB] at o2
 obtain ⟨C, hC⟩ : ∃ C : Nat, C = 4096 := ⟨_, rfl⟩
 -- the loop with a ghost: which letters use legs
 have key : ∀ d t (k h left up : Nat) (s : Str) (q : Nat → Bool), LS code k0 h0 N t q k h left up s → d + t = 10 * N + B + 4097 → ∃ (k' h' left' up' : Nat) (s' : Str), loopN (ρ := Empty) (fun s => (spec_l04DrawFrom.b0 code s).map LB.lr) (d + 2) ((k : Int), (h : Int), s, (left : Int), (up : Int)) = some (.brk ((k' : Int), (h' : Int), s', (left' : Int), (up' : Int))) ∧ k' ≤ 4096 ∧ s'.length ≤ 10 * N + B + 4098 ∧ s'.count 47 = 0 ∧ (0 < t ∨ 0 < left ∨ s = [] → 0 < s'.length) := by
  intro d
  induction d with
  | zero =>
   intro t k h left up s q I ht
   -- no leg is left
   have hl0 : left = 0 := by
    rcases I.lf with hl | hl
    ·have hcnt : N ≤ (List.range t).countP q := by
      have hm := count_many (offs := offs) (B := B) o2 (fun x => nou (itn stp (C + x + 1) h0)) (fun x => by
       obtain ⟨o, ho, hn⟩ := o3 (itn stp (C + x + 1) h0)
       refine ⟨o, ho, ?_⟩
       rw [show C + (x + o) + 1 = C + x + 1 + o by omega, itn_add]
       exact hn) (10 * N)
      rw [o1] at hm
      have hs := count_shift q C (10 * N + B) 4097 (by omega)
      have ht' : t = 10 * N + B + 4097 := by omega
      rw [← ht'] at hs
      have he : (List.range (10 * N + B)).countP (fun x => q (x + C)) = (List.range (10 * N + B)).countP (fun x => nou (itn stp (C + x + 1) h0)) := by
       refine List.countP_congr fun x hx => ?_
       have hx := List.mem_range.1 hx
       rw [I.qq (x + C) (by omega) (by omega), show x + C + 1 = C + x + 1 by omega]
      rw [he] at hs
      omega
     omega
    exact hl.1
   have hsne : s ≠ [] := by
    intro e
    have := I.len
    rw [e] at this
    simp at this
    omega
   refine ⟨k, h, left, up, s, ?_, I.kb, by rw [I.len]; omega, I.ns, fun _ => by rw [I.len]; omega⟩
   have : spec_l04DrawFrom.b0 code ((k : Int), (h : Int), s, (left : Int), (up : Int)) = some (.brk ((k : Int), (h : Int), s, (left : Int), (up : Int))) := by
    unfold spec_l04DrawFrom.b0
    dsimp only
    have e1 : (decide ((left : Int) > 0) || (s == ([] : Str))) = false := by rw [hl0]; simp [hsne]
    rw [e1]; rfl
   simp only [loopN, this]
   rfl
  | succ d ih =>
   intro t k h left up s q I ht
   by_cases hgo : 0 < left ∨ s = []
   ·have hl := I.len
    have hu := I.upb
    have hlN : left ≤ N := by rcases I.lf with h | h <;> omega
    obtain ⟨k', left', up', c, u, e, g1, g2, g3, g4, g5, g6, g7⟩ := letter_step hc (h := h) I.kb (by omega) (up := up) (by omega) (left := left) (by omega) hgo I.ns
    have hI : LS code k0 h0 N (t + 1) (fun j => if j = t then !u else q j) k' (stp h) left' up' (s ++ [c]) := by
     have hcount : (List.range (t + 1)).countP (fun j => if j = t then !u else q j) = (List.range t).countP q + if u then 0 else 1 := by
      rw [List.range_succ, List.countP_append]
      have e1 : (List.range t).countP (fun j => if j = t then !u else q j) = (List.range t).countP q := by
       refine List.countP_congr fun x hx => ?_
       have := List.mem_range.1 hx
       rw [if_neg (by omega)]
      rw [e1]
      cases u <;> simp
     refine ⟨g1, ?_, ?_, by simp [hl], ?_, by omega, count_snoc I.ns g7, fun j hj hcl => ?_⟩
     ·by_cases hk2 : k < code.length
      ·have := g2 hk2
       have := I.kt
       omega
      have := (g3 (by omega)).1
      omega
     ·rw [itn_snoc, ← I.hh]
     ·rcases I.lf with hl' | hl'
      ·rw [hcount]
       cases u with
       | true => left; simp; omega
       | false =>
        by_cases hp : 0 < left
        ·have := g5 rfl hp
         left; simp; omega
        right; omega
      right
      omega
     by_cases hjt : j = t
     ·subst hjt
      rw [if_pos rfl]
      have hk2 : code.length ≤ k := by have := I.kt; omega
      have := (g3 hk2).2
      rw [itn_snoc, ← I.hh]
      cases hn : nou (stp h) with
      | true =>
       cases u with
       | true => rw [hn] at this; exact absurd (this.1 rfl) (by simp)
       | false => rfl
      | false => rw [this.2 hn]; rfl
     rw [if_neg hjt]
     exact I.qq j (by omega) hcl
    obtain ⟨k2, h2, l2, u2, s2, f1, f2, f3, f4, f5⟩ := ih (t + 1) k' (stp h) left' up' (s ++ [c]) _ hI (by omega)
    refine ⟨k2, h2, l2, u2, s2, ?_, f2, f3, f4, fun _ => f5 (.inl (by omega))⟩
    rw [show d + 1 + 2 = (d + 2) + 1 by omega]
    simp only [loopN, e]
    exact f1
   have hl0 : left = 0 := by omega
   have hsne : s ≠ [] := fun e => hgo (.inr e)
   have hpos : 0 < s.length := List.length_pos_iff.2 hsne
   refine ⟨k, h, left, up, s, ?_, I.kb, by rw [I.len]; omega, I.ns, fun _ => hpos⟩
   have : spec_l04DrawFrom.b0 code ((k : Int), (h : Int), s, (left : Int), (up : Int)) = some (.brk ((k : Int), (h : Int), s, (left : Int), (up : Int))) := by
    unfold spec_l04DrawFrom.b0
    dsimp only
    have e1 : (decide ((left : Int) > 0) || (s == ([] : Str))) = false := by rw [hl0]; simp [hsne]
    rw [e1]; rfl
   simp only [loopN, this]
   rfl
 obtain ⟨k', h', left', up', s', f1, f2, f3, f4, f5⟩ := key (10 * N + B + 4097) 0 k0 h0 N 0 [] (fun _ => false) ⟨hk, .inr (by omega), rfl, rfl, .inl (by simp), by omega, rfl, fun j hj => by omega⟩ rfl
 refine ⟨k', h', left', up', s', ?_, f2, by omega, f4, f5 (.inr (.inr rfl))⟩
 exact loop1_of (loop_of f1 (by omega))
end
end Go.Proofs.YtpejnjpckacciaaGreatDoor.G
set_option linter.unusedVariables false
namespace Go.Proofs.YtpejnjpckacciaaGreatDoor.G
open Go Go.Sx Go.Proofs Go.Shelf
def bnd : Nat → Nat
  | 0 => 6
  | j + 1 => 20 * bnd j + 68723680000
theorem bnd_le4 {j : Nat} (hj : j ≤ 4) : bnd j ≤ 900000000000000 := by
 have h : j = 0 ∨ j = 1 ∨ j = 2 ∨ j = 3 ∨ j = 4 := by omega
 rcases h with rfl | rfl | rfl | rfl | rfl <;> decide
theorem outs_len (s : Str) : outsOf s ≤ 2 * s.length := by
 unfold outsOf
 cases h : lgs s with
 | none => simp
 | some q =>
  obtain ⟨a, b⟩ := q
  exact (lgs_bound h).2.1
def Drawn (w : Str) : Prop := w.count 47 ≤ 5 ∧ w.length ≤ 100000000000000000
section
variable {code : List UInt8} (hc : code.length ≤ 4096)
include hc
theorem drawFrom_ok {k h N m : Nat} (hk : k ≤ 4096) (hN : N ≤ 6) (hm : m ≤ 5) : ∃ (k' h' : Nat) (xs : List Str), spec_l04DrawFrom.f code (k : Int) (h : Int) (N : Int) (m : Int) = some (xs, (k' : Int), (h' : Int)) ∧ k' ≤ 4096 ∧ xs.length = m ∧ ∀ x ∈ xs, x.length ≤ 10000000000000000 ∧ x.count 47 = 0 := by
 obtain ⟨o, ho, hq⟩ := loop1_run (f := spec_l04DrawFrom.b1 code) (s := ((k : Int), (h : Int), (N : Int), (m : Int), ([] : List Str)))
  (fun s => ∃ (j k h n : Nat) (xs : List Str), s = ((k : Int), (h : Int), (n : Int), ((m - j : Nat) : Int), xs) ∧ j ≤ m ∧ k ≤ 4096 ∧ n ≤ bnd j ∧ xs.length = j ∧ ∀ x ∈ xs, x.length ≤ 10000000000000000 ∧ x.count 47 = 0) (fun s => s.2.2.2.1.toNat)
  (fun s => ∃ (k h : Nat) (n x : Int) (xs : List Str), s = ((k : Int), (h : Int), n, x, xs) ∧ k ≤ 4096 ∧ xs.length = m ∧ ∀ x ∈ xs, x.length ≤ 10000000000000000 ∧ x.count 47 = 0) (by
  rintro s ⟨j, k, h, n, xs, rfl, hj, hk, hn, hl, hx⟩
  unfold spec_l04DrawFrom.b1
  dsimp only
  by_cases hlt : j < m
  ·left
   have hb := bnd_le4 (j := j) (by omega)
   obtain ⟨k', h', left, up, s, e, g1, g2, g3, g4⟩ := layer_draw hc (h0 := h) hk (N := n) (by omega)
   rw [decide_eq_true (by omega), cond_true, e, Option.bind_some]
   dsimp only
   have hol := outs_len s
   rw [small_in (by simp; omega), layer_eq' (by omega), Option.bind_some]
   have ho := lw_out s
   generalize lw s = v at ho ⊢
   obtain ⟨v1, v2, v3⟩ := v
   dsimp only at ho ⊢
   subst ho
   have e1 : w64 (((m - j : Nat) : Int) - 1) = ((m - (j + 1) : Nat) : Int) := by rw [w64_in (by omega)]; omega
   rw [e1]
   refine ⟨_, rfl, ⟨j + 1, k', h', outsOf s, xs ++ [s], rfl, by omega, g1, ?_, by simp [hl], fun x hxm => ?_⟩, ?_⟩
   ·show outsOf s ≤ 20 * bnd j + 68723680000
    omega
   ·rcases List.mem_append.1 hxm with hxm | hxm
    ·exact hx x hxm
    obtain rfl := List.mem_singleton.1 hxm
    exact ⟨by omega, g3⟩
   show ((m - (j + 1) : Nat) : Int).toNat < ((m - j : Nat) : Int).toNat
   omega
  right
  obtain rfl : j = m := by omega
  rw [decide_eq_false (by omega)]
  exact ⟨_, rfl, k, h, _, _, xs, rfl, hk, hl, hx⟩) ⟨0, k, h, N, [], rfl, by omega, hk, hN, rfl, fun x hx => nomatch hx⟩ (by show (m : Int).toNat < _; omega)
 obtain ⟨k', h', n, x, xs, rfl, g1, g2, g3⟩ := hq
 refine ⟨k', h', xs, ?_, g1, g2, g3⟩
 unfold spec_l04DrawFrom.f
 rw [ho]; rfl
omit hc in
theorem joined_ok {m : Nat} (hm : m ≤ 5) {xs : List Str} (hl : xs.length = m) (hx : ∀ x ∈ xs, x.length ≤ 10000000000000000 ∧ x.count 47 = 0) : ∃ w, spec_l04Joined.f xs = some w ∧ w.count 47 ≤ 4 ∧ w.length ≤ 60000000000000000 := by
 refine ⟨_, joined_eq (K := 10000000000000000) (by omega) (fun x hm => (hx x hm).1) (by omega), ?_, ?_⟩
 ·by_cases he : xs = []
  ·subst he; exact Nat.zero_le _
  have := join_count he (fun x hm => (hx x hm).2)
  omega
 have := join_length (xs := xs) (k := 10000000000000000) (fun x hm => (hx x hm).1)
 omega
omit hc in
theorem cut_count {t c : Str} {a b : Nat} (hab : a ≤ b) (hcc : c.count 47 = 0) : (t.take a ++ c ++ t.drop b).count 47 ≤ t.count 47 := by
 have h1 : (t.drop b).count 47 ≤ (t.drop a).count 47 := by
  have : t.drop b = (t.drop a).drop (b - a) := by rw [List.drop_drop]; congr 1; omega
  rw [this]
  exact (List.drop_sublist _ _).count_le 47
 have h2 : t.count 47 = (t.take a).count 47 + (t.drop a).count 47 := by rw [← List.count_append, List.take_append_drop]
 rw [List.count_append, List.count_append]
 omega
omit hc in
theorem cut_len2 {t c : Str} {a b : Nat} (hab : a ≤ b) : (t.take a ++ c ++ t.drop b).length ≤ t.length + c.length := by
 rw [List.length_append, List.length_append, List.length_take, List.length_drop]
 omega
def sg10 : List Str := [([48] : Str), ([49] : Str), ([50] : Str), ([97] : Str), ([58] : Str), ([44] : Str), ([32] : Str), ([45] : Str), ([120] : Str), ([10] : Str)]
omit hc in
theorem sg10_ok : ∀ i : Fin 10, (gt sg10 ((i.val : Nat) : Int)).length = 1 ∧ (gt sg10 ((i.val : Nat) : Int)).count 47 = 0 := by decide
theorem damage_ok {k h : Nat} (hk : k ≤ 4096) {t : Str} (ht : t.length ≤ 60000000000000000) : ∃ (k' h' : Nat) (w : Str), spec_l01Damage.f code (k : Int) (h : Int) t = some (w, (k' : Int), (h' : Int)) ∧ k' ≤ 4096 ∧ w.count 47 ≤ t.count 47 ∧ w.length ≤ t.length + 1 := by
 unfold spec_l01Damage.f
 obtain ⟨r1, k1, e1, hr1, hk1, _⟩ := next_at hc (h := h) hk (n := 10) (by omega)
 have e1' : spec_l01Next.f code (k : Int) (h : Int) (([([48] : Str), ([49] : Str), ([50] : Str), ([97] : Str), ([58] : Str), ([44] : Str), ([32] : Str), ([45] : Str), ([120] : Str), ([10] : Str)] : List Str).length : Int) = _ := e1
 rw [e1', Option.bind_some]
 dsimp only
 have hsg : ([([48] : Str), ([49] : Str), ([50] : Str), ([97] : Str), ([58] : Str), ([44] : Str), ([32] : Str), ([45] : Str), ([120] : Str), ([10] : Str)] : List Str) = sg10 := rfl
 rw [hsg, chk_in ⟨by omega, by show (r1 : Int) < (10 : Nat); omega⟩]
 obtain ⟨c1, c2⟩ := sg10_ok ⟨r1, hr1⟩
 dsimp only at c1 c2
 generalize gt sg10 (r1 : Int) = c at c1 c2 ⊢
 by_cases he : t = []
 ·subst he
  exact ⟨k1, _, c, rfl, hk1, by rw [c2]; exact Nat.zero_le _, by rw [c1]; exact Nat.le_refl _⟩
 have hpos : 0 < t.length := List.length_pos_iff.2 he
 have e0 : ((t.length : Int) == 0) = false := by rw [beq_nat0, decide_eq_false (by omega)]
 rw [e0, cond_false]
 obtain ⟨r2, k2, e2, hr2, hk2, _⟩ := next_at hc (h := stp h) hk1 (n := t.length) hpos
 rw [e2, Option.bind_some]
 dsimp only
 obtain ⟨r3, k3, e3, hr3, hk3, _⟩ := next_at hc (h := stp (stp h)) hk2 (n := 3) (by omega)
 have e3 : spec_l01Next.f code (k2 : Int) ((stp (stp h) : Nat) : Int) 3 = _ := e3
 rw [e3, Option.bind_some]
 dsimp only
 have hsucc : w64 ((r2 : Int) + 1) = ((r2 + 1 : Nat) : Int) := w64_succ (by omega)
 have b0 : ((r3 : Int) == 0) = decide (r3 = 0) := beq_nat0 r3
 have b1 : ((r3 : Int) == 1) = decide (r3 = 1) := beq_nat r3 1
 rw [hsucc, b0, b1, Int.toNat_natCast, Int.toNat_natCast]
 simp only [List.drop_zero, Nat.sub_zero, drop_take]
 by_cases h0 : r3 = 0
 ·rw [decide_eq_true h0, cond_true, grd_in (by simp; omega), tall_in (by rw [List.length_take, c1]; omega), grd_in (by simp; omega), tall_in (by rw [List.length_append, List.length_take, List.length_drop, c1]; omega)]
  exact ⟨k3, _, _, rfl, hk3, cut_count (by omega) c2, by have := cut_len2 (t := t) (c := c) (a := r2) (b := r2 + 1) (by omega); omega⟩
 rw [decide_eq_false h0, cond_false]
 by_cases h1 : r3 = 1
 ·rw [decide_eq_true h1, cond_true, grd_in (by simp; omega), grd_in (by simp; omega), tall_in (by rw [List.length_take, List.length_drop]; omega)]
  have hcc := cut_count (t := t) (c := []) (a := r2) (b := r2 + 1) (by omega) rfl
  have hcl := cut_len2 (t := t) (c := []) (a := r2) (b := r2 + 1) (by omega)
  rw [List.append_nil] at hcc hcl
  exact ⟨k3, _, _, rfl, hk3, hcc, by simp at hcl ⊢; omega⟩
 rw [decide_eq_false h1, cond_false, grd_in (by simp; omega), tall_in (by rw [List.length_take, c1]; omega), grd_in (by simp; omega), tall_in (by rw [List.length_append, List.length_take, List.length_drop, c1]; omega)]
 exact ⟨k3, _, _, rfl, hk3, cut_count (Nat.le_refl _) c2, by have := cut_len2 (t := t) (c := c) (a := r2) (b := r2) (Nat.le_refl _); omega⟩
theorem draw_word {k h : Nat} (hk : k ≤ 4096) : ∃ (k' h' : Nat) (w : Str), spec_l04Draw.f code (k : Int) (h : Int) = some (w, (k' : Int), (h' : Int)) ∧ k' ≤ 4096 ∧ Drawn w := by
 unfold spec_l04Draw.f spec_l01Pick.f
 obtain ⟨r1, k1, e1, hr1, hk1, _⟩ := next_at hc (h := h) hk (n := 7) (by omega)
 have e1 : spec_l01Next.f code (k : Int) (h : Int) (([0, 0, 1, 1, 2, 2, 3] : List Int).length : Int) = _ := e1
 rw [e1, Option.bind_some]
 dsimp only
 have hp : ∃ N : Nat, N ≤ 6 ∧ gt ([0, 0, 1, 1, 2, 2, 3] : List Int) (r1 : Int) = (N : Int) := by
  have h7 : r1 = 0 ∨ r1 = 1 ∨ r1 = 2 ∨ r1 = 3 ∨ r1 = 4 ∨ r1 = 5 ∨ r1 = 6 := by omega
  rcases h7 with rfl | rfl | rfl | rfl | rfl | rfl | rfl
  ·exact ⟨0, by omega, rfl⟩
  ·exact ⟨0, by omega, rfl⟩
  ·exact ⟨1, by omega, rfl⟩
  ·exact ⟨1, by omega, rfl⟩
  ·exact ⟨2, by omega, rfl⟩
  ·exact ⟨2, by omega, rfl⟩
  exact ⟨3, by omega, rfl⟩
 obtain ⟨N, hN, eN⟩ := hp
 rw [chk_in ⟨by omega, by show (r1 : Int) < (7 : Nat); omega⟩, eN, Option.bind_some]
 dsimp only
 obtain ⟨r2, k2, e2, hr2, hk2, _⟩ := next_at hc (h := stp h) hk1 (n := 6) (by omega)
 have e2 : spec_l01Next.f code (k1 : Int) ((stp h : Nat) : Int) 6 = _ := e2
 rw [e2, Option.bind_some]
 dsimp only
 obtain ⟨k3, h3, xs, e3, hk3, hl3, hx3⟩ := drawFrom_ok hc (k := k2) (h := stp (stp h)) (N := N) (m := r2) hk2 hN (by omega)
 rw [e3, Option.bind_some]
 dsimp only
 obtain ⟨w, e4, hw1, hw2⟩ := joined_ok (m := r2) (by omega) hl3 hx3
 rw [e4, Option.bind_some]
 obtain ⟨r5, k5, e5, hr5, hk5, _⟩ := next_at hc (h := h3) hk3 (n := 40) (by omega)
 have e5 : spec_l01Next.f code (k3 : Int) (h3 : Int) 40 = _ := e5
 rw [e5, Option.bind_some]
 dsimp only
 have b0 : ((r5 : Int) == 0) = decide (r5 = 0) := beq_nat0 r5
 have b1 : ((r5 : Int) == 1) = decide (r5 = 1) := beq_nat r5 1
 rw [b0, b1]
 by_cases h0 : r5 = 0
 ·rw [decide_eq_true h0, cond_true]
  obtain ⟨k6, h6, w6, e6, g1, g2, g3⟩ := damage_ok hc (h := stp h3) hk5 hw2
  rw [e6]
  exact ⟨k6, h6, w6, rfl, g1, by omega, by omega⟩
 rw [decide_eq_false h0, cond_false]
 by_cases h1 : r5 = 1
 ·rw [decide_eq_true h1, cond_true, tall_in (by simp; omega)]
  refine ⟨k5, _, _, rfl, hk5, ?_, by simp; omega⟩
  rw [List.count_append]
  have : ([47] : Str).count 47 = 1 := rfl
  omega
 rw [decide_eq_false h1, cond_false]
 exact ⟨k5, _, w, rfl, hk5, by omega, by omega⟩
theorem drawParts : ∃ w, spec_DrawPartsOf.f code = some w ∧ Drawn w := by
 unfold spec_DrawPartsOf.f
 obtain ⟨h, e⟩ := from_at hc
 rw [e, Option.bind_some]
 dsimp only
 obtain ⟨k', h', w, e2, _, hw⟩ := draw_word hc (k := 0) (h := h) (by omega)
 have e2 : spec_l04Draw.f code 0 (h : Int) = _ := e2
 rw [e2]
 exact ⟨w, rfl, hw⟩
theorem drawTwo : ∃ v w, spec_l04Two.f code = some (v, w) ∧ Drawn v ∧ Drawn w := by
 unfold spec_l04Two.f
 obtain ⟨h, e⟩ := from_at hc
 rw [e, Option.bind_some]
 dsimp only
 obtain ⟨k1, h1, v, e2, hk1, hv⟩ := draw_word hc (k := 0) (h := h) (by omega)
 have e2 : spec_l04Draw.f code 0 (h : Int) = _ := e2
 rw [e2, Option.bind_some]
 dsimp only
 have hv1 : v.length < 1000000000000000000 := by have := hv.2; omega
 have hv2 : v.count 47 ≤ 20 := by have := hv.1; omega
 rw [spec_is hv1 hv2, Option.bind_some]
 have other : ∀ {k h : Nat}, k ≤ 4096 → ∃ w, ((spec_l04Draw.f code (k : Int) (h : Int)).bind (fun p => match p with | (r_6, s8, s9) => some (v, r_6))) = some (v, w) ∧ Drawn w := by
  intro k h hk
  obtain ⟨k2, h2, w, e3, _, hw⟩ := draw_word hc (k := k) (h := h) hk
  rw [e3]
  exact ⟨w, rfl, hw⟩
 cases hok : okW v with
 | false =>
  obtain ⟨w, e3, hw⟩ := other (h := h1) hk1
  exact ⟨v, w, e3, hv, hw⟩
 | true =>
  simp only [Bool.not_true, cond_false]
  obtain ⟨r5, k5, e5, hr5, hk5, _⟩ := next_at hc (h := h1) hk1 (n := 4) (by omega)
  have e5 : spec_l01Next.f code (k1 : Int) (h1 : Int) 4 = _ := e5
  rw [e5, Option.bind_some]
  dsimp only
  rw [Option.bind_some]
  dsimp only
  have b0 : ((r5 : Int) == 0) = decide (r5 = 0) := beq_nat0 r5
  rw [b0]
  by_cases h0 : r5 = 0
  ·rw [decide_eq_true h0, cond_true]
   obtain ⟨w, e3, hw⟩ := other (h := stp h1) hk5
   exact ⟨v, w, e3, hv, hw⟩
  rw [decide_eq_false h0, cond_false, spec_ends hv1 hv2 hok, Option.bind_some]
  dsimp only
  obtain ⟨r6, k6, e6, hr6, hk6, _⟩ := next_at hc (h := stp h1) hk5 (n := 3) (by omega)
  have e6 : spec_l01Next.f code (k5 : Int) ((stp h1 : Nat) : Int) 3 = _ := e6
  rw [e6, Option.bind_some]
  dsimp only
  have e7 : w64 (1 + (r6 : Int)) = ((1 + r6 : Nat) : Int) := by rw [w64_in (by omega)]; omega
  have ho : outsW (lays v) ≤ 6 := by
   by_cases he : lays v = []
   ·rw [he]; simp [outsW, outsOf, lgs]
   unfold outsW
   rw [List.getLastD_eq_getLast?, List.getLast?_eq_some_getLast he]
   exact ((okL_iff.1 (show okL none (lays v) = true from hok)).1 _ (List.getLast_mem he)).2.2.2
  obtain ⟨k8, h8, xs, e8, hk8, hl8, hx8⟩ := drawFrom_ok hc (k := k6) (h := stp (stp h1)) (N := outsW (lays v)) (m := 1 + r6) hk6 ho (by omega)
  rw [e7, e8, Option.bind_some]
  dsimp only
  obtain ⟨w, e9, hw1, hw2⟩ := joined_ok (m := 1 + r6) (by omega) hl8 hx8
  rw [e9]
  exact ⟨v, w, rfl, hv, by omega, by omega⟩
end
end Go.Proofs.YtpejnjpckacciaaGreatDoor.G
set_option linter.unusedVariables false
namespace Go.Proofs.YtpejnjpckacciaaGreatDoor.G
open Go Go.Sx Go.Proofs Go.Shelf
theorem bad2_eq (L : List Str) (i : Nat) : bad2 L i = !decide (insOf (L.getD i []) ≤ 6 ∧ outsOf (L.getD i []) ≤ 6) := by
 unfold bad2
 rw [lv_in, lv_out, Bool.eq_iff_iff]
 simp
 omega
def six (L : List Str) : Bool := L.all fun l => decide (insOf l ≤ 6 ∧ outsOf l ≤ 6)
theorem any_bad2 (L : List Str) : (List.range L.length).any (bad2 L) = !six L := by
 rw [Bool.eq_iff_iff, List.any_eq_true, Bool.not_eq_true']
 unfold six
 rw [List.all_eq_false]
 constructor
 ·rintro ⟨i, hi, h⟩
  rw [bad2_eq] at h
  refine ⟨L.getD i [], getD_mem (List.mem_range.1 hi), fun hd => ?_⟩
  have hd : decide (insOf (L.getD i []) ≤ 6 ∧ outsOf (L.getD i []) ≤ 6) = true := hd
  rw [hd] at h
  cases h
 rintro ⟨l, hl, h⟩
 obtain ⟨i, hi, rfl⟩ := List.mem_iff_getElem.1 hl
 refine ⟨i, List.mem_range.2 hi, ?_⟩
 have e : L.getD i [] = L[i] := by rw [List.getD_eq_getElem?_getD, List.getElem?_eq_getElem hi]; rfl
 have h : decide (insOf L[i] ≤ 6 ∧ outsOf L[i] ≤ 6) = false := Bool.eq_false_iff.2 h
 rw [bad2_eq, e, h]; rfl
theorem told_eq {xs : List Str} (hne : xs ≠ []) (hn : xs.length ≤ 20) (hx : ∀ x ∈ xs, (∃ q, lgs x = some q) ∧ x ≠ [] ∧ x.length ≤ 24) (hl : link xs) :
  impl_told.f (Lib.join xs [47]) = some (bif six xs then (Lib.join xs [47], 0) else ([], 3)) ∧ spec_l04Told.f (Lib.join xs [47]) = some (bif six xs then (Lib.join xs [47], 0) else ([], 3)) ∧ (six xs = true → okW (Lib.join xs [47]) = true) ∧ lays (Lib.join xs [47]) = xs ∧ (Lib.join xs [47]).count 47 ≤ 20 ∧ (Lib.join xs [47]).length ≤ 500 := by
 have hns : ∀ x ∈ xs, x.count 47 = 0 := fun x hm => by
  obtain ⟨⟨⟨a, b⟩, e⟩, _⟩ := hx x hm
  exact lgs_noslash e
 have hla : lays (Lib.join xs [47]) = xs := lays_join hne fun x hm => ⟨(hx x hm).2.1, hns x hm⟩
 have hcn := join_count hne hns
 have hln := join_length (xs := xs) (k := 24) fun x hm => (hx x hm).2.2
 have hln2 : (Lib.join xs [47]).length ≤ 25 * 20 := Nat.le_trans hln (Nat.mul_le_mul_left _ hn)
 have h6 : six xs = true → okW (Lib.join xs [47]) = true := by
  intro h
  show okL none (lays (Lib.join xs [47])) = true
  rw [hla]
  refine okL_iff.2 ⟨fun l hm => ?_, hl, fun a hp => by cases hp⟩
  have h1 := List.all_eq_true.1 h l hm
  have h1 := of_decide_eq_true h1
  exact ⟨(hx l hm).1, (hx l hm).2.1, h1.1, h1.2⟩
 have hok : okW (Lib.join xs [47]) = six xs := by
  cases h : six xs with
  | true => exact h6 h
  | false =>
   rw [Bool.eq_false_iff]
   intro ho
   have ho : okL none (lays (Lib.join xs [47])) = true := ho
   rw [hla] at ho
   have hg := (okL_iff.1 ho).1
   have : six xs = true := List.all_eq_true.2 fun l hm => decide_eq_true ⟨(hg l hm).2.2.1, (hg l hm).2.2.2⟩
   rw [h] at this; cases this
 refine ⟨?_, ?_, h6, hla, by omega, by omega⟩
 ·unfold impl_told.f
  rw [small_eq (by omega) (by omega), Option.bind_some, hla, any_bad2]
  cases h : six xs with
  | false => rfl
  | true =>
   have := ok_len (h6 h) (by omega)
   simp only [Bool.not_true, cond_false, cond_true]
   rw [decide_eq_true (by omega)]; rfl
 unfold spec_l04Told.f
 rw [spec_is (by omega) (by omega), Option.bind_some, hok]
 cases six xs <;> rfl
theorem join_append {xs ys : List Str} (hx : xs ≠ []) (hy : ys ≠ []) : Lib.join (xs ++ ys) [47] = Lib.join xs [47] ++ [47] ++ Lib.join ys [47] := by
 induction xs with
 | nil => exact absurd rfl hx
 | cons x xs ih =>
  cases xs with
  | nil =>
   cases ys with
   | nil => exact absurd rfl hy
   | cons y ys => rw [List.cons_append, List.nil_append, join_cons2, Lib.join_one]; simp
  | cons x' xs =>
   have := ih (by simp)
   rw [List.cons_append] at this
   rw [List.cons_append, List.cons_append, join_cons2, join_cons2, this]
   simp
def compR (v w : Str) : Str × Int := bif !okW v || !okW w then ([], 1) else bif decide (outsW (lays v) = insW (lays w)) then (bif v == [] || w == [] then (v ++ w, 0) else (v ++ [47] ++ w, 0)) else ([], 5)
theorem lays_nil {w : Str} : lays w = [] ↔ w = [] := by
 unfold lays
 by_cases h : w = []
 ·simp [h]
 rw [if_neg h]
 simp [h, spl_ne]
theorem getLastD_getD (L : List Str) : L.getLastD [] = L.getD (L.length - 1) [] := by
 rw [List.getLastD_eq_getLast?, List.getLast?_eq_getElem?, List.getD_eq_getElem?_getD]
theorem headD_getD (L : List Str) : L.headD [] = L.getD 0 [] := by cases L <;> rfl
theorem comp_ok {v w : Str} (hv : okW v = true) (hw : okW w = true) (hnv : v ≠ []) (hnw : w ≠ []) (hl : outsW (lays v) = insW (lays w)) (hc : (lays v).length + (lays w).length ≤ 20) :
  impl_told.f (v ++ [47] ++ w) = some (v ++ [47] ++ w, 0) ∧ spec_l04Told.f (v ++ [47] ++ w) = some (v ++ [47] ++ w, 0) ∧ okW (v ++ [47] ++ w) = true ∧ (v ++ [47] ++ w).count 47 ≤ 20 := by
 have hnv' : lays v ≠ [] := fun e => hnv (lays_nil.1 e)
 have hnw' : lays w ≠ [] := fun e => hnw (lays_nil.1 e)
 obtain ⟨g1, l1, _⟩ := okL_iff.1 (show okL none (lays v) = true from hv)
 obtain ⟨g2, l2, _⟩ := okL_iff.1 (show okL none (lays w) = true from hw)
 have hj : v ++ [47] ++ w = Lib.join (lays v ++ lays w) [47] := by rw [join_append hnv' hnw', join_lays, join_lays]
 have hlink : link (lays v ++ lays w) := by
  intro i hi
  rw [List.length_append] at hi
  have hg : ∀ j, (lays v ++ lays w).getD j [] = if j < (lays v).length then (lays v).getD j [] else (lays w).getD (j - (lays v).length) [] := by
   intro j
   rw [List.getD_eq_getElem?_getD, List.getElem?_append]
   split <;> rw [List.getD_eq_getElem?_getD]
  rw [hg, hg]
  by_cases ha : i + 1 < (lays v).length
  ·rw [if_pos (by omega), if_pos ha]; exact l1 i ha
  rw [if_neg ha]
  by_cases hb : i < (lays v).length
  ·rw [if_pos hb]
   have e1 : i = (lays v).length - 1 := by omega
   have e2 : i + 1 - (lays v).length = 0 := by omega
   rw [e2, e1, ← getLastD_getD, ← headD_getD]
   exact hl
  rw [if_neg hb]
  have := l2 (i - (lays v).length) (by omega)
  rw [this]
  congr 2
  omega
 have hgood : ∀ x ∈ lays v ++ lays w, good x := fun x hx => by
  rcases List.mem_append.1 hx with h | h
  ·exact g1 x h
  exact g2 x h
 obtain ⟨t1, t2, t3, t4, t5, t6⟩ := told_eq (xs := lays v ++ lays w) (by simp [hnv']) (by rw [List.length_append]; exact hc) (fun x hx => ⟨(hgood x hx).1, (hgood x hx).2.1, by have := good_len (hgood x hx); omega⟩) hlink
 have h6 : six (lays v ++ lays w) = true := List.all_eq_true.2 fun l hm => decide_eq_true ⟨(hgood l hm).2.2.1, (hgood l hm).2.2.2⟩
 rw [h6] at t1 t2
 rw [hj]
 exact ⟨t1, t2, t3 h6, t5⟩
section
variable {v w : Str} (h1 : v.length < 1000000000000000000) (hc1 : v.count 47 ≤ 8) (h2 : w.length < 1000000000000000000) (hc2 : w.count 47 ≤ 8)
include h1 hc1 h2 hc2
theorem comp_impl : impl_ComposeWords.f v w = some (compR v w) := by
 unfold impl_ComposeWords.f compR
 rw [isword_eq h1 (by omega), Option.bind_some]
 cases hv : okW v with
 | false => rfl
 | true =>
  have e1 : (bif !true then some true else (impl_IsWord.f w).bind (fun r_2 => some (!r_2))) = some (!okW w) := by rw [isword_eq h2 (by omega)]; rfl
  rw [e1, Option.bind_some]
  cases hw : okW w with
  | false => rfl
  | true =>
   have lv' := ok_len hv (by omega)
   have lw' := ok_len hw (by omega)
   simp only [Bool.not_true, cond_false, Bool.or_false]
   rw [impl_ends h1 (by omega), Option.bind_some]
   dsimp only
   rw [impl_ends h2 (by omega), Option.bind_some]
   dsimp only
   rw [bne_nat]
   by_cases hl : outsW (lays v) = insW (lays w)
   ·rw [decide_eq_true hl]
    simp only [Bool.not_true, cond_false, cond_true]
    by_cases he : v = [] ∨ w = []
    ·have e2 : (v == ([] : Str) || w == ([] : Str)) = true := by
      rcases he with h | h <;> simp [h]
     rw [e2, cond_true, cond_true, tall_in (by omega)]
    have hnv : v ≠ [] := fun e => he (.inl e)
    have hnw : w ≠ [] := fun e => he (.inr e)
    have e2 : (v == ([] : Str) || w == ([] : Str)) = false := by simp [hnv, hnw]
    have a1 := lays_len v
    have a2 := lays_len w
    rw [e2, cond_false, cond_false, tall_in (by simp; omega), tall_in (by simp; omega), (comp_ok hv hw hnv hnw hl (by omega)).1]
    rfl
   rw [decide_eq_false hl]; rfl
theorem comp_spec : spec_ComposeWords.f v w = some (compR v w) := by
 unfold spec_ComposeWords.f compR
 rw [spec_is h1 (by omega), Option.bind_some]
 cases hv : okW v with
 | false => rfl
 | true =>
  have e1 : (bif !true then some true else (spec_l04Is.f w).bind (fun r_2 => some (!r_2))) = some (!okW w) := by rw [spec_is h2 (by omega)]; rfl
  rw [e1, Option.bind_some]
  cases hw : okW w with
  | false => rfl
  | true =>
   have lv' := ok_len hv (by omega)
   have lw' := ok_len hw (by omega)
   simp only [Bool.not_true, cond_false, Bool.or_false]
   rw [spec_ends h1 (by omega) hv, Option.bind_some]
   dsimp only
   rw [spec_ends h2 (by omega) hw, Option.bind_some]
   dsimp only
   rw [bne_nat]
   by_cases hl : outsW (lays v) = insW (lays w)
   ·rw [decide_eq_true hl]
    simp only [Bool.not_true, cond_false, cond_true]
    by_cases hev : v = []
    ·subst hev; simp
    have e3 : (v == ([] : Str)) = false := by simp [hev]
    rw [e3, cond_false, Bool.false_or]
    by_cases hew : w = []
    ·subst hew; simp
    have e4 : (w == ([] : Str)) = false := by simp [hew]
    have a1 := lays_len v
    have a2 := lays_len w
    rw [e4, cond_false, cond_false, tall_in (by simp; omega), tall_in (by simp; omega), (comp_ok hv hw hev hew hl (by omega)).2.1]
    rfl
   rw [decide_eq_false hl]; rfl
theorem comp_euler (h0 : (compR v w).2 = 0) : okW v = true ∧ okW w = true ∧ okW (compR v w).1 = true ∧ (compR v w).1.count 47 ≤ 20 ∧ ((compR v w).1.map eul).sum = (v.map eul).sum + (w.map eul).sum := by
 unfold compR at h0 ⊢
 cases hv : okW v with
 | false => rw [hv] at h0; cases h0
 | true =>
  cases hw : okW w with
  | false => rw [hv, hw] at h0; cases h0
  | true =>
   rw [hv, hw] at h0
   simp only [Bool.not_true, Bool.or_false, cond_false] at h0 ⊢
   by_cases hl : outsW (lays v) = insW (lays w)
   ·rw [decide_eq_true hl, cond_true]
    by_cases hev : v = []
    ·subst hev
     simp [hw]; omega
    have e3 : (v == ([] : Str)) = false := by simp [hev]
    by_cases hew : w = []
    ·subst hew
     simp [hv]; omega
    have e4 : (w == ([] : Str)) = false := by simp [hew]
    have a1 := lays_len v
    have a2 := lays_len w
    obtain ⟨_, _, k3, k4⟩ := comp_ok hv hw hev hew hl (by omega)
    rw [e3, e4]
    simp only [Bool.or_false, cond_false]
    refine ⟨trivial, trivial, k3, k4, ?_⟩
    have : eul 47 = 0 := rfl
    simp [this]
   rw [decide_eq_false hl] at h0; cases h0
end
def pad (a : List Str) (one i : Nat) : Str := if i < a.length then a.getD i [] else List.replicate one 105
theorem lgs_rep : ∀ k, lgs (List.replicate k 105) = some (k, k)
 | 0 => rfl
 | k + 1 => by
  rw [List.replicate_succ, lgs_cons (show lg 105 = some (1, 1) from rfl) (lgs_rep k)]
  congr 2 <;> omega
section
variable {a : List Str} (h : okL none a = true)
include h
theorem pad_lgs (i : Nat) : (∃ q, lgs (pad a (outsW a) i) = some q) ∧ insOf (pad a (outsW a) i) ≤ 6 ∧ outsOf (pad a (outsW a) i) ≤ 6 ∧ (pad a (outsW a) i).length ≤ 12 ∧ (i < a.length → pad a (outsW a) i ≠ []) := by
 obtain ⟨g, l, _⟩ := okL_iff.1 h
 unfold pad
 by_cases hi : i < a.length
 ·rw [if_pos hi]
  have hg := g (a.getD i []) (getD_mem hi)
  exact ⟨hg.1, hg.2.2.1, hg.2.2.2, good_len hg, fun _ => hg.2.1⟩
 rw [if_neg hi]
 have e := lgs_rep (outsW a)
 have ho : outsW a ≤ 6 := by
  unfold outsW
  by_cases ha : a = []
  ·subst ha; simp [outsOf, lgs]
  rw [getLastD_getD]
  have hp := List.length_pos_iff.2 ha
  exact (g _ (getD_mem (by omega))).2.2.2
 have hi' : insOf (List.replicate (outsW a) 105) = outsW a := by unfold insOf; rw [e]; rfl
 have ho' : outsOf (List.replicate (outsW a) 105) = outsW a := by unfold outsOf; rw [e]; rfl
 exact ⟨⟨_, e⟩, by omega, by omega, by simp; omega, fun hlt => absurd hlt hi⟩
theorem pad_link (i : Nat) : outsOf (pad a (outsW a) i) = insOf (pad a (outsW a) (i + 1)) := by
 obtain ⟨g, l, _⟩ := okL_iff.1 h
 have e := lgs_rep (outsW a)
 have hi' : insOf (List.replicate (outsW a) 105) = outsW a := by unfold insOf; rw [e]; rfl
 have ho' : outsOf (List.replicate (outsW a) 105) = outsW a := by unfold outsOf; rw [e]; rfl
 unfold pad
 by_cases h1 : i + 1 < a.length
 ·rw [if_pos (by omega), if_pos h1]; exact l i h1
 rw [if_neg h1, hi']
 by_cases h2 : i < a.length
 ·rw [if_pos h2]
  have : i = a.length - 1 := by omega
  rw [this, ← getLastD_getD]; rfl
 rw [if_neg h2, ho']
omit h in
theorem pad_in : insOf (pad a (outsW a) 0) = insW a := by
 unfold pad
 by_cases h1 : 0 < a.length
 ·rw [if_pos h1, ← headD_getD]; rfl
 have : a = [] := List.length_eq_zero_iff.1 (by omega)
 subst this
 rfl
omit h in
theorem pad_out {i : Nat} (hi : a.length ≤ i + 1) : outsOf (pad a (outsW a) i) = outsW a := by
 have e := lgs_rep (outsW a)
 have ho' : outsOf (List.replicate (outsW a) 105) = outsW a := by unfold outsOf; rw [e]; rfl
 unfold pad
 by_cases h2 : i < a.length
 ·rw [if_pos h2]
  have : i = a.length - 1 := by omega
  rw [this, ← getLastD_getD]; rfl
 rw [if_neg h2, ho']
end
theorem app_legs {x y : Str} (hx : ∃ q, lgs x = some q) (hy : ∃ q, lgs y = some q) : (∃ q, lgs (x ++ y) = some q) ∧ insOf (x ++ y) = insOf x + insOf y ∧ outsOf (x ++ y) = outsOf x + outsOf y := by
 obtain ⟨⟨a, b⟩, e1⟩ := hx
 obtain ⟨⟨c, d⟩, e2⟩ := hy
 have e := lgs_append e1 e2
 unfold insOf outsOf
 rw [e, e1, e2]
 exact ⟨⟨_, rfl⟩, rfl, rfl⟩
def besL (a b : List Str) : List Str := (List.range (max a.length b.length)).map fun i => pad a (outsW a) i ++ pad b (outsW b) i
theorem besL_len (a b : List Str) : (besL a b).length = max a.length b.length := by simp [besL]
theorem besL_get {a b : List Str} {i : Nat} (hi : i < max a.length b.length) : (besL a b).getD i [] = pad a (outsW a) i ++ pad b (outsW b) i := by
 unfold besL
 rw [List.getD_eq_getElem?_getD, List.getElem?_map, List.getElem?_range hi]; rfl
def besR (v w : Str) : Str × Int := bif !okW v || !okW w then ([], 1) else bif six (besL (lays v) (lays w)) then (Lib.join (besL (lays v) (lays w)) [47], 0) else ([], 3)
theorem bes_ok {a b : List Str} (ha : okL none a = true) (hb : okL none b = true) (hn : max a.length b.length ≤ 20) :
  (∀ x ∈ besL a b, (∃ q, lgs x = some q) ∧ x ≠ [] ∧ x.length ≤ 24) ∧ link (besL a b) := by
 constructor
 ·intro x hx
  obtain ⟨i, hi, rfl⟩ := List.mem_map.1 hx
  have hi := List.mem_range.1 hi
  obtain ⟨p1, p2, p3, p4, p5⟩ := pad_lgs ha i
  obtain ⟨q1, q2, q3, q4, q5⟩ := pad_lgs hb i
  refine ⟨(app_legs p1 q1).1, ?_, by rw [List.length_append]; omega⟩
  intro e
  obtain ⟨e1, e2⟩ := List.append_eq_nil_iff.1 e
  by_cases h : i < a.length
  ·exact p5 h e1
  exact q5 (by omega) e2
 intro i hi
 rw [besL_len] at hi
 rw [besL_get (by omega), besL_get hi]
 have p1 := (pad_lgs ha i).1
 have p2 := (pad_lgs ha (i + 1)).1
 have q1 := (pad_lgs hb i).1
 have q2 := (pad_lgs hb (i + 1)).1
 rw [(app_legs p1 q1).2.2, (app_legs p2 q2).2.1, pad_link ha, pad_link hb]
theorem units_eq (k : Nat) (hk : k ≤ 6) : impl_units.f (k : Int) = some (List.replicate k 105) := by
 unfold impl_units.f strings_Repeat.f
 rw [if_pos ⟨by omega, by omega, by simp⟩, Option.bind_some, Int.toNat_natCast]
 have : ∀ k, Lib.repeatL [105] k = List.replicate k 105 := by
  intro k
  induction k with
  | zero => rfl
  | succ k ih => rw [Lib.repeatL, ih, List.replicate_succ]; rfl
 rw [this]
theorem strands_eq (k : Nat) (hk : k ≤ 6) : spec_l04Strands.f (k : Int) = some (List.replicate k 105) := by
 unfold spec_l04Strands.f
 have hl := loop1_upto (f := spec_l04Strands.b0) (fun i => ((k : Int) - i, List.replicate i (105 : UInt8))) k (0, List.replicate k 105) (by omega) (fun i hi => by
  unfold spec_l04Strands.b0
  dsimp only
  have e : w64 ((k : Int) - (i : Int) - 1) = (k : Int) - ((i + 1 : Nat) : Int) := by rw [w64_in (by omega)]; omega
  rw [decide_eq_true (by omega), cond_true, tall_in (by simp; omega), e, List.replicate_succ']) (by
  unfold spec_l04Strands.b0
  dsimp only
  rw [decide_eq_false (by omega), cond_false]
  have : (k : Int) - (k : Int) = 0 := by omega
  rw [this])
 have hl' : loop1 spec_l04Strands.b0 ((k : Int), []) = some (0, List.replicate k 105) := by
  have e : (k : Int) - ((0 : Nat) : Int) = (k : Int) := by omega
  have h2 := hl
  rw [e] at h2
  exact h2
 rw [hl']; rfl
section
variable {a b : List Str} (ha : okL none a = true) (hb : okL none b = true) (hna : a.length ≤ 20) (hnb : b.length ≤ 20)
include ha hb hna hnb
theorem bes_impl_loop : loop1 (impl_BesideWords.b0 b a (outsW a : Int) (outsW b : Int)) ([], 0) = some (besL a b, ((max a.length b.length : Nat) : Int)) := by
 have hoa : outsW a ≤ 6 := by have := (pad_lgs ha a.length).2.2.1; rw [pad_out (by omega)] at this; exact this
 have hob : outsW b ≤ 6 := by have := (pad_lgs hb b.length).2.2.1; rw [pad_out (by omega)] at this; exact this
 have hl := loop1_upto (f := impl_BesideWords.b0 b a (outsW a : Int) (outsW b : Int)) (fun i => ((besL a b).take i, (i : Int))) (max a.length b.length) (besL a b, ((max a.length b.length : Nat) : Int)) (by omega) (fun i hi => by
  unfold impl_BesideWords.b0
  dsimp only
  have em : (if (b.length : Int) > (a.length : Int) then (b.length : Int) else (a.length : Int)) = ((max a.length b.length : Nat) : Int) := by split <;> omega
  have e1 : (bif decide ((i : Int) < (a.length : Int)) then chk (i : Int) a.length (some (gt a (i : Int))) else some (List.replicate (outsW a) 105)) = some (pad a (outsW a) i) := by
   unfold pad
   rw [dlt_nat]
   by_cases h : i < a.length
   ·rw [decide_eq_true h, cond_true, chk_in ⟨by omega, by omega⟩, if_pos h, gt_getD]
   rw [decide_eq_false h, cond_false, if_neg h]
  have e2 : (bif decide ((i : Int) < (b.length : Int)) then chk (i : Int) b.length (some (gt b (i : Int))) else some (List.replicate (outsW b) 105)) = some (pad b (outsW b) i) := by
   unfold pad
   rw [dlt_nat]
   by_cases h : i < b.length
   ·rw [decide_eq_true h, cond_true, chk_in ⟨by omega, by omega⟩, if_pos h, gt_getD]
   rw [decide_eq_false h, cond_false, if_neg h]
  have p4 := (pad_lgs ha i).2.2.2.1
  have q4 := (pad_lgs hb i).2.2.2.1
  rw [em, dlt_nat, decide_eq_true hi, cond_true, units_eq _ hoa, Option.bind_some, units_eq _ hob, Option.bind_some, e1, Option.bind_some, e2, Option.bind_some, tall_in (by omega), small_in (by simp [besL_len]; omega), w64_succ (by omega)]
  have ht : (besL a b).take (i + 1) = (besL a b).take i ++ [pad a (outsW a) i ++ pad b (outsW b) i] := by
   have hg := besL_get hi
   rw [List.getD_eq_getElem?_getD, List.getElem?_eq_getElem (by rw [besL_len]; exact hi)] at hg
   rw [List.take_add_one, List.getElem?_eq_getElem (by rw [besL_len]; exact hi)]
   have hg : (besL a b)[i]'(by rw [besL_len]; exact hi) = _ := hg
   rw [hg]; rfl
  rw [ht]) (by
  unfold impl_BesideWords.b0
  dsimp only
  have em : (if (b.length : Int) > (a.length : Int) then (b.length : Int) else (a.length : Int)) = ((max a.length b.length : Nat) : Int) := by split <;> omega
  rw [em, dlt_nat, decide_eq_false (by omega), List.take_of_length_le (by rw [besL_len]; exact Nat.le_refl _)]; rfl)
 exact hl
theorem bes_spec_loop : loop1 (spec_BesideWords.b0 a b (outsW a : Int) (outsW b : Int)) ([], 0) = some (besL a b, ((max a.length b.length : Nat) : Int)) := by
 have hoa : outsW a ≤ 6 := by have := (pad_lgs ha a.length).2.2.1; rw [pad_out (by omega)] at this; exact this
 have hob : outsW b ≤ 6 := by have := (pad_lgs hb b.length).2.2.1; rw [pad_out (by omega)] at this; exact this
 have hl := loop1_upto (f := spec_BesideWords.b0 a b (outsW a : Int) (outsW b : Int)) (fun i => ((besL a b).take i, (i : Int))) (max a.length b.length) (besL a b, ((max a.length b.length : Nat) : Int)) (by omega) (fun i hi => by
  unfold spec_BesideWords.b0
  dsimp only
  have em : (decide ((i : Int) < (a.length : Int)) || decide ((i : Int) < (b.length : Int))) = true := by simp; omega
  have e1 : (bif decide ((i : Int) < (a.length : Int)) then chk (i : Int) a.length (some (gt a (i : Int))) else some (List.replicate (outsW a) 105)) = some (pad a (outsW a) i) := by
   unfold pad
   rw [dlt_nat]
   by_cases h : i < a.length
   ·rw [decide_eq_true h, cond_true, chk_in ⟨by omega, by omega⟩, if_pos h, gt_getD]
   rw [decide_eq_false h, cond_false, if_neg h]
  have e2 : (bif decide ((i : Int) < (b.length : Int)) then chk (i : Int) b.length (some (gt b (i : Int))) else some (List.replicate (outsW b) 105)) = some (pad b (outsW b) i) := by
   unfold pad
   rw [dlt_nat]
   by_cases h : i < b.length
   ·rw [decide_eq_true h, cond_true, chk_in ⟨by omega, by omega⟩, if_pos h, gt_getD]
   rw [decide_eq_false h, cond_false, if_neg h]
  have p4 := (pad_lgs ha i).2.2.2.1
  have q4 := (pad_lgs hb i).2.2.2.1
  rw [em, cond_true, strands_eq _ hoa, Option.bind_some, strands_eq _ hob, Option.bind_some, e1, Option.bind_some, e2, Option.bind_some, tall_in (by omega), small_in (by simp [besL_len]; omega), w64_succ (by omega)]
  have ht : (besL a b).take (i + 1) = (besL a b).take i ++ [pad a (outsW a) i ++ pad b (outsW b) i] := by
   have hg := besL_get hi
   rw [List.getD_eq_getElem?_getD, List.getElem?_eq_getElem (by rw [besL_len]; exact hi)] at hg
   rw [List.take_add_one, List.getElem?_eq_getElem (by rw [besL_len]; exact hi)]
   have hg : (besL a b)[i]'(by rw [besL_len]; exact hi) = _ := hg
   rw [hg]; rfl
  rw [ht]) (by
  unfold spec_BesideWords.b0
  dsimp only
  have em : (decide (((max a.length b.length : Nat) : Int) < (a.length : Int)) || decide (((max a.length b.length : Nat) : Int) < (b.length : Int))) = false := by simp; omega
  rw [em, cond_false, List.take_of_length_le (by rw [besL_len]; exact Nat.le_refl _)])
 exact hl
end
section
variable {v w : Str} (h1 : v.length < 1000000000000000000) (hc1 : v.count 47 ≤ 8) (h2 : w.length < 1000000000000000000) (hc2 : w.count 47 ≤ 8)
include h1 hc1 h2 hc2
theorem bes_both : impl_BesideWords.f v w = some (besR v w) ∧ spec_BesideWords.f v w = some (besR v w) ∧ ((besR v w).2 = 0 → okW v = true ∧ okW w = true ∧ okW (besR v w).1 = true ∧ (besR v w).1.count 47 ≤ 20 ∧ (besR v w).1.length ≤ 500 ∧ insW (lays (besR v w).1) = insW (lays v) + insW (lays w) ∧ outsW (lays (besR v w).1) = outsW (lays v) + outsW (lays w)) := by
 have cl1 : v.count 47 ≤ v.length := List.count_le_length
 have cl2 : w.count 47 ≤ w.length := List.count_le_length
 unfold impl_BesideWords.f spec_BesideWords.f besR
 rw [isword_eq h1 (by omega), Option.bind_some, spec_layers h1 (by omega), Option.bind_some]
 cases hv : okW v with
 | false =>
  refine ⟨rfl, ?_, fun h => by cases h⟩
  dsimp only [cond_false]
  rw [spec_layers h2 (by omega), Option.bind_some]
  rfl
 | true =>
  have e1 : (bif !true then some true else (impl_IsWord.f w).bind (fun r_2 => some (!r_2))) = some (!okW w) := by rw [isword_eq h2 (by omega)]; rfl
  rw [e1, Option.bind_some]
  dsimp only [cond_true]
  rw [spec_layers h2 (by omega), Option.bind_some]
  cases hw : okW w with
  | false => exact ⟨rfl, rfl, fun h => by cases h⟩
  | true =>
   have hva : okL none (lays v) = true := hv
   have hwa : okL none (lays w) = true := hw
   have a1 := lays_len v
   have a2 := lays_len w
   have hmx : max (lays v).length (lays w).length ≤ 20 := by omega
   obtain ⟨b1, b2⟩ := bes_ok hva hwa hmx
   simp only [Bool.not_true, cond_false, cond_true, Bool.or_false]
   rw [layers_eq (by omega) (by omega), Option.bind_some, layers_eq (by omega) (by omega), Option.bind_some, impl_ends h1 (by omega), Option.bind_some]
   dsimp only
   rw [impl_ends h2 (by omega), Option.bind_some]
   dsimp only
   rw [bes_impl_loop hva hwa (by omega) (by omega), Option.bind_some]
   dsimp only
   rw [spec_ends h1 (by omega) hv, Option.bind_some]
   dsimp only
   rw [spec_ends h2 (by omega) hw, Option.bind_some]
   dsimp only
   rw [bes_spec_loop hva hwa (by omega) (by omega), Option.bind_some]
   dsimp only
   have hjl : ∀ x ∈ besL (lays v) (lays w), x.length ≤ 24 := fun x hx => (b1 x hx).2.2
   rw [join_impl_eq (K := 24) (by rw [besL_len]; omega) hjl (by omega), Option.bind_some, joined_eq (K := 24) (by rw [besL_len]; omega) hjl (by rw [besL_len]; omega), Option.bind_some]
   by_cases hne : besL (lays v) (lays w) = []
   ·have hz : max (lays v).length (lays w).length = 0 := by rw [← besL_len, hne]; rfl
    have z1 : lays v = [] := List.length_eq_zero_iff.1 (by omega)
    have z2 : lays w = [] := List.length_eq_zero_iff.1 (by omega)
    rw [hne]
    refine ⟨rfl, rfl, fun _ => ⟨trivial, trivial, rfl, Nat.zero_le _, Nat.zero_le _, ?_, ?_⟩⟩
    ·rw [z1, z2]; rfl
    rw [z1, z2]; rfl
   obtain ⟨t1, t2, t3, t4, t5, t6⟩ := told_eq hne (by rw [besL_len]; exact hmx) b1 b2
   rw [t1, t2, Option.bind_some]
   refine ⟨rfl, rfl, fun h => ?_⟩
   cases h6 : six (besL (lays v) (lays w)) with
   | false => rw [h6] at h; cases h
   | true =>
    dsimp only [cond_true]
    have hpos : 0 < max (lays v).length (lays w).length := by rw [← besL_len]; exact List.length_pos_iff.2 hne
    refine ⟨trivial, trivial, t3 h6, t5, t6, ?_, ?_⟩
    ·rw [t4]
     unfold insW
     rw [headD_getD, besL_get hpos, (app_legs (pad_lgs hva 0).1 (pad_lgs hwa 0).1).2.1, pad_in, pad_in]
     rfl
    rw [t4]
    show outsOf ((besL (lays v) (lays w)).getLastD []) = _
    rw [getLastD_getD, besL_len, besL_get (by omega), (app_legs (pad_lgs hva _).1 (pad_lgs hwa _).1).2.2, pad_out (by omega), pad_out (by omega)]
end
end Go.Proofs.YtpejnjpckacciaaGreatDoor.G
set_option linter.unusedVariables false
namespace Go.Proofs.YtpejnjpckacciaaGreatDoor.G
open Go Go.Sx Go.Proofs Go.Shelf
def sumIf (F : Nat → Int) (P : Nat → Bool) (l : List Nat) : Int := (l.map fun i => if P i then F i else 0).sum
theorem sumIf_append (F : Nat → Int) (P : Nat → Bool) (l r : List Nat) : sumIf F P (l ++ r) = sumIf F P l + sumIf F P r := by simp [sumIf, List.sum_append]
theorem sumIf_or {F : Nat → Int} {P Q : Nat → Bool} (h : ∀ i, P i = true → Q i = false) : ∀ l, sumIf F (fun i => P i || Q i) l = sumIf F P l + sumIf F Q l
 | [] => rfl
 | x :: l => by
  have ih := sumIf_or (F := F) h l
  unfold sumIf at ih ⊢
  simp only [List.map_cons, List.sum_cons, ih]
  by_cases hp : P x = true
  ·have hq := h x hp
   simp [hp, hq]; omega
  by_cases hq : Q x = true
  ·simp [hp, hq]; omega
  simp [hp, hq]
theorem sumIf_none {F : Nat → Int} {P : Nat → Bool} : ∀ {l : List Nat}, (∀ i ∈ l, P i = false) → sumIf F P l = 0
 | [], _ => rfl
 | x :: l, h => by
  have ih := sumIf_none (F := F) (P := P) (l := l) (fun i hi => h i (by simp [hi]))
  unfold sumIf at ih ⊢
  simp only [List.map_cons, List.sum_cons, ih, h x (by simp)]
  rfl
theorem sumIf_congr {F G : Nat → Int} {P Q : Nat → Bool} {l : List Nat} (hf : ∀ i ∈ l, F i = G i) (hp : ∀ i ∈ l, P i = Q i) : sumIf F P l = sumIf G Q l := by
 unfold sumIf
 congr 1
 refine List.map_congr_left fun i hi => ?_
 rw [hf i hi, hp i hi]
theorem countP_or' {P Q : Nat → Bool} (h : ∀ i, P i = true → Q i = false) : ∀ l : List Nat, l.countP (fun i => P i || Q i) = l.countP P + l.countP Q
 | [] => rfl
 | x :: l => by
  rw [List.countP_cons, List.countP_cons, List.countP_cons, countP_or' h l]
  cases hp : P x with
  | true => rw [h x hp]; simp; omega
  | false => cases Q x <;> simp <;> omega
def tot (w : Web) (ins : Nat) (op : List Nat) (P : Nat → Bool) : Int := sumIf (fun i => gt w.el (i : Int)) P (List.range w.n) + ((List.range ins).countP P : Int) + (op.countP P : Int)
def T (w : Web) (ins : Nat) (op : List Nat) (r : Nat) : Int := tot w ins op fun i => w.f i == r
def GI (w : Web) (ins : Nat) (op : List Nat) : Prop := ∀ r, T w ins op r ≤ 2 ∧ T w ins op r % 2 = 0
theorem tot_or (w : Web) (ins : Nat) (op : List Nat) {P Q : Nat → Bool} (h : ∀ i, P i = true → Q i = false) : tot w ins op (fun i => P i || Q i) = tot w ins op P + tot w ins op Q := by
 unfold tot
 rw [sumIf_or h, countP_or' h, countP_or' h]
 omega
theorem tot_false (w : Web) (ins : Nat) (op : List Nat) : tot w ins op (fun _ => false) = 0 := by
 unfold tot
 rw [sumIf_none (fun _ _ => rfl)]
 simp
theorem T_join (w : Web) (ins : Nat) (op : List Nat) (i k r : Nat) : T (w.join i k) ins op r = if r = w.f i then T w ins op (w.f i) + (if w.f k = w.f i then 0 else T w ins op (w.f k)) else if r = w.f k then 0 else T w ins op r := by
 unfold T
 have e : ∀ P, tot (w.join i k) ins op P = tot w ins op P := fun P => rfl
 rw [e]
 show tot w ins op (fun x => jf w.f i k x == r) = _
 by_cases h1 : r = w.f i
 ·subst h1
  rw [if_pos rfl]
  by_cases h2 : w.f k = w.f i
  ·rw [if_pos h2, Int.add_zero]
   congr 1
   funext x
   unfold jf
   by_cases hx : w.f x = w.f k
   ·rw [if_pos hx, hx, h2]
   rw [if_neg hx]
  rw [if_neg h2, ← tot_or]
  ·congr 1
   funext x
   unfold jf
   by_cases hx : w.f x = w.f k
   ·rw [if_pos hx, hx]; simp
   rw [if_neg hx]
   have : (w.f x == w.f k) = false := beq_eq_false_iff_ne.2 hx
   rw [this, Bool.or_false]
  intro x hx
  have := eq_of_beq hx
  rw [this]
  exact beq_eq_false_iff_ne.2 fun e => h2 e.symm
 rw [if_neg h1]
 by_cases h2 : r = w.f k
 ·rw [if_pos h2, ← tot_false w ins op]
  congr 1
  funext x
  subst h2
  unfold jf
  rw [beq_eq_false_iff_ne]
  by_cases hx : w.f x = w.f k
  ·rw [if_pos hx]; exact fun e => h1 e.symm
  rw [if_neg hx]; exact hx
 rw [if_neg h2]
 congr 1
 funext x
 unfold jf
 by_cases hx : w.f x = w.f k
 ·rw [if_pos hx, hx, beq_eq_false_iff_ne.2 (fun e => h1 e.symm), beq_eq_false_iff_ne.2 (fun e => h2 e.symm)]
 rw [if_neg hx]
theorem T_cons (w : Web) (ins : Nat) (op : List Nat) (k r : Nat) : T w ins (k :: op) r = T w ins op r + (if w.f k = r then 1 else 0) := by
 unfold T tot
 rw [List.countP_cons]
 by_cases h : w.f k = r
 ·rw [if_pos h, h]; simp; omega
 rw [if_neg h, beq_eq_false_iff_ne.2 h]; simp
theorem T_perm {w : Web} {ins : Nat} {op op' : List Nat} (h : op.Perm op') (r : Nat) : T w ins op r = T w ins op' r := by
 unfold T tot
 rw [h.countP_eq]
structure JI (w : Web) (ins : Nat) (op : List Nat) (own : Nat) (e : Int) : Prop where
  self : w.f own = own
  le : T w ins op own ≤ e ∧ (T w ins op own - e) % 2 = 0
  rest : ∀ r, r ≠ own → T w ins op r ≤ 2 ∧ T w ins op r % 2 = 0
theorem JI.step {w : Web} {ins : Nat} {op : List Nat} {own k : Nat} {e : Int} (h : JI w ins (k :: op) own e) : JI (w.join own k) ins op own (e + 1) := by
 have hj : ∀ r, T (w.join own k) ins (k :: op) r = T (w.join own k) ins op r + (if own = r then 1 else 0) := by
  intro r
  rw [T_cons]
  have : (w.join own k).f k = own := by
   show jf w.f own k k = own
   unfold jf; rw [if_pos rfl, h.self]
  rw [this]
 have ho : (w.join own k).f own = own := by
  show jf w.f own k own = own
  unfold jf
  split
  ·exact h.self
  exact h.self
 refine ⟨ho, ?_, fun r hr => ?_⟩
 ·have h1 := hj own
  rw [T_join, h.self, if_pos rfl, if_pos rfl] at h1
  have h2 := h.le
  by_cases hk : w.f k = own
  ·rw [if_pos hk] at h1
   omega
  rw [if_neg hk] at h1
  have h3 := h.rest (w.f k) hk
  omega
 have h1 := hj r
 rw [T_join, h.self, if_neg hr, if_neg (show ¬ own = r from fun e => hr e.symm)] at h1
 by_cases hk : r = w.f k
 ·rw [if_pos hk] at h1
  omega
 rw [if_neg hk] at h1
 have h3 := h.rest r hr
 omega
theorem JI.joins {ins own : Nat} {op : List Nat} : ∀ {ks : List Nat} {w : Web} {e : Int}, JI w ins (ks ++ op) own e → JI (joins w own ks) ins op own (e + ks.length)
 | [], w, e, h => by
  have e0 : e + (([] : List Nat).length : Int) = e := by simp
  rw [e0]
  exact h
 | k :: ks, w, e, h => by
  have h1 := JI.joins (ks := ks) (w := w.join own k) h.step
  have e1 : e + ((k :: ks).length : Int) = e + 1 + (ks.length : Int) := by rw [List.length_cons]; omega
  rw [e1]
  exact h1
theorem T_rep (w : Web) (ins : Nat) (op : List Nat) (own r : Nat) (ho : w.f own = own) : ∀ b, T w ins (List.replicate b own ++ op) r = T w ins op r + (if own = r then (b : Int) else 0)
 | 0 => by simp
 | b + 1 => by
  rw [List.replicate_succ, List.cons_append, T_cons, T_rep w ins op own r ho b, ho]
  split <;> omega
theorem JI.done {w : Web} {ins own b : Nat} {op : List Nat} {e : Int} (h : JI w ins op own e) (hb : e + b = 2) : GI w ins (List.replicate b own ++ op) := by
 intro r
 rw [T_rep w ins op own r h.self]
 by_cases hr : own = r
 ·subst hr
  rw [if_pos rfl]
  have := h.le
  omega
 rw [if_neg hr]
 have := h.rest r (fun e => hr e.symm)
 omega
theorem gt_snoc_old {l : List Int} {e : Int} {i : Nat} (h : i < l.length) : gt (l ++ [e]) (i : Int) = gt l (i : Int) := by simp [gt, List.getD, List.getElem?_append_left h]
theorem gt_snoc_new {l : List Int} {e : Int} : gt (l ++ [e]) (l.length : Int) = e := by simp [gt, List.getD]
theorem JI.start {w : Web} (hw : WI w) {ins : Nat} {op : List Nat} (hi : ins ≤ w.n) (hop : ∀ x ∈ op, x < w.n) (h : GI w ins op) (e : Int) : JI (w.add e) ins op w.n e := by
 have hT : ∀ r, T (w.add e) ins op r = T w ins op r + (if w.n = r then e else 0) := by
  intro r
  unfold T tot
  show sumIf (fun i => gt (w.el ++ [e]) (i : Int)) (fun i => w.f i == r) (List.range (w.n + 1)) + _ + _ = _
  rw [List.range_succ, sumIf_append]
  have e1 : sumIf (fun i => gt (w.el ++ [e]) (i : Int)) (fun i => w.f i == r) (List.range w.n) = sumIf (fun i => gt w.el (i : Int)) (fun i => w.f i == r) (List.range w.n) := by
   refine sumIf_congr (fun i hi => ?_) (fun _ _ => rfl)
   exact gt_snoc_old (by rw [hw.ell]; exact List.mem_range.1 hi)
  have e2 : sumIf (fun i => gt (w.el ++ [e]) (i : Int)) (fun i => w.f i == r) [w.n] = if w.n = r then e else 0 := by
   unfold sumIf
   have : gt (w.el ++ [e]) (w.n : Int) = e := by rw [← hw.ell]; exact gt_snoc_new
   simp [this, hw.fid w.n (Nat.le_refl _)]
  rw [e1, e2]
  show _ + _ + ((List.range ins).countP (fun i => w.f i == r) : Int) + (op.countP (fun i => w.f i == r) : Int) = _
  omega
 have h0 : T w ins op w.n = 0 := by
  have key : ∀ x, x < w.n → (w.f x == w.n) = false := fun x hx => by
   rw [beq_eq_false_iff_ne]
   have := hw.flt x hx
   omega
  unfold T tot
  rw [sumIf_none (fun i hi => key i (List.mem_range.1 hi))]
  have c1 : (List.range ins).countP (fun i => w.f i == w.n) = 0 := by
   rw [List.countP_eq_zero]
   intro x hx
   rw [key x (by have := List.mem_range.1 hx; omega)]; simp
  have c2 : op.countP (fun i => w.f i == w.n) = 0 := by
   rw [List.countP_eq_zero]
   intro x hx
   rw [key x (hop x hx)]; simp
  rw [c1, c2]; rfl
 refine ⟨hw.fid w.n (Nat.le_refl _), ?_, fun r hr => ?_⟩
 ·rw [hT, h0, if_pos rfl]; omega
 rw [hT, if_neg (fun e => hr e.symm), Int.add_zero]; exact h r
structure LI (ins : Nat) (at_ : List Nat) (s : Web × List Nat × Nat) : Prop where
  wi : WI s.1
  insl : ins ≤ s.1.n
  gi : GI s.1 ins (at_.drop s.2.2 ++ s.2.1)
  atl : ∀ x ∈ at_, x < s.1.n
  nx : ∀ x ∈ s.2.1, x < s.1.n
theorem lg_eul {c : UInt8} {a b : Nat} (h : lg c = some (a, b)) (hc : c ≠ 120) : eul c + a + b = 2 := by
 unfold lg at h
 unfold eul
 by_cases h1 : c = 105
 ·subst h1; injection h with h; injection h with h1 h2; subst h1 h2; rfl
 rw [if_neg h1, if_neg hc] at h
 by_cases h3 : c = 109
 ·subst h3; injection h with h; injection h with h1 h2; subst h1 h2; rfl
 by_cases h4 : c = 115
 ·subst h4; injection h with h; injection h with h1 h2; subst h1 h2; rfl
 by_cases h5 : c = 117
 ·subst h5; injection h with h; injection h with h1 h2; subst h1 h2; rfl
 by_cases h6 : c = 101
 ·subst h6; injection h with h; injection h with h1 h2; subst h1 h2; rfl
 rw [if_neg h3, if_neg h4, if_neg h5, if_neg h6] at h
 cases h
theorem LI.step1 {ins : Nat} {at_ : List Nat} {s : Web × List Nat × Nat} (h : LI ins at_ s) {c : UInt8} {a b : Nat} (hlg : lg c = some (a, b)) (hk : s.2.2 + a ≤ at_.length) :
  LI ins at_ (letter at_ s c) ∧ s.1.n ≤ (letter at_ s c).1.n ∧ (letter at_ s c).1.n ≤ s.1.n + 1 ∧ (letter at_ s c).2.2 = s.2.2 + a ∧ (letter at_ s c).2.1.length = s.2.1.length + b ∧ (letter at_ s c).1.el.sum = s.1.el.sum + eul c := by
 obtain ⟨w, nx, k⟩ := s
 have hk : k + a ≤ at_.length := hk
 by_cases hc : c = 120
 ·subst hc
  have hab2 : a = 2 ∧ b = 2 := by
   have : lg 120 = some (2, 2) := rfl
   rw [this] at hlg
   injection hlg with h; injection h with h1 h2
   exact ⟨h1.symm, h2.symm⟩
  obtain ⟨rfl, rfl⟩ := hab2
  have el : Go.Proofs.YtpejnjpckacciaaGreatDoor.G.letter at_ (w, nx, k) 120 = (w, nx ++ [at_.getD (k + 1) 0, at_.getD k 0], k + 2) := by unfold Go.Proofs.YtpejnjpckacciaaGreatDoor.G.letter; rw [if_pos rfl]
  rw [el]
  have g1 : at_.getD (k + 1) 0 = at_[k + 1] := by rw [List.getD_eq_getElem?_getD, List.getElem?_eq_getElem (by omega)]; rfl
  have g0 : at_.getD k 0 = at_[k] := by rw [List.getD_eq_getElem?_getD, List.getElem?_eq_getElem (by omega)]; rfl
  rw [g1, g0]
  have hd : at_.drop k = at_[k] :: at_[k + 1] :: at_.drop (k + 2) := by
   rw [List.drop_eq_getElem_cons (by omega), List.drop_eq_getElem_cons (by omega : k + 1 < at_.length)]
  refine ⟨⟨h.wi, h.insl, ?_, h.atl, ?_⟩, Nat.le_refl _, Nat.le_succ _, rfl, by simp, by simp [eul]⟩
  ·intro r
   have h1 := h.gi r
   have hp : (at_.drop k ++ nx).Perm (at_.drop (k + 2) ++ (nx ++ [at_[k + 1], at_[k]])) := by
    rw [hd]
    have e1 : at_.drop (k + 2) ++ (nx ++ [at_[k + 1], at_[k]]) = (at_.drop (k + 2) ++ nx) ++ [at_[k + 1], at_[k]] := by simp
    rw [e1]
    refine List.Perm.trans ?_ List.perm_append_comm
    exact List.Perm.swap _ _ _
   have e2 := T_perm (w := w) (ins := ins) hp r
   rw [← e2]
   exact h1
  intro x hx
  rcases List.mem_append.1 hx with hx | hx
  ·exact h.nx x hx
  simp only [List.mem_cons, List.not_mem_nil, or_false] at hx
  rcases hx with rfl | rfl
  ·exact h.atl _ (List.getElem_mem _)
  exact h.atl _ (List.getElem_mem _)
 have el : Go.Proofs.YtpejnjpckacciaaGreatDoor.G.letter at_ (w, nx, k) c = (joins (w.add (eul c)) w.n ((at_.drop k).take a), nx ++ List.replicate b w.n, k + a) := by unfold Go.Proofs.YtpejnjpckacciaaGreatDoor.G.letter; rw [if_neg hc, hlg]
 rw [el]
 have hks : at_.drop k = (at_.drop k).take a ++ at_.drop (k + a) := by
  have := List.take_append_drop a (at_.drop k)
  rw [List.drop_drop] at this
  exact this.symm
 have hkl : ((at_.drop k).take a).length = a := by simp; omega
 have hkm : ∀ x ∈ (at_.drop k).take a, x < w.n := fun x hx => h.atl x (List.mem_of_mem_drop (List.mem_of_mem_take hx))
 obtain ⟨j1, j2, j3⟩ := joins_n w.n ((at_.drop k).take a) (w.add (eul c))
 have hnn : (joins (w.add (eul c)) w.n ((at_.drop k).take a)).n = w.n + 1 := j1
 have hgi : GI w ins (at_.drop k ++ nx) := h.gi
 have hop : ∀ x ∈ at_.drop k ++ nx, x < w.n := fun x hx => by
  rcases List.mem_append.1 hx with hx | hx
  ·exact h.atl x (List.mem_of_mem_drop hx)
  exact h.nx x hx
 have hj0 := JI.start h.wi h.insl hop hgi (eul c)
 have hj1 : JI (joins (w.add (eul c)) w.n ((at_.drop k).take a)) ins (at_.drop (k + a) ++ nx) w.n (eul c + ((at_.drop k).take a).length) := by
  refine JI.joins ?_
  rw [← List.append_assoc, ← hks]
  exact hj0
 rw [hkl] at hj1
 have hj2 := hj1.done (b := b) (lg_eul hlg hc)
 refine ⟨⟨(h.wi.add (eul c) (eul_b c)).joins (by show w.n < w.n + 1; omega) (fun x hx => by have := hkm x hx; show x < w.n + 1; omega), ?_, ?_, ?_, ?_⟩, ?_, ?_, rfl, by simp, ?_⟩
 ·show ins ≤ (joins (w.add (eul c)) w.n ((at_.drop k).take a)).n
  have h5 : ins ≤ w.n := h.insl
  omega
 ·intro r
  have hp : (List.replicate b w.n ++ (at_.drop (k + a) ++ nx)).Perm (at_.drop (k + a) ++ (nx ++ List.replicate b w.n)) := by
   rw [← List.append_assoc (at_.drop (k + a))]
   exact List.perm_append_comm
  have e2 := T_perm (w := joins (w.add (eul c)) w.n ((at_.drop k).take a)) (ins := ins) hp r
  have h3 := hj2 r
  rw [e2] at h3
  exact h3
 ·intro x hx
  have h5 : x < w.n := h.atl x hx
  show x < (joins (w.add (eul c)) w.n ((at_.drop k).take a)).n
  omega
 ·intro x hx
  show x < (joins (w.add (eul c)) w.n ((at_.drop k).take a)).n
  rcases List.mem_append.1 hx with hx | hx
  ·have h5 : x < w.n := h.nx x hx
   omega
  have := List.eq_of_mem_replicate hx
  omega
 ·show w.n ≤ (joins (w.add (eul c)) w.n ((at_.drop k).take a)).n
  omega
 ·show (joins (w.add (eul c)) w.n ((at_.drop k).take a)).n ≤ w.n + 1
  omega
 show (joins (w.add (eul c)) w.n ((at_.drop k).take a)).el.sum = w.el.sum + eul c
 rw [j2]
 show (w.el ++ [eul c]).sum = _
 simp
theorem LI.fold {ins : Nat} {at_ : List Nat} : ∀ {l : Str} {s : Web × List Nat × Nat} {a b : Nat}, LI ins at_ s → lgs l = some (a, b) → s.2.2 + a ≤ at_.length →
  LI ins at_ (l.foldl (letter at_) s) ∧ s.1.n ≤ (l.foldl (letter at_) s).1.n ∧ (l.foldl (letter at_) s).1.n ≤ s.1.n + l.length ∧ (l.foldl (letter at_) s).2.2 = s.2.2 + a ∧ (l.foldl (letter at_) s).2.1.length = s.2.1.length + b ∧ (l.foldl (letter at_) s).1.el.sum = s.1.el.sum + (l.map eul).sum
 | [], s, a, b, h, hl, hk => by
  injection hl with hl; injection hl with h1 h2; subst h1 h2
  exact ⟨h, Nat.le_refl _, Nat.le_refl _, rfl, rfl, by simp⟩
 | c :: l, s, a, b, h, hl, hk => by
  unfold lgs at hl
  split at hl
  ·rename_i a1 b1 a2 b2 e1 e2
   injection hl with hl; injection hl with h1 h2
   obtain ⟨g1, g2, g3, g4, g5, g6⟩ := h.step1 e1 (by omega)
   obtain ⟨f1, f2, f3, f4, f5, f6⟩ := LI.fold (l := l) g1 e2 (by omega)
   rw [List.foldl_cons]
   refine ⟨f1, by omega, by rw [List.length_cons]; omega, by omega, by omega, ?_⟩
   rw [f6, g6, List.map_cons, List.sum_cons]
   omega
  cases hl
end Go.Proofs.YtpejnjpckacciaaGreatDoor.G
