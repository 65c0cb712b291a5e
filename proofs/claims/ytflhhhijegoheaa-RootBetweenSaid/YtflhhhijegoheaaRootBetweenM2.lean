/- The pure meaning of the functions that the law reaches, and that the law is true of it. No conditions. -/
import Derived.KernelRfl
import Derived.Test.YtflhhhijegoheaaRootBetweenM1
set_option linter.all false
namespace Go.Proofs.Ytflhhhijegoheaa.Dx
open Go
theorem awake_07 : val 19 [] = some [Vb true] := val_iff.2 ⟨100, by kernel_rfl⟩
theorem whole_loop {n : Nat} (hn : n < 18446744073709551616) : ∀ (k : Nat) {i : Nat} {root rest : Nat}, i + k = 32 → root < 2 ^ i → rest = n / 2 ^ (64 - 2 * i) - root * root → IsRoot (n / 2 ^ (64 - 2 * i)) root →
    ∃ r, IsRoot n r ∧ rounds (fun vs => lo273_1.dv ([Vu n] ++ vs)) [Vu root, Vu rest, Vi i] = some (.y (.ext 0) [Vu r, Vu (n - r * r)])
  | 0, i, root, rest, hk, hr, hs, hroot => by
    obtain rfl : i = 32 := by omega
    simp at hs hroot
    refine ⟨root, hroot, rounds_exit ?_ (by simp)⟩
    subst hs
    simp [lo273_1, TT.dv]
  | k + 1, i, root, rest, hk, hr, hs, hroot => by
    have hi : i < 32 := by omega
    have hr32 : root < 4294967296 := Nat.lt_of_lt_of_le hr (Nat.pow_le_pow_right (by omega) (by omega : i ≤ 32))
    obtain ⟨h1, h2⟩ := hroot
    have hx : (root + 1) * (root + 1) = root * root + 2 * root + 1 := by rw [Nat.add_mul, Nat.mul_add]; omega
    have hle : rest ≤ 2 * root := by omega
    have hrd := whole_round (n := n) (root := root) (rest := rest) (i := (i : Int)) (by omega) (by omega) hn hr32 hle
    simp only [Int.toNat_natCast] at hrd
    have hstep : n / 2 ^ (64 - 2 * (i + 1)) = 4 * (n / 2 ^ (64 - 2 * i)) + n / 2 ^ (62 - 2 * i) % 4 := by
      rw [show 64 - 2 * i = (62 - 2 * i) + 2 by omega, Nat.pow_add, ← Nat.div_div_eq_div_mul, show 64 - 2 * (i + 1) = 62 - 2 * i by omega]
      generalize n / 2 ^ (62 - 2 * i) = q; omega
    generalize hb : n / 2 ^ (62 - 2 * i) % 4 = b at *
    have hp : 2 ^ (i + 1) = 2 * 2 ^ i := by rw [Nat.pow_succ]; omega
    by_cases hc : root * 4 + 1 ≤ rest * 4 + b
    · rw [if_pos hc] at hrd
      have hd : (2 * root + 1) * (2 * root + 1) = 4 * (root * root) + 4 * root + 1 := by
        rw [Nat.add_mul, Nat.mul_add, Nat.mul_mul_mul_comm]; omega
      have hd2 : (2 * root + 1 + 1) * (2 * root + 1 + 1) = 4 * (root * root) + 8 * root + 4 := by
        rw [show 2 * root + 1 + 1 = 2 * (root + 1) by omega, Nat.mul_mul_mul_comm, hx]; omega
      obtain ⟨r, hr1, hr2⟩ := whole_loop hn k (i := i + 1) (root := 2 * root + 1) (rest := rest * 4 + b - (root * 4 + 1)) (by omega) (by omega) (by rw [hstep, hd]; omega) ⟨by rw [hstep, hd]; omega, by rw [hstep, hd2]; omega⟩
      refine ⟨r, hr1, ?_⟩
      exact (rounds_cont (f := fun vs => lo273_1.dv ([Vu n] ++ vs)) hrd).trans hr2
    · rw [if_neg hc] at hrd
      have hd : (2 * root) * (2 * root) = 4 * (root * root) := by
        rw [Nat.mul_mul_mul_comm]
      have hd2 : (2 * root + 1) * (2 * root + 1) = 4 * (root * root) + 4 * root + 1 := by
        rw [Nat.add_mul, Nat.mul_add, Nat.mul_mul_mul_comm]; omega
      obtain ⟨r, hr1, hr2⟩ := whole_loop hn k (i := i + 1) (root := 2 * root) (rest := rest * 4 + b) (by omega) (by omega) (by rw [hstep, hd]; omega) ⟨by rw [hstep, hd]; omega, by rw [hstep, hd2]; omega⟩
      refine ⟨r, hr1, ?_⟩
      exact (rounds_cont (f := fun vs => lo273_1.dv ([Vu n] ++ vs)) hrd).trans hr2
theorem whole_ok {n : Nat} (hn : n < 18446744073709551616) : ∃ r, IsRoot n r ∧ val 273 [Vu n] = some [Vu r, Vb (decide (n - r * r = 0))] := by
  obtain ⟨r, h1, h2⟩ := whole_loop hn 32 (i := 0) (root := 0) (rest := 0) (by omega) (by omega) (by simp; omega) ⟨by simp, by simp; omega⟩
  refine ⟨r, h1, val_of tab273 ?_⟩
  have h3 : rounds (fun vs => lo273_1.dv ([Vu n] ++ vs)) [Vu 0, Vu 0, Vi 0] = some (.y (.ext 0) [Vu r, Vu (n - r * r)]) := h2
  unfold tr273
  simp only [TT.dv, List.map, den_u64_lit, den_i64]
  show (match rounds (fun vs => lo273_1.dv ([Vu n] ++ vs)) [Vu 0, Vu 0, Vi 0] with | some (.y x vs) => _ | _ => none) = _
  rw [h3]
  simp [KS.dv, TT.dv]

theorem small_round {n r s : Nat} (h : r + s < 4294967296) : lo137_1.dv [Vu n, Vu r, Vu s] =
    if s = 0 then some (.y (.ext 0) [Vu r]) else some (.y .cont [Vu (if (r + s) * (r + s) ≤ n then r + s else r), Vu (s / 2)]) := by
  have e1 : (B.quo .u64).den (Vu s) (Vu 2) = Vu (s / 2) := quo_u (by omega)
  have h1 : (r + s) % 18446744073709551616 = r + s := by omega
  have h2 : (r + s) * (r + s) % 18446744073709551616 = (r + s) * (r + s) := Nat.mod_eq_of_lt (Nat.lt_of_le_of_lt (Nat.mul_le_mul (Nat.le_of_lt_succ h) (Nat.le_of_lt_succ h)) (by omega))
  by_cases h0 : s = 0
  · subst h0; simp [lo137_1, TT.dv]
  · by_cases hc : (r + s) * (r + s) ≤ n
    · simp [lo137_1, TT.dv, KS.dv, h0, h1, h2, e1, hc, Nat.pos_of_ne_zero h0]
    · simp [lo137_1, TT.dv, KS.dv, h0, h1, h2, e1, hc, Nat.pos_of_ne_zero h0]
theorem small_loop {n : Nat} (hn : n < 18446744073709551616) : ∀ (k : Nat) {r : Nat}, k ≤ 32 → r % 2 ^ k = 0 → r + 2 ^ k ≤ 4294967296 → r * r ≤ n → n < (r + 2 ^ k) * (r + 2 ^ k) →
    ∃ r', IsRoot n r' ∧ rounds (fun vs => lo137_1.dv ([Vu n] ++ vs)) [Vu r, Vu (2 ^ k / 2)] = some (.y (.ext 0) [Vu r'])
  | 0, r, _, _, hb, h1, h2 => by
    refine ⟨r, ⟨h1, by simpa using h2⟩, rounds_exit ?_ (by simp)⟩
    show lo137_1.dv [Vu n, Vu r, Vu 0] = _
    rw [small_round (by omega), if_pos rfl]
  | k + 1, r, hk, hm, hb, h1, h2 => by
    have hp : 2 ^ (k + 1) = 2 * 2 ^ k := by rw [Nat.pow_succ]; omega
    have hpos : 0 < 2 ^ k := Nat.two_pow_pos k
    have hdiv : 2 ^ (k + 1) / 2 = 2 ^ k := by omega
    rw [hdiv]
    have hrd := small_round (n := n) (r := r) (s := 2 ^ k) (by omega)
    rw [if_neg (by omega)] at hrd
    have hm' : r % 2 ^ k = 0 := by
      rw [hp] at hm
      have := Nat.mod_mul_left_mod r 2 (2 ^ k)
      rw [hm] at this; simpa using this.symm
    by_cases hc : (r + 2 ^ k) * (r + 2 ^ k) ≤ n
    · rw [if_pos hc] at hrd
      obtain ⟨r', h3, h4⟩ := small_loop hn k (r := r + 2 ^ k) (by omega) (by rw [Nat.add_mod_right]; exact hm') (by omega) hc (by rw [Nat.add_assoc, ← Nat.two_mul, ← hp]; exact h2)
      refine ⟨r', h3, ?_⟩
      exact (rounds_cont (f := fun vs => lo137_1.dv ([Vu n] ++ vs)) hrd).trans h4
    · rw [if_neg hc] at hrd
      obtain ⟨r', h3, h4⟩ := small_loop hn k (r := r) (by omega) hm' (by omega) h1 (by omega)
      refine ⟨r', h3, ?_⟩
      exact (rounds_cont (f := fun vs => lo137_1.dv ([Vu n] ++ vs)) hrd).trans h4
theorem small_ok {n : Nat} (hn : n < 18446744073709551616) : ∃ r, IsRoot n r ∧ val 137 [Vu n] = some [Vu r] := by
  obtain ⟨r, h1, h2⟩ := small_loop hn 32 (r := 0) (by omega) (by simp) (by simp) (by simp) (by simpa using hn)
  refine ⟨r, h1, val_of tab137 ?_⟩
  have h3 : rounds (fun vs => lo137_1.dv ([Vu n] ++ vs)) [Vu 0, Vu 2147483648] = some (.y (.ext 0) [Vu r]) := h2
  unfold tr137
  simp only [TT.dv, List.map, den_u64_lit]
  show (match rounds (fun vs => lo137_1.dv ([Vu n] ++ vs)) [Vu 0, Vu 2147483648] with | some (.y x vs) => _ | _ => none) = _
  rw [h3]
  simp [KS.dv, TT.dv]
theorem law_RootWholes {n : Nat} (hn : n < 18446744073709551616) : val 18 [Vu n] = some [Vb true] := by
  obtain ⟨r, h1, h2⟩ := whole_ok hn
  obtain ⟨s, h3, h4⟩ := small_ok hn
  obtain rfl := h1.uniq h3
  have hsq : r * r % 18446744073709551616 = r * r := Nat.mod_eq_of_lt (Nat.lt_of_le_of_lt h1.1 hn)
  have hx : decide (n - r * r = 0) = decide (r * r = n) := by
    rw [decide_eq_decide]; have := h1.1; omega
  refine val_of tab18 ?_
  simp [tr18, TT.dv, h2, h4, awake_07, hsq, hx]
end Go.Proofs.Ytflhhhijegoheaa.Dx

/- root.long: the root of a number of two words. -/
namespace Go.Proofs.Ytflhhhijegoheaa.Dx
open Go

theorem long_round {n root rest : Nat} {i : Nat} (hi : i < 64) (hn : n < 18446744073709551616) (hr : root < 9223372036854775808) (hs : rest ≤ 2 * root) :
    let p := if i < 32 then n / 2 ^ (62 - 2 * i) % 4 else 0
    lo274_1.dv [Vu n, Vu root, Vu (rest / 18446744073709551616), Vu (rest % 18446744073709551616), Vi i] = some (.y .cont (if root * 4 + 1 ≤ rest * 4 + p then [Vu (2 * root + 1), Vu ((rest * 4 + p - (root * 4 + 1)) / 18446744073709551616), Vu ((rest * 4 + p - (root * 4 + 1)) % 18446744073709551616), Vi ((i + 1 : Nat) : Int)] else [Vu (2 * root), Vu ((rest * 4 + p) / 18446744073709551616), Vu ((rest * 4 + p) % 18446744073709551616), Vi ((i + 1 : Nat) : Int)])) := by
  intro p
  have hp : p < 4 := by show (if i < 32 then n / 2 ^ (62 - 2 * i) % 4 else 0) < 4; split <;> omega
  have ep : ¬ i < 32 → p = 0 := fun h => if_neg h
  have e1 : i < 32 → (B.sub .i64).den (Vi 62) ((B.mul .i64).den (Vi 2) (Vi i)) = Vi (62 - 2 * i) := fun h => by
    rw [mul_i (by omega) (by omega), sub_i (by omega) (by omega)]
  have e2 : i < 32 → (B.and .u64).den ((B.shr .u64).den (Vu n) (Vi (62 - 2 * i))) (Vu 3) = Vu p := fun h => by
    rw [shr_uI (s := 62 - 2 * i) (by omega), Nat.min_eq_left (by omega), and_3]
    show _ = Vu (if i < 32 then n / 2 ^ (62 - 2 * i) % 4 else 0); rw [if_pos h]
  generalize hpd : p = p' at *
  clear hpd
  have a1 : (B.or .u64).den ((B.shl .u64).den (Vu (rest % 18446744073709551616)) (Vu 2)) (Vu p') = Vu ((rest * 4 + p') % 18446744073709551616) := by
    have h1 : (B.shl .u64).den (Vu (rest % 18446744073709551616)) (Vu 2) = Vu (2 ^ 2 * (rest % 4611686018427387904)) := by rw [shl_uU]; exact congrArg Vu (by simp; omega)
    rw [h1, or_add (by omega) (by omega) (by omega)]; exact congrArg Vu (by omega)
  have a2 : (B.or .u64).den ((B.shl .u64).den (Vu (rest / 18446744073709551616)) (Vu 2)) ((B.shr .u64).den (Vu (rest % 18446744073709551616)) (Vu 62)) = Vu ((rest * 4 + p') / 18446744073709551616) := by
    have h1 : (B.shl .u64).den (Vu (rest / 18446744073709551616)) (Vu 2) = Vu (2 ^ 2 * (rest / 18446744073709551616)) := by rw [shl_uU]; exact congrArg Vu (by simp; omega)
    have h2 : (B.shr .u64).den (Vu (rest % 18446744073709551616)) (Vu 62) = Vu (rest % 18446744073709551616 / 4611686018427387904) := by rw [shr_uU]; rfl
    rw [h1, h2, or_add (by omega) (by omega) (by omega)]; exact congrArg Vu (by omega)
  have a3 : (B.or .u64).den ((B.shl .u64).den (Vu root) (Vu 2)) (Vu 1) = Vu ((root * 4 + 1) % 18446744073709551616) := by
    have h1 : (B.shl .u64).den (Vu root) (Vu 2) = Vu (2 ^ 2 * (root % 4611686018427387904)) := by rw [shl_uU]; exact congrArg Vu (by simp; omega)
    rw [h1, or_add (by omega) (by omega) (by omega)]; exact congrArg Vu (by omega)
  have a4 : (B.shr .u64).den (Vu root) (Vu 62) = Vu ((root * 4 + 1) / 18446744073709551616) := by rw [shr_uU]; exact congrArg Vu (by simp; omega)
  have a5 : (B.shl .u64).den (Vu root) (Vu 1) = Vu (2 * root) := by rw [shl_uU]; exact congrArg Vu (by simp; omega)
  have a6 : (B.or .u64).den (Vu (2 * root)) (Vu 1) = Vu (2 * root + 1) := by
    have := or_add (a := root) (b := 1) (i := 1) (by omega) (by omega) (by omega)
    simpa using this
  have a7 : (B.add .i64).den (Vi i) (Vi 1) = Vi ((i + 1 : Nat) : Int) := by rw [add_i (by omega) (by omega)]; rfl
  generalize hX : rest * 4 + p' = X at *
  generalize hY : root * 4 + 1 = Y at *
  have hXb : X < 2 ^ 80 := by omega
  have hYb : Y < 2 ^ 80 := by omega
  have sb : ∀ a b c : Nat, T3.sborrow.den (Vu a) (Vu b) (Vu c) = Vu (if a < b + c then 1 else 0) := fun a b c => by
    by_cases h : a < b + c <;> simp [T3.den, PV.int, Vu, h]
  have ss : ∀ a b c : Nat, b + c ≤ a + 18446744073709551616 → T3.ssub.den (Vu a) (Vu b) (Vu c) = Vu ((a + 18446744073709551616 - b - c) % 18446744073709551616) := fun a b c h => by
    simp only [T3.den, PV.int, Vu, Int.toNat_natCast]; rfl
  have b1 := sb (X % 18446744073709551616) (Y % 18446744073709551616) 0
  have lec : ∀ q : Nat, q ≤ 1 → B.le.den (Vu q) (Vu 1) = Vb true := fun q h => by simp [h]
  generalize hbw : (if X % 18446744073709551616 < Y % 18446744073709551616 + 0 then 1 else 0) = bw at *
  have hbw1 : bw ≤ 1 := by subst hbw; split <;> omega
  have b2 := sb (X / 18446744073709551616) (Y / 18446744073709551616) bw
  have s1 := ss (X % 18446744073709551616) (Y % 18446744073709551616) 0 (by omega)
  have s2 := ss (X / 18446744073709551616) (Y / 18446744073709551616) bw (by omega)
  have hi' : (i : Int) < 64 := by omega
  by_cases hc : Y ≤ X
  · have c1 : (if X / 18446744073709551616 < Y / 18446744073709551616 + bw then 1 else 0) = 0 := by
      subst hbw; rw [if_neg]; split <;> omega
    have c2 : (X / 18446744073709551616 + 18446744073709551616 - Y / 18446744073709551616 - bw) % 18446744073709551616 = (X - Y) / 18446744073709551616 := by
      subst hbw; split <;> omega
    have c3 : (X % 18446744073709551616 + 18446744073709551616 - Y % 18446744073709551616 - 0) % 18446744073709551616 = (X - Y) % 18446744073709551616 := by omega
    rw [c1] at b2
    rw [c2] at s2
    rw [c3] at s1
    rw [if_pos hc]
    by_cases h32 : i < 32
    · have h32' : (i : Int) < 32 := by omega
      simp [-shl_u_lit, -shr_u_lit, lo274_1, TT.dv, KS.dv, hi', h32', e1 h32, e2 h32, a1, a2, a3, a4, a5, a6, a7, b1, b2, s1, s2, hbw1, show 2 * (i : Int) ≤ 62 by omega]
    · have h32' : ¬ (i : Int) < 32 := by omega
      have hp0 : p' = 0 := ep h32
      subst hp0
      simp [-shl_u_lit, -shr_u_lit, lo274_1, TT.dv, KS.dv, hi', h32', a1, a2, a3, a4, a5, a6, a7, b1, b2, s1, s2, hbw1]
  · have c1 : (if X / 18446744073709551616 < Y / 18446744073709551616 + bw then 1 else 0) = 1 := by
      subst hbw; rw [if_pos]; split <;> omega
    rw [c1] at b2
    rw [if_neg hc]
    by_cases h32 : i < 32
    · have h32' : (i : Int) < 32 := by omega
      simp [-shl_u_lit, -shr_u_lit, lo274_1, TT.dv, KS.dv, hi', h32', e1 h32, e2 h32, a1, a2, a3, a4, a5, a7, b1, b2, hbw1, show 2 * (i : Int) ≤ 62 by omega]
    · have h32' : ¬ (i : Int) < 32 := by omega
      have hp0 : p' = 0 := ep h32
      subst hp0
      simp [-shl_u_lit, -shr_u_lit, lo274_1, TT.dv, KS.dv, hi', h32', a1, a2, a3, a4, a5, a7, b1, b2, hbw1]
theorem long_loop {n : Nat} (hn : n < 4611686018427387904) : ∀ (k : Nat) {i : Nat} {root rest : Nat}, i + k = 64 → rest = n * 2 ^ 64 / 2 ^ (128 - 2 * i) - root * root → IsRoot (n * 2 ^ 64 / 2 ^ (128 - 2 * i)) root →
    ∃ r, IsRoot (n * 2 ^ 64) r ∧ rounds (fun vs => lo274_1.dv (Vu n :: vs)) [Vu root, Vu (rest / 18446744073709551616), Vu (rest % 18446744073709551616), Vi i] = some (.y (.ext 0) [Vu r, Vu ((n * 2 ^ 64 - r * r) / 18446744073709551616), Vu ((n * 2 ^ 64 - r * r) % 18446744073709551616)])
  | 0, i, root, rest, hk, hs, hroot => by
    obtain rfl : i = 64 := by omega
    simp only [Nat.mul_one, show 128 - 2 * 64 = 0 by rfl, Nat.pow_zero, Nat.div_one] at hs hroot
    refine ⟨root, hroot, rounds_exit ?_ (by simp)⟩
    subst hs
    simp [lo274_1, TT.dv]
  | k + 1, i, root, rest, hk, hs, hroot => by
    have hi : i < 64 := by omega
    have hr63 : root < 9223372036854775808 := by
      by_cases h : root < 9223372036854775808
      · exact h
      · have h1 := hroot.1
        have h2 : n * 2 ^ 64 / 2 ^ (128 - 2 * i) ≤ n * 2 ^ 64 := Nat.div_le_self _ _
        have h3 := Nat.mul_le_mul (show 9223372036854775808 ≤ root by omega) (show 9223372036854775808 ≤ root by omega)
        omega
    obtain ⟨h1, h2⟩ := hroot
    have hx : (root + 1) * (root + 1) = root * root + 2 * root + 1 := by rw [Nat.add_mul, Nat.mul_add]; omega
    have hle : rest ≤ 2 * root := by omega
    have hrd := long_round (n := n) (root := root) (rest := rest) (i := i) hi (by omega) hr63 hle
    obtain ⟨b, hb⟩ : ∃ b, b = if i < 32 then n / 2 ^ (62 - 2 * i) % 4 else 0 := ⟨_, rfl⟩
    simp only [← hb] at hrd
    have hstep : n * 2 ^ 64 / 2 ^ (128 - 2 * (i + 1)) = 4 * (n * 2 ^ 64 / 2 ^ (128 - 2 * i)) + b := by
      have e1 : n * 2 ^ 64 / 2 ^ (128 - 2 * i) = n * 2 ^ 64 / 2 ^ (128 - 2 * (i + 1)) / 4 := by
        rw [show 128 - 2 * i = (128 - 2 * (i + 1)) + 2 by omega, Nat.pow_add, ← Nat.div_div_eq_div_mul]
      have e2 : n * 2 ^ 64 / 2 ^ (128 - 2 * (i + 1)) % 4 = b := by
        by_cases h : i < 32
        · rw [hb, if_pos h, show 128 - 2 * (i + 1) = 64 + (62 - 2 * i) by omega, Nat.pow_add, ← Nat.div_div_eq_div_mul, Nat.mul_div_cancel _ (by omega)]
        · rw [hb, if_neg h]
          have : n * 2 ^ 64 = n * 2 ^ (2 * i - 62) * 2 ^ (128 - 2 * (i + 1)) := by
            rw [Nat.mul_assoc, ← Nat.pow_add]; congr 2; omega
          rw [this, Nat.mul_div_cancel _ (Nat.two_pow_pos _), show 2 * i - 62 = (2 * i - 64) + 2 by omega, Nat.pow_add, ← Nat.mul_assoc]
          exact Nat.mul_mod_left _ _
      rw [e1]; omega
    have hb4 : b < 4 := by subst hb; split <;> omega
    clear hb
    by_cases hc : root * 4 + 1 ≤ rest * 4 + b
    · rw [if_pos hc] at hrd
      have hd : (2 * root + 1) * (2 * root + 1) = 4 * (root * root) + 4 * root + 1 := by
        rw [Nat.add_mul, Nat.mul_add, Nat.mul_mul_mul_comm]; omega
      have hd2 : (2 * root + 1 + 1) * (2 * root + 1 + 1) = 4 * (root * root) + 8 * root + 4 := by
        rw [show 2 * root + 1 + 1 = 2 * (root + 1) by omega, Nat.mul_mul_mul_comm, hx]; omega
      obtain ⟨r, hr1, hr2⟩ := long_loop hn k (i := i + 1) (root := 2 * root + 1) (rest := rest * 4 + b - (root * 4 + 1)) (by omega) (by rw [hstep, hd]; omega) ⟨by rw [hstep, hd]; omega, by rw [hstep, hd2]; omega⟩
      exact ⟨r, hr1, (rounds_cont (f := fun vs => lo274_1.dv (Vu n :: vs)) hrd).trans hr2⟩
    · rw [if_neg hc] at hrd
      have hd : (2 * root) * (2 * root) = 4 * (root * root) := by rw [Nat.mul_mul_mul_comm]
      have hd2 : (2 * root + 1) * (2 * root + 1) = 4 * (root * root) + 4 * root + 1 := by
        rw [Nat.add_mul, Nat.mul_add, Nat.mul_mul_mul_comm]; omega
      obtain ⟨r, hr1, hr2⟩ := long_loop hn k (i := i + 1) (root := 2 * root) (rest := rest * 4 + b) (by omega) (by rw [hstep, hd]; omega) ⟨by rw [hstep, hd]; omega, by rw [hstep, hd2]; omega⟩
      exact ⟨r, hr1, (rounds_cont (f := fun vs => lo274_1.dv (Vu n :: vs)) hrd).trans hr2⟩
theorem long_ok {n : Nat} (hn : n < 4611686018427387904) : ∃ r, IsRoot (n * 2 ^ 64) r ∧ val 274 [Vu n] = some [Vu r, Vb (decide (r * r = n * 2 ^ 64))] := by
  obtain ⟨r, h1, h2⟩ := long_loop hn 64 (i := 0) (root := 0) (rest := 0) (by omega) (by rw [Nat.div_eq_of_lt (by simp; omega)]) ⟨by simp, by rw [Nat.div_eq_of_lt (by simp; omega)]; omega⟩
  refine ⟨r, h1, val_of tab274 ?_⟩
  simp only [Nat.zero_div, Nat.zero_mod, Int.natCast_zero] at h2
  have hd : (decide ((n * 2 ^ 64 - r * r) / 18446744073709551616 = 0) && decide ((n * 2 ^ 64 - r * r) % 18446744073709551616 = 0)) = decide (r * r = n * 2 ^ 64) := by
    have := h1.1
    rw [← Bool.decide_and, decide_eq_decide]; omega
  generalize (n * 2 ^ 64 - r * r) / 18446744073709551616 = q1 at *
  generalize (n * 2 ^ 64 - r * r) % 18446744073709551616 = q2 at *
  rw [← hd]
  simp [tr274, TT.dv, KS.dv, h2]
end Go.Proofs.Ytflhhhijegoheaa.Dx

/- Square roots, rounded: one answer however it is reckoned. -/
namespace Go.Proofs.Ytflhhhijegoheaa.Dx
open Go

def isq (n : Nat) : Nat := if n = 0 then 0 else if (2 * isq (n / 4) + 1) * (2 * isq (n / 4) + 1) ≤ n then 2 * isq (n / 4) + 1 else 2 * isq (n / 4)
termination_by n
decreasing_by all_goals omega
theorem isq_ok (n : Nat) : IsRoot n (isq n) := by
  induction n using Nat.strongRecOn with
  | ind n ih =>
    by_cases h : n = 0
    · subst h; rw [isq]; exact ⟨by simp, by simp⟩
    · obtain ⟨h1, h2⟩ := ih (n / 4) (by omega)
      rw [isq, if_neg h]
      generalize isq (n / 4) = r at *
      have e1 : (2 * r) * (2 * r) = 4 * (r * r) := by rw [Nat.mul_mul_mul_comm]
      have e2 : (r + 1) * (r + 1) = r * r + 2 * r + 1 := by rw [Nat.add_mul, Nat.mul_add]; omega
      have e3 : (2 * r + 1 + 1) * (2 * r + 1 + 1) = 4 * ((r + 1) * (r + 1)) := by rw [show 2 * r + 1 + 1 = 2 * (r + 1) by omega, Nat.mul_mul_mul_comm]
      split
      · rename_i hc; exact ⟨hc, by omega⟩
      · rename_i hc; exact ⟨by omega, by omega⟩
def bit (b : Bool) : Nat := b.toNat
def stk (N w : Nat) : Nat := 2 * w + (decide (w * w ≠ N)).toNat
theorem lt_of_sq {a b : Nat} (h : a * a < b * b) : a < b := by
  by_cases hh : b ≤ a
  · have := Nat.mul_le_mul hh hh; omega
  · omega
theorem sqrt_scale {N w w' j : Nat} {p : Int} (h1 : IsRoot N w) (h2 : IsRoot (N * 4 ^ j) w') (hw : w ≠ 0) (hp : p < lastP w p) :
    nearR (stk (N * 4 ^ j) w') (p - j - 1) = nearR (stk N w) (p - 1) ∧ exq (stk (N * 4 ^ j) w') (p - j - 1) = exq (stk N w) (p - 1) := by
  have h4 : (4 : Nat) ^ j = 2 ^ j * 2 ^ j := by rw [show (4 : Nat) = 2 * 2 by decide, Nat.mul_pow]
  have hP := Nat.two_pow_pos j
  have sq : ∀ a, (a * 2 ^ j) * (a * 2 ^ j) = a * a * 4 ^ j := fun a => by rw [h4, Nat.mul_mul_mul_comm]
  obtain ⟨a1, a2⟩ := h1
  have b1 : w * 2 ^ j ≤ w' := by
    have : (w * 2 ^ j) * (w * 2 ^ j) < (w' + 1) * (w' + 1) := by rw [sq]; exact Nat.lt_of_le_of_lt (Nat.mul_le_mul_right _ a1) h2.2
    have := lt_of_sq this; omega
  have b2 : w' < (w + 1) * 2 ^ j := by
    have : w' * w' < ((w + 1) * 2 ^ j) * ((w + 1) * 2 ^ j) := by rw [sq]; exact Nat.lt_of_le_of_lt h2.1 (Nat.mul_lt_mul_of_pos_right a2 (by rw [h4]; exact Nat.mul_pos hP hP))
    exact lt_of_sq this
  obtain ⟨r, hr⟩ : ∃ r, w' = w * 2 ^ j + r := ⟨w' - w * 2 ^ j, by omega⟩
  have hrlt : r < 2 ^ j := by rw [Nat.add_mul, Nat.one_mul] at b2; omega
  by_cases he : w * w = N
  · have hw' : w' = w * 2 ^ j := by
      refine h2.uniq ⟨by rw [sq, he]; exact Nat.le_refl _, ?_⟩
      have : (w * 2 ^ j) * (w * 2 ^ j) < (w * 2 ^ j + 1) * (w * 2 ^ j + 1) := Nat.mul_lt_mul'' (by omega) (by omega)
      rwa [sq, he] at this
    have e1 : stk N w = 2 * w := by unfold stk; simp [he]
    have e2 : stk (N * 4 ^ j) w' = 2 * w * 2 ^ j := by unfold stk; rw [hw', sq, he]; simp [Nat.mul_assoc]
    rw [e1, e2, show p - (j : Int) - 1 = (p - 1) - j by omega]
    exact ⟨(near_scale true _ _ j).2.2, exq_scale _ _ j⟩
  · have e1 : stk N w = 2 * w + 1 := by unfold stk; simp [he]
    have e2 : stk (N * 4 ^ j) w' = w * 2 ^ (j + 1) + (2 * r + (decide (w' * w' ≠ N * 4 ^ j)).toNat) := by
      unfold stk; rw [hr, Nat.pow_succ, ← Nat.mul_assoc]; omega
    have hb : (decide (w' * w' ≠ N * 4 ^ j)).toNat ≤ 1 := by cases decide (w' * w' ≠ N * 4 ^ j) <;> simp
    have h0 : 0 < 2 * r + (decide (w' * w' ≠ N * 4 ^ j)).toNat := by
      by_cases hr0 : r = 0
      · have : w' * w' ≠ N * 4 ^ j := fun hh => by
          rw [hr, hr0, Nat.add_zero, sq] at hh
          exact he (Nat.eq_of_mul_eq_mul_right (by rw [h4]; exact Nat.mul_pos hP hP) hh)
        simp [this]
      · omega
    rw [e1, e2, show p - (j : Int) - 1 = p - ((j + 1 : Nat) : Int) by omega]
    exact near_sticky hw hp h0 (by rw [Nat.pow_succ]; omega)
theorem place_big {w : Nat} (h : 9007199254740992 ≤ w) (p : Int) : p < lastP w p := by
  unfold lastP
  have : ¬ w.log2 < 53 := fun hh => by rw [Nat.log2_lt (by omega)] at hh; omega
  omega
theorem sq_same {m s1 s2 w1 w2 : Nat} {e p1 p2 : Int} (h1 : e - s1 = 2 * p1) (h2 : e - s2 = 2 * p2) (r1 : IsRoot (m * 2 ^ s1) w1) (r2 : IsRoot (m * 2 ^ s2) w2) (b1 : 9007199254740992 ≤ w1) (b2 : 9007199254740992 ≤ w2) :
    nearR (stk (m * 2 ^ s1) w1) (p1 - 1) = nearR (stk (m * 2 ^ s2) w2) (p2 - 1) ∧ exq (stk (m * 2 ^ s1) w1) (p1 - 1) = exq (stk (m * 2 ^ s2) w2) (p2 - 1) := by
  have main : ∀ {s1 s2 w1 w2 : Nat} {p1 p2 : Int}, s1 ≤ s2 → e - s1 = 2 * p1 → e - s2 = 2 * p2 → IsRoot (m * 2 ^ s1) w1 → IsRoot (m * 2 ^ s2) w2 → 9007199254740992 ≤ w1 →
      nearR (stk (m * 2 ^ s2) w2) (p2 - 1) = nearR (stk (m * 2 ^ s1) w1) (p1 - 1) ∧ exq (stk (m * 2 ^ s2) w2) (p2 - 1) = exq (stk (m * 2 ^ s1) w1) (p1 - 1) := by
    intro s1 s2 w1 w2 p1 p2 hle h1 h2 r1 r2 b1
    obtain ⟨j, hj⟩ : ∃ j : Nat, (j : Int) = p1 - p2 := ⟨(p1 - p2).toNat, by omega⟩
    have hs : m * 2 ^ s2 = m * 2 ^ s1 * 4 ^ j := by
      rw [show (4 : Nat) = 2 ^ 2 by decide, ← Nat.pow_mul, Nat.mul_assoc, ← Nat.pow_add]; congr 2; omega
    rw [hs] at r2 ⊢
    have := sqrt_scale (p := p1) r1 r2 (by omega) (place_big b1 p1)
    rw [show p1 - (j : Int) - 1 = p2 - 1 by omega] at this
    exact this
  rcases Nat.le_total s1 s2 with h | h
  · have := main h h1 h2 r1 r2 b1; exact ⟨this.1.symm, this.2.symm⟩
  · exact main h h2 h1 r2 r1 b2
def sqS (e : Int) : Nat := if e % 2 = 0 then 110 else 111
def sqN (m : Nat) (e : Int) : Nat := stk (m * 2 ^ sqS e) (isq (m * 2 ^ sqS e))
def sqP (e : Int) : Int := (e - sqS e) / 2 - 1
theorem root_ge {N w k : Nat} (h : IsRoot N w) (hk : k * k ≤ N) : k ≤ w := by
  have := lt_of_sq (Nat.lt_of_le_of_lt hk h.2); omega
theorem sq_any {m s w : Nat} {e p : Int} (hm : m ≠ 0) (h : e - s = 2 * p) (r : IsRoot (m * 2 ^ s) w) (b : 9007199254740992 ≤ w) :
    nearR (stk (m * 2 ^ s) w) (p - 1) = nearR (sqN m e) (sqP e) ∧ exq (stk (m * 2 ^ s) w) (p - 1) = exq (sqN m e) (sqP e) := by
  have hs : e - sqS e = 2 * ((e - sqS e) / 2) := by unfold sqS; split <;> omega
  have hge : 9007199254740992 ≤ isq (m * 2 ^ sqS e) := by
    refine root_ge (isq_ok _) ?_
    have h1 : 2 ^ 110 ≤ 2 ^ sqS e := Nat.pow_le_pow_right (by omega) (by unfold sqS; split <;> omega)
    have h2 := Nat.mul_le_mul (show 1 ≤ m by omega) h1
    have h3 : (9007199254740992 : Nat) * 9007199254740992 ≤ 2 ^ 110 := by decide
    omega
  exact sq_same h hs r (isq_ok _) b hge
/-- The order of rungs. -/
theorem RHE_mono {n n' : Nat} (d : Nat) (h : n ≤ n') : RHE n d ≤ RHE n' d := by
  unfold RHE
  have hp := Nat.two_pow_pos d
  have h1 := Nat.div_add_mod n (2 ^ d)
  have h2 := Nat.div_add_mod n' (2 ^ d)
  have h3 := Nat.mod_lt n hp
  have h4 := Nat.mod_lt n' hp
  have h5 : n / 2 ^ d ≤ n' / 2 ^ d := Nat.div_le_div_right h
  by_cases he : n / 2 ^ d = n' / 2 ^ d
  · rw [he] at h1 ⊢
    have h6 : n % 2 ^ d ≤ n' % 2 ^ d := by omega
    have : (if 2 ^ d < 2 * (n % 2 ^ d) ∨ 2 ^ d = 2 * (n % 2 ^ d) ∧ n' / 2 ^ d % 2 = 1 then 1 else 0) ≤ (if 2 ^ d < 2 * (n' % 2 ^ d) ∨ 2 ^ d = 2 * (n' % 2 ^ d) ∧ n' / 2 ^ d % 2 = 1 then 1 else 0) := by
      split <;> split <;> omega
    omega
  · split <;> split <;> omega
theorem rung_mono {n n' : Nat} (p : Int) (h : n ≤ n') : rung n p ≤ rung n' p := by
  by_cases h0 : n = 0
  · subst h0; rw [rung_zero]; omega
  · have h0' : n' ≠ 0 := by omega
    have hlog : n.log2 ≤ n'.log2 := by
      have := bl_mono h; rw [log2_bl h0, log2_bl h0'] at this; omega
    have k := kept_bounds (n := n) (p := p) h0
    have k' := kept_bounds (n := n') (p := p) h0'
    have hl : lastP n p ≤ lastP n' p := by unfold lastP; omega
    have hl0 : -1074 ≤ lastP n p := by unfold lastP; omega
    unfold rung
    rw [if_neg h0, if_neg h0']
    by_cases he : lastP n p = lastP n' p
    · rw [he]
      exact Nat.add_le_add_left (RHE_mono _ (Nat.mul_le_mul_right _ h)) _
    · have h1 := k'.2 (by omega)
      have h2 := k.1
      have h3 : (lastP n p + 1074).toNat + 1 ≤ (lastP n' p + 1074).toNat := by omega
      have h4 := Nat.mul_le_mul_right two52 h3
      rw [Nat.add_mul, Nat.one_mul] at h4
      omega
theorem nearR_mono {n n' : Nat} (p : Int) (h : n ≤ n') : nearR n p ≤ nearR n' p := by
  have := rung_mono p h
  unfold nearR; omega

/-! ### root.Sqrt -/
theorem halve_loop {x0 x1 x2 x3 x4 x5 x6 : PV} : ∀ (n : Nat) {R : Nat} {E : Int} {more : Bool}, R = n → R < 18446744073709551616 → -9000000000 ≤ E → E + 2 * bl R ≤ 9000000000 → ∃ (R' : Nat) (j r : Nat), R = R' * 2 ^ j + r ∧ r < 2 ^ j ∧ R' < 4611686018427387904 ∧ (0 < j → 2305843009213693952 ≤ R') ∧
    rounds (fun vs => lo272_1.dv (x0 :: x1 :: x2 :: x3 :: x4 :: x5 :: x6 :: vs)) [Vi E, Vu R, Vb more] = some (.y (.ext 5) [Vi (E + 2 * j), Vu R', Vb (more || decide (r ≠ 0))]) := by
  intro n
  induction n using Nat.strongRecOn with
  | ind n ih =>
    intro R E more hmn hm he he2
    by_cases h1 : 4611686018427387904 ≤ R
    · have hbh := bl_half (n := R) (by omega)
      obtain ⟨R', j, r, r2, r3, r4, r5, r6⟩ := ih (R / 2) (by omega) (E := E + 2) (more := more || decide (R % 2 = 1)) rfl (by omega) (by omega) (by omega)
      refine ⟨R', j + 1, 2 * r + R % 2, ?_, ?_, r4, ?_, ?_⟩
      · rw [Nat.pow_succ, ← Nat.mul_assoc]; omega
      · rw [Nat.pow_succ]; omega
      · intro _
        by_cases hj : j = 0
        · subst hj; simp at r2 r3; omega
        · exact r5 (by omega)
      · have e1 : (B.add .i64).den (Vi E) (Vi 2) = Vi (E + 2) := add_i (by omega) (by omega)
        have e3 : (more || decide (2 * r + R % 2 ≠ 0)) = ((more || decide (R % 2 = 1)) || decide (r ≠ 0)) := by
          cases more
          · simp only [Bool.false_or]
            by_cases q1 : R % 2 = 1 <;> by_cases q2 : r = 0 <;> simp [q1, q2] <;> omega
          · simp
        rw [e3, show E + 2 * ((j + 1 : Nat) : Int) = E + 2 + 2 * j by omega]
        refine Eq.trans (rounds_cont ?_) r6
        simp [lo272_1, TT.dv, h1, e1]
    · refine ⟨R, 0, 0, by simp, by simp, by omega, by omega, rounds_exit ?_ (by simp)⟩
      simp [lo272_1, TT.dv, h1]
def sqrtV (b : Nat) : Nat := if nanB b then nan0 else if fMag b = 0 ∧ fPow b = 0 ∨ b = infR then b else if fNeg b then nan0 else nearV false (sqN (fMag b) (fPl b)) (sqP (fPl b))
def sqrtF (b : Nat) : Nat := if nanB b then 0 else if fMag b = 0 ∧ fPow b = 0 ∨ b = infR then 0 else if fNeg b then 16 else nearF (sqN (fMag b) (fPl b)) (sqP (fPl b))
theorem sqrt_ok {b : Nat} (hb : b < 18446744073709551616) : val 272 [Vu b] = some [Vu (sqrtV b), Vy (sqrtF b)] := by
  refine val_of tab272 ?_
  have h1 := kind_ok b
  have h2 := parts_ok b
  have h3 := sign_ok b
  unfold sqrtV sqrtF
  by_cases c1 : nanB b
  · have hk := (kind_nan b).2 c1
    rw [hk] at h1
    simp [tr272, TT.dv, KS.dv, h1, c1, nan0]
  · have hk4 : ¬ fKind b = 4 := fun h => c1 ((kind_nan b).1 h)
    rw [if_neg c1, if_neg c1]
    by_cases c2 : fMag b = 0 ∧ fPow b = 0
    · have hk := (kind_zero b).2 ⟨c2.2, ((mag_zero b).1 c2.1).2⟩
      rw [hk] at h1
      simp [tr272, TT.dv, KS.dv, h1, c2]
    · have hk0 : ¬ fKind b = 0 := fun h => c2 ⟨(mag_zero b).2 ((kind_zero b).1 h), ((kind_zero b).1 h).1⟩
      by_cases c3 : b = infR
      · rw [if_pos (.inr c3), if_pos (.inr c3)]
        unfold infR at c3
        simp [tr272, TT.dv, KS.dv, h1, hk4, hk0, c3] at h1 hk4 hk0 ⊢
        simp [h1, hk4, hk0]
      · have c3' : ¬ b = 9218868437227405312 := c3
        have c23 : ¬ (fMag b = 0 ∧ fPow b = 0 ∨ b = infR) := by rw [not_or]; exact ⟨c2, c3⟩
        rw [if_neg c23, if_neg c23]
        cases c4 : fNeg b
        · have hm0 : fMag b ≠ 0 := fun h => c2 ⟨h, ((mag_zero b).1 h).1⟩
          have hp0 : fPow b ≠ 2047 := fun h => by
            have hf : fFrac b = 0 := by unfold nanB at c1; omega
            apply c3
            unfold infR
            unfold fNeg at c4; unfold fPow at h; unfold fFrac at hf
            simp at c4
            omega
          obtain ⟨p1, p2⟩ := fPl_bd b
          have hm := fMag_lt b
          rw [c4] at h3
          generalize fMag b = m at *
          generalize fPl b = e at *
          have hbl : bl m ≤ 53 := bl_lt.2 hm
          have hbl1 := bl_pos hm0
          have hlz : val 331 [Vu m] = some [Vi (64 - bl m)] := by
            refine val_of tab331 ?_
            have := len64_ok (n := m) (by omega)
            have e1 : (B.sub .i64).den (Vi 64) (Vi (bl m)) = Vi (64 - bl m) := sub_i (by omega) (by omega)
            simp [tr331, TT.dv, this, e1]
          have a1 : (B.sub .i64).den (Vi (64 - bl m)) (Vi 2) = Vi (62 - bl m) := by rw [sub_i (by omega) (by omega)]; exact congrArg Vi (by omega)
          have a2 : (B.sub .i64).den (Vi e) (Vi (62 - bl m)) = Vi (e - (62 - bl m)) := sub_i (by omega) (by omega)
          have a3 : (B.sub .i64).den (Vi (62 - bl m)) (Vi 1) = Vi (61 - bl m) := by rw [sub_i (by omega) (by omega)]; exact congrArg Vi (by omega)
          have hrem : B.ne.den ((B.rem .i64).den (Vi (e - (62 - bl m))) (Vi 2)) (Vi 0) = Vb (decide ((e - (62 - bl m)) % 2 ≠ 0)) := by
            show Vb ((e - (62 - (bl m : Int))).tmod 2 != 0) = _
            rw [Bo_inj]
            have : (e - (62 - (bl m : Int))).tmod 2 = 0 ↔ (e - (62 - (bl m : Int))) % 2 = 0 := by rw [← Int.dvd_iff_tmod_eq_zero, ← Int.dvd_iff_emod_eq_zero]
            by_cases hh : (e - (62 - (bl m : Int))) % 2 = 0
            · rw [this.2 hh, hh]; rfl
            · have h' : ¬ (e - (62 - (bl m : Int))).tmod 2 = 0 := fun h => hh (this.1 h)
              simp [h', hh]
          obtain ⟨s, hs1, hs2, hs3⟩ : ∃ s : Nat, (s : Int) = (if (e - (62 - (bl m : Int))) % 2 ≠ 0 then 61 - (bl m : Int) else 62 - bl m) ∧ (e - s) % 2 = 0 ∧ s ≤ 62 := by
            refine ⟨(if (e - (62 - (bl m : Int))) % 2 ≠ 0 then 61 - (bl m : Int) else 62 - bl m).toNat, ?_, ?_, ?_⟩ <;> split <;> omega
          have hM : m * 2 ^ s < 4611686018427387904 ∧ 1152921504606846976 ≤ m * 2 ^ s := by
            have := bl_shl hm0 s
            have hh : bl (m * 2 ^ s) ≤ 62 ∧ ¬ bl (m * 2 ^ s) ≤ 60 := by rw [this]; split at hs1 <;> omega
            rw [bl_lt, bl_lt] at hh
            simpa using hh
          have a4 : (B.shl .u64).den (Vu m) (Vi s) = Vu (m * 2 ^ s) := by rw [shl_uI rfl, Nat.min_eq_left (by omega), Nat.mod_eq_of_lt (by omega)]
          have a5 : (B.sub .i64).den (Vi e) (Vi s) = Vi (e - s) := sub_i (by omega) (by omega)
          obtain ⟨R, hR, hlong⟩ := long_ok (n := m * 2 ^ s) hM.1
          have hRb : R < 9223372036854775808 := by
            have h5 := hR.1
            have : R * R < 9223372036854775808 * 9223372036854775808 := by omega
            exact lt_of_sq this
          have hRl : 2305843009213693952 ≤ R := root_ge hR (by omega)
          have hblR : bl R ≤ 64 := bl_lt.2 (by omega)
          obtain ⟨R', j, r, t1, t2, t3, t4, t5⟩ := halve_loop (x0 := Vu b) (x1 := Vu m) (x2 := Vi e) (x3 := Vi (64 - bl m)) (x4 := Vi s) (x5 := Vu R) (x6 := Vb (decide (R * R = m * 2 ^ s * 2 ^ 64))) R (R := R) (E := e - s) (more := !decide (R * R = m * 2 ^ s * 2 ^ 64)) rfl (by omega) (by omega) (by omega)
          have hj1 : j ≤ 1 := by
            by_cases hj : j ≤ 1
            · exact hj
            · have h5 := t4 (by omega)
              have h6 := Nat.mul_le_mul h5 (Nat.pow_le_pow_right (show 0 < 2 by omega) (show 2 ≤ j by omega))
              omega
          have hR'l : 2305843009213693952 ≤ R' := by
            by_cases hj : j = 0
            · subst hj; simp at t1 t2; omega
            · exact t4 (by omega)
          -- the place of the root
          obtain ⟨q, hq⟩ : ∃ q : Int, e - s = 2 * q := ⟨(e - s) / 2, by omega⟩
          have a6 : (B.sub .i64).den ((B.quo .i64).den (Vi (e - s + 2 * j)) (Vi 2)) (Vi 32) = Vi (q + j - 32) := by
            have : (B.quo .i64).den (Vi (e - s + 2 * j)) (Vi 2) = Vi (q + j) := by
              show Vi (IntKind.i64.wrap ((e - s + 2 * (j : Int)).tdiv 2)) = _
              rw [hq, ← Int.mul_add, Int.mul_tdiv_cancel_left _ (by omega), wrap_i64_of (by omega) (by omega)]
            rw [this, sub_i (by omega) (by omega)]
          have hsq := sq_any (m := m) (s := s + 64) (w := R) (e := e) (p := q - 32) hm0 (by omega) (by rw [Nat.pow_add, ← Nat.mul_assoc]; exact hR) (by omega)
          rw [Nat.pow_add, ← Nat.mul_assoc] at hsq
          have hpl := place_big (w := R') (by omega) (q + j - 32)
          obtain ⟨mo, hmo⟩ : ∃ mo, ((!decide (R * R = m * 2 ^ s * 2 ^ 64)) || decide (r ≠ 0)) = mo := ⟨_, rfl⟩
          have hn := near_ok (neg := false) (more := mo) (m := R') (e := q + j - 32) (by omega) (by omega) (by omega) (fun _ => .inr ⟨by omega, hpl⟩)
          have hVF : nearR (2 * R' + mo.toNat) (q + j - 32 - 1) = nearR (stk (m * 2 ^ s * 2 ^ 64) R) (q - 32 - 1) ∧ exq (2 * R' + mo.toNat) (q + j - 32 - 1) = exq (stk (m * 2 ^ s * 2 ^ 64) R) (q - 32 - 1) := by
            unfold stk
            by_cases hm1 : mo = true
            · subst hm1
              have hb1 : (decide (R * R ≠ m * 2 ^ s * 2 ^ 64)).toNat ≤ 1 := by cases decide (R * R ≠ m * 2 ^ s * 2 ^ 64) <;> simp
              have := near_sticky (n := R') (p := q + j - 32) (j := j + 1) (r := 2 * r + (decide (R * R ≠ m * 2 ^ s * 2 ^ 64)).toNat) (by omega) hpl (by
                by_cases hr0 : r = 0
                · subst hr0
                  simp at hmo
                  simp [hmo]
                · omega) (by rw [Nat.pow_succ 2 j]; omega)
              rw [show q + (j : Int) - 32 - ((j + 1 : Nat) : Int) = q - 32 - 1 by omega, show R' * 2 ^ (j + 1) + (2 * r + (decide (R * R ≠ m * 2 ^ s * 2 ^ 64)).toNat) = 2 * R + (decide (R * R ≠ m * 2 ^ s * 2 ^ 64)).toNat by rw [Nat.pow_succ 2 j, ← Nat.mul_assoc]; omega] at this
              exact ⟨this.1.symm, this.2.symm⟩
            · have hmf : mo = false := by cases mo <;> simp_all
              rw [hmf] at hmo
              simp at hmo
              obtain ⟨g1, g2⟩ := hmo
              rw [hmf]
              simp only [Bool.toNat_false, Nat.add_zero]
              have : (decide (R * R ≠ m * 2 ^ s * 2 ^ 64)).toNat = 0 := by simp [g1]
              rw [this, Nat.add_zero]
              have e2 : 2 * R = 2 * R' * 2 ^ j := by rw [t1, g2, Nat.add_zero, Nat.mul_assoc]
              rw [e2, show q - 32 - 1 = q + (j : Int) - 32 - 1 - j by omega]
              exact ⟨(near_scale true _ _ j).2.2.symm, (exq_scale _ _ j).symm⟩
          have hV : nearV false (2 * R' + mo.toNat) (q + j - 32 - 1) = nearV false (sqN m e) (sqP e) := by unfold nearV; rw [hVF.1, hsq.1]
          have hF : nearF (2 * R' + mo.toNat) (q + j - 32 - 1) = nearF (sqN m e) (sqP e) := by unfold nearF; rw [hVF.1, hVF.2, hsq.1, hsq.2]
          rw [hV, hF] at hn
          rw [hmo] at t5
          generalize hex : decide (R * R = m * 2 ^ s * 2 ^ 64) = ex at *
          have hs0 : (0 : Int) ≤ s := by omega
          by_cases hpar : (e - (62 - (bl m : Int))) % 2 = 0
          · rw [if_neg (by omega)] at hs1
            rw [← hs1] at a1 a2 a3 hrem hpar
            have hlz' : (64 - (bl m : Int)) = s + 2 := by omega
            rw [hlz'] at hlz a1 t5
            simp [tr272, TT.dv, KS.dv, h1, hk4, hk0, c3', h2, h3, hlz, a1, a2, a3, hrem, hpar, a4, a5, hlong, t5, a6, hn]
          · rw [if_pos hpar] at hs1
            rw [← hs1] at a3
            simp [tr272, TT.dv, KS.dv, h1, hk4, hk0, c3', h2, h3, hlz, a1, a2, a3, hrem, hpar, a4, a5, hlong, t5, a6, hn]
        · rw [c4] at h3
          simp [tr272, TT.dv, KS.dv, h1, hk4, hk0, c3', h3, nan0]
end Go.Proofs.Ytflhhhijegoheaa.Dx

/- Canon's answer does not hang on a NaN's payload. -/
namespace Go.Proofs.Ytflhhhijegoheaa.Dx
open Go

theorem canon_nan {a : Nat} (h : nanB a) : ∀ k, fden tab k 134 [Vu a] = if k < 3 then none else some [Vu nan0] := by
  have e1 : (B.quo .u64).den (Vu (a % 9223372036854775808)) (Vu 4503599627370496) = Vu (fPow a) := by rw [quo_u (by omega)]; unfold fPow; exact congrArg Vu (by omega)
  have e2 : (U.conv .i64).den (Vu 2047) = Vi 2047 := rfl
  have hf : a % 4503599627370496 ≠ 0 := h.2
  rw [h.1] at e1
  have p : ∀ k, fden tab (k + 1) 126 [Vu a] = some [Vi 2047] := fun k => by
    simp [fden, tab126, tr126, TT.den, e1, e2]
  have f : ∀ k, fden tab (k + 1) 121 [Vu a] = some [Vu (a % 4503599627370496)] := fun k => by
    simp [fden, tab121, tr121, TT.den]
  have q : ∀ k, fden tab (k + 2) 122 [Vu a] = some [Vi 4] := fun k => by
    rw [fden]; simp [tab122, tr122, TT.den, p k, f k, hf]
  intro k
  match k with
  | 0 => simp [fden]
  | 1 => rw [fden]; simp [tab134, tr134, TT.den, fden]
  | 2 =>
    have : fden tab 1 122 [Vu a] = none := by rw [fden]; simp [tab122, tr122, TT.den, fden]
    rw [fden]; simp [tab134, tr134, TT.den, this]
  | k + 3 => rw [fden]; simp [tab134, tr134, TT.den, q k, nan0]
theorem canon_raw (k : Nat) {ps qs : List PV} (h2 : qs.length = 1) (h3 : All2 RawEq ps qs) : fden tab k 134 ps = fden tab k 134 qs := by
  match ps, qs, h2, h3 with
  | [p], [q], _, h3 =>
    rcases h3.1 with h | ⟨n, h, h'⟩
    · rw [h]
    · by_cases hn : nanB n
      · rw [h, h', cnF_nanB hn]
        have hz : nanB nan0 := by decide
        exact (canon_nan hz k).trans (canon_nan hn k).symm
      · rw [h, h', cnF_ok hn]
  | [], [_], _, h3 => exact absurd h3 (by simp [All2])
  | _ :: _ :: _, [_], _, h3 => exact absurd h3 (by simp [All2])
theorem canon_ok {b : Nat} (hb : b < 18446744073709551616) : val 134 [Vu b] = some [Vu (cnF b)] := by
  refine val_of tab134 ?_
  have h := kind4_ok hb
  by_cases hn : nanB b
  · rw [(kind_nan b).2 hn] at h
    rw [cnF_nanB hn]
    simp [tr134, TT.dv, h, nan0]
  · have : ¬ fKind b = 4 := fun hh => hn ((kind_nan b).1 hh)
    rw [cnF_ok hn]
    simp [tr134, TT.dv, h, this]
end Go.Proofs.Ytflhhhijegoheaa.Dx

/- Laws RootFloats, RootRises. -/
namespace Go.Proofs.Ytflhhhijegoheaa.Dx
open Go

theorem rootFrom_ok {n : Nat} : ∀ (t r : Nat), r * r ≤ n → n < (r + 2 ^ t) * (r + 2 ^ t) → IsRoot n (Ieee.Datum.rootFrom n t r)
  | 0, r, h1, h2 => by
    have : Ieee.Datum.rootFrom n 0 r = r := rfl
    rw [this]; exact ⟨h1, by simpa using h2⟩
  | t + 1, r, h1, h2 => by
    unfold Ieee.Datum.rootFrom
    simp only [Nat.one_shiftLeft]
    have e : r + 2 ^ (t + 1) = r + 2 ^ t + 2 ^ t := by rw [Nat.pow_succ]; omega
    rw [e] at h2
    by_cases h : (r + 2 ^ t) * (r + 2 ^ t) ≤ n
    · rw [if_pos h]; exact rootFrom_ok t _ h h2
    · rw [if_neg h]; exact rootFrom_ok t _ h1 (by omega)
theorem ieee_root {m : Nat} {i : Int} (hm : m ≠ 0) (hl : m.log2 ≤ 60) : (Ieee.Datum.root 54 (.number false m i)).map Ieee.double.write = some (nearV false (sqN m i) (sqP i)) := by
  unfold Ieee.Datum.root
  simp only [if_neg hm, Bool.false_eq_true, if_false]
  obtain ⟨s, hs⟩ : ∃ s, s = 2 * 54 - m.log2 + ((i - ((2 * 54 - m.log2 : Nat) : Int)) % 2).toNat := ⟨_, rfl⟩
  rw [← hs]
  have hs1 : (i - s) % 2 = 0 := by omega
  have hpow : 2 ^ 108 ≤ m * 2 ^ s := by
    have h1 := Nat.log2_self_le hm
    have h2 : 2 ^ (2 * 54 - m.log2) ≤ 2 ^ s := Nat.pow_le_pow_right (by omega) (by omega)
    have h3 := Nat.mul_le_mul h1 h2
    rw [← Nat.pow_add, show m.log2 + (2 * 54 - m.log2) = 108 by omega] at h3
    exact h3
  have hroot : IsRoot (m <<< s) (Ieee.Datum.rootFrom (m <<< s) ((m <<< s).log2 / 2 + 1) 0) := by
    refine rootFrom_ok _ _ (by simp) ?_
    have h1 : m <<< s < 2 ^ ((m <<< s).log2 + 1) := Nat.lt_log2_self
    generalize (m <<< s).log2 = l at *
    rw [Nat.zero_add, ← Nat.pow_add]
    exact Nat.lt_of_lt_of_le h1 (Nat.pow_le_pow_right (by omega) (by omega))
  rw [Nat.shiftLeft_eq] at hroot ⊢
  generalize Ieee.Datum.rootFrom (m * 2 ^ s) ((m * 2 ^ s).log2 / 2 + 1) 0 = w at *
  have hw : 9007199254740992 ≤ w := root_ge hroot (Nat.le_trans (by decide) hpow)
  obtain ⟨q, hq⟩ : ∃ q, i - s = 2 * q := ⟨(i - s) / 2, by omega⟩
  have hany := sq_any hm hq hroot hw
  have hdiv : (i - (s : Int)) / 2 = q := by omega
  rw [hdiv]
  have hst : 2 * w + (w * w != m * 2 ^ s).toNat = stk (m * 2 ^ s) w := by
    unfold stk
    by_cases h : w * w = m * 2 ^ s <;> simp [h]
  simp only [Option.map_some, Ieee.Format.write, hst]
  rw [nearest_eq]
  unfold nearV
  have := hany.1
  unfold nearR at this ⊢
  rw [this]
theorem fsqrt_ok {b : Nat} (hb : b < 18446744073709551616) : U.sqrt.den (Vf (cnF b)) = Vf (sqrtV b) := by
  have hnan : Ieee.double.read nan0 = .nan false 2251799813685248 := by rw [read_ok]; decide
  show fv (Ieee.double.sqrt (cnF b)) = _
  unfold Ieee.Format.sqrt sqrtV
  show fv (((Ieee.double.read (cnF b)).root 54).map Ieee.double.write) = _
  by_cases h1 : nanB b
  · rw [cnF_nanB h1, hnan, if_pos h1]; rfl
  · rw [cnF_ok h1, if_neg h1, read_ok, neg_bit hb]
    by_cases h2 : fPow b = 2047
    · have hf : fFrac b = 0 := by unfold nanB at h1; omega
      rw [if_pos h2, if_pos hf]
      have hz : ¬ (fMag b = 0 ∧ fPow b = 0) := by omega
      cases hn : fNeg b
      · have : b = infR := by
          unfold infR
          unfold fNeg at hn; unfold fPow at h2; unfold fFrac at hf
          simp at hn
          omega
        rw [if_pos (.inr this), this]; rfl
      · have : b ≠ infR := fun h => by rw [h] at hn; revert hn; decide
        rw [if_neg (by rw [not_or]; exact ⟨hz, this⟩)]; rfl
    · rw [if_neg h2]
      have hi : b ≠ infR := fun h => by rw [h] at h2; exact h2 (by decide)
      by_cases h3 : fMag b = 0
      · have hp := (mag_zero b).1 h3
        rw [if_pos (.inl ⟨h3, hp.1⟩)]
        have hb0 : b = if fNeg b then 9223372036854775808 else 0 := by
          unfold fNeg
          unfold fPow fFrac at hp
          by_cases hh : b / 9223372036854775808 = 1
          · simp [hh]; omega
          · simp [hh]; omega
        have : ((Ieee.Datum.root 54 (.number (fNeg b) (fMag b) (fPl b))).map Ieee.double.write) = some (if fNeg b then 9223372036854775808 else 0) := by
          unfold Ieee.Datum.root
          simp only [h3, if_true, Option.map_some, Ieee.Format.write]
          rw [nearest_eq, rung_zero]
          cases fNeg b <;> rfl
        rw [this, ← hb0]; rfl
      · have hz : ¬ (fMag b = 0 ∧ fPow b = 0 ∨ b = infR) := by rw [not_or]; exact ⟨by omega, hi⟩
        rw [if_neg hz]
        cases hn : fNeg b
        · have hlog : (fMag b).log2 ≤ 60 := by
            have := (Nat.log2_lt (k := 53) h3).2 (by have := fMag_lt b; simpa using this)
            omega
          rw [ieee_root h3 hlog]; rfl
        · have : ((Ieee.Datum.root 54 (.number true (fMag b) (fPl b))).map Ieee.double.write) = none := by
            unfold Ieee.Datum.root
            simp [h3]
          rw [this]; rfl
theorem float7_ok (b : Nat) : val 20 [Vu b] = some [Vf (cnF b)] := by
  refine val_of tab20 ?_
  simp [tr20, TT.dv, b2f_ok]
theorem sqrtV_lt {b : Nat} (hb : b < 18446744073709551616) : sqrtV b < 18446744073709551616 := by
  unfold sqrtV
  split
  · decide
  · split
    · exact hb
    · split
      · decide
      · exact word_lt _ _ _
theorem nanB_near (neg : Bool) (n : Nat) (p : Int) : ¬ nanB (nearV neg n p) := by
  have h := isnan_near neg n p
  have : isNaN (nearV neg n p) = false := Bo_inj.1 h
  rw [isNaN_iff] at this
  simpa using this
theorem cnF_sqrt {b : Nat} : cnF (sqrtV b) = sqrtV b := by
  unfold sqrtV
  split
  · decide
  · rename_i h1
    split
    · exact cnF_ok h1
    · split
      · decide
      · exact cnF_ok (nanB_near _ _ _)
theorem law_RootFloats {b : Nat} (hb : b < 18446744073709551616) : val 14 [Vu b] = some [Vb true] := by
  refine val_of tab14 ?_
  have h1 := sqrt_ok hb
  have h2 := float7_ok b
  have h3 : val 328 [Vf (cnF b)] = some [Vf (sqrtV b)] := by
    refine val_of tab328 ?_
    simp [tr328, TT.dv, fsqrt_ok hb]
  have h4 := canon_ok (sqrtV_lt hb)
  rw [cnF_sqrt] at h4
  simp [tr14, TT.dv, h1, h2, h3, f2b_f, h4, awake_07]

/-! ### Rises -/
theorem fle_ok {a b : Nat} (ha : a < 18446744073709551616) (hb : b < 18446744073709551616) : B.fle.den (Vf (cnF a)) (Vf (cnF b)) = Vb (ordOk a b && decide (rk a ≤ rk b)) := by
  show Vb (ordIs (cnF a) (cnF b) .lt || ordIs (cnF a) (cnF b) .eq) = _
  rw [ordIs_ok ha hb, ordIs_ok ha hb]
  cases h : ordOk a b
  · simp
  · unfold cmp3
    rcases Int.lt_trichotomy (rk a) (rk b) with h | h | h
    · rw [if_pos h, show decide (rk a ≤ rk b) = true by simp; omega]; rfl
    · rw [if_neg (by omega), if_neg (by omega), show decide (rk a ≤ rk b) = true by simp; omega]; rfl
    · rw [if_neg (by omega), if_pos h, show decide (rk a ≤ rk b) = false by simp; omega]; rfl
theorem fge_ok {a b : Nat} (ha : a < 18446744073709551616) (hb : b < 18446744073709551616) : B.fge.den (Vf (cnF a)) (Vf (cnF b)) = Vb (ordOk a b && decide (rk b ≤ rk a)) := by
  show Vb (ordIs (cnF a) (cnF b) .gt || ordIs (cnF a) (cnF b) .eq) = _
  rw [ordIs_ok ha hb, ordIs_ok ha hb]
  cases h : ordOk a b
  · simp
  · unfold cmp3
    rcases Int.lt_trichotomy (rk a) (rk b) with h | h | h
    · rw [if_pos h, show decide (rk b ≤ rk a) = false by simp; omega]; rfl
    · rw [if_neg (by omega), if_neg (by omega), show decide (rk b ≤ rk a) = true by simp; omega]; rfl
    · rw [if_neg (by omega), if_pos h, show decide (rk b ≤ rk a) = true by simp; omega]; rfl
theorem ordI_gt {a b : Nat} : ordI a b > 0 ↔ (ordOk a b = true ∧ rk b < rk a) := by
  unfold ordI cmp3
  cases h : ordOk a b
  · simp
  · simp; split; omega; split <;> omega
theorem ordI_lt {a b : Nat} : ordI a b < 0 ↔ (ordOk a b = true ∧ rk a < rk b) := by
  unfold ordI cmp3
  cases h : ordOk a b
  · simp
  · simp; split; omega; split <;> omega
theorem rk_near (n : Nat) (p : Int) : rk (nearV false n p) = nearR n p := by
  obtain ⟨k1, k2, k3, k4, k5⟩ := sgn_fields false (nearR_le n p)
  unfold rk
  rw [show fNeg (nearV false n p) = false from k3, show nearV false n p % 9223372036854775808 = nearR n p from k4]; rfl
theorem stk_mono {N N' w w' : Nat} (h : N ≤ N') (r : IsRoot N w) (r' : IsRoot N' w') : stk N w ≤ stk N' w' := by
  have h1 : w ≤ w' := root_ge r' (Nat.le_trans r.1 h)
  unfold stk
  have b1 : (decide (w * w ≠ N)).toNat ≤ 1 := by cases decide (w * w ≠ N) <;> simp
  by_cases he : w = w'
  · subst he
    by_cases hs : w * w = N'
    · have : N = N' := by have := r.1; omega
      subst this; exact Nat.le_refl _
    · have : (decide (w * w ≠ N')).toNat = 1 := by simp [hs]
      omega
  · omega
/-- The root of a greater number is no less. -/
theorem sq_mono {m1 m2 : Nat} {e1 e2 : Int} (h1 : m1 ≠ 0) (h2 : m2 ≠ 0) (h : m1 * 2 ^ (e1 + 1074).toNat ≤ m2 * 2 ^ (e2 + 1074).toNat) (p1 : -1074 ≤ e1) (p2 : -1074 ≤ e2) : nearR (sqN m1 e1) (sqP e1) ≤ nearR (sqN m2 e2) (sqP e2) := by
  have k1 : e1 - ((((e1 + 1074).toNat + 200 : Nat)) : Int) = 2 * (-637) := by omega
  have k2 : e2 - ((((e2 + 1074).toNat + 200 : Nat)) : Int) = 2 * (-637) := by omega
  have hle : m1 * 2 ^ ((e1 + 1074).toNat + 200) ≤ m2 * 2 ^ ((e2 + 1074).toNat + 200) := by
    rw [Nat.pow_add, Nat.pow_add, ← Nat.mul_assoc, ← Nat.mul_assoc]; exact Nat.mul_le_mul_right _ h
  have big : ∀ {m t : Nat}, m ≠ 0 → 9007199254740992 ≤ isq (m * 2 ^ (t + 200)) := fun {m t} hm => root_ge (isq_ok _) (by
    have h1 : 2 ^ 110 ≤ 2 ^ (t + 200) := Nat.pow_le_pow_right (by omega) (by omega)
    have h2 := Nat.mul_le_mul (show 1 ≤ m by omega) h1
    have h3 : (9007199254740992 : Nat) * 9007199254740992 ≤ 2 ^ 110 := by decide
    omega)
  have a1 := sq_any h1 k1 (isq_ok _) (big h1)
  have a2 := sq_any h2 k2 (isq_ok _) (big h2)
  rw [← a1.1, ← a2.1]
  exact nearR_mono _ (stk_mono hle (isq_ok _) (isq_ok _))
theorem rise {a b : Nat} (ha : a < 18446744073709551616) (hb : b < 18446744073709551616) (h : ordOk a b = true) (hr : rk a ≤ rk b) (h' : ordOk (sqrtV a) (sqrtV b) = true) : rk (sqrtV a) ≤ rk (sqrtV b) := by
  have hok : ¬ nanB a ∧ ¬ nanB b := by unfold ordOk at h; simpa using h
  have hok' : ¬ nanB (sqrtV a) ∧ ¬ nanB (sqrtV b) := by unfold ordOk at h'; simpa using h'
  have hn0 : nanB nan0 := by decide
  -- which ways a root can go
  have ways : ∀ {c : Nat}, c < 18446744073709551616 → ¬ nanB c → ¬ nanB (sqrtV c) → (fMag c = 0 ∧ fPow c = 0 ∧ sqrtV c = c ∧ rk c = 0) ∨ (c = infR ∧ sqrtV c = infR) ∨ (fMag c ≠ 0 ∧ fNeg c = false ∧ fPow c ≠ 2047 ∧ sqrtV c = nearV false (sqN (fMag c) (fPl c)) (sqP (fPl c)) ∧ 0 < rk c) := by
    intro c hc h1 h2
    by_cases c1 : fMag c = 0 ∧ fPow c = 0
    · left
      refine ⟨c1.1, c1.2, by unfold sqrtV; rw [if_neg h1, if_pos (.inl c1)], ?_⟩
      have := (mag_zero c).1 c1.1
      unfold rk; unfold fPow fFrac at this
      rw [show c % 9223372036854775808 = 0 by omega]; cases fNeg c <;> rfl
    · by_cases c2 : c = infR
      · right; left; exact ⟨c2, by unfold sqrtV; rw [if_neg h1, if_pos (.inr c2), c2]⟩
      · right; right
        have c12 : ¬ (fMag c = 0 ∧ fPow c = 0 ∨ c = infR) := by rw [not_or]; exact ⟨c1, c2⟩
        have hs : sqrtV c = if fNeg c then nan0 else nearV false (sqN (fMag c) (fPl c)) (sqP (fPl c)) := by unfold sqrtV; rw [if_neg h1, if_neg c12]
        cases hn : fNeg c
        · rw [hn] at hs
          have hm : fMag c ≠ 0 := fun hh => c1 ⟨hh, ((mag_zero c).1 hh).1⟩
          refine ⟨hm, rfl, fun hp => ?_, hs, ?_⟩
          · apply c2
            have hf : fFrac c = 0 := by unfold nanB at h1; omega
            unfold infR
            unfold fNeg at hn; unfold fPow at hp; unfold fFrac at hf
            simp at hn
            omega
          · unfold rk; rw [hn]
            have : c % 9223372036854775808 ≠ 0 := fun hh => by
              apply hm; rw [mag_zero]; unfold fPow fFrac; omega
            unfold sg; simp; omega
        · rw [hn] at hs
          rw [hs] at h2
          exact absurd hn0 h2
  have hinf : rk infR = 9218868437227405312 := by decide
  rcases ways ha hok.1 hok'.1 with ⟨a1, a2, a3, a4⟩ | ⟨a1, a2⟩ | ⟨a1, a2, a3, a4, a5⟩
  · rw [a3, a4]
    rcases ways hb hok.2 hok'.2 with ⟨b1, b2, b3, b4⟩ | ⟨b1, b2⟩ | ⟨b1, b2, b3, b4, b5⟩
    · rw [b3, b4]; omega
    · rw [b2, hinf]; omega
    · rw [b4, rk_near]; omega
  · rw [a2]
    rcases ways hb hok.2 hok'.2 with ⟨b1, b2, b3, b4⟩ | ⟨b1, b2⟩ | ⟨b1, b2, b3, b4, b5⟩
    · rw [a1, hinf] at hr; omega
    · rw [b2]; omega
    · have := fin_rk (b := b) (by have := fPow_lt b; omega)
      rw [a1, hinf] at hr; omega
  · rw [a4, rk_near]
    rcases ways hb hok.2 hok'.2 with ⟨b1, b2, b3, b4⟩ | ⟨b1, b2⟩ | ⟨b1, b2, b3, b4, b5⟩
    · omega
    · rw [b2, hinf]; have := nearR_le (sqN (fMag a) (fPl a)) (sqP (fPl a)); unfold infR at this; omega
    · rw [b4, rk_near]
      have hab : a % 9223372036854775808 ≤ b % 9223372036854775808 := by
        unfold rk at hr; rw [a2, b2] at hr; unfold sg at hr; simp at hr; omega
      have hv : mgv (a % 9223372036854775808) ≤ mgv (b % 9223372036854775808) := by
        rcases Nat.lt_or_eq_of_le hab with h | h
        · exact Nat.le_of_lt (mgv_mono h)
        · rw [h]; exact Nat.le_refl _
      rw [← mgv_val, ← mgv_val] at hv
      have := sq_mono a1 b1 hv (fPl_bd a).1 (fPl_bd b).1
      omega
theorem law_RootRises {a b : Nat} (ha : a < 18446744073709551616) (hb : b < 18446744073709551616) : val 15 [Vu a, Vu b] = some [Vb true] := by
  refine val_of tab15 ?_
  have c1 := fgtB_ok (sqrtV_lt ha) (sqrtV_lt hb)
  have c2 := fltB_ok (sqrtV_lt ha) (sqrtV_lt hb)
  have f1 := float7_ok (sqrtV a)
  have f2 := float7_ok (sqrtV b)
  rw [cnF_sqrt] at f1 f2
  rw [cnF_sqrt, cnF_sqrt] at c1 c2
  have d1 : (!(ordOk a b && decide (rk a ≤ rk b)) || !decide (ordI (sqrtV a) (sqrtV b) > 0)) = true := by
    cases h : (ordOk a b && decide (rk a ≤ rk b))
    · rfl
    · simp only [Bool.and_eq_true, decide_eq_true_eq] at h
      have : ¬ ordI (sqrtV a) (sqrtV b) > 0 := fun hh => by
        rw [ordI_gt] at hh
        have := rise ha hb h.1 h.2 hh.1
        omega
      simp [this]
  have sym : ∀ x y, ordOk x y = ordOk y x := fun x y => by unfold ordOk; rw [decide_eq_decide]; exact And.comm
  have d2 : (!(ordOk a b && decide (rk b ≤ rk a)) || !decide (ordI (sqrtV a) (sqrtV b) < 0)) = true := by
    cases h : (ordOk a b && decide (rk b ≤ rk a))
    · rfl
    · simp only [Bool.and_eq_true, decide_eq_true_eq] at h
      have : ¬ ordI (sqrtV a) (sqrtV b) < 0 := fun hh => by
        rw [ordI_lt] at hh
        have := rise hb ha (by rw [sym]; exact h.1) h.2 (by rw [sym]; exact hh.1)
        omega
      simp [this]
  simp only [tr15, TT.dv, List.map, isTrue_den, den_bi, den_un, den_tri, den_var, den_bool, List.getD_cons_zero, List.getD_cons_succ, bool_Bo, List.cons_append, List.nil_append, sqrt_ok ha, sqrt_ok hb, float7_ok, f1, f2, fle_ok ha hb, fge_ok ha hb, c1, c2, awake_07, not_b, ite_or, ite_and, List.length_cons, List.length_nil, if_true]
  rw [d1, d2]; rfl
end Go.Proofs.Ytflhhhijegoheaa.Dx

/- Law RootRoots: the reference's root. -/
namespace Go.Proofs.Ytflhhhijegoheaa.Dx
open Go

theorem shi_one (k : Nat) : shi 1 (k : Int) = ((2 ^ k : Nat) : Int) := by
  rw [shi_nonneg (by omega), Int.toNat_natCast]; push_cast; simp
theorem whole_loop7 {x : Nat} (hx : bl x ≤ 10000) {v : PV} : ∀ (k : Nat) {r : Nat}, k ≤ 6000 → bl r ≤ 10000 → r * r ≤ x → x < (r + 2 ^ k) * (r + 2 ^ k) →
    ∃ r' : Nat, IsRoot x r' ∧ rounds (fun vs => lo139_1.dv (bS (x : Int) :: bL (x : Int) :: v :: vs)) [Vi ((k : Int) - 1), bS (r : Int), bL (r : Int)] = some (.y (.ext 0) [bS (r' : Int), bL (r' : Int)])
  | 0, r, _, _, h1, h2 => by
    refine ⟨r, ⟨h1, by simpa using h2⟩, rounds_exit ?_ (by simp)⟩
    simp [lo139_1, TT.dv]
  | k + 1, r, hk, hr, h1, h2 => by
    have hSZ : SZ = 2000000000 := rfl
    have e : r + 2 ^ (k + 1) = r + 2 ^ k + 2 ^ k := by rw [Nat.pow_succ]; omega
    rw [e] at h2
    have e3 : (((k + 1 : Nat) : Int) - 1) = k := by omega
    rw [e3]
    have o1 := of_ok (x := 1) (by omega) (by omega)
    have s1 := shift_ok (x := 1) (k := k) (by have : bl (1 : Int).natAbs = 1 := by decide
                                              omega) (by omega)
    rw [shi_one] at s1
    have hb2 : bl (2 ^ k) = k + 1 := bl_pow k
    have a1 := add_ok (x := (r : Int)) (y := ((2 ^ k : Nat) : Int)) (by rw [Int.natAbs_natCast]; omega) (by rw [Int.natAbs_natCast]; omega)
    rw [← Int.natCast_add] at a1
    have hb3 := bl_add r (2 ^ k)
    have m1 := mul_ok (x := ((r + 2 ^ k : Nat) : Int)) (y := ((r + 2 ^ k : Nat) : Int)) (by rw [Int.natAbs_natCast]; omega) (by rw [Int.natAbs_natCast]; omega)
    rw [← Int.natCast_mul] at m1
    have hb4 := bl_mul (r + 2 ^ k) (r + 2 ^ k)
    have c1 := compare_ok (x := (((r + 2 ^ k) * (r + 2 ^ k) : Nat) : Int)) (y := (x : Int)) (by rw [Int.natAbs_natCast]; omega) (by rw [Int.natAbs_natCast]; omega)
    have e4 : (B.sub .i64).den (Vi k) (Vi 1) = Vi ((k : Int) - 1) := sub_i (by omega) (by omega)
    by_cases h : (r + 2 ^ k) * (r + 2 ^ k) ≤ x
    · have hrx : bl (r + 2 ^ k) ≤ 10000 := by
        have : r + 2 ^ k ≤ x := by
          have := Nat.le_mul_self (r + 2 ^ k); omega
        exact Nat.le_trans (bl_mono this) hx
      obtain ⟨r', q1, q2⟩ := whole_loop7 hx (v := v) k (r := r + 2 ^ k) (by omega) hrx h h2
      refine ⟨r', q1, Eq.trans (rounds_cont ?_) q2⟩
      have hc : cmp3 (((r + 2 ^ k) * (r + 2 ^ k) : Nat) : Int) (x : Int) ≤ 0 := by unfold cmp3; split; omega; split; omega; omega
      generalize (r + 2 ^ k) * (r + 2 ^ k) = sq at *
      generalize r + 2 ^ k = r2 at *
      clear hb2
      generalize 2 ^ k = P at *
      simp [lo139_1, TT.dv, KS.dv, o1, s1, a1, m1, c1, hc, e4]
    · obtain ⟨r', q1, q2⟩ := whole_loop7 hx (v := v) k (r := r) (by omega) hr h1 (by omega)
      refine ⟨r', q1, Eq.trans (rounds_cont ?_) q2⟩
      have hc : ¬ cmp3 (((r + 2 ^ k) * (r + 2 ^ k) : Nat) : Int) (x : Int) ≤ 0 := by unfold cmp3; rw [if_neg (by omega), if_pos (by omega)]; omega
      generalize (r + 2 ^ k) * (r + 2 ^ k) = sq at *
      generalize r + 2 ^ k = r2 at *
      clear hb2
      generalize 2 ^ k = P at *
      simp [lo139_1, TT.dv, KS.dv, o1, s1, a1, m1, c1, hc, e4]
theorem whole7_ok {x : Nat} (hx : bl x ≤ 10000) : ∃ r : Nat, IsRoot x r ∧ val 139 [bS (x : Int), bL (x : Int)] = some [bS (r : Int), bL (r : Int)] := by
  have hlt := lt_bl x
  obtain ⟨r, h1, h2⟩ := whole_loop7 hx (v := Vi (bl x)) (bl x / 2 + 2) (r := 0) (by omega) (by decide) (by omega) (by
    rw [Nat.zero_add, ← Nat.pow_add]
    exact Nat.lt_of_lt_of_le hlt (Nat.pow_le_pow_right (by omega) (by omega)))
  refine ⟨r, h1, val_of tab139 ?_⟩
  have hl := len_ok (x := (x : Int)) (by rw [Int.natAbs_natCast]; unfold SZ; omega)
  rw [Int.natAbs_natCast] at hl
  have e1 : (B.quo .i64).den (Vi (bl x)) (Vi 2) = Vi ((bl x / 2 : Nat) : Int) := by
    show Vi (IntKind.i64.wrap ((bl x : Int).tdiv 2)) = _
    rw [Int.tdiv_eq_ediv_of_nonneg (by omega), wrap_i64_of (by omega) (by omega)]; rfl
  have e2 : (B.add .i64).den (Vi ((bl x / 2 : Nat) : Int)) (Vi 1) = Vi (((bl x / 2 + 2 : Nat) : Int) - 1) := by rw [add_i (by omega) (by omega)]; exact congrArg Vi (by omega)
  have e3 : bS ((0 : Nat) : Int) = Vb false := rfl
  have e4 : bL ((0 : Nat) : Int) = wl [] := by unfold bL; simp [dig_zero]
  rw [e3, e4] at h2
  generalize ((bl x / 2 + 2 : Nat) : Int) - 1 = z at *
  generalize ((bl x / 2 : Nat) : Int) = z2 at *
  simp [tr139, TT.dv, KS.dv, hl, e1, e2, h2]
theorem sqrt8_ok {b : Nat} (hb : b < 18446744073709551616) : val 138 [Vu b] = some [Vu (sqrtV b), Vy (sqrtF b)] := by
  refine val_of tab138 ?_
  have hSZ : SZ = 2000000000 := rfl
  have h1 := kind4_ok hb
  have h3 := neg4_ok hb
  have h2 := value_ok hb
  unfold sqrtV sqrtF
  by_cases c1 : nanB b
  · have hk := (kind_nan b).2 c1
    rw [hk] at h1
    simp [tr138, TT.dv, h1, c1, nan0]
  · have hk4 : ¬ fKind b = 4 := fun h => c1 ((kind_nan b).1 h)
    rw [if_neg c1, if_neg c1]
    by_cases c2 : fMag b = 0 ∧ fPow b = 0
    · have hk := (kind_zero b).2 ⟨c2.2, ((mag_zero b).1 c2.1).2⟩
      rw [hk] at h1
      simp [tr138, TT.dv, h1, c2]
    · have hk0 : ¬ fKind b = 0 := fun h => c2 ⟨(mag_zero b).2 ((kind_zero b).1 h), ((kind_zero b).1 h).1⟩
      by_cases c3 : b = infR
      · rw [if_pos (.inr c3), if_pos (.inr c3)]
        unfold infR at c3
        simp [tr138, TT.dv, h1, hk4, hk0, c3] at h1 hk4 hk0 ⊢
        simp [h1, hk4, hk0]
      · have c3' : ¬ b = 9218868437227405312 := c3
        have c23 : ¬ (fMag b = 0 ∧ fPow b = 0 ∨ b = infR) := by rw [not_or]; exact ⟨c2, c3⟩
        rw [if_neg c23, if_neg c23]
        cases c4 : fNeg b
        · have hm0 : fMag b ≠ 0 := fun h => c2 ⟨h, ((mag_zero b).1 h).1⟩
          rw [c4] at h3
          have hsx : sx b = (fMag b : Int) := by unfold sx; rw [c4]; rfl
          have hB := DB.word b
          obtain ⟨p1, p2⟩ := fPl_bd b
          have hm := fMag_lt b
          rw [hsx] at h2 hB
          have hod := ev_bd hB
          have hobl := od_bd hB
          have hevge := ev_ge (x := (fMag b : Int)) (e := fPl b) (by omega)
          have hevle := ev_le (x := (fMag b : Int)) (e := fPl b) (by omega)
          rw [Int.natAbs_natCast] at hevle
          have hbl53 : bl (fMag b) ≤ 53 := bl_lt.2 hm
          have htz : ev (fMag b : Int) (fPl b) = fPl b + tz (fMag b) := by unfold ev; rw [if_neg (by omega), Int.natAbs_natCast]
          have htz2 := tz_le (fMag b)
          have hodm : od (fMag b : Int) = ((fMag b / 2 ^ tz (fMag b) : Nat) : Int) := by
            unfold od; rw [Int.natAbs_natCast, show decide ((fMag b : Int) < 0) = false by simp]; rfl
          have hdv := tz_dvd (n := fMag b)
          have d1 : dS (fMag b : Int) (fPl b) = bS (od (fMag b : Int)) := rfl
          have d2 : dL (fMag b : Int) (fPl b) = bL (od (fMag b : Int)) := rfl
          have d3 : dE (fMag b : Int) (fPl b) = Vi (ev (fMag b : Int) (fPl b)) := rfl
          rw [d1, d2, d3, hodm] at h2
          rw [hodm] at hobl
          rw [Int.natAbs_natCast] at hobl
          generalize hE : ev (fMag b : Int) (fPl b) = E at *
          generalize htt : tz (fMag b) = t at *
          generalize hM' : fMag b / 2 ^ t = m' at *
          have hm'0 : m' ≠ 0 := fun h => by rw [h, Nat.zero_mul] at hdv; exact hm0 hdv.symm
          have hbm' : bl m' ≤ 53 := by rw [← hM']; exact Nat.le_trans (bl_div _ _) hbl53
          have hrem : B.ne.den ((B.rem .i64).den (Vi E) (Vi 2)) (Vi 0) = Vb (decide (E % 2 ≠ 0)) := by
            show Vb (E.tmod 2 != 0) = _
            rw [Bo_inj]
            have : E.tmod 2 = 0 ↔ E % 2 = 0 := by rw [← Int.dvd_iff_tmod_eq_zero, ← Int.dvd_iff_emod_eq_zero]
            by_cases hh : E % 2 = 0
            · rw [this.2 hh, hh]; rfl
            · have h' : ¬ E.tmod 2 = 0 := fun h => hh (this.1 h)
              simp [h', hh]
          obtain ⟨s, hs⟩ : ∃ s : Nat, s = if E % 2 = 0 then 240 else 241 := ⟨_, rfl⟩
          have hs2 : (E - s) % 2 = 0 ∧ 240 ≤ s ∧ s ≤ 241 := by subst hs; split <;> omega
          have hsh := shift_ok (x := (m' : Int)) (k := (s : Int)) (by rw [Int.natAbs_natCast]; omega) (by omega)
          have hshv : shi (m' : Int) (s : Int) = ((m' * 2 ^ s : Nat) : Int) := by rw [shi_nonneg (by omega), Int.toNat_natCast]; push_cast; rfl
          rw [hshv] at hsh
          have hblN : bl (m' * 2 ^ s) ≤ 300 := by have := bl_shl_le m' s; omega
          obtain ⟨r, hr, hw⟩ := whole7_ok (x := m' * 2 ^ s) (by omega)
          have hrle : r ≤ m' * 2 ^ s := by have := Nat.le_mul_self r; have := hr.1; omega
          have hblr : bl r ≤ 300 := Nat.le_trans (bl_mono hrle) hblN
          have hsq := mul_ok (x := (r : Int)) (y := (r : Int)) (by rw [Int.natAbs_natCast]; omega) (by rw [Int.natAbs_natCast]; omega)
          rw [← Int.natCast_mul] at hsq
          have hsub := sub_ok (x := ((m' * 2 ^ s : Nat) : Int)) (y := ((r * r : Nat) : Int)) (by rw [Int.natAbs_natCast]; omega) (by rw [Int.natAbs_natCast]; have := bl_mul r r; omega)
          have hdbl := double_ok (x := (r : Int)) (by rw [Int.natAbs_natCast]; omega)
          have ho1 := of_ok (x := 1) (by omega) (by omega)
          have hadd := add_ok (x := 2 * (r : Int)) (y := 1) (by have := bl_mul 2 r; have h2' : bl 2 = 2 := by decide
                                                                rw [Int.natAbs_mul, Int.natAbs_natCast]; show bl (2 * r) ≤ _; omega) (by decide)
          have hlen : U.len.den (bL (((m' * 2 ^ s : Nat) : Int) - ((r * r : Nat) : Int))) = Vi (dig (((m' * 2 ^ s : Nat) : Int) - ((r * r : Nat) : Int)).natAbs).length := len_bL _
          have hlz : dig (((m' * 2 ^ s : Nat) : Int) - ((r * r : Nat) : Int)).natAbs = [] ↔ r * r = m' * 2 ^ s := by
            rw [← List.length_eq_zero_iff, dig_len_zero]; omega
          obtain ⟨q, hq⟩ : ∃ q : Int, E - s = 2 * q := ⟨(E - s) / 2, by omega⟩
          have a1 : (B.sub .i64).den (Vi E) (Vi s) = Vi (E - s) := sub_i (by omega) (by omega)
          have a2 : (B.sub .i64).den ((B.quo .i64).den (Vi (E - s)) (Vi 2)) (Vi 1) = Vi (q - 1) := by
            have : (B.quo .i64).den (Vi (E - s)) (Vi 2) = Vi q := by
              show Vi (IntKind.i64.wrap ((E - s).tdiv 2)) = _
              rw [hq, Int.mul_tdiv_cancel_left _ (by omega), wrap_i64_of (by omega) (by omega)]
            rw [this, sub_i (by omega) (by omega)]
          have hst : stk (m' * 2 ^ s) r = 2 * r + (decide (r * r ≠ m' * 2 ^ s)).toNat := rfl
          have hblst : bl (stk (m' * 2 ^ s) r) ≤ 400 := by
            rw [hst]
            have h5 := bl_add (2 * r) (decide (r * r ≠ m' * 2 ^ s)).toNat
            have h6 := bl_mul 2 r
            have h7 : bl 2 = 2 := by decide
            have h8 : bl (decide (r * r ≠ m' * 2 ^ s)).toNat ≤ 1 := by cases decide (r * r ≠ m' * 2 ^ s) <;> decide
            omega
          have hD := ofD_ok (x := (stk (m' * 2 ^ s) r : Int)) (e := q - 1) (by rw [Int.natAbs_natCast]; omega) (by omega) (by omega)
          have hro := round_ok (x := (stk (m' * 2 ^ s) r : Int)) (e := q - 1) ⟨by rw [Int.natAbs_natCast]; omega, by omega, by omega⟩
          rw [Int.natAbs_natCast, show decide ((stk (m' * 2 ^ s) r : Int) < 0) = false by simp] at hro
          have hmm : m' * 2 ^ s = fMag b * 2 ^ (s - t) := by rw [← hdv, Nat.mul_assoc, ← Nat.pow_add]; congr 2; omega
          have hbig : 9007199254740992 ≤ r := root_ge hr (by
            have g1 : 2 ^ 110 ≤ 2 ^ s := Nat.pow_le_pow_right (by omega) (by omega)
            have g2 := Nat.mul_le_mul (show 1 ≤ m' by omega) g1
            have g3 : (9007199254740992 : Nat) * 9007199254740992 ≤ 2 ^ 110 := by decide
            omega)
          have hany := sq_any (m := fMag b) (s := s - t) (w := r) (e := fPl b) (p := q) hm0 (by omega) (by rw [← hmm]; exact hr) hbig
          rw [← hmm] at hany
          have hV : nearV false (stk (m' * 2 ^ s) r) (q - 1) = nearV false (sqN (fMag b) (fPl b)) (sqP (fPl b)) := by unfold nearV; rw [hany.1]
          have hF : nearF (stk (m' * 2 ^ s) r) (q - 1) = nearF (sqN (fMag b) (fPl b)) (sqP (fPl b)) := by unfold nearF; rw [hany.1, hany.2]
          rw [hV, hF] at hro
          clear hV hF hany hmm hblst hbig hblN hrle hr
          have hstI : (stk (m' * 2 ^ s) r : Int) = if r * r = m' * 2 ^ s then 2 * (r : Int) else 2 * r + 1 := by
            rw [hst]
            by_cases hh : r * r = m' * 2 ^ s
            · simp [hh]
            · simp [hh]
          rw [hstI] at hD hro
          generalize m' * 2 ^ s = N at *
          generalize r * r = R2 at *
          generalize (N : Int) - (R2 : Int) = d at *
          by_cases hpar : E % 2 = 0
          · rw [if_pos hpar] at hs
            subst hs
            rw [show ((240 : Nat) : Int) = 240 from rfl] at hsh a1 a2
            by_cases hh : R2 = N
            · rw [if_pos hh] at hD hro
              simp [tr138, TT.dv, KS.dv, h1, hk4, hk0, c3', h3, h2, hrem, hpar, hsh, hw, hsq, hsub, hdbl, hlen, hlz.2 hh, a1, a2, hD, hro]
            · rw [if_neg hh] at hD hro
              have hdn : 0 < (dig d.natAbs).length := List.length_pos_iff.2 fun h => hh (hlz.1 h)
              simp [tr138, TT.dv, KS.dv, h1, hk4, hk0, c3', h3, h2, hrem, hpar, hsh, hw, hsq, hsub, hdbl, hlen, hdn, ho1, hadd, a1, a2, hD, hro]
          · rw [if_neg hpar] at hs
            subst hs
            rw [show ((241 : Nat) : Int) = 241 from rfl] at hsh a1 a2
            by_cases hh : R2 = N
            · rw [if_pos hh] at hD hro
              simp [tr138, TT.dv, KS.dv, h1, hk4, hk0, c3', h3, h2, hrem, hpar, hsh, hw, hsq, hsub, hdbl, hlen, hlz.2 hh, a1, a2, hD, hro]
            · rw [if_neg hh] at hD hro
              have hdn : 0 < (dig d.natAbs).length := List.length_pos_iff.2 fun h => hh (hlz.1 h)
              simp [tr138, TT.dv, KS.dv, h1, hk4, hk0, c3', h3, h2, hrem, hpar, hsh, hw, hsq, hsub, hdbl, hlen, hdn, ho1, hadd, a1, a2, hD, hro]
        · rw [c4] at h3
          simp [tr138, TT.dv, h1, hk4, hk0, c3', h3, nan0]
theorem law_RootRoots {b : Nat} (hb : b < 18446744073709551616) : val 16 [Vu b] = some [Vb true] := by
  refine val_of tab16 ?_
  simp [tr16, TT.dv, sqrt_ok hb, sqrt8_ok hb, awake_07]
end Go.Proofs.Ytflhhhijegoheaa.Dx

/- Law RootSquares; the reference's product. -/
namespace Go.Proofs.Ytflhhhijegoheaa.Dx
open Go

def zeroB (b : Nat) : Prop := fMag b = 0 ∧ fPow b = 0
instance (b : Nat) : Decidable (zeroB b) := inferInstanceAs (Decidable (_ ∧ _))
def infB (b : Nat) : Prop := fPow b = 2047 ∧ fFrac b = 0
instance (b : Nat) : Decidable (infB b) := inferInstanceAs (Decidable (_ ∧ _))
theorem kind_zeroB (b : Nat) : fKind b = 0 ↔ zeroB b := by
  rw [kind_zero]; unfold zeroB
  constructor
  · intro h; exact ⟨(mag_zero b).2 h, h.1⟩
  · intro h; exact ⟨h.2, ((mag_zero b).1 h.1).2⟩
theorem kind_infB (b : Nat) : fKind b = 3 ↔ infB b := kind_inf b
def mulV (a b : Nat) : Nat := if nanB a ∨ nanB b then nan0 else if infB a ∨ infB b then (if zeroB a ∨ zeroB b then nan0 else sgn (fNeg a != fNeg b) infR) else if zeroB a ∨ zeroB b then sgn (fNeg a != fNeg b) 0 else nearV (fNeg a != fNeg b) (fMag a * fMag b) (fPl a + fPl b)
def mulF (a b : Nat) : Nat := if nanB a ∨ nanB b then 0 else if infB a ∨ infB b then (if zeroB a ∨ zeroB b then 16 else 0) else if zeroB a ∨ zeroB b then 0 else nearF (fMag a * fMag b) (fPl a + fPl b)
theorem sg_mul (s t : Bool) (m n : Nat) : sg s m * sg t n = sg (s != t) (m * n) := by
  unfold sg; cases s <;> cases t <;> simp [Int.neg_mul, Int.mul_neg]
theorem zeroB_mag {b : Nat} (h : fPow b ≠ 2047) : zeroB b ↔ fMag b = 0 := by
  unfold zeroB
  constructor
  · exact fun h => h.1
  · exact fun h => ⟨h, ((mag_zero b).1 h).1⟩
theorem fin_of {b : Nat} (h1 : ¬ nanB b) (h2 : ¬ infB b) : fPow b ≠ 2047 := by unfold nanB infB at *; omega
theorem mul6_ok {a b : Nat} (ha : a < 18446744073709551616) (hb : b < 18446744073709551616) : val 135 [Vu a, Vu b] = some [Vu (mulV a b), Vy (mulF a b)] := by
  refine val_of tab135 ?_
  have k1 := kind4_ok ha
  have k2 := kind4_ok hb
  have n1 := neg4_ok ha
  have n2 := neg4_ok hb
  have v1 := value_ok ha
  have v2 := value_ok hb
  have hs0 := signed6_ok (r := 0) (by simp) (fNeg a != fNeg b)
  have hsi := signed6_ok (r := 9218868437227405312) (by unfold infR; omega) (fNeg a != fNeg b)
  unfold mulV mulF
  by_cases c1 : nanB a ∨ nanB b
  · have : fKind a = 4 ∨ fKind b = 4 := by rw [kind_nan, kind_nan]; exact c1
    rw [if_pos c1, if_pos c1]
    rcases this with h | h
    · simp [tr135, TT.dv, k1, k2, n1, n2, h, nan0]
    · simp [tr135, TT.dv, k1, k2, n1, n2, h, nan0]
  · have h4 : ¬ fKind a = 4 ∧ ¬ fKind b = 4 := by rw [kind_nan, kind_nan, ← not_or]; exact c1
    rw [if_neg c1, if_neg c1]
    by_cases c2 : infB a ∨ infB b
    · have h3 : fKind a = 3 ∨ fKind b = 3 := by rw [kind_infB, kind_infB]; exact c2
      rw [if_pos c2, if_pos c2]
      by_cases c3 : zeroB a ∨ zeroB b
      · have h0 : fKind a = 0 ∨ fKind b = 0 := by rw [kind_zeroB, kind_zeroB]; exact c3
        rw [if_pos c3, if_pos c3]
        rcases h3 with h3 | h3 <;> rcases h0 with h0 | h0
        · omega
        · simp [tr135, TT.dv, k1, k2, n1, n2, h3, h0, nan0]
        · simp [tr135, TT.dv, k1, k2, n1, n2, h3, h0, nan0]
        · omega
      · have h0 : ¬ fKind a = 0 ∧ ¬ fKind b = 0 := by rw [kind_zeroB, kind_zeroB, ← not_or]; exact c3
        rw [if_neg c3, if_neg c3]
        rcases h3 with h3 | h3
        · simp [tr135, TT.dv, k1, k2, n1, n2, h3, h4, h0, hsi, infR]
        · simp [tr135, TT.dv, k1, k2, n1, n2, h3, h4, h0, hsi, infR]
    · have h3 : ¬ fKind a = 3 ∧ ¬ fKind b = 3 := by rw [kind_infB, kind_infB, ← not_or]; exact c2
      rw [if_neg c2, if_neg c2]
      by_cases c3 : zeroB a ∨ zeroB b
      · have h0 : fKind a = 0 ∨ fKind b = 0 := by rw [kind_zeroB, kind_zeroB]; exact c3
        rw [if_pos c3, if_pos c3]
        rcases h0 with h0 | h0
        · simp [tr135, TT.dv, k1, k2, n1, n2, h3, h4, h0, hs0]
        · simp [tr135, TT.dv, k1, k2, n1, n2, h3, h4, h0, hs0]
      · have h0 : ¬ fKind a = 0 ∧ ¬ fKind b = 0 := by rw [kind_zeroB, kind_zeroB, ← not_or]; exact c3
        rw [if_neg c3, if_neg c3]
        rw [not_or] at c1 c2 c3
        have m1 : fMag a ≠ 0 := fun h => c3.1 ((zeroB_mag (fin_of c1.1 c2.1)).2 h)
        have m2 : fMag b ≠ 0 := fun h => c3.2 ((zeroB_mag (fin_of c1.2 c2.2)).2 h)
        have hm := mulD_ok (DB.word a) (DB.word b)
        have hx : sx a * sx b = sg (fNeg a != fNeg b) (fMag a * fMag b) := sg_mul _ _ _ _
        have pa := fPl_bd a
        have pb := fPl_bd b
        have hbl : bl (fMag a * fMag b) ≤ 106 := by
          have := bl_mul (fMag a) (fMag b)
          have h1 : bl (fMag a) ≤ 53 := bl_lt.2 (fMag_lt a)
          have h2 : bl (fMag b) ≤ 53 := bl_lt.2 (fMag_lt b)
          omega
        have hr := round_ok (x := sx a * sx b) (e := fPl a + fPl b) ⟨by rw [hx, sg_nat]; omega, by omega, by omega⟩
        have hneg : decide (sx a * sx b < 0) = (fNeg a != fNeg b) := by
          rw [hx, sg_neg]; simp [Nat.mul_ne_zero m1 m2]
        rw [hneg, show (sx a * sx b).natAbs = fMag a * fMag b by rw [hx, sg_nat]] at hr
        simp [tr135, TT.dv, k1, k2, n1, n2, h3, h4, h0, v1, v2, hm, hr]

/-- How far rounding goes. -/
theorem RHE_near (n d : Nat) : 2 * (RHE n d * 2 ^ d) ≤ 2 * n + 2 ^ d ∧ 2 * n ≤ 2 * (RHE n d * 2 ^ d) + 2 ^ d := by
  unfold RHE
  have hp := Nat.two_pow_pos d
  have h1 := Nat.div_add_mod n (2 ^ d)
  have h3 := Nat.mod_lt n hp
  rw [Nat.mul_comm] at h1
  split
  · rw [Nat.add_mul, Nat.one_mul]; omega
  · rw [Nat.add_zero]; omega
theorem RHE_down {m r d : Nat} (h : 2 * r < 2 ^ d) : RHE (m * 2 ^ d + r) d = m := by
  have hp := Nat.two_pow_pos d
  unfold RHE
  rw [Nat.mul_comm m, Nat.mul_add_div hp, Nat.div_eq_of_lt (by omega), Nat.mul_add_mod, Nat.mod_eq_of_lt (by omega), if_neg (by omega)]; rfl
theorem RHE_up {m r d : Nat} (h : 2 ^ d < 2 * r) (h2 : r < 2 ^ d) : RHE (m * 2 ^ d + r) d = m + 1 := by
  have hp := Nat.two_pow_pos d
  unfold RHE
  rw [Nat.mul_comm m, Nat.mul_add_div hp, Nat.div_eq_of_lt h2, Nat.mul_add_mod, Nat.mod_eq_of_lt h2, if_pos (by omega)]
theorem sq_exp (x : Nat) : (2 * x + 1) * (2 * x + 1) = 4 * (x * x) + 4 * x + 1 := by
  rw [Nat.add_mul, Nat.mul_add, Nat.mul_mul_mul_comm]; omega
theorem min_inf {e : Int} {m : Nat} (he2 : e ≤ 900) (h2 : m < 9007199254740992) : min ((e + 1074).toNat * two52 + m) infR = (e + 1074).toNat * two52 + m := by
  have h : (e + 1074).toNat ≤ 1974 := by omega
  have := Nat.mul_le_mul_right two52 h
  have k : 1974 * two52 + 9007199254740992 ≤ infR := by decide
  exact Nat.min_eq_left (by omega)
/-- The root of about a square. -/
theorem root_about {m Y t : Nat} {e : Int} (h1 : two52 ≤ m) (h2 : m < 9007199254740992) (he : -1074 ≤ e) (he2 : e ≤ 900) (hlo : (4 * (m * m) + 1 < 4 * Y + 4 * m) ∨ False) (hhi : 4 * Y < 4 * (m * m) + 4 * m + 1) (hex : m = two52 → Y = m * m) (ht : 1 ≤ t) {w : Nat} (hw : IsRoot (Y * 4 ^ t) w) :
    nearR (stk (Y * 4 ^ t) w) (e - t - 1) = (e + 1074).toNat * two52 + m := by
  obtain ⟨u, rfl⟩ : ∃ u, t = u + 1 := ⟨t - 1, by omega⟩
  have hP := Nat.two_pow_pos u
  have hPP : 2 ^ (u + 1) = 2 * 2 ^ u := by rw [Nat.pow_succ]; omega
  have h4 : (4 : Nat) ^ (u + 1) = 4 * (2 ^ u * 2 ^ u) := by rw [Nat.pow_succ, show (4 : Nat) = 2 * 2 by decide, Nat.mul_pow]; omega
  -- bounds of the root
  obtain ⟨m', hm'⟩ : ∃ m', m = m' + 1 := ⟨m - 1, by unfold two52 at h1; omega⟩
  have sqm : (2 * m' + 1) * (2 * m' + 1) = 4 * (m * m) - 4 * m + 1 := by
    rw [sq_exp, hm']
    have : (m' + 1) * (m' + 1) = m' * m' + 2 * m' + 1 := by rw [Nat.add_mul, Nat.mul_add]; omega
    omega
  have hlo' : (2 * m' + 1) * (2 * m' + 1) < 4 * Y := by
    rcases hlo with h | h
    · have : m ≤ m * m := Nat.le_mul_self m
      omega
    · exact h.elim
  have hhi' : 4 * Y < (2 * m + 1) * (2 * m + 1) := by rw [sq_exp]; exact hhi
  have scale : ∀ x, (x * 2 ^ u) * (x * 2 ^ u) = x * x * (2 ^ u * 2 ^ u) := fun x => Nat.mul_mul_mul_comm _ _ _ _
  have hN : Y * 4 ^ (u + 1) = 4 * Y * (2 ^ u * 2 ^ u) := by rw [h4]; rw [← Nat.mul_assoc, Nat.mul_comm Y 4]
  have hPP2 : 0 < 2 ^ u * 2 ^ u := Nat.mul_pos hP hP
  have w1 : (2 * m' + 1) * 2 ^ u ≤ w := root_ge hw (by rw [scale, hN]; exact Nat.mul_le_mul_right _ (Nat.le_of_lt hlo'))
  have w1' : ((2 * m' + 1) * 2 ^ u) * ((2 * m' + 1) * 2 ^ u) < Y * 4 ^ (u + 1) := by rw [scale, hN]; exact Nat.mul_lt_mul_of_pos_right hlo' hPP2
  have w2 : w < (2 * m + 1) * 2 ^ u := by
    refine lt_of_sq (Nat.lt_of_le_of_lt hw.1 ?_)
    rw [scale, hN]; exact Nat.mul_lt_mul_of_pos_right hhi' hPP2
  have hb1 : (decide (w * w ≠ Y * 4 ^ (u + 1))).toNat ≤ 1 := by cases decide (w * w ≠ Y * 4 ^ (u + 1)) <;> simp
  have e1 : (2 * m' + 1) * 2 ^ u = 2 * (m' * 2 ^ u) + 2 ^ u := by rw [Nat.add_mul, Nat.mul_assoc, Nat.one_mul]
  have e2 : (2 * m + 1) * 2 ^ u = 2 * (m' * 2 ^ u) + 3 * 2 ^ u := by rw [hm', Nat.add_mul, Nat.mul_assoc, Nat.add_mul]; omega
  have e3 : m' * 2 ^ (u + 1 + 1) = 4 * (m' * 2 ^ u) := by rw [Nat.pow_succ, Nat.pow_succ]; rw [← Nat.mul_assoc, ← Nat.mul_assoc]; omega
  have e4 : m * 2 ^ (u + 1 + 1) = 4 * (m' * 2 ^ u) + 4 * 2 ^ u := by rw [hm', Nat.add_mul, e3, Nat.pow_succ, Nat.pow_succ]; omega
  have hpow : 2 ^ (u + 1 + 1) = 4 * 2 ^ u := by rw [Nat.pow_succ, Nat.pow_succ]; omega
  -- what it is rounded to
  have hR : RHE (stk (Y * 4 ^ (u + 1)) w) (u + 1 + 1) = m ∧ m * 2 ^ (u + 1 + 1) ≤ stk (Y * 4 ^ (u + 1)) w + 2 * 2 ^ u ∧ (m = two52 → m * 2 ^ (u + 1 + 1) ≤ stk (Y * 4 ^ (u + 1)) w) ∧ stk (Y * 4 ^ (u + 1)) w < (m + 1) * 2 ^ (u + 1 + 1) := by
    have hst : stk (Y * 4 ^ (u + 1)) w = 2 * w + (decide (w * w ≠ Y * 4 ^ (u + 1))).toNat := rfl
    rw [Nat.add_mul, Nat.one_mul, e4, hpow]
    refine ⟨?_, by omega, ?_, by omega⟩
    · by_cases hc : 2 * (m' * 2 ^ u) + 2 * 2 ^ u ≤ w
      · have : stk (Y * 4 ^ (u + 1)) w = m * 2 ^ (u + 1 + 1) + (stk (Y * 4 ^ (u + 1)) w - m * 2 ^ (u + 1 + 1)) := by rw [e4]; omega
        rw [this, RHE_down]
        rw [e4, hpow]; omega
      · have : stk (Y * 4 ^ (u + 1)) w = m' * 2 ^ (u + 1 + 1) + (stk (Y * 4 ^ (u + 1)) w - m' * 2 ^ (u + 1 + 1)) := by rw [e3]; omega
        rw [this, RHE_up]
        · exact hm'.symm
        · rw [e3, hpow]
          by_cases heq : w = (2 * m' + 1) * 2 ^ u
          · have hne : (decide (w * w ≠ Y * 4 ^ (u + 1))).toNat = 1 := by
              have : w * w ≠ Y * 4 ^ (u + 1) := by rw [heq]; omega
              simp [this]
            omega
          · omega
        · rw [e3, hpow]; omega
    · intro hm52
      have hY := hex hm52
      have : m * 2 ^ (u + 1) ≤ w := root_ge hw (by
        rw [hY, h4, hPP]
        have : m * (2 * 2 ^ u) * (m * (2 * 2 ^ u)) = m * m * (4 * (2 ^ u * 2 ^ u)) := by
          rw [Nat.mul_mul_mul_comm]; congr 1; rw [Nat.mul_mul_mul_comm]
        omega)
      have : m * 2 ^ (u + 1) = 2 * (m' * 2 ^ u) + 2 * 2 ^ u := by rw [hPP, hm', Nat.add_mul, Nat.mul_left_comm]; omega
      omega
  obtain ⟨r1, r2, r3, r4⟩ := hR
  generalize stk (Y * 4 ^ (u + 1)) w = S at *
  have hS : 2 ^ (52 + (u + 1 + 1)) ≤ S ∧ S < 2 ^ (53 + (u + 1 + 1)) := by
    rw [Nat.pow_add 2 52, Nat.pow_add 2 53]
    constructor
    · by_cases hm52 : m = two52
      · have := r3 hm52; rw [hm52] at this; exact this
      · have : (4503599627370496 + 1) * 2 ^ (u + 1 + 1) ≤ m * 2 ^ (u + 1 + 1) := Nat.mul_le_mul_right _ (by unfold two52 at h1 hm52; omega)
        rw [Nat.add_mul, Nat.one_mul] at this
        have hh : (2 : Nat) ^ 52 * 2 ^ (u + 1 + 1) = 4503599627370496 * 2 ^ (u + 1 + 1) := rfl
        rw [hh]; omega
    · exact Nat.lt_of_lt_of_le r4 (Nat.mul_le_mul_right _ (by omega))
  have hS0 : S ≠ 0 := by have := Nat.two_pow_pos (52 + (u + 1 + 1)); omega
  have hlog : S.log2 = 52 + (u + 1 + 1) := by
    rw [Nat.log2_eq_iff hS0]; exact ⟨hS.1, by rw [show 52 + (u + 1 + 1) + 1 = 53 + (u + 1 + 1) by omega]; exact hS.2⟩
  have hlast : lastP S (e - ((u + 1 : Nat) : Int) - 1) = e := by unfold lastP; rw [hlog]; omega
  have hrung : rung S (e - ((u + 1 : Nat) : Int) - 1) = (e + 1074).toNat * two52 + m := by
    unfold rung
    rw [if_neg hS0, hlast, show (e - ((u + 1 : Nat) : Int) - 1 - e).toNat = 0 by omega, Nat.pow_zero, Nat.mul_one, show (e - (e - ((u + 1 : Nat) : Int) - 1)).toNat = u + 1 + 1 by omega, r1]
  unfold nearR
  rw [hrung]
  exact min_inf he2 h2
end Go.Proofs.Ytflhhhijegoheaa.Dx

/- Law RootSquares. -/
namespace Go.Proofs.Ytflhhhijegoheaa.Dx
open Go

theorem log2_sq {m : Nat} (h1 : two52 ≤ m) (h2 : m < 9007199254740992) : ((m * m).log2 = 104 ∨ ((m * m).log2 = 105 ∧ two52 < m)) ∧ m * m ≠ 0 := by
  have hl : 4503599627370496 * 4503599627370496 ≤ m * m := Nat.mul_le_mul h1 h1
  have hu : m * m < 9007199254740992 * 9007199254740992 := Nat.mul_lt_mul'' h2 h2
  have h0 : m * m ≠ 0 := by omega
  refine ⟨?_, h0⟩
  have b1 : ¬ (m * m).log2 < 104 := fun h => by rw [Nat.log2_lt h0] at h; omega
  have b2 : (m * m).log2 < 106 := by rw [Nat.log2_lt h0]; omega
  by_cases h : (m * m).log2 = 104
  · exact .inl h
  · right
    refine ⟨by omega, ?_⟩
    by_cases he : m = two52
    · exfalso; apply h
      rw [he]; decide
    · omega
theorem z_facts {e : Int} {d : Nat} (he : -480 ≤ e) (he2 : e ≤ 330) (hd2 : d = 52 ∨ d = 53) : e + e ≤ e + e + (d : Int) ∧ (e + e + (d : Int) - (e + e)).toNat = d ∧ e + e ≤ e + e + (d : Int) + 1 ∧ (e + e + (d : Int) + 1 - (e + e)).toNat = 1 + d ∧ -1074 ≤ e + e + (d : Int) ∧ e + e + (d : Int) ≤ 900 ∧ e + e + (d : Int) + 1 ≤ 900 ∧ -1074 ≤ e + e + (d : Int) + 1 ∧ e + e + (d : Int) ≤ 971 ∧ e + e + (d : Int) + 1 ≤ 971 ∧ (e + e + (d : Int) + 1 + 1074).toNat = (e + e + d + 1074).toNat + 1 ∧ -1074 ≤ e ∧ e ≤ 900 := by
  refine ⟨?_, ?_, ?_, ?_, ?_, ?_, ?_, ?_, ?_, ?_, ?_, ?_, ?_⟩ <;> omega
theorem K_eq {K : Nat} (h : K ≤ 2 * two52) (h' : ¬ K < 9007199254740992) : K = 2 * two52 := by unfold two52 at *; omega
theorem pl_fact {e f : Int} (h : e + e ≤ f) : f - (((f - (e + e)).toNat + 120 : Nat) : Int) = 2 * (e - 60) := by omega
theorem squares_back {m : Nat} {e : Int} (h1 : two52 ≤ m) (h2 : m < 9007199254740992) (he : -480 ≤ e) (he2 : e ≤ 330) :
    ∃ q : Nat, ∃ f : Int, fMag (nearV false (m * m) (e + e)) = q ∧ fPl (nearV false (m * m) (e + e)) = f ∧ fPow (nearV false (m * m) (e + e)) ≠ 2047 ∧ q ≠ 0 ∧ nearR (sqN q f) (sqP f) = (e + 1074).toNat * two52 + m := by
  obtain ⟨hlog, h0⟩ := log2_sq h1 h2
  obtain ⟨d, hd, hd2⟩ : ∃ d : Nat, d = (m * m).log2 - 52 ∧ (d = 52 ∨ d = 53) := ⟨_, rfl, by omega⟩
  have hlast : lastP (m * m) (e + e) = e + e + d := by unfold lastP; omega
  obtain ⟨kb1, kb2⟩ := kept_bounds (n := m * m) (p := e + e) h0
  have hK : RHE (m * m * 2 ^ (e + e - lastP (m * m) (e + e)).toNat) (lastP (m * m) (e + e) - (e + e)).toNat = RHE (m * m) d := by
    rw [hlast, show (e + e - (e + e + d)).toNat = 0 by omega, Nat.pow_zero, Nat.mul_one, show (e + e + (d : Int) - (e + e)).toNat = d by omega]
  rw [hK] at kb1 kb2
  have kb2 := kb2 (by omega)
  have hrung : rung (m * m) (e + e) = (e + e + d + 1074).toNat * two52 + RHE (m * m) d := by
    unfold rung; rw [if_neg h0, hK, hlast]
  obtain ⟨n1, n2⟩ := RHE_near (m * m) d
  have hex : m = two52 → RHE (m * m) d * 2 ^ d = m * m := fun hm => by
    have : d = 52 := by omega
    rw [this, hm]; decide
  have hpd : (d = 52 → 2 ^ d = 4503599627370496) ∧ (d = 53 → 2 ^ d = 9007199254740992) := ⟨fun h => by rw [h], fun h => by rw [h]⟩
  have hlo : 4 * (m * m) + 1 < 4 * (RHE (m * m) d * 2 ^ d) + 4 * m := by
    unfold two52 at *
    rcases hd2 with h | h
    · have := hpd.1 h; omega
    · have := hpd.2 h; omega
  have hhi : 4 * (RHE (m * m) d * 2 ^ d) < 4 * (m * m) + 4 * m + 1 := by
    unfold two52 at *
    rcases hd2 with h | h
    · have := hpd.1 h; omega
    · have := hpd.2 h; omega
  clear n1 n2
  generalize RHE (m * m) d = K at *
  -- the word's parts
  obtain ⟨z1, z2, z3, z4, z5, z6, z7, z8, z9, z10, z11, z12, z13⟩ := z_facts he he2 hd2
  obtain ⟨q, f, g1, g2, g3, g4, g5⟩ : ∃ q : Nat, ∃ f : Int, fMag (nearV false (m * m) (e + e)) = q ∧ fPl (nearV false (m * m) (e + e)) = f ∧ fPow (nearV false (m * m) (e + e)) ≠ 2047 ∧ e + e ≤ f ∧ q * 2 ^ (f - (e + e)).toNat = K * 2 ^ d := by
    clear hlo hhi hex hpd hK hlast hlog
    by_cases hc : K < 9007199254740992
    · have hR : nearR (m * m) (e + e) = (e + e + d + 1074).toNat * two52 + K := by
        unfold nearR; rw [hrung]; exact min_inf z6 hc
      obtain ⟨r1, r2, r3⟩ := read_fits (q := K) (e := e + e + d) false z5 z9 hc (.inl kb2)
      have hv : nearV false (m * m) (e + e) = sgn false ((e + e + d + 1074).toNat * two52 + K) := by unfold nearV; rw [hR]
      rw [hv]
      exact ⟨_, _, r1, r2, r3, z1, by rw [z2]⟩
    · have hKe : K = 2 * two52 := K_eq kb1 hc
      have h52 : (e + e + d + 1074).toNat * two52 + K = (e + e + d + 1 + 1074).toNat * two52 + two52 := by
        rw [hKe, z11, Nat.add_mul, Nat.one_mul, Nat.two_mul, Nat.add_assoc]
      have hR : nearR (m * m) (e + e) = (e + e + d + 1 + 1074).toNat * two52 + two52 := by
        unfold nearR; rw [hrung, h52]; exact min_inf z7 (by decide)
      obtain ⟨r1, r2, r3⟩ := read_fits (q := two52) (e := e + e + d + 1) false z8 z10 (by decide) (.inl (Nat.le_refl _))
      have hv : nearV false (m * m) (e + e) = sgn false ((e + e + d + 1 + 1074).toNat * two52 + two52) := by unfold nearV; rw [hR]
      rw [hv]
      refine ⟨_, _, r1, r2, r3, z3, ?_⟩
      rw [z4, hKe, Nat.pow_add, ← Nat.mul_assoc, Nat.pow_one, Nat.mul_comm two52 2]
  have hq0 : q ≠ 0 := fun h => by
    rw [h, Nat.zero_mul] at g5
    have := Nat.mul_ne_zero (show K ≠ 0 by unfold two52 at kb2; omega) (Nat.ne_of_gt (Nat.two_pow_pos d))
    omega
  refine ⟨q, f, g1, g2, g3, hq0, ?_⟩
  have hN : q * 2 ^ ((f - (e + e)).toNat + 120) = K * 2 ^ d * 4 ^ 60 := by
    rw [Nat.pow_add, ← Nat.mul_assoc, g5]
  have hroot := isq_ok (q * 2 ^ ((f - (e + e)).toNat + 120))
  have hbig : 9007199254740992 ≤ isq (q * 2 ^ ((f - (e + e)).toNat + 120)) := root_ge hroot (by
    have a1 : 2 ^ 110 ≤ 2 ^ ((f - (e + e)).toNat + 120) := Nat.pow_le_pow_right (by decide) (Nat.le_trans (by decide : 110 ≤ 120) (Nat.le_add_left _ _))
    have a2 := Nat.mul_le_mul (show 1 ≤ q from Nat.pos_of_ne_zero hq0) a1
    have a3 : (9007199254740992 : Nat) * 9007199254740992 ≤ 2 ^ 110 := by decide
    rw [Nat.one_mul] at a2
    exact Nat.le_trans a3 a2)
  have hany := sq_any (m := q) (s := (f - (e + e)).toNat + 120) (e := f) (p := e - 60) hq0 (pl_fact g4) hroot hbig
  rw [← hany.1]
  generalize isq (q * 2 ^ ((f - (e + e)).toNat + 120)) = w at *
  rw [hN] at hroot ⊢
  exact root_about (t := 60) h1 h2 z12 z13 (.inl hlo) hhi hex (by decide) hroot
theorem law_RootSquares {b : Nat} (hb : b < 18446744073709551616) : val 17 [Vu b] = some [Vb true] := by
  refine val_of tab17 ?_
  have h1 := power4_ok hb
  by_cases c1 : fPow b < 600
  · have : (fPow b : Int) < 600 := by omega
    simp [tr17, TT.dv, h1, this, awake_07]
  · have c1' : ¬ (fPow b : Int) < 600 := by omega
    by_cases c2 : fPow b > 1400
    · have : (fPow b : Int) > 1400 := by omega
      simp [tr17, TT.dv, h1, c1', this, awake_07]
    · have c2' : ¬ (1400 : Int) < fPow b := by omega
      obtain ⟨w1, w2, w3⟩ := word_parts hb (by omega) (by omega)
      have hpl : fPl b = (fPow b : Int) - 1075 := by unfold fPl; rw [if_neg (by omega)]
      obtain ⟨q, f, g1, g2, g3, g4, g5⟩ := squares_back (m := fMag b) (e := fPl b) w2 w3 (by omega) (by omega)
      have hmul := mul6_ok hb hb
      have hm0 : fMag b ≠ 0 := by unfold two52 at w2; omega
      have hV : mulV b b = nearV false (fMag b * fMag b) (fPl b + fPl b) := by
        unfold mulV nanB infB zeroB
        rw [if_neg (by omega), if_neg (by omega), if_neg (by omega)]; simp
      have hy := word_lt false (fMag b * fMag b) (fPl b + fPl b)
      have hs := sqrt_ok hy
      have hnan := nanB_near false (fMag b * fMag b) (fPl b + fPl b)
      have hneg := word_neg false (fMag b * fMag b) (fPl b + fPl b)
      rw [hV] at hmul
      generalize nearV false (fMag b * fMag b) (fPl b + fPl b) = y at *
      have hinf : y ≠ infR := fun h => by rw [h] at g3; exact g3 (by decide)
      have hsv : sqrtV y = (fPl b + 1074).toNat * two52 + fMag b := by
        unfold sqrtV
        rw [if_neg hnan, if_neg (by rw [not_or]; exact ⟨by omega, hinf⟩), hneg, g1, g2]
        show nearV false _ _ = _
        unfold nearV; rw [g5]; rfl
      rw [hsv] at hs
      have hn := neg4_ok hb
      have hmi := minus4_ok hb
      cases hng : fNeg b
      · rw [hng] at hn w1
        have w1' : (fPl b + 1074).toNat * two52 + fMag b = b := w1.symm
        rw [w1'] at hs
        simp [tr17, TT.dv, KS.dv, h1, c1', c2', awake_07, hmul, hs, hn]
      · rw [hng] at hn w1
        have hge : 9223372036854775808 ≤ b := by unfold fNeg at hng; simp at hng; omega
        unfold fMinus at hmi
        rw [if_neg (by omega)] at hmi
        have w1' : b = 9223372036854775808 + ((fPl b + 1074).toNat * two52 + fMag b) := w1
        have : b - 9223372036854775808 = (fPl b + 1074).toNat * two52 + fMag b := by omega
        rw [this] at hmi
        generalize (fPl b + 1074).toNat * two52 + fMag b = z at *
        simp [tr17, TT.dv, KS.dv, h1, c1', c2', awake_07, hmul, hs, hn, hmi]
end Go.Proofs.Ytflhhhijegoheaa.Dx

/- Law RootBetween. -/
namespace Go.Proofs.Ytflhhhijegoheaa.Dx
open Go

theorem half_okD {a b : Nat} (ha : a < 18446744073709551616) (hb : b < 18446744073709551616) : val 21 [Vu a, Vu b] = some [dS (dadd (sx a) (fPl a) (sx b) (fPl b)) (min (fPl a) (fPl b) + -1), dL (dadd (sx a) (fPl a) (sx b) (fPl b)) (min (fPl a) (fPl b) + -1), dE (dadd (sx a) (fPl a) (sx b) (fPl b)) (min (fPl a) (fPl b) + -1)] := by
  refine val_of tab21 ?_
  have v1 := value_ok ha
  have v2 := value_ok hb
  have h := addD_ok (DB.word a) (DB.word b)
  have b1 := bl_mag a
  have b2 := bl_mag b
  have p1 := fPl_bd a
  have p2 := fPl_bd b
  have hbl : bl (dadd (sx a) (fPl a) (sx b) (fPl b)).natAbs ≤ 5000 := by
    unfold dadd
    have h1 := bl_int_add (sx a * 2 ^ (fPl a - min (fPl a) (fPl b)).toNat) (sx b * 2 ^ (fPl b - min (fPl a) (fPl b)).toNat)
    have h2 := bl_int_shl (sx a) (fPl a - min (fPl a) (fPl b)).toNat
    have h3 := bl_int_shl (sx b) (fPl b - min (fPl a) (fPl b)).toNat
    omega
  have hs := scaleD_ok (x := dadd (sx a) (fPl a) (sx b) (fPl b)) (e := min (fPl a) (fPl b)) (k := -1) ⟨by omega, by omega, by omega⟩ (by omega)
  simp [tr21, TT.dv, v1, v2, h, hs]
/-- A sum of two, at a place below both. -/
theorem dadd_nat {a b : Nat} {e f P : Int} (h1 : P + 1 ≤ e) (h2 : P + 1 ≤ f) : 2 * (dadd (a : Int) e (b : Int) f * 2 ^ (min e f + -1 - P).toNat) = ((a * 2 ^ (e - P).toNat + b * 2 ^ (f - P).toNat : Nat) : Int) := by
  have k1 : (e - P).toNat = (e - min e f).toNat + ((min e f + -1 - P).toNat + 1) := by omega
  have k2 : (f - P).toNat = (f - min e f).toNat + ((min e f + -1 - P).toNat + 1) := by omega
  rw [k1, k2]
  unfold dadd
  generalize (e - min e f).toNat = x
  generalize (f - min e f).toNat = y
  generalize (min e f + -1 - P).toNat = z
  push_cast
  rw [Int.pow_add, Int.pow_add, Int.pow_add, Int.add_mul, Int.mul_add]
  simp only [Int.pow_succ, Int.pow_zero, Int.one_mul, Int.mul_assoc, Int.mul_comm, Int.mul_left_comm]
/-- The square against the number: 'L' at the place 'P'. -/
theorem sq_cmp {x f e P : Int} {m : Nat} {L : Int} (h1 : P ≤ f) (h2 : 2 * P ≤ e) (hL : x * 2 ^ (f - P).toNat = L) : dcmp (x * x) (f + f) (m : Int) e = cmp3 (L * L) ((m * 2 ^ (e - 2 * P).toNat : Nat) : Int) := by
  rw [← dcmp_at (l := 2 * P) (by omega) h2]
  congr 1
  · rw [← hL, show (f + f - 2 * P).toNat = (f - P).toNat + (f - P).toNat by omega, Int.pow_add]
    simp only [Int.mul_assoc, Int.mul_left_comm]
theorem sq_le_of {S L N4 : Nat} {b : Bool} (hb : b = false → N4 = S * S) (hb2 : b = true → (S - 1) * (S - 1) ≤ N4 ∧ N4 ≤ (S + 1) * (S + 1) ∧ S % 2 = 1) (hL2 : L % 2 = 0) : (L ≤ S → L * L ≤ N4) ∧ (S ≤ L → N4 ≤ L * L) := by
  cases b with
  | false =>
    have := hb rfl
    exact ⟨fun h => by rw [this]; exact Nat.mul_le_mul h h, fun h => by rw [this]; exact Nat.mul_le_mul h h⟩
  | true =>
    obtain ⟨a1, a2, a3⟩ := hb2 rfl
    exact ⟨fun h => Nat.le_trans (Nat.mul_le_mul (by omega) (by omega)) a1, fun h => Nat.le_trans a2 (Nat.mul_le_mul (by omega) (by omega))⟩
end Go.Proofs.Ytflhhhijegoheaa.Dx

/- Law RootBetween: the numbers beside a number; the law. -/
namespace Go.Proofs.Ytflhhhijegoheaa.Dx
open Go

def rg (f : Int) (q : Nat) : Nat := (f + 1074).toNat * two52 + q
theorem rg_succ {f : Int} {q : Nat} (hf : -1074 ≤ f) (hq : q + 1 = 2 * two52) : rg f q + 1 = rg (f + 1) two52 := by
  unfold rg
  rw [show (f + 1 + 1074).toNat = (f + 1074).toNat + 1 by omega, Nat.add_mul, Nat.one_mul]; omega
theorem rg_pred {f : Int} {q : Nat} (hf : -1074 < f) (hq : q + 1 = 2 * two52) : rg f two52 - 1 = rg (f - 1) q := by
  have := rg_succ (f := f - 1) (q := q) (by omega) hq
  rw [show f - 1 + 1 = f by omega] at this
  omega
theorem rg_small {f : Int} {q : Nat} (hf : f ≤ 900) (hq : q < 9007199254740992) : rg f q < infR := by
  unfold rg
  have h : (f + 1074).toNat ≤ 1974 := by omega
  have := Nat.mul_le_mul_right two52 h
  have k : 1974 * two52 + 9007199254740992 ≤ infR := by decide
  omega
theorem rg_word {f : Int} {q : Nat} (hf : -1074 ≤ f) (hf2 : f ≤ 900) (h1 : two52 ≤ q) (h2 : q < 9007199254740992) : sx (rg f q) = q ∧ fPl (rg f q) = f ∧ rg f q < 18446744073709551616 := by
  obtain ⟨r1, r2, r3⟩ := read_fits (q := q) (e := f) false hf (Int.le_trans hf2 (by decide)) h2 (.inl h1)
  have hl := rg_small hf2 h2
  have hn := (sgn_fields false (Nat.le_of_lt hl)).2.2.1
  have e : sgn false (rg f q) = rg f q := rfl
  have r1' : fMag (rg f q) = q := r1
  have r2' : fPl (rg f q) = f := r2
  rw [e] at hn
  have hi : infR < 18446744073709551616 := by decide
  refine ⟨?_, r2', Nat.lt_trans hl hi⟩
  unfold sx; rw [hn, r1']; rfl
/-- The next number above. -/
theorem rg_up {f P : Int} {q : Nat} (hf : -1074 ≤ f) (hf2 : f ≤ 899) (h1 : two52 ≤ q) (h2 : q < 9007199254740992) (hP : P ≤ f) :
    ∃ (q' : Nat) (f' : Int), sx (rg f q + 1) = q' ∧ fPl (rg f q + 1) = f' ∧ rg f q + 1 < 18446744073709551616 ∧ f ≤ f' ∧ f' ≤ f + 1 ∧ q' < 9007199254740992 ∧ q' * 2 ^ (f' - P).toNat = (q + 1) * 2 ^ (f - P).toNat := by
  by_cases hq : q + 1 < 9007199254740992
  · obtain ⟨a1, a2, a3⟩ := rg_word (q := q + 1) hf (by omega) (by omega) hq
    have e : rg f q + 1 = rg f (q + 1) := by unfold rg; exact Nat.add_assoc _ _ _
    rw [e]
    exact ⟨q + 1, f, a1, a2, a3, Int.le_refl _, by omega, hq, rfl⟩
  · have hq2 : q + 1 = 2 * two52 := K_eq (Nat.le_trans h2 (by decide)) hq
    obtain ⟨a1, a2, a3⟩ := rg_word (q := two52) (f := f + 1) (by omega) (by omega) (Nat.le_refl _) (by decide)
    rw [rg_succ hf hq2]
    refine ⟨two52, f + 1, a1, a2, a3, by omega, by omega, by decide, ?_⟩
    rw [hq2, show (f + 1 - P).toNat = 1 + (f - P).toNat by omega, Nat.pow_add, Nat.pow_one, ← Nat.mul_assoc, Nat.mul_comm two52 2]
/-- The next number below. -/
theorem rg_down {f P : Int} {q : Nat} (hf : -1074 < f) (hf2 : f ≤ 899) (h1 : two52 ≤ q) (h2 : q < 9007199254740992) (hP : P + 1 ≤ f) :
    ∃ (q' : Nat) (f' : Int), sx (rg f q - 1) = q' ∧ fPl (rg f q - 1) = f' ∧ rg f q - 1 < 18446744073709551616 ∧ f - 1 ≤ f' ∧ f' ≤ f ∧ q' < 9007199254740992 ∧
      ((two52 < q ∧ q' * 2 ^ (f' - P).toNat + 2 ^ (f - P).toNat = q * 2 ^ (f - P).toNat) ∨ (q = two52 ∧ q' * 2 ^ (f' - P).toNat + 2 ^ (f - 1 - P).toNat = q * 2 ^ (f - P).toNat)) := by
  by_cases hq : two52 < q
  · obtain ⟨a1, a2, a3⟩ := rg_word (q := q - 1) (f := f) (by omega) (by omega) (by omega) (by omega)
    have e : rg f q - 1 = rg f (q - 1) := by unfold rg; omega
    rw [e]
    refine ⟨q - 1, f, a1, a2, a3, by omega, by omega, by omega, .inl ⟨hq, ?_⟩⟩
    obtain ⟨z, rfl⟩ : ∃ z, q = z + 1 := ⟨q - 1, by omega⟩
    rw [Nat.add_sub_cancel, Nat.add_mul, Nat.one_mul]
  · have hq2 : q = two52 := by omega
    obtain ⟨a1, a2, a3⟩ := rg_word (q := 9007199254740991) (f := f - 1) (by omega) (by omega) (by decide) (by decide)
    rw [hq2, rg_pred (q := 9007199254740991) hf (by decide)]
    refine ⟨9007199254740991, f - 1, a1, a2, a3, by omega, by omega, by decide, .inr ⟨rfl, ?_⟩⟩
    rw [show (f - P).toNat = 1 + (f - 1 - P).toNat by omega, Nat.pow_add, Nat.pow_one, ← Nat.mul_assoc]
    have : two52 * 2 = 9007199254740991 + 1 := by decide
    rw [this, Nat.add_mul, Nat.one_mul]
/-- The rounded root, and what it was. -/
theorem root_parts {m : Nat} {e : Int} (hm : m ≠ 0) (hm2 : m < 9007199254740992) (he : -1074 ≤ e) (he2 : e ≤ 972) :
    ∃ (q : Nat) (f : Int) (D : Nat), nearR (sqN m e) (sqP e) = rg f q ∧ two52 ≤ q ∧ q < 9007199254740992 ∧ -1000 ≤ f ∧ f ≤ 800 ∧ sqP e + 4 ≤ f ∧ 2 * sqP e ≤ e ∧ 4 ≤ D ∧
      2 * (q * 2 ^ (f - sqP e).toNat) ≤ 2 * sqN m e + 2 ^ D ∧ 2 * sqN m e ≤ 2 * (q * 2 ^ (f - sqP e).toNat) + 2 ^ D ∧
      ((f - sqP e).toNat = D ∧ (q = two52 → q * 2 ^ (f - sqP e).toNat ≤ sqN m e) ∨ ((f - sqP e).toNat = D + 1 ∧ q = two52)) ∧
      (∃ b : Bool, (b = false → m * 2 ^ (e - 2 * sqP e).toNat = sqN m e * sqN m e) ∧ (b = true → (sqN m e - 1) * (sqN m e - 1) ≤ m * 2 ^ (e - 2 * sqP e).toNat ∧ m * 2 ^ (e - 2 * sqP e).toNat ≤ (sqN m e + 1) * (sqN m e + 1) ∧ sqN m e % 2 = 1)) := by
  obtain ⟨p, hp⟩ : ∃ p : Int, e - sqS e = 2 * p := ⟨(e - sqS e) / 2, by unfold sqS; split <;> omega⟩
  have hs2 : sqS e = 110 ∨ sqS e = 111 := by unfold sqS; split; exact .inl rfl; exact .inr rfl
  have hP : sqP e = p - 1 := by unfold sqP; rw [hp]; omega
  have hpb : -593 ≤ p ∧ p ≤ 431 := by omega
  have hroot := isq_ok (m * 2 ^ sqS e)
  have hS : sqN m e = 2 * isq (m * 2 ^ sqS e) + (decide (isq (m * 2 ^ sqS e) * isq (m * 2 ^ sqS e) ≠ m * 2 ^ sqS e)).toNat := rfl
  have hNlo : 36028797018963968 * 36028797018963968 ≤ m * 2 ^ sqS e := by
    have h1 : 2 ^ 110 ≤ 2 ^ sqS e := Nat.pow_le_pow_right (by decide) (by omega)
    have h2 := Nat.mul_le_mul (Nat.pos_of_ne_zero hm) h1
    rw [Nat.succ_eq_add_one, Nat.zero_add, Nat.one_mul] at h2
    exact Nat.le_trans (by decide) h2
  have hNhi : m * 2 ^ sqS e < 9671406556917033397649408 * 9671406556917033397649408 := by
    have h1 : 2 ^ sqS e ≤ 2 ^ 111 := Nat.pow_le_pow_right (by decide) (by omega)
    have h2 := Nat.mul_lt_mul_of_lt_of_le hm2 h1 (by decide)
    exact Nat.lt_of_lt_of_le h2 (by decide)
  have hN4 : m * 2 ^ (e - 2 * sqP e).toNat = 4 * (m * 2 ^ sqS e) := by
    rw [hP, show (e - 2 * (p - 1)).toNat = sqS e + 2 by omega, Nat.pow_add, ← Nat.mul_assoc, Nat.mul_comm]
  rw [hN4]
  generalize m * 2 ^ sqS e = N at *
  generalize isq N = w at *
  have hwlo : 36028797018963968 ≤ w := root_ge hroot hNlo
  have hwhi : w < 9671406556917033397649408 := lt_of_sq (Nat.lt_of_le_of_lt hroot.1 hNhi)
  obtain ⟨b, hb⟩ : ∃ b, decide (w * w ≠ N) = b := ⟨_, rfl⟩
  rw [hb] at hS
  have hbt : b.toNat ≤ 1 := by cases b <;> decide
  have hsq : ∃ b : Bool, (b = false → 4 * N = sqN m e * sqN m e) ∧ (b = true → (sqN m e - 1) * (sqN m e - 1) ≤ 4 * N ∧ 4 * N ≤ (sqN m e + 1) * (sqN m e + 1) ∧ sqN m e % 2 = 1) := by
    refine ⟨b, ?_, ?_⟩
    · intro h; subst h
      have h1 : w * w = N := by simpa using hb
      rw [hS, Bool.toNat_false, Nat.add_zero, Nat.mul_mul_mul_comm, h1]
    · intro h; subst h
      rw [hS, Bool.toNat_true, Nat.add_sub_cancel, show 2 * w + 1 + 1 = 2 * (w + 1) by omega, Nat.mul_mul_mul_comm, Nat.mul_mul_mul_comm 2 (w + 1)]
      exact ⟨Nat.mul_le_mul_left 4 hroot.1, Nat.mul_le_mul_left 4 (Nat.le_of_lt hroot.2), by omega⟩
  have hSlo : 72057594037927936 ≤ sqN m e := by omega
  have hShi : sqN m e < 19342813113834066795298817 := by omega
  clear hNlo hNhi hroot hS hwlo hwhi hb hN4
  generalize sqN m e = S at *
  rw [hP]
  have hS0 : S ≠ 0 := by omega
  have l1 : ¬ S.log2 < 56 := fun h => by rw [Nat.log2_lt hS0] at h; omega
  have l2 : S.log2 < 85 := by rw [Nat.log2_lt hS0]; omega
  obtain ⟨D, hD⟩ : ∃ D : Nat, S.log2 = 52 + D := ⟨S.log2 - 52, by omega⟩
  have hlast : lastP S (p - 1) = p - 1 + D := by unfold lastP; omega
  obtain ⟨kb1, kb2⟩ := kept_bounds (n := S) (p := p - 1) hS0
  have hK : RHE (S * 2 ^ (p - 1 - lastP S (p - 1)).toNat) (lastP S (p - 1) - (p - 1)).toNat = RHE S D := by
    rw [hlast, show (p - 1 - (p - 1 + D)).toNat = 0 by omega, Nat.pow_zero, Nat.mul_one, show (p - 1 + (D : Int) - (p - 1)).toNat = D by omega]
  rw [hK] at kb1 kb2
  have kb2 := kb2 (by omega)
  have hrung : rung S (p - 1) = rg (p - 1 + D) (RHE S D) := by
    unfold rung; rw [if_neg hS0, hK, hlast]; rfl
  obtain ⟨n1, n2⟩ := RHE_near S D
  have hfl : two52 * 2 ^ D ≤ S := by
    have := Nat.log2_self_le hS0
    rw [hD, Nat.pow_add] at this; exact this
  have z : 4 ≤ D ∧ D ≤ 32 := by omega
  have y1 : -1000 ≤ p - 1 + (D : Int) ∧ p - 1 + (D : Int) ≤ 800 ∧ -1000 ≤ p - 1 + (D : Int) + 1 ∧ p - 1 + (D : Int) + 1 ≤ 800 ∧ p - 1 + 4 ≤ p - 1 + (D : Int) ∧ p - 1 + 4 ≤ p - 1 + (D : Int) + 1 ∧ 2 * (p - 1) ≤ e ∧ -1074 ≤ p - 1 + (D : Int) ∧ p - 1 + (D : Int) ≤ 900 ∧ p - 1 + (D : Int) + 1 ≤ 900 := by omega
  have y2 : (p - 1 + (D : Int) - (p - 1)).toNat = D ∧ (p - 1 + (D : Int) + 1 - (p - 1)).toNat = D + 1 := by omega
  obtain ⟨x1, x2, x3, x4, x5, x6, x7, x8, x9, x10⟩ := y1
  by_cases hc : RHE S D < 9007199254740992
  · have hR : nearR S (p - 1) = rg (p - 1 + D) (RHE S D) := by
      unfold nearR; rw [hrung]; exact Nat.min_eq_left (Nat.le_of_lt (rg_small x9 hc))
    refine ⟨RHE S D, p - 1 + D, D, hR, kb2, hc, x1, x2, x5, x7, z.1, ?_, ?_, .inl ⟨y2.1, ?_⟩, hsq⟩
    · rw [y2.1]; exact n1
    · rw [y2.1]; exact n2
    · intro hq; rw [y2.1, hq]; exact hfl
  · have hKe := K_eq kb1 hc
    have h2 : (2 * two52 - 1) + 1 = 2 * two52 := by decide
    have hR : nearR S (p - 1) = rg (p - 1 + D + 1) two52 := by
      have h3 := rg_succ (f := p - 1 + D) (q := 2 * two52 - 1) x8 h2
      have h4 : rg (p - 1 + D) (RHE S D) = rg (p - 1 + D) (2 * two52 - 1) + 1 := by
        rw [hKe]; unfold rg; rw [Nat.add_assoc, h2]
      unfold nearR; rw [hrung, h4, h3]; exact Nat.min_eq_left (Nat.le_of_lt (rg_small x10 (by decide)))
    have hT : two52 * 2 ^ (D + 1) = RHE S D * 2 ^ D := by rw [hKe, Nat.pow_succ, Nat.mul_comm 2 two52, Nat.mul_assoc, Nat.mul_comm 2]
    refine ⟨two52, p - 1 + D + 1, D, hR, Nat.le_refl _, by decide, x3, x4, x6, x7, z.1, ?_, ?_, .inr ⟨y2.2, rfl⟩, hsq⟩
    · rw [y2.2, hT]; exact n1
    · rw [y2.2, hT]; exact n2
/-- A half of two words, squared, against a third. -/
theorem half_sq {a b c q1 q2 : Nat} {f1 f2 P : Int} {L : Nat} (hc : c < 18446744073709551616) (hcn : fNeg c = false) (s1 : sx a = q1) (s2 : sx b = q2) (e1 : fPl a = f1) (e2 : fPl b = f2)
    (hq1 : q1 < 9007199254740992) (hq2 : q2 < 9007199254740992) (g1 : P + 1 ≤ f1) (g2 : P + 1 ≤ f2) (b1 : f1 ≤ 1000) (b2 : f2 ≤ 1000) (b3 : -1000 ≤ P) (hPe : 2 * P ≤ fPl c) (hL : q1 * 2 ^ (f1 - P).toNat + q2 * 2 ^ (f2 - P).toNat = 2 * L) :
    ∃ z g : Int, (dadd (sx a) (fPl a) (sx b) (fPl b)) = z ∧ min (fPl a) (fPl b) + -1 = g ∧ DB z g ∧ DB (z * z) (g + g) ∧ dcmp (z * z) (g + g) (sx c) (fPl c) = cmp3 ((L * L : Nat) : Int) ((fMag c * 2 ^ (fPl c - 2 * P).toNat : Nat) : Int) := by
  refine ⟨_, _, rfl, rfl, ?_⟩
  rw [s1, s2, e1, e2]
  have hz := dadd_nat (a := q1) (b := q2) g1 g2
  rw [hL] at hz
  have hbl : bl (dadd (q1 : Int) f1 (q2 : Int) f2).natAbs ≤ 5000 := by
    unfold dadd
    have h1 := bl_int_add ((q1 : Int) * 2 ^ (f1 - min f1 f2).toNat) ((q2 : Int) * 2 ^ (f2 - min f1 f2).toNat)
    have h2 := bl_int_shl (q1 : Int) (f1 - min f1 f2).toNat
    have h3 := bl_int_shl (q2 : Int) (f2 - min f1 f2).toNat
    rw [Int.natAbs_natCast] at h2 h3
    have h4 : bl q1 ≤ 53 := bl_lt.2 hq1
    have h5 : bl q2 ≤ 53 := bl_lt.2 hq2
    omega
  have hbm := bl_int_mul (dadd (q1 : Int) f1 (q2 : Int) f2) (dadd (q1 : Int) f1 (q2 : Int) f2)
  have hg : P ≤ min f1 f2 + -1 := by omega
  have hsc : sx c = (fMag c : Int) := by unfold sx; rw [hcn]; rfl
  refine ⟨⟨by omega, by omega, by omega⟩, ⟨by omega, by omega, by omega⟩, ?_⟩
  rw [hsc]
  have hL2 : dadd (q1 : Int) f1 (q2 : Int) f2 * 2 ^ (min f1 f2 + -1 - P).toNat = (L : Int) := by
    generalize dadd (q1 : Int) f1 (q2 : Int) f2 * 2 ^ (min f1 f2 + -1 - P).toNat = t at *
    push_cast at hz; omega
  rw [sq_cmp hg hPe hL2]
  push_cast; rfl
theorem even_pow {D : Nat} (h : 1 ≤ D) (x : Nat) : x * 2 ^ D % 2 = 0 := by
  obtain ⟨k, rfl⟩ : ∃ k, D = k + 1 := ⟨D - 1, by omega⟩
  rw [Nat.pow_succ, ← Nat.mul_assoc]; exact Nat.mul_mod_left _ _
theorem cmp3_le {a b : Nat} (h : a ≤ b) : cmp3 (a : Int) (b : Int) ≤ 0 := by unfold cmp3; split; omega; split; omega; omega
theorem cmp3_ge {a b : Nat} (h : b ≤ a) : 0 ≤ cmp3 (a : Int) (b : Int) := by unfold cmp3; split; omega; split; omega; omega
end Go.Proofs.Ytflhhhijegoheaa.Dx

/- Law RootBetween. -/
namespace Go.Proofs.Ytflhhhijegoheaa.Dx
open Go

theorem law_RootBetween {b : Nat} (hb : b < 18446744073709551616) : val 13 [Vu b] = some [Vb true] := by
  refine val_of tab13 ?_
  have h1 := finite4_ok hb
  have h2 := neg4_ok hb
  have h3 := kind4_ok hb
  by_cases c1 : fPow b < 2047
  · cases c2 : fNeg b
    · rw [c2] at h2
      by_cases c3 : fMag b = 0
      · have hk := (kind_zero b).2 ((mag_zero b).1 c3)
        rw [hk] at h3
        simp [tr13, TT.dv, h1, c1, h2, h3, awake_07]
      · have hk : ¬ fKind b = 0 := fun h => c3 ((mag_zero b).2 ((kind_zero b).1 h))
        obtain ⟨p1, p2⟩ := fPl_bd b
        obtain ⟨q, f, D, r1, r2, r3, r4, r5, r6, r7, r8, r9, r10, r11, sb, r12, r13⟩ := root_parts c3 (fMag_lt b) p1 p2
        have hs := sqrt_ok hb
        have hnan : ¬ nanB b := by unfold nanB; omega
        have hinf : b ≠ infR := fun h => by rw [h] at c1; revert c1; decide
        have hsv : sqrtV b = rg f q := by
          unfold sqrtV
          rw [if_neg hnan, if_neg (by rw [not_or]; exact ⟨by omega, hinf⟩), c2]
          show nearV false _ _ = _
          unfold nearV; rw [r1]; rfl
        rw [hsv] at hs
        have f1 : -1074 ≤ f := Int.le_trans (by decide) r4
        have f2 : f ≤ 900 := Int.le_trans r5 (by decide)
        have f3 : f ≤ 899 := Int.le_trans r5 (by decide)
        have f4 : -1074 < f := Int.lt_of_lt_of_le (by decide) r4
        have b3 : -1000 ≤ sqP (fPl b) := by unfold sqP sqS; split <;> omega
        clear hsv r1 hnan hinf
        generalize sqN (fMag b) (fPl b) = S at *
        generalize sqP (fPl b) = P at *
        have f5 : P ≤ f := by omega
        have f6 : P + 1 ≤ f := by omega
        obtain ⟨w1, w2, w3⟩ := rg_word (q := q) (f := f) f1 f2 r2 r3
        have hlt := rg_small (f := f) (q := q) f2 r3
        have hge : two52 ≤ rg f q := Nat.le_trans r2 (Nat.le_add_left _ _)
        obtain ⟨k1, k2, k3, k4, k5⟩ := sgn_fields false (Nat.le_of_lt hlt)
        have hkd := kind_sgn false (Nat.le_of_lt hlt)
        rw [if_neg (Nat.ne_of_lt hlt), if_pos hge] at hkd
        obtain ⟨qu, fu, u1, u2, u3, u4, u5, u6, u7⟩ := rg_up (P := P) f1 f3 r2 r3 f5
        obtain ⟨qd, fd, d1, d2, d3, d4, d5, d6, d7⟩ := rg_down (P := P) f4 f3 r2 r3 f6
        have t1 := finite4_ok w3
        have t2 := kind4_ok w3
        have t3 := neg4_ok w3
        have esg : sgn false (rg f q) = rg f q := rfl
        rw [esg] at k1 k3 hkd
        rw [hkd] at t2
        rw [k3] at t3
        have hpw : fPow (rg f q) < 2047 := by rw [k1]; exact Nat.div_lt_of_lt_mul (Nat.lt_of_lt_of_le hlt (by decide))
        have m1 : (rg f q + 1) % 18446744073709551616 = rg f q + 1 := Nat.mod_eq_of_lt u3
        have m2 : (B.sub .u64).den (Vu (rg f q)) (Vu 1) = Vu (rg f q - 1) := sub_u (Nat.le_trans (by decide) hge) w3
        have hu := half_okD w3 u3
        have hd := half_okD w3 d3
        have v := value_ok hb
        clear k1 k2 k3 k4 k5 hkd esg
        generalize rg f q = R at *
        -- all in quarters of the step
        obtain ⟨g, hg⟩ : ∃ g : Nat, (f - P).toNat = g + 3 := ⟨(f - P).toNat - 3, by omega⟩
        obtain ⟨T, hT⟩ : ∃ T, q * 2 ^ (f - P).toNat = T := ⟨_, rfl⟩
        obtain ⟨G, hG⟩ : ∃ G, 2 ^ (g + 1) = G := ⟨_, rfl⟩
        have g3 : 2 ^ (f - P).toNat = 4 * G := by rw [hg, ← hG, show g + 3 = (g + 1) + 2 by omega, Nat.pow_add]; omega
        have g2 : 2 ^ (f - 1 - P).toNat = 2 * G := by rw [show (f - 1 - P).toNat = g + 2 by omega, ← hG, Nat.pow_succ]; omega
        have hGe : G % 2 = 0 := by rw [← hG, Nat.pow_succ]; exact Nat.mul_mod_left _ _
        have hTe : T % 2 = 0 := by rw [← hT]; exact even_pow (by omega) q
        have hD2 : ((f - P).toNat = D → 2 ^ D = 4 * G) ∧ ((f - P).toNat = D + 1 → 2 ^ D = 2 * G) := by
          refine ⟨fun h => by rw [← h, g3], fun h => ?_⟩
          rw [show D = g + 2 by omega, ← hG, Nat.pow_succ 2 (g + 1)]; omega
        have hTG : 8 * G ≤ T := by
          rw [← hT, g3]
          have := Nat.mul_le_mul_right (4 * G) (show 2 ≤ q from Nat.le_trans (by decide) r2)
          omega
        rw [hT] at r9 r10 r11 d7
        rw [g3, g2] at d7
        rw [Nat.add_mul, Nat.one_mul, hT, g3] at u7
        have hup : q * 2 ^ (f - P).toNat + qu * 2 ^ (fu - P).toNat = 2 * (T + 2 * G) := by rw [hT, u7]; omega
        have hSH : S ≤ T + 2 * G := by
          rcases r11 with ⟨ha, _⟩ | ⟨ha, _⟩
          · have := hD2.1 ha; omega
          · have := hD2.2 ha; omega
        obtain ⟨L, hdn, hLS, hLe⟩ : ∃ L, q * 2 ^ (f - P).toNat + qd * 2 ^ (fd - P).toNat = 2 * L ∧ L ≤ S ∧ L % 2 = 0 := by
          rw [hT]
          rcases d7 with ⟨hq, hd7⟩ | ⟨hq, hd7⟩
          · refine ⟨T - 2 * G, by omega, ?_, by omega⟩
            rcases r11 with ⟨ha, _⟩ | ⟨ha, hq2⟩
            · have := hD2.1 ha; omega
            · rw [hq2] at hq; exact absurd hq (Nat.lt_irrefl _)
          · refine ⟨T - G, by omega, ?_, by omega⟩
            rcases r11 with ⟨ha, hi⟩ | ⟨ha, _⟩
            · have := hi hq; omega
            · have := hD2.2 ha; omega
        obtain ⟨zu, gu, su1, su2, su3, su4, su5⟩ := half_sq (a := R) (b := R + 1) (c := b) (L := T + 2 * G) hb c2 w1 u1 w2 u2 r3 u6 f6 (Int.le_trans f6 u4) (Int.le_trans f2 (by decide)) (by omega) b3 r7 hup
        obtain ⟨zd, gd, sd1, sd2, sd3, sd4, sd5⟩ := half_sq (a := R) (b := R - 1) (c := b) (L := L) hb c2 w1 d1 w2 d2 r3 d6 f6 (by omega) (Int.le_trans f2 (by decide)) (by omega) b3 r7 hdn
        have au := (sq_le_of r12 r13 (L := T + 2 * G) (by omega)).2 hSH
        have ad := (sq_le_of r12 r13 (L := L) hLe).1 hLS
        have cu := cmp3_ge au
        have cd := cmp3_le ad
        rw [← su5] at cu
        rw [← sd5] at cd
        rw [su1, su2] at hu
        rw [sd1, sd2] at hd
        have mu := mulD_ok su3 su3
        have md := mulD_ok sd3 sd3
        have xu := compareD_ok su4 (DB.word b)
        have xd := compareD_ok sd4 (DB.word b)
        generalize dcmp (zu * zu) (gu + gu) (sx b) (fPl b) = y1 at *
        generalize dcmp (zd * zd) (gd + gd) (sx b) (fPl b) = y2 at *
        simp [tr13, TT.dv, h1, c1, h2, h3, hk, hs, t1, t2, t3, hpw, v, m1, m2, hu, hd, mu, md, xu, xd, cu, cd, awake_07]
    · rw [c2] at h2
      simp [tr13, TT.dv, h1, c1, h2, awake_07]
  · simp [tr13, TT.dv, h1, c1, awake_07]
end Go.Proofs.Ytflhhhijegoheaa.Dx
