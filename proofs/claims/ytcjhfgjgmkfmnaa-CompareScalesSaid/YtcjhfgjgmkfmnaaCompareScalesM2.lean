/- The pure meaning of the functions that the law reaches, and that the law is true of it. No conditions. -/
import Derived.KernelRfl
import Derived.Test.YtcjhfgjgmkfmnaaCompareScalesM1
set_option linter.all false
namespace Go.Proofs.Ytcjhfgjgmkfmnaa.Dx
open Go
theorem awake_07 : val 19 [] = some [Vb true] := val_iff.2 ⟨100, by kernel_rfl⟩
theorem whole_loop {n : Nat} (hn : n < 18446744073709551616) : ∀ (k : Nat) {i : Nat} {root rest : Nat}, i + k = 32 → root < 2 ^ i → rest = n / 2 ^ (64 - 2 * i) - root * root → IsRoot (n / 2 ^ (64 - 2 * i)) root →
    ∃ r, IsRoot n r ∧ rounds (fun vs => lo273_1.dv ([Vu n] ++ vs)) [Vu root, Vu rest, Vi i] = some (.y (.ext 0) [Vu r, Vu (n - r * r)])
  | 0, i, root, rest, hk, hr, hs, hroot => by
    obtain rfl : i = 32 := by omega
    simp at hs hroot
    refine ⟨root, hroot, rounds_exit ?_ (by simp)⟩
    subst hs
    simp [lo273_1, TT.dv]
  | k + 1, i, root, rest, hk, hr, hs, hroot => by
    have hi : i < 32 := by omega
    have hr32 : root < 4294967296 := Nat.lt_of_lt_of_le hr (Nat.pow_le_pow_right (by omega) (by omega : i ≤ 32))
    obtain ⟨h1, h2⟩ := hroot
    have hx : (root + 1) * (root + 1) = root * root + 2 * root + 1 := by rw [Nat.add_mul, Nat.mul_add]; omega
    have hle : rest ≤ 2 * root := by omega
    have hrd := whole_round (n := n) (root := root) (rest := rest) (i := (i : Int)) (by omega) (by omega) hn hr32 hle
    simp only [Int.toNat_natCast] at hrd
    have hstep : n / 2 ^ (64 - 2 * (i + 1)) = 4 * (n / 2 ^ (64 - 2 * i)) + n / 2 ^ (62 - 2 * i) % 4 := by
      rw [show 64 - 2 * i = (62 - 2 * i) + 2 by omega, Nat.pow_add, ← Nat.div_div_eq_div_mul, show 64 - 2 * (i + 1) = 62 - 2 * i by omega]
      generalize n / 2 ^ (62 - 2 * i) = q; omega
    generalize hb : n / 2 ^ (62 - 2 * i) % 4 = b at *
    have hp : 2 ^ (i + 1) = 2 * 2 ^ i := by rw [Nat.pow_succ]; omega
    by_cases hc : root * 4 + 1 ≤ rest * 4 + b
    · rw [if_pos hc] at hrd
      have hd : (2 * root + 1) * (2 * root + 1) = 4 * (root * root) + 4 * root + 1 := by
        rw [Nat.add_mul, Nat.mul_add, Nat.mul_mul_mul_comm]; omega
      have hd2 : (2 * root + 1 + 1) * (2 * root + 1 + 1) = 4 * (root * root) + 8 * root + 4 := by
        rw [show 2 * root + 1 + 1 = 2 * (root + 1) by omega, Nat.mul_mul_mul_comm, hx]; omega
      obtain ⟨r, hr1, hr2⟩ := whole_loop hn k (i := i + 1) (root := 2 * root + 1) (rest := rest * 4 + b - (root * 4 + 1)) (by omega) (by omega) (by rw [hstep, hd]; omega) ⟨by rw [hstep, hd]; omega, by rw [hstep, hd2]; omega⟩
      refine ⟨r, hr1, ?_⟩
      exact (rounds_cont (f := fun vs => lo273_1.dv ([Vu n] ++ vs)) hrd).trans hr2
    · rw [if_neg hc] at hrd
      have hd : (2 * root) * (2 * root) = 4 * (root * root) := by
        rw [Nat.mul_mul_mul_comm]
      have hd2 : (2 * root + 1) * (2 * root + 1) = 4 * (root * root) + 4 * root + 1 := by
        rw [Nat.add_mul, Nat.mul_add, Nat.mul_mul_mul_comm]; omega
      obtain ⟨r, hr1, hr2⟩ := whole_loop hn k (i := i + 1) (root := 2 * root) (rest := rest * 4 + b) (by omega) (by omega) (by rw [hstep, hd]; omega) ⟨by rw [hstep, hd]; omega, by rw [hstep, hd2]; omega⟩
      refine ⟨r, hr1, ?_⟩
      exact (rounds_cont (f := fun vs => lo273_1.dv ([Vu n] ++ vs)) hrd).trans hr2
theorem whole_ok {n : Nat} (hn : n < 18446744073709551616) : ∃ r, IsRoot n r ∧ val 273 [Vu n] = some [Vu r, Vb (decide (n - r * r = 0))] := by
  obtain ⟨r, h1, h2⟩ := whole_loop hn 32 (i := 0) (root := 0) (rest := 0) (by omega) (by omega) (by simp; omega) ⟨by simp, by simp; omega⟩
  refine ⟨r, h1, val_of tab273 ?_⟩
  have h3 : rounds (fun vs => lo273_1.dv ([Vu n] ++ vs)) [Vu 0, Vu 0, Vi 0] = some (.y (.ext 0) [Vu r, Vu (n - r * r)]) := h2
  unfold tr273
  simp only [TT.dv, List.map, den_u64_lit, den_i64]
  show (match rounds (fun vs => lo273_1.dv ([Vu n] ++ vs)) [Vu 0, Vu 0, Vi 0] with | some (.y x vs) => _ | _ => none) = _
  rw [h3]
  simp [KS.dv, TT.dv]

theorem small_round {n r s : Nat} (h : r + s < 4294967296) : lo137_1.dv [Vu n, Vu r, Vu s] =
    if s = 0 then some (.y (.ext 0) [Vu r]) else some (.y .cont [Vu (if (r + s) * (r + s) ≤ n then r + s else r), Vu (s / 2)]) := by
  have e1 : (B.quo .u64).den (Vu s) (Vu 2) = Vu (s / 2) := quo_u (by omega)
  have h1 : (r + s) % 18446744073709551616 = r + s := by omega
  have h2 : (r + s) * (r + s) % 18446744073709551616 = (r + s) * (r + s) := Nat.mod_eq_of_lt (Nat.lt_of_le_of_lt (Nat.mul_le_mul (Nat.le_of_lt_succ h) (Nat.le_of_lt_succ h)) (by omega))
  by_cases h0 : s = 0
  · subst h0; simp [lo137_1, TT.dv]
  · by_cases hc : (r + s) * (r + s) ≤ n
    · simp [lo137_1, TT.dv, KS.dv, h0, h1, h2, e1, hc, Nat.pos_of_ne_zero h0]
    · simp [lo137_1, TT.dv, KS.dv, h0, h1, h2, e1, hc, Nat.pos_of_ne_zero h0]
theorem small_loop {n : Nat} (hn : n < 18446744073709551616) : ∀ (k : Nat) {r : Nat}, k ≤ 32 → r % 2 ^ k = 0 → r + 2 ^ k ≤ 4294967296 → r * r ≤ n → n < (r + 2 ^ k) * (r + 2 ^ k) →
    ∃ r', IsRoot n r' ∧ rounds (fun vs => lo137_1.dv ([Vu n] ++ vs)) [Vu r, Vu (2 ^ k / 2)] = some (.y (.ext 0) [Vu r'])
  | 0, r, _, _, hb, h1, h2 => by
    refine ⟨r, ⟨h1, by simpa using h2⟩, rounds_exit ?_ (by simp)⟩
    show lo137_1.dv [Vu n, Vu r, Vu 0] = _
    rw [small_round (by omega), if_pos rfl]
  | k + 1, r, hk, hm, hb, h1, h2 => by
    have hp : 2 ^ (k + 1) = 2 * 2 ^ k := by rw [Nat.pow_succ]; omega
    have hpos : 0 < 2 ^ k := Nat.two_pow_pos k
    have hdiv : 2 ^ (k + 1) / 2 = 2 ^ k := by omega
    rw [hdiv]
    have hrd := small_round (n := n) (r := r) (s := 2 ^ k) (by omega)
    rw [if_neg (by omega)] at hrd
    have hm' : r % 2 ^ k = 0 := by
      rw [hp] at hm
      have := Nat.mod_mul_left_mod r 2 (2 ^ k)
      rw [hm] at this; simpa using this.symm
    by_cases hc : (r + 2 ^ k) * (r + 2 ^ k) ≤ n
    · rw [if_pos hc] at hrd
      obtain ⟨r', h3, h4⟩ := small_loop hn k (r := r + 2 ^ k) (by omega) (by rw [Nat.add_mod_right]; exact hm') (by omega) hc (by rw [Nat.add_assoc, ← Nat.two_mul, ← hp]; exact h2)
      refine ⟨r', h3, ?_⟩
      exact (rounds_cont (f := fun vs => lo137_1.dv ([Vu n] ++ vs)) hrd).trans h4
    · rw [if_neg hc] at hrd
      obtain ⟨r', h3, h4⟩ := small_loop hn k (r := r) (by omega) hm' (by omega) h1 (by omega)
      refine ⟨r', h3, ?_⟩
      exact (rounds_cont (f := fun vs => lo137_1.dv ([Vu n] ++ vs)) hrd).trans h4
theorem small_ok {n : Nat} (hn : n < 18446744073709551616) : ∃ r, IsRoot n r ∧ val 137 [Vu n] = some [Vu r] := by
  obtain ⟨r, h1, h2⟩ := small_loop hn 32 (r := 0) (by omega) (by simp) (by simp) (by simp) (by simpa using hn)
  refine ⟨r, h1, val_of tab137 ?_⟩
  have h3 : rounds (fun vs => lo137_1.dv ([Vu n] ++ vs)) [Vu 0, Vu 2147483648] = some (.y (.ext 0) [Vu r]) := h2
  unfold tr137
  simp only [TT.dv, List.map, den_u64_lit]
  show (match rounds (fun vs => lo137_1.dv ([Vu n] ++ vs)) [Vu 0, Vu 2147483648] with | some (.y x vs) => _ | _ => none) = _
  rw [h3]
  simp [KS.dv, TT.dv]
theorem law_RootWholes {n : Nat} (hn : n < 18446744073709551616) : val 18 [Vu n] = some [Vb true] := by
  obtain ⟨r, h1, h2⟩ := whole_ok hn
  obtain ⟨s, h3, h4⟩ := small_ok hn
  obtain rfl := h1.uniq h3
  have hsq : r * r % 18446744073709551616 = r * r := Nat.mod_eq_of_lt (Nat.lt_of_le_of_lt h1.1 hn)
  have hx : decide (n - r * r = 0) = decide (r * r = n) := by
    rw [decide_eq_decide]; have := h1.1; omega
  refine val_of tab18 ?_
  simp [tr18, TT.dv, h2, h4, awake_07, hsq, hx]
end Go.Proofs.Ytcjhfgjgmkfmnaa.Dx

/- root.long: the root of a number of two words. -/
namespace Go.Proofs.Ytcjhfgjgmkfmnaa.Dx
open Go

theorem long_round {n root rest : Nat} {i : Nat} (hi : i < 64) (hn : n < 18446744073709551616) (hr : root < 9223372036854775808) (hs : rest ≤ 2 * root) :
    let p := if i < 32 then n / 2 ^ (62 - 2 * i) % 4 else 0
    lo274_1.dv [Vu n, Vu root, Vu (rest / 18446744073709551616), Vu (rest % 18446744073709551616), Vi i] = some (.y .cont (if root * 4 + 1 ≤ rest * 4 + p then [Vu (2 * root + 1), Vu ((rest * 4 + p - (root * 4 + 1)) / 18446744073709551616), Vu ((rest * 4 + p - (root * 4 + 1)) % 18446744073709551616), Vi ((i + 1 : Nat) : Int)] else [Vu (2 * root), Vu ((rest * 4 + p) / 18446744073709551616), Vu ((rest * 4 + p) % 18446744073709551616), Vi ((i + 1 : Nat) : Int)])) := by
  intro p
  have hp : p < 4 := by show (if i < 32 then n / 2 ^ (62 - 2 * i) % 4 else 0) < 4; split <;> omega
  have ep : ¬ i < 32 → p = 0 := fun h => if_neg h
  have e1 : i < 32 → (B.sub .i64).den (Vi 62) ((B.mul .i64).den (Vi 2) (Vi i)) = Vi (62 - 2 * i) := fun h => by
    rw [mul_i (by omega) (by omega), sub_i (by omega) (by omega)]
  have e2 : i < 32 → (B.and .u64).den ((B.shr .u64).den (Vu n) (Vi (62 - 2 * i))) (Vu 3) = Vu p := fun h => by
    rw [shr_uI (s := 62 - 2 * i) (by omega), Nat.min_eq_left (by omega), and_3]
    show _ = Vu (if i < 32 then n / 2 ^ (62 - 2 * i) % 4 else 0); rw [if_pos h]
  generalize hpd : p = p' at *
  clear hpd
  have a1 : (B.or .u64).den ((B.shl .u64).den (Vu (rest % 18446744073709551616)) (Vu 2)) (Vu p') = Vu ((rest * 4 + p') % 18446744073709551616) := by
    have h1 : (B.shl .u64).den (Vu (rest % 18446744073709551616)) (Vu 2) = Vu (2 ^ 2 * (rest % 4611686018427387904)) := by rw [shl_uU]; exact congrArg Vu (by simp; omega)
    rw [h1, or_add (by omega) (by omega) (by omega)]; exact congrArg Vu (by omega)
  have a2 : (B.or .u64).den ((B.shl .u64).den (Vu (rest / 18446744073709551616)) (Vu 2)) ((B.shr .u64).den (Vu (rest % 18446744073709551616)) (Vu 62)) = Vu ((rest * 4 + p') / 18446744073709551616) := by
    have h1 : (B.shl .u64).den (Vu (rest / 18446744073709551616)) (Vu 2) = Vu (2 ^ 2 * (rest / 18446744073709551616)) := by rw [shl_uU]; exact congrArg Vu (by simp; omega)
    have h2 : (B.shr .u64).den (Vu (rest % 18446744073709551616)) (Vu 62) = Vu (rest % 18446744073709551616 / 4611686018427387904) := by rw [shr_uU]; rfl
    rw [h1, h2, or_add (by omega) (by omega) (by omega)]; exact congrArg Vu (by omega)
  have a3 : (B.or .u64).den ((B.shl .u64).den (Vu root) (Vu 2)) (Vu 1) = Vu ((root * 4 + 1) % 18446744073709551616) := by
    have h1 : (B.shl .u64).den (Vu root) (Vu 2) = Vu (2 ^ 2 * (root % 4611686018427387904)) := by rw [shl_uU]; exact congrArg Vu (by simp; omega)
    rw [h1, or_add (by omega) (by omega) (by omega)]; exact congrArg Vu (by omega)
  have a4 : (B.shr .u64).den (Vu root) (Vu 62) = Vu ((root * 4 + 1) / 18446744073709551616) := by rw [shr_uU]; exact congrArg Vu (by simp; omega)
  have a5 : (B.shl .u64).den (Vu root) (Vu 1) = Vu (2 * root) := by rw [shl_uU]; exact congrArg Vu (by simp; omega)
  have a6 : (B.or .u64).den (Vu (2 * root)) (Vu 1) = Vu (2 * root + 1) := by
    have := or_add (a := root) (b := 1) (i := 1) (by omega) (by omega) (by omega)
    simpa using this
  have a7 : (B.add .i64).den (Vi i) (Vi 1) = Vi ((i + 1 : Nat) : Int) := by rw [add_i (by omega) (by omega)]; rfl
  generalize hX : rest * 4 + p' = X at *
  generalize hY : root * 4 + 1 = Y at *
  have hXb : X < 2 ^ 80 := by omega
  have hYb : Y < 2 ^ 80 := by omega
  have sb : ∀ a b c : Nat, T3.sborrow.den (Vu a) (Vu b) (Vu c) = Vu (if a < b + c then 1 else 0) := fun a b c => by
    by_cases h : a < b + c <;> simp [T3.den, PV.int, Vu, h]
  have ss : ∀ a b c : Nat, b + c ≤ a + 18446744073709551616 → T3.ssub.den (Vu a) (Vu b) (Vu c) = Vu ((a + 18446744073709551616 - b - c) % 18446744073709551616) := fun a b c h => by
    simp only [T3.den, PV.int, Vu, Int.toNat_natCast]; rfl
  have b1 := sb (X % 18446744073709551616) (Y % 18446744073709551616) 0
  have lec : ∀ q : Nat, q ≤ 1 → B.le.den (Vu q) (Vu 1) = Vb true := fun q h => by simp [h]
  generalize hbw : (if X % 18446744073709551616 < Y % 18446744073709551616 + 0 then 1 else 0) = bw at *
  have hbw1 : bw ≤ 1 := by subst hbw; split <;> omega
  have b2 := sb (X / 18446744073709551616) (Y / 18446744073709551616) bw
  have s1 := ss (X % 18446744073709551616) (Y % 18446744073709551616) 0 (by omega)
  have s2 := ss (X / 18446744073709551616) (Y / 18446744073709551616) bw (by omega)
  have hi' : (i : Int) < 64 := by omega
  by_cases hc : Y ≤ X
  · have c1 : (if X / 18446744073709551616 < Y / 18446744073709551616 + bw then 1 else 0) = 0 := by
      subst hbw; rw [if_neg]; split <;> omega
    have c2 : (X / 18446744073709551616 + 18446744073709551616 - Y / 18446744073709551616 - bw) % 18446744073709551616 = (X - Y) / 18446744073709551616 := by
      subst hbw; split <;> omega
    have c3 : (X % 18446744073709551616 + 18446744073709551616 - Y % 18446744073709551616 - 0) % 18446744073709551616 = (X - Y) % 18446744073709551616 := by omega
    rw [c1] at b2
    rw [c2] at s2
    rw [c3] at s1
    rw [if_pos hc]
    by_cases h32 : i < 32
    · have h32' : (i : Int) < 32 := by omega
      simp [-shl_u_lit, -shr_u_lit, lo274_1, TT.dv, KS.dv, hi', h32', e1 h32, e2 h32, a1, a2, a3, a4, a5, a6, a7, b1, b2, s1, s2, hbw1, show 2 * (i : Int) ≤ 62 by omega]
    · have h32' : ¬ (i : Int) < 32 := by omega
      have hp0 : p' = 0 := ep h32
      subst hp0
      simp [-shl_u_lit, -shr_u_lit, lo274_1, TT.dv, KS.dv, hi', h32', a1, a2, a3, a4, a5, a6, a7, b1, b2, s1, s2, hbw1]
  · have c1 : (if X / 18446744073709551616 < Y / 18446744073709551616 + bw then 1 else 0) = 1 := by
      subst hbw; rw [if_pos]; split <;> omega
    rw [c1] at b2
    rw [if_neg hc]
    by_cases h32 : i < 32
    · have h32' : (i : Int) < 32 := by omega
      simp [-shl_u_lit, -shr_u_lit, lo274_1, TT.dv, KS.dv, hi', h32', e1 h32, e2 h32, a1, a2, a3, a4, a5, a7, b1, b2, hbw1, show 2 * (i : Int) ≤ 62 by omega]
    · have h32' : ¬ (i : Int) < 32 := by omega
      have hp0 : p' = 0 := ep h32
      subst hp0
      simp [-shl_u_lit, -shr_u_lit, lo274_1, TT.dv, KS.dv, hi', h32', a1, a2, a3, a4, a5, a7, b1, b2, hbw1]
theorem long_loop {n : Nat} (hn : n < 4611686018427387904) : ∀ (k : Nat) {i : Nat} {root rest : Nat}, i + k = 64 → rest = n * 2 ^ 64 / 2 ^ (128 - 2 * i) - root * root → IsRoot (n * 2 ^ 64 / 2 ^ (128 - 2 * i)) root →
    ∃ r, IsRoot (n * 2 ^ 64) r ∧ rounds (fun vs => lo274_1.dv (Vu n :: vs)) [Vu root, Vu (rest / 18446744073709551616), Vu (rest % 18446744073709551616), Vi i] = some (.y (.ext 0) [Vu r, Vu ((n * 2 ^ 64 - r * r) / 18446744073709551616), Vu ((n * 2 ^ 64 - r * r) % 18446744073709551616)])
  | 0, i, root, rest, hk, hs, hroot => by
    obtain rfl : i = 64 := by omega
    simp only [Nat.mul_one, show 128 - 2 * 64 = 0 by rfl, Nat.pow_zero, Nat.div_one] at hs hroot
    refine ⟨root, hroot, rounds_exit ?_ (by simp)⟩
    subst hs
    simp [lo274_1, TT.dv]
  | k + 1, i, root, rest, hk, hs, hroot => by
    have hi : i < 64 := by omega
    have hr63 : root < 9223372036854775808 := by
      by_cases h : root < 9223372036854775808
      · exact h
      · have h1 := hroot.1
        have h2 : n * 2 ^ 64 / 2 ^ (128 - 2 * i) ≤ n * 2 ^ 64 := Nat.div_le_self _ _
        have h3 := Nat.mul_le_mul (show 9223372036854775808 ≤ root by omega) (show 9223372036854775808 ≤ root by omega)
        omega
    obtain ⟨h1, h2⟩ := hroot
    have hx : (root + 1) * (root + 1) = root * root + 2 * root + 1 := by rw [Nat.add_mul, Nat.mul_add]; omega
    have hle : rest ≤ 2 * root := by omega
    have hrd := long_round (n := n) (root := root) (rest := rest) (i := i) hi (by omega) hr63 hle
    obtain ⟨b, hb⟩ : ∃ b, b = if i < 32 then n / 2 ^ (62 - 2 * i) % 4 else 0 := ⟨_, rfl⟩
    simp only [← hb] at hrd
    have hstep : n * 2 ^ 64 / 2 ^ (128 - 2 * (i + 1)) = 4 * (n * 2 ^ 64 / 2 ^ (128 - 2 * i)) + b := by
      have e1 : n * 2 ^ 64 / 2 ^ (128 - 2 * i) = n * 2 ^ 64 / 2 ^ (128 - 2 * (i + 1)) / 4 := by
        rw [show 128 - 2 * i = (128 - 2 * (i + 1)) + 2 by omega, Nat.pow_add, ← Nat.div_div_eq_div_mul]
      have e2 : n * 2 ^ 64 / 2 ^ (128 - 2 * (i + 1)) % 4 = b := by
        by_cases h : i < 32
        · rw [hb, if_pos h, show 128 - 2 * (i + 1) = 64 + (62 - 2 * i) by omega, Nat.pow_add, ← Nat.div_div_eq_div_mul, Nat.mul_div_cancel _ (by omega)]
        · rw [hb, if_neg h]
          have : n * 2 ^ 64 = n * 2 ^ (2 * i - 62) * 2 ^ (128 - 2 * (i + 1)) := by
            rw [Nat.mul_assoc, ← Nat.pow_add]; congr 2; omega
          rw [this, Nat.mul_div_cancel _ (Nat.two_pow_pos _), show 2 * i - 62 = (2 * i - 64) + 2 by omega, Nat.pow_add, ← Nat.mul_assoc]
          exact Nat.mul_mod_left _ _
      rw [e1]; omega
    have hb4 : b < 4 := by subst hb; split <;> omega
    clear hb
    by_cases hc : root * 4 + 1 ≤ rest * 4 + b
    · rw [if_pos hc] at hrd
      have hd : (2 * root + 1) * (2 * root + 1) = 4 * (root * root) + 4 * root + 1 := by
        rw [Nat.add_mul, Nat.mul_add, Nat.mul_mul_mul_comm]; omega
      have hd2 : (2 * root + 1 + 1) * (2 * root + 1 + 1) = 4 * (root * root) + 8 * root + 4 := by
        rw [show 2 * root + 1 + 1 = 2 * (root + 1) by omega, Nat.mul_mul_mul_comm, hx]; omega
      obtain ⟨r, hr1, hr2⟩ := long_loop hn k (i := i + 1) (root := 2 * root + 1) (rest := rest * 4 + b - (root * 4 + 1)) (by omega) (by rw [hstep, hd]; omega) ⟨by rw [hstep, hd]; omega, by rw [hstep, hd2]; omega⟩
      exact ⟨r, hr1, (rounds_cont (f := fun vs => lo274_1.dv (Vu n :: vs)) hrd).trans hr2⟩
    · rw [if_neg hc] at hrd
      have hd : (2 * root) * (2 * root) = 4 * (root * root) := by rw [Nat.mul_mul_mul_comm]
      have hd2 : (2 * root + 1) * (2 * root + 1) = 4 * (root * root) + 4 * root + 1 := by
        rw [Nat.add_mul, Nat.mul_add, Nat.mul_mul_mul_comm]; omega
      obtain ⟨r, hr1, hr2⟩ := long_loop hn k (i := i + 1) (root := 2 * root) (rest := rest * 4 + b) (by omega) (by rw [hstep, hd]; omega) ⟨by rw [hstep, hd]; omega, by rw [hstep, hd2]; omega⟩
      exact ⟨r, hr1, (rounds_cont (f := fun vs => lo274_1.dv (Vu n :: vs)) hrd).trans hr2⟩
theorem long_ok {n : Nat} (hn : n < 4611686018427387904) : ∃ r, IsRoot (n * 2 ^ 64) r ∧ val 274 [Vu n] = some [Vu r, Vb (decide (r * r = n * 2 ^ 64))] := by
  obtain ⟨r, h1, h2⟩ := long_loop hn 64 (i := 0) (root := 0) (rest := 0) (by omega) (by rw [Nat.div_eq_of_lt (by simp; omega)]) ⟨by simp, by rw [Nat.div_eq_of_lt (by simp; omega)]; omega⟩
  refine ⟨r, h1, val_of tab274 ?_⟩
  simp only [Nat.zero_div, Nat.zero_mod, Int.natCast_zero] at h2
  have hd : (decide ((n * 2 ^ 64 - r * r) / 18446744073709551616 = 0) && decide ((n * 2 ^ 64 - r * r) % 18446744073709551616 = 0)) = decide (r * r = n * 2 ^ 64) := by
    have := h1.1
    rw [← Bool.decide_and, decide_eq_decide]; omega
  generalize (n * 2 ^ 64 - r * r) / 18446744073709551616 = q1 at *
  generalize (n * 2 ^ 64 - r * r) % 18446744073709551616 = q2 at *
  rw [← hd]
  simp [tr274, TT.dv, KS.dv, h2]
end Go.Proofs.Ytcjhfgjgmkfmnaa.Dx

/- Square roots, rounded: one answer however it is reckoned. -/
namespace Go.Proofs.Ytcjhfgjgmkfmnaa.Dx
open Go

def isq (n : Nat) : Nat := if n = 0 then 0 else if (2 * isq (n / 4) + 1) * (2 * isq (n / 4) + 1) ≤ n then 2 * isq (n / 4) + 1 else 2 * isq (n / 4)
termination_by n
decreasing_by all_goals omega
theorem isq_ok (n : Nat) : IsRoot n (isq n) := by
  induction n using Nat.strongRecOn with
  | ind n ih =>
    by_cases h : n = 0
    · subst h; rw [isq]; exact ⟨by simp, by simp⟩
    · obtain ⟨h1, h2⟩ := ih (n / 4) (by omega)
      rw [isq, if_neg h]
      generalize isq (n / 4) = r at *
      have e1 : (2 * r) * (2 * r) = 4 * (r * r) := by rw [Nat.mul_mul_mul_comm]
      have e2 : (r + 1) * (r + 1) = r * r + 2 * r + 1 := by rw [Nat.add_mul, Nat.mul_add]; omega
      have e3 : (2 * r + 1 + 1) * (2 * r + 1 + 1) = 4 * ((r + 1) * (r + 1)) := by rw [show 2 * r + 1 + 1 = 2 * (r + 1) by omega, Nat.mul_mul_mul_comm]
      split
      · rename_i hc; exact ⟨hc, by omega⟩
      · rename_i hc; exact ⟨by omega, by omega⟩
def bit (b : Bool) : Nat := b.toNat
def stk (N w : Nat) : Nat := 2 * w + (decide (w * w ≠ N)).toNat
theorem lt_of_sq {a b : Nat} (h : a * a < b * b) : a < b := by
  by_cases hh : b ≤ a
  · have := Nat.mul_le_mul hh hh; omega
  · omega
theorem sqrt_scale {N w w' j : Nat} {p : Int} (h1 : IsRoot N w) (h2 : IsRoot (N * 4 ^ j) w') (hw : w ≠ 0) (hp : p < lastP w p) :
    nearR (stk (N * 4 ^ j) w') (p - j - 1) = nearR (stk N w) (p - 1) ∧ exq (stk (N * 4 ^ j) w') (p - j - 1) = exq (stk N w) (p - 1) := by
  have h4 : (4 : Nat) ^ j = 2 ^ j * 2 ^ j := by rw [show (4 : Nat) = 2 * 2 by decide, Nat.mul_pow]
  have hP := Nat.two_pow_pos j
  have sq : ∀ a, (a * 2 ^ j) * (a * 2 ^ j) = a * a * 4 ^ j := fun a => by rw [h4, Nat.mul_mul_mul_comm]
  obtain ⟨a1, a2⟩ := h1
  have b1 : w * 2 ^ j ≤ w' := by
    have : (w * 2 ^ j) * (w * 2 ^ j) < (w' + 1) * (w' + 1) := by rw [sq]; exact Nat.lt_of_le_of_lt (Nat.mul_le_mul_right _ a1) h2.2
    have := lt_of_sq this; omega
  have b2 : w' < (w + 1) * 2 ^ j := by
    have : w' * w' < ((w + 1) * 2 ^ j) * ((w + 1) * 2 ^ j) := by rw [sq]; exact Nat.lt_of_le_of_lt h2.1 (Nat.mul_lt_mul_of_pos_right a2 (by rw [h4]; exact Nat.mul_pos hP hP))
    exact lt_of_sq this
  obtain ⟨r, hr⟩ : ∃ r, w' = w * 2 ^ j + r := ⟨w' - w * 2 ^ j, by omega⟩
  have hrlt : r < 2 ^ j := by rw [Nat.add_mul, Nat.one_mul] at b2; omega
  by_cases he : w * w = N
  · have hw' : w' = w * 2 ^ j := by
      refine h2.uniq ⟨by rw [sq, he]; exact Nat.le_refl _, ?_⟩
      have : (w * 2 ^ j) * (w * 2 ^ j) < (w * 2 ^ j + 1) * (w * 2 ^ j + 1) := Nat.mul_lt_mul'' (by omega) (by omega)
      rwa [sq, he] at this
    have e1 : stk N w = 2 * w := by unfold stk; simp [he]
    have e2 : stk (N * 4 ^ j) w' = 2 * w * 2 ^ j := by unfold stk; rw [hw', sq, he]; simp [Nat.mul_assoc]
    rw [e1, e2, show p - (j : Int) - 1 = (p - 1) - j by omega]
    exact ⟨(near_scale true _ _ j).2.2, exq_scale _ _ j⟩
  · have e1 : stk N w = 2 * w + 1 := by unfold stk; simp [he]
    have e2 : stk (N * 4 ^ j) w' = w * 2 ^ (j + 1) + (2 * r + (decide (w' * w' ≠ N * 4 ^ j)).toNat) := by
      unfold stk; rw [hr, Nat.pow_succ, ← Nat.mul_assoc]; omega
    have hb : (decide (w' * w' ≠ N * 4 ^ j)).toNat ≤ 1 := by cases decide (w' * w' ≠ N * 4 ^ j) <;> simp
    have h0 : 0 < 2 * r + (decide (w' * w' ≠ N * 4 ^ j)).toNat := by
      by_cases hr0 : r = 0
      · have : w' * w' ≠ N * 4 ^ j := fun hh => by
          rw [hr, hr0, Nat.add_zero, sq] at hh
          exact he (Nat.eq_of_mul_eq_mul_right (by rw [h4]; exact Nat.mul_pos hP hP) hh)
        simp [this]
      · omega
    rw [e1, e2, show p - (j : Int) - 1 = p - ((j + 1 : Nat) : Int) by omega]
    exact near_sticky hw hp h0 (by rw [Nat.pow_succ]; omega)
theorem place_big {w : Nat} (h : 9007199254740992 ≤ w) (p : Int) : p < lastP w p := by
  unfold lastP
  have : ¬ w.log2 < 53 := fun hh => by rw [Nat.log2_lt (by omega)] at hh; omega
  omega
theorem sq_same {m s1 s2 w1 w2 : Nat} {e p1 p2 : Int} (h1 : e - s1 = 2 * p1) (h2 : e - s2 = 2 * p2) (r1 : IsRoot (m * 2 ^ s1) w1) (r2 : IsRoot (m * 2 ^ s2) w2) (b1 : 9007199254740992 ≤ w1) (b2 : 9007199254740992 ≤ w2) :
    nearR (stk (m * 2 ^ s1) w1) (p1 - 1) = nearR (stk (m * 2 ^ s2) w2) (p2 - 1) ∧ exq (stk (m * 2 ^ s1) w1) (p1 - 1) = exq (stk (m * 2 ^ s2) w2) (p2 - 1) := by
  have main : ∀ {s1 s2 w1 w2 : Nat} {p1 p2 : Int}, s1 ≤ s2 → e - s1 = 2 * p1 → e - s2 = 2 * p2 → IsRoot (m * 2 ^ s1) w1 → IsRoot (m * 2 ^ s2) w2 → 9007199254740992 ≤ w1 →
      nearR (stk (m * 2 ^ s2) w2) (p2 - 1) = nearR (stk (m * 2 ^ s1) w1) (p1 - 1) ∧ exq (stk (m * 2 ^ s2) w2) (p2 - 1) = exq (stk (m * 2 ^ s1) w1) (p1 - 1) := by
    intro s1 s2 w1 w2 p1 p2 hle h1 h2 r1 r2 b1
    obtain ⟨j, hj⟩ : ∃ j : Nat, (j : Int) = p1 - p2 := ⟨(p1 - p2).toNat, by omega⟩
    have hs : m * 2 ^ s2 = m * 2 ^ s1 * 4 ^ j := by
      rw [show (4 : Nat) = 2 ^ 2 by decide, ← Nat.pow_mul, Nat.mul_assoc, ← Nat.pow_add]; congr 2; omega
    rw [hs] at r2 ⊢
    have := sqrt_scale (p := p1) r1 r2 (by omega) (place_big b1 p1)
    rw [show p1 - (j : Int) - 1 = p2 - 1 by omega] at this
    exact this
  rcases Nat.le_total s1 s2 with h | h
  · have := main h h1 h2 r1 r2 b1; exact ⟨this.1.symm, this.2.symm⟩
  · exact main h h2 h1 r2 r1 b2
def sqS (e : Int) : Nat := if e % 2 = 0 then 110 else 111
def sqN (m : Nat) (e : Int) : Nat := stk (m * 2 ^ sqS e) (isq (m * 2 ^ sqS e))
def sqP (e : Int) : Int := (e - sqS e) / 2 - 1
theorem root_ge {N w k : Nat} (h : IsRoot N w) (hk : k * k ≤ N) : k ≤ w := by
  have := lt_of_sq (Nat.lt_of_le_of_lt hk h.2); omega
theorem sq_any {m s w : Nat} {e p : Int} (hm : m ≠ 0) (h : e - s = 2 * p) (r : IsRoot (m * 2 ^ s) w) (b : 9007199254740992 ≤ w) :
    nearR (stk (m * 2 ^ s) w) (p - 1) = nearR (sqN m e) (sqP e) ∧ exq (stk (m * 2 ^ s) w) (p - 1) = exq (sqN m e) (sqP e) := by
  have hs : e - sqS e = 2 * ((e - sqS e) / 2) := by unfold sqS; split <;> omega
  have hge : 9007199254740992 ≤ isq (m * 2 ^ sqS e) := by
    refine root_ge (isq_ok _) ?_
    have h1 : 2 ^ 110 ≤ 2 ^ sqS e := Nat.pow_le_pow_right (by omega) (by unfold sqS; split <;> omega)
    have h2 := Nat.mul_le_mul (show 1 ≤ m by omega) h1
    have h3 : (9007199254740992 : Nat) * 9007199254740992 ≤ 2 ^ 110 := by decide
    omega
  exact sq_same h hs r (isq_ok _) b hge
/-- The order of rungs. -/
theorem RHE_mono {n n' : Nat} (d : Nat) (h : n ≤ n') : RHE n d ≤ RHE n' d := by
  unfold RHE
  have hp := Nat.two_pow_pos d
  have h1 := Nat.div_add_mod n (2 ^ d)
  have h2 := Nat.div_add_mod n' (2 ^ d)
  have h3 := Nat.mod_lt n hp
  have h4 := Nat.mod_lt n' hp
  have h5 : n / 2 ^ d ≤ n' / 2 ^ d := Nat.div_le_div_right h
  by_cases he : n / 2 ^ d = n' / 2 ^ d
  · rw [he] at h1 ⊢
    have h6 : n % 2 ^ d ≤ n' % 2 ^ d := by omega
    have : (if 2 ^ d < 2 * (n % 2 ^ d) ∨ 2 ^ d = 2 * (n % 2 ^ d) ∧ n' / 2 ^ d % 2 = 1 then 1 else 0) ≤ (if 2 ^ d < 2 * (n' % 2 ^ d) ∨ 2 ^ d = 2 * (n' % 2 ^ d) ∧ n' / 2 ^ d % 2 = 1 then 1 else 0) := by
      split <;> split <;> omega
    omega
  · split <;> split <;> omega
theorem rung_mono {n n' : Nat} (p : Int) (h : n ≤ n') : rung n p ≤ rung n' p := by
  by_cases h0 : n = 0
  · subst h0; rw [rung_zero]; omega
  · have h0' : n' ≠ 0 := by omega
    have hlog : n.log2 ≤ n'.log2 := by
      have := bl_mono h; rw [log2_bl h0, log2_bl h0'] at this; omega
    have k := kept_bounds (n := n) (p := p) h0
    have k' := kept_bounds (n := n') (p := p) h0'
    have hl : lastP n p ≤ lastP n' p := by unfold lastP; omega
    have hl0 : -1074 ≤ lastP n p := by unfold lastP; omega
    unfold rung
    rw [if_neg h0, if_neg h0']
    by_cases he : lastP n p = lastP n' p
    · rw [he]
      exact Nat.add_le_add_left (RHE_mono _ (Nat.mul_le_mul_right _ h)) _
    · have h1 := k'.2 (by omega)
      have h2 := k.1
      have h3 : (lastP n p + 1074).toNat + 1 ≤ (lastP n' p + 1074).toNat := by omega
      have h4 := Nat.mul_le_mul_right two52 h3
      rw [Nat.add_mul, Nat.one_mul] at h4
      omega
theorem nearR_mono {n n' : Nat} (p : Int) (h : n ≤ n') : nearR n p ≤ nearR n' p := by
  have := rung_mono p h
  unfold nearR; omega

/-! ### root.Sqrt -/
theorem halve_loop {x0 x1 x2 x3 x4 x5 x6 : PV} : ∀ (n : Nat) {R : Nat} {E : Int} {more : Bool}, R = n → R < 18446744073709551616 → -9000000000 ≤ E → E + 2 * bl R ≤ 9000000000 → ∃ (R' : Nat) (j r : Nat), R = R' * 2 ^ j + r ∧ r < 2 ^ j ∧ R' < 4611686018427387904 ∧ (0 < j → 2305843009213693952 ≤ R') ∧
    rounds (fun vs => lo272_1.dv (x0 :: x1 :: x2 :: x3 :: x4 :: x5 :: x6 :: vs)) [Vi E, Vu R, Vb more] = some (.y (.ext 5) [Vi (E + 2 * j), Vu R', Vb (more || decide (r ≠ 0))]) := by
  intro n
  induction n using Nat.strongRecOn with
  | ind n ih =>
    intro R E more hmn hm he he2
    by_cases h1 : 4611686018427387904 ≤ R
    · have hbh := bl_half (n := R) (by omega)
      obtain ⟨R', j, r, r2, r3, r4, r5, r6⟩ := ih (R / 2) (by omega) (E := E + 2) (more := more || decide (R % 2 = 1)) rfl (by omega) (by omega) (by omega)
      refine ⟨R', j + 1, 2 * r + R % 2, ?_, ?_, r4, ?_, ?_⟩
      · rw [Nat.pow_succ, ← Nat.mul_assoc]; omega
      · rw [Nat.pow_succ]; omega
      · intro _
        by_cases hj : j = 0
        · subst hj; simp at r2 r3; omega
        · exact r5 (by omega)
      · have e1 : (B.add .i64).den (Vi E) (Vi 2) = Vi (E + 2) := add_i (by omega) (by omega)
        have e3 : (more || decide (2 * r + R % 2 ≠ 0)) = ((more || decide (R % 2 = 1)) || decide (r ≠ 0)) := by
          cases more
          · simp only [Bool.false_or]
            by_cases q1 : R % 2 = 1 <;> by_cases q2 : r = 0 <;> simp [q1, q2] <;> omega
          · simp
        rw [e3, show E + 2 * ((j + 1 : Nat) : Int) = E + 2 + 2 * j by omega]
        refine Eq.trans (rounds_cont ?_) r6
        simp [lo272_1, TT.dv, h1, e1]
    · refine ⟨R, 0, 0, by simp, by simp, by omega, by omega, rounds_exit ?_ (by simp)⟩
      simp [lo272_1, TT.dv, h1]
def sqrtV (b : Nat) : Nat := if nanB b then nan0 else if fMag b = 0 ∧ fPow b = 0 ∨ b = infR then b else if fNeg b then nan0 else nearV false (sqN (fMag b) (fPl b)) (sqP (fPl b))
def sqrtF (b : Nat) : Nat := if nanB b then 0 else if fMag b = 0 ∧ fPow b = 0 ∨ b = infR then 0 else if fNeg b then 16 else nearF (sqN (fMag b) (fPl b)) (sqP (fPl b))
theorem sqrt_ok {b : Nat} (hb : b < 18446744073709551616) : val 272 [Vu b] = some [Vu (sqrtV b), Vy (sqrtF b)] := by
  refine val_of tab272 ?_
  have h1 := kind_ok b
  have h2 := parts_ok b
  have h3 := sign_ok b
  unfold sqrtV sqrtF
  by_cases c1 : nanB b
  · have hk := (kind_nan b).2 c1
    rw [hk] at h1
    simp [tr272, TT.dv, KS.dv, h1, c1, nan0]
  · have hk4 : ¬ fKind b = 4 := fun h => c1 ((kind_nan b).1 h)
    rw [if_neg c1, if_neg c1]
    by_cases c2 : fMag b = 0 ∧ fPow b = 0
    · have hk := (kind_zero b).2 ⟨c2.2, ((mag_zero b).1 c2.1).2⟩
      rw [hk] at h1
      simp [tr272, TT.dv, KS.dv, h1, c2]
    · have hk0 : ¬ fKind b = 0 := fun h => c2 ⟨(mag_zero b).2 ((kind_zero b).1 h), ((kind_zero b).1 h).1⟩
      by_cases c3 : b = infR
      · rw [if_pos (.inr c3), if_pos (.inr c3)]
        unfold infR at c3
        simp [tr272, TT.dv, KS.dv, h1, hk4, hk0, c3] at h1 hk4 hk0 ⊢
        simp [h1, hk4, hk0]
      · have c3' : ¬ b = 9218868437227405312 := c3
        have c23 : ¬ (fMag b = 0 ∧ fPow b = 0 ∨ b = infR) := by rw [not_or]; exact ⟨c2, c3⟩
        rw [if_neg c23, if_neg c23]
        cases c4 : fNeg b
        · have hm0 : fMag b ≠ 0 := fun h => c2 ⟨h, ((mag_zero b).1 h).1⟩
          have hp0 : fPow b ≠ 2047 := fun h => by
            have hf : fFrac b = 0 := by unfold nanB at c1; omega
            apply c3
            unfold infR
            unfold fNeg at c4; unfold fPow at h; unfold fFrac at hf
            simp at c4
            omega
          obtain ⟨p1, p2⟩ := fPl_bd b
          have hm := fMag_lt b
          rw [c4] at h3
          generalize fMag b = m at *
          generalize fPl b = e at *
          have hbl : bl m ≤ 53 := bl_lt.2 hm
          have hbl1 := bl_pos hm0
          have hlz : val 331 [Vu m] = some [Vi (64 - bl m)] := by
            refine val_of tab331 ?_
            have := len64_ok (n := m) (by omega)
            have e1 : (B.sub .i64).den (Vi 64) (Vi (bl m)) = Vi (64 - bl m) := sub_i (by omega) (by omega)
            simp [tr331, TT.dv, this, e1]
          have a1 : (B.sub .i64).den (Vi (64 - bl m)) (Vi 2) = Vi (62 - bl m) := by rw [sub_i (by omega) (by omega)]; exact congrArg Vi (by omega)
          have a2 : (B.sub .i64).den (Vi e) (Vi (62 - bl m)) = Vi (e - (62 - bl m)) := sub_i (by omega) (by omega)
          have a3 : (B.sub .i64).den (Vi (62 - bl m)) (Vi 1) = Vi (61 - bl m) := by rw [sub_i (by omega) (by omega)]; exact congrArg Vi (by omega)
          have hrem : B.ne.den ((B.rem .i64).den (Vi (e - (62 - bl m))) (Vi 2)) (Vi 0) = Vb (decide ((e - (62 - bl m)) % 2 ≠ 0)) := by
            show Vb ((e - (62 - (bl m : Int))).tmod 2 != 0) = _
            rw [Bo_inj]
            have : (e - (62 - (bl m : Int))).tmod 2 = 0 ↔ (e - (62 - (bl m : Int))) % 2 = 0 := by rw [← Int.dvd_iff_tmod_eq_zero, ← Int.dvd_iff_emod_eq_zero]
            by_cases hh : (e - (62 - (bl m : Int))) % 2 = 0
            · rw [this.2 hh, hh]; rfl
            · have h' : ¬ (e - (62 - (bl m : Int))).tmod 2 = 0 := fun h => hh (this.1 h)
              simp [h', hh]
          obtain ⟨s, hs1, hs2, hs3⟩ : ∃ s : Nat, (s : Int) = (if (e - (62 - (bl m : Int))) % 2 ≠ 0 then 61 - (bl m : Int) else 62 - bl m) ∧ (e - s) % 2 = 0 ∧ s ≤ 62 := by
            refine ⟨(if (e - (62 - (bl m : Int))) % 2 ≠ 0 then 61 - (bl m : Int) else 62 - bl m).toNat, ?_, ?_, ?_⟩ <;> split <;> omega
          have hM : m * 2 ^ s < 4611686018427387904 ∧ 1152921504606846976 ≤ m * 2 ^ s := by
            have := bl_shl hm0 s
            have hh : bl (m * 2 ^ s) ≤ 62 ∧ ¬ bl (m * 2 ^ s) ≤ 60 := by rw [this]; split at hs1 <;> omega
            rw [bl_lt, bl_lt] at hh
            simpa using hh
          have a4 : (B.shl .u64).den (Vu m) (Vi s) = Vu (m * 2 ^ s) := by rw [shl_uI rfl, Nat.min_eq_left (by omega), Nat.mod_eq_of_lt (by omega)]
          have a5 : (B.sub .i64).den (Vi e) (Vi s) = Vi (e - s) := sub_i (by omega) (by omega)
          obtain ⟨R, hR, hlong⟩ := long_ok (n := m * 2 ^ s) hM.1
          have hRb : R < 9223372036854775808 := by
            have h5 := hR.1
            have : R * R < 9223372036854775808 * 9223372036854775808 := by omega
            exact lt_of_sq this
          have hRl : 2305843009213693952 ≤ R := root_ge hR (by omega)
          have hblR : bl R ≤ 64 := bl_lt.2 (by omega)
          obtain ⟨R', j, r, t1, t2, t3, t4, t5⟩ := halve_loop (x0 := Vu b) (x1 := Vu m) (x2 := Vi e) (x3 := Vi (64 - bl m)) (x4 := Vi s) (x5 := Vu R) (x6 := Vb (decide (R * R = m * 2 ^ s * 2 ^ 64))) R (R := R) (E := e - s) (more := !decide (R * R = m * 2 ^ s * 2 ^ 64)) rfl (by omega) (by omega) (by omega)
          have hj1 : j ≤ 1 := by
            by_cases hj : j ≤ 1
            · exact hj
            · have h5 := t4 (by omega)
              have h6 := Nat.mul_le_mul h5 (Nat.pow_le_pow_right (show 0 < 2 by omega) (show 2 ≤ j by omega))
              omega
          have hR'l : 2305843009213693952 ≤ R' := by
            by_cases hj : j = 0
            · subst hj; simp at t1 t2; omega
            · exact t4 (by omega)
          -- the place of the root
          obtain ⟨q, hq⟩ : ∃ q : Int, e - s = 2 * q := ⟨(e - s) / 2, by omega⟩
          have a6 : (B.sub .i64).den ((B.quo .i64).den (Vi (e - s + 2 * j)) (Vi 2)) (Vi 32) = Vi (q + j - 32) := by
            have : (B.quo .i64).den (Vi (e - s + 2 * j)) (Vi 2) = Vi (q + j) := by
              show Vi (IntKind.i64.wrap ((e - s + 2 * (j : Int)).tdiv 2)) = _
              rw [hq, ← Int.mul_add, Int.mul_tdiv_cancel_left _ (by omega), wrap_i64_of (by omega) (by omega)]
            rw [this, sub_i (by omega) (by omega)]
          have hsq := sq_any (m := m) (s := s + 64) (w := R) (e := e) (p := q - 32) hm0 (by omega) (by rw [Nat.pow_add, ← Nat.mul_assoc]; exact hR) (by omega)
          rw [Nat.pow_add, ← Nat.mul_assoc] at hsq
          have hpl := place_big (w := R') (by omega) (q + j - 32)
          obtain ⟨mo, hmo⟩ : ∃ mo, ((!decide (R * R = m * 2 ^ s * 2 ^ 64)) || decide (r ≠ 0)) = mo := ⟨_, rfl⟩
          have hn := near_ok (neg := false) (more := mo) (m := R') (e := q + j - 32) (by omega) (by omega) (by omega) (fun _ => .inr ⟨by omega, hpl⟩)
          have hVF : nearR (2 * R' + mo.toNat) (q + j - 32 - 1) = nearR (stk (m * 2 ^ s * 2 ^ 64) R) (q - 32 - 1) ∧ exq (2 * R' + mo.toNat) (q + j - 32 - 1) = exq (stk (m * 2 ^ s * 2 ^ 64) R) (q - 32 - 1) := by
            unfold stk
            by_cases hm1 : mo = true
            · subst hm1
              have hb1 : (decide (R * R ≠ m * 2 ^ s * 2 ^ 64)).toNat ≤ 1 := by cases decide (R * R ≠ m * 2 ^ s * 2 ^ 64) <;> simp
              have := near_sticky (n := R') (p := q + j - 32) (j := j + 1) (r := 2 * r + (decide (R * R ≠ m * 2 ^ s * 2 ^ 64)).toNat) (by omega) hpl (by
                by_cases hr0 : r = 0
                · subst hr0
                  simp at hmo
                  simp [hmo]
                · omega) (by rw [Nat.pow_succ 2 j]; omega)
              rw [show q + (j : Int) - 32 - ((j + 1 : Nat) : Int) = q - 32 - 1 by omega, show R' * 2 ^ (j + 1) + (2 * r + (decide (R * R ≠ m * 2 ^ s * 2 ^ 64)).toNat) = 2 * R + (decide (R * R ≠ m * 2 ^ s * 2 ^ 64)).toNat by rw [Nat.pow_succ 2 j, ← Nat.mul_assoc]; omega] at this
              exact ⟨this.1.symm, this.2.symm⟩
            · have hmf : mo = false := by cases mo <;> simp_all
              rw [hmf] at hmo
              simp at hmo
              obtain ⟨g1, g2⟩ := hmo
              rw [hmf]
              simp only [Bool.toNat_false, Nat.add_zero]
              have : (decide (R * R ≠ m * 2 ^ s * 2 ^ 64)).toNat = 0 := by simp [g1]
              rw [this, Nat.add_zero]
              have e2 : 2 * R = 2 * R' * 2 ^ j := by rw [t1, g2, Nat.add_zero, Nat.mul_assoc]
              rw [e2, show q - 32 - 1 = q + (j : Int) - 32 - 1 - j by omega]
              exact ⟨(near_scale true _ _ j).2.2.symm, (exq_scale _ _ j).symm⟩
          have hV : nearV false (2 * R' + mo.toNat) (q + j - 32 - 1) = nearV false (sqN m e) (sqP e) := by unfold nearV; rw [hVF.1, hsq.1]
          have hF : nearF (2 * R' + mo.toNat) (q + j - 32 - 1) = nearF (sqN m e) (sqP e) := by unfold nearF; rw [hVF.1, hVF.2, hsq.1, hsq.2]
          rw [hV, hF] at hn
          rw [hmo] at t5
          generalize hex : decide (R * R = m * 2 ^ s * 2 ^ 64) = ex at *
          have hs0 : (0 : Int) ≤ s := by omega
          by_cases hpar : (e - (62 - (bl m : Int))) % 2 = 0
          · rw [if_neg (by omega)] at hs1
            rw [← hs1] at a1 a2 a3 hrem hpar
            have hlz' : (64 - (bl m : Int)) = s + 2 := by omega
            rw [hlz'] at hlz a1 t5
            simp [tr272, TT.dv, KS.dv, h1, hk4, hk0, c3', h2, h3, hlz, a1, a2, a3, hrem, hpar, a4, a5, hlong, t5, a6, hn]
          · rw [if_pos hpar] at hs1
            rw [← hs1] at a3
            simp [tr272, TT.dv, KS.dv, h1, hk4, hk0, c3', h2, h3, hlz, a1, a2, a3, hrem, hpar, a4, a5, hlong, t5, a6, hn]
        · rw [c4] at h3
          simp [tr272, TT.dv, KS.dv, h1, hk4, hk0, c3', h3, nan0]
end Go.Proofs.Ytcjhfgjgmkfmnaa.Dx

/- Laws RootFloats, RootRises. -/
namespace Go.Proofs.Ytcjhfgjgmkfmnaa.Dx
open Go

theorem rootFrom_ok {n : Nat} : ∀ (t r : Nat), r * r ≤ n → n < (r + 2 ^ t) * (r + 2 ^ t) → IsRoot n (Ieee.Datum.rootFrom n t r)
  | 0, r, h1, h2 => by
    have : Ieee.Datum.rootFrom n 0 r = r := rfl
    rw [this]; exact ⟨h1, by simpa using h2⟩
  | t + 1, r, h1, h2 => by
    unfold Ieee.Datum.rootFrom
    simp only [Nat.one_shiftLeft]
    have e : r + 2 ^ (t + 1) = r + 2 ^ t + 2 ^ t := by rw [Nat.pow_succ]; omega
    rw [e] at h2
    by_cases h : (r + 2 ^ t) * (r + 2 ^ t) ≤ n
    · rw [if_pos h]; exact rootFrom_ok t _ h h2
    · rw [if_neg h]; exact rootFrom_ok t _ h1 (by omega)
theorem ieee_root {m : Nat} {i : Int} (hm : m ≠ 0) (hl : m.log2 ≤ 60) : (Ieee.Datum.root 54 (.number false m i)).map Ieee.double.write = some (nearV false (sqN m i) (sqP i)) := by
  unfold Ieee.Datum.root
  simp only [if_neg hm, Bool.false_eq_true, if_false]
  obtain ⟨s, hs⟩ : ∃ s, s = 2 * 54 - m.log2 + ((i - ((2 * 54 - m.log2 : Nat) : Int)) % 2).toNat := ⟨_, rfl⟩
  rw [← hs]
  have hs1 : (i - s) % 2 = 0 := by omega
  have hpow : 2 ^ 108 ≤ m * 2 ^ s := by
    have h1 := Nat.log2_self_le hm
    have h2 : 2 ^ (2 * 54 - m.log2) ≤ 2 ^ s := Nat.pow_le_pow_right (by omega) (by omega)
    have h3 := Nat.mul_le_mul h1 h2
    rw [← Nat.pow_add, show m.log2 + (2 * 54 - m.log2) = 108 by omega] at h3
    exact h3
  have hroot : IsRoot (m <<< s) (Ieee.Datum.rootFrom (m <<< s) ((m <<< s).log2 / 2 + 1) 0) := by
    refine rootFrom_ok _ _ (by simp) ?_
    have h1 : m <<< s < 2 ^ ((m <<< s).log2 + 1) := Nat.lt_log2_self
    generalize (m <<< s).log2 = l at *
    rw [Nat.zero_add, ← Nat.pow_add]
    exact Nat.lt_of_lt_of_le h1 (Nat.pow_le_pow_right (by omega) (by omega))
  rw [Nat.shiftLeft_eq] at hroot ⊢
  generalize Ieee.Datum.rootFrom (m * 2 ^ s) ((m * 2 ^ s).log2 / 2 + 1) 0 = w at *
  have hw : 9007199254740992 ≤ w := root_ge hroot (Nat.le_trans (by decide) hpow)
  obtain ⟨q, hq⟩ : ∃ q, i - s = 2 * q := ⟨(i - s) / 2, by omega⟩
  have hany := sq_any hm hq hroot hw
  have hdiv : (i - (s : Int)) / 2 = q := by omega
  rw [hdiv]
  have hst : 2 * w + (w * w != m * 2 ^ s).toNat = stk (m * 2 ^ s) w := by
    unfold stk
    by_cases h : w * w = m * 2 ^ s <;> simp [h]
  simp only [Option.map_some, Ieee.Format.write, hst]
  rw [nearest_eq]
  unfold nearV
  have := hany.1
  unfold nearR at this ⊢
  rw [this]
theorem fsqrt_ok {b : Nat} (hb : b < 18446744073709551616) : U.sqrt.den (Vf (cnF b)) = Vf (sqrtV b) := by
  have hnan : Ieee.double.read nan0 = .nan false 2251799813685248 := by rw [read_ok]; decide
  show fv (Ieee.double.sqrt (cnF b)) = _
  unfold Ieee.Format.sqrt sqrtV
  show fv (((Ieee.double.read (cnF b)).root 54).map Ieee.double.write) = _
  by_cases h1 : nanB b
  · rw [cnF_nanB h1, hnan, if_pos h1]; rfl
  · rw [cnF_ok h1, if_neg h1, read_ok, neg_bit hb]
    by_cases h2 : fPow b = 2047
    · have hf : fFrac b = 0 := by unfold nanB at h1; omega
      rw [if_pos h2, if_pos hf]
      have hz : ¬ (fMag b = 0 ∧ fPow b = 0) := by omega
      cases hn : fNeg b
      · have : b = infR := by
          unfold infR
          unfold fNeg at hn; unfold fPow at h2; unfold fFrac at hf
          simp at hn
          omega
        rw [if_pos (.inr this), this]; rfl
      · have : b ≠ infR := fun h => by rw [h] at hn; revert hn; decide
        rw [if_neg (by rw [not_or]; exact ⟨hz, this⟩)]; rfl
    · rw [if_neg h2]
      have hi : b ≠ infR := fun h => by rw [h] at h2; exact h2 (by decide)
      by_cases h3 : fMag b = 0
      · have hp := (mag_zero b).1 h3
        rw [if_pos (.inl ⟨h3, hp.1⟩)]
        have hb0 : b = if fNeg b then 9223372036854775808 else 0 := by
          unfold fNeg
          unfold fPow fFrac at hp
          by_cases hh : b / 9223372036854775808 = 1
          · simp [hh]; omega
          · simp [hh]; omega
        have : ((Ieee.Datum.root 54 (.number (fNeg b) (fMag b) (fPl b))).map Ieee.double.write) = some (if fNeg b then 9223372036854775808 else 0) := by
          unfold Ieee.Datum.root
          simp only [h3, if_true, Option.map_some, Ieee.Format.write]
          rw [nearest_eq, rung_zero]
          cases fNeg b <;> rfl
        rw [this, ← hb0]; rfl
      · have hz : ¬ (fMag b = 0 ∧ fPow b = 0 ∨ b = infR) := by rw [not_or]; exact ⟨by omega, hi⟩
        rw [if_neg hz]
        cases hn : fNeg b
        · have hlog : (fMag b).log2 ≤ 60 := by
            have := (Nat.log2_lt (k := 53) h3).2 (by have := fMag_lt b; simpa using this)
            omega
          rw [ieee_root h3 hlog]; rfl
        · have : ((Ieee.Datum.root 54 (.number true (fMag b) (fPl b))).map Ieee.double.write) = none := by
            unfold Ieee.Datum.root
            simp [h3]
          rw [this]; rfl
theorem float7_ok (b : Nat) : val 20 [Vu b] = some [Vf (cnF b)] := by
  refine val_of tab20 ?_
  simp [tr20, TT.dv, b2f_ok]
theorem sqrtV_lt {b : Nat} (hb : b < 18446744073709551616) : sqrtV b < 18446744073709551616 := by
  unfold sqrtV
  split
  · decide
  · split
    · exact hb
    · split
      · decide
      · exact word_lt _ _ _
theorem nanB_near (neg : Bool) (n : Nat) (p : Int) : ¬ nanB (nearV neg n p) := by
  have h := isnan_near neg n p
  have : isNaN (nearV neg n p) = false := Bo_inj.1 h
  rw [isNaN_iff] at this
  simpa using this
theorem cnF_sqrt {b : Nat} : cnF (sqrtV b) = sqrtV b := by
  unfold sqrtV
  split
  · decide
  · rename_i h1
    split
    · exact cnF_ok h1
    · split
      · decide
      · exact cnF_ok (nanB_near _ _ _)
theorem law_RootFloats {b : Nat} (hb : b < 18446744073709551616) : val 14 [Vu b] = some [Vb true] := by
  refine val_of tab14 ?_
  have h1 := sqrt_ok hb
  have h2 := float7_ok b
  have h3 : val 328 [Vf (cnF b)] = some [Vf (sqrtV b)] := by
    refine val_of tab328 ?_
    simp [tr328, TT.dv, fsqrt_ok hb]
  have h4 := canon_ok (sqrtV_lt hb)
  rw [cnF_sqrt] at h4
  simp [tr14, TT.dv, h1, h2, h3, f2b_f, h4, awake_07]

/-! ### Rises -/
theorem fle_ok {a b : Nat} (ha : a < 18446744073709551616) (hb : b < 18446744073709551616) : B.fle.den (Vf (cnF a)) (Vf (cnF b)) = Vb (ordOk a b && decide (rk a ≤ rk b)) := by
  show Vb (ordIs (cnF a) (cnF b) .lt || ordIs (cnF a) (cnF b) .eq) = _
  rw [ordIs_ok ha hb, ordIs_ok ha hb]
  cases h : ordOk a b
  · simp
  · unfold cmp3
    rcases Int.lt_trichotomy (rk a) (rk b) with h | h | h
    · rw [if_pos h, show decide (rk a ≤ rk b) = true by simp; omega]; rfl
    · rw [if_neg (by omega), if_neg (by omega), show decide (rk a ≤ rk b) = true by simp; omega]; rfl
    · rw [if_neg (by omega), if_pos h, show decide (rk a ≤ rk b) = false by simp; omega]; rfl
theorem fge_ok {a b : Nat} (ha : a < 18446744073709551616) (hb : b < 18446744073709551616) : B.fge.den (Vf (cnF a)) (Vf (cnF b)) = Vb (ordOk a b && decide (rk b ≤ rk a)) := by
  show Vb (ordIs (cnF a) (cnF b) .gt || ordIs (cnF a) (cnF b) .eq) = _
  rw [ordIs_ok ha hb, ordIs_ok ha hb]
  cases h : ordOk a b
  · simp
  · unfold cmp3
    rcases Int.lt_trichotomy (rk a) (rk b) with h | h | h
    · rw [if_pos h, show decide (rk b ≤ rk a) = false by simp; omega]; rfl
    · rw [if_neg (by omega), if_neg (by omega), show decide (rk b ≤ rk a) = true by simp; omega]; rfl
    · rw [if_neg (by omega), if_pos h, show decide (rk b ≤ rk a) = true by simp; omega]; rfl
theorem ordI_gt {a b : Nat} : ordI a b > 0 ↔ (ordOk a b = true ∧ rk b < rk a) := by
  unfold ordI cmp3
  cases h : ordOk a b
  · simp
  · simp; split; omega; split <;> omega
theorem ordI_lt {a b : Nat} : ordI a b < 0 ↔ (ordOk a b = true ∧ rk a < rk b) := by
  unfold ordI cmp3
  cases h : ordOk a b
  · simp
  · simp; split; omega; split <;> omega
theorem rk_near (n : Nat) (p : Int) : rk (nearV false n p) = nearR n p := by
  obtain ⟨k1, k2, k3, k4, k5⟩ := sgn_fields false (nearR_le n p)
  unfold rk
  rw [show fNeg (nearV false n p) = false from k3, show nearV false n p % 9223372036854775808 = nearR n p from k4]; rfl
theorem stk_mono {N N' w w' : Nat} (h : N ≤ N') (r : IsRoot N w) (r' : IsRoot N' w') : stk N w ≤ stk N' w' := by
  have h1 : w ≤ w' := root_ge r' (Nat.le_trans r.1 h)
  unfold stk
  have b1 : (decide (w * w ≠ N)).toNat ≤ 1 := by cases decide (w * w ≠ N) <;> simp
  by_cases he : w = w'
  · subst he
    by_cases hs : w * w = N'
    · have : N = N' := by have := r.1; omega
      subst this; exact Nat.le_refl _
    · have : (decide (w * w ≠ N')).toNat = 1 := by simp [hs]
      omega
  · omega
/-- The root of a greater number is no less. -/
theorem sq_mono {m1 m2 : Nat} {e1 e2 : Int} (h1 : m1 ≠ 0) (h2 : m2 ≠ 0) (h : m1 * 2 ^ (e1 + 1074).toNat ≤ m2 * 2 ^ (e2 + 1074).toNat) (p1 : -1074 ≤ e1) (p2 : -1074 ≤ e2) : nearR (sqN m1 e1) (sqP e1) ≤ nearR (sqN m2 e2) (sqP e2) := by
  have k1 : e1 - ((((e1 + 1074).toNat + 200 : Nat)) : Int) = 2 * (-637) := by omega
  have k2 : e2 - ((((e2 + 1074).toNat + 200 : Nat)) : Int) = 2 * (-637) := by omega
  have hle : m1 * 2 ^ ((e1 + 1074).toNat + 200) ≤ m2 * 2 ^ ((e2 + 1074).toNat + 200) := by
    rw [Nat.pow_add, Nat.pow_add, ← Nat.mul_assoc, ← Nat.mul_assoc]; exact Nat.mul_le_mul_right _ h
  have big : ∀ {m t : Nat}, m ≠ 0 → 9007199254740992 ≤ isq (m * 2 ^ (t + 200)) := fun {m t} hm => root_ge (isq_ok _) (by
    have h1 : 2 ^ 110 ≤ 2 ^ (t + 200) := Nat.pow_le_pow_right (by omega) (by omega)
    have h2 := Nat.mul_le_mul (show 1 ≤ m by omega) h1
    have h3 : (9007199254740992 : Nat) * 9007199254740992 ≤ 2 ^ 110 := by decide
    omega)
  have a1 := sq_any h1 k1 (isq_ok _) (big h1)
  have a2 := sq_any h2 k2 (isq_ok _) (big h2)
  rw [← a1.1, ← a2.1]
  exact nearR_mono _ (stk_mono hle (isq_ok _) (isq_ok _))
theorem rise {a b : Nat} (ha : a < 18446744073709551616) (hb : b < 18446744073709551616) (h : ordOk a b = true) (hr : rk a ≤ rk b) (h' : ordOk (sqrtV a) (sqrtV b) = true) : rk (sqrtV a) ≤ rk (sqrtV b) := by
  have hok : ¬ nanB a ∧ ¬ nanB b := by unfold ordOk at h; simpa using h
  have hok' : ¬ nanB (sqrtV a) ∧ ¬ nanB (sqrtV b) := by unfold ordOk at h'; simpa using h'
  have hn0 : nanB nan0 := by decide
  -- which ways a root can go
  have ways : ∀ {c : Nat}, c < 18446744073709551616 → ¬ nanB c → ¬ nanB (sqrtV c) → (fMag c = 0 ∧ fPow c = 0 ∧ sqrtV c = c ∧ rk c = 0) ∨ (c = infR ∧ sqrtV c = infR) ∨ (fMag c ≠ 0 ∧ fNeg c = false ∧ fPow c ≠ 2047 ∧ sqrtV c = nearV false (sqN (fMag c) (fPl c)) (sqP (fPl c)) ∧ 0 < rk c) := by
    intro c hc h1 h2
    by_cases c1 : fMag c = 0 ∧ fPow c = 0
    · left
      refine ⟨c1.1, c1.2, by unfold sqrtV; rw [if_neg h1, if_pos (.inl c1)], ?_⟩
      have := (mag_zero c).1 c1.1
      unfold rk; unfold fPow fFrac at this
      rw [show c % 9223372036854775808 = 0 by omega]; cases fNeg c <;> rfl
    · by_cases c2 : c = infR
      · right; left; exact ⟨c2, by unfold sqrtV; rw [if_neg h1, if_pos (.inr c2), c2]⟩
      · right; right
        have c12 : ¬ (fMag c = 0 ∧ fPow c = 0 ∨ c = infR) := by rw [not_or]; exact ⟨c1, c2⟩
        have hs : sqrtV c = if fNeg c then nan0 else nearV false (sqN (fMag c) (fPl c)) (sqP (fPl c)) := by unfold sqrtV; rw [if_neg h1, if_neg c12]
        cases hn : fNeg c
        · rw [hn] at hs
          have hm : fMag c ≠ 0 := fun hh => c1 ⟨hh, ((mag_zero c).1 hh).1⟩
          refine ⟨hm, rfl, fun hp => ?_, hs, ?_⟩
          · apply c2
            have hf : fFrac c = 0 := by unfold nanB at h1; omega
            unfold infR
            unfold fNeg at hn; unfold fPow at hp; unfold fFrac at hf
            simp at hn
            omega
          · unfold rk; rw [hn]
            have : c % 9223372036854775808 ≠ 0 := fun hh => by
              apply hm; rw [mag_zero]; unfold fPow fFrac; omega
            unfold sg; simp; omega
        · rw [hn] at hs
          rw [hs] at h2
          exact absurd hn0 h2
  have hinf : rk infR = 9218868437227405312 := by decide
  rcases ways ha hok.1 hok'.1 with ⟨a1, a2, a3, a4⟩ | ⟨a1, a2⟩ | ⟨a1, a2, a3, a4, a5⟩
  · rw [a3, a4]
    rcases ways hb hok.2 hok'.2 with ⟨b1, b2, b3, b4⟩ | ⟨b1, b2⟩ | ⟨b1, b2, b3, b4, b5⟩
    · rw [b3, b4]; omega
    · rw [b2, hinf]; omega
    · rw [b4, rk_near]; omega
  · rw [a2]
    rcases ways hb hok.2 hok'.2 with ⟨b1, b2, b3, b4⟩ | ⟨b1, b2⟩ | ⟨b1, b2, b3, b4, b5⟩
    · rw [a1, hinf] at hr; omega
    · rw [b2]; omega
    · have := fin_rk (b := b) (by have := fPow_lt b; omega)
      rw [a1, hinf] at hr; omega
  · rw [a4, rk_near]
    rcases ways hb hok.2 hok'.2 with ⟨b1, b2, b3, b4⟩ | ⟨b1, b2⟩ | ⟨b1, b2, b3, b4, b5⟩
    · omega
    · rw [b2, hinf]; have := nearR_le (sqN (fMag a) (fPl a)) (sqP (fPl a)); unfold infR at this; omega
    · rw [b4, rk_near]
      have hab : a % 9223372036854775808 ≤ b % 9223372036854775808 := by
        unfold rk at hr; rw [a2, b2] at hr; unfold sg at hr; simp at hr; omega
      have hv : mgv (a % 9223372036854775808) ≤ mgv (b % 9223372036854775808) := by
        rcases Nat.lt_or_eq_of_le hab with h | h
        · exact Nat.le_of_lt (mgv_mono h)
        · rw [h]; exact Nat.le_refl _
      rw [← mgv_val, ← mgv_val] at hv
      have := sq_mono a1 b1 hv (fPl_bd a).1 (fPl_bd b).1
      omega
theorem law_RootRises {a b : Nat} (ha : a < 18446744073709551616) (hb : b < 18446744073709551616) : val 15 [Vu a, Vu b] = some [Vb true] := by
  refine val_of tab15 ?_
  have c1 := fgtB_ok (sqrtV_lt ha) (sqrtV_lt hb)
  have c2 := fltB_ok (sqrtV_lt ha) (sqrtV_lt hb)
  have f1 := float7_ok (sqrtV a)
  have f2 := float7_ok (sqrtV b)
  rw [cnF_sqrt] at f1 f2
  rw [cnF_sqrt, cnF_sqrt] at c1 c2
  have d1 : (!(ordOk a b && decide (rk a ≤ rk b)) || !decide (ordI (sqrtV a) (sqrtV b) > 0)) = true := by
    cases h : (ordOk a b && decide (rk a ≤ rk b))
    · rfl
    · simp only [Bool.and_eq_true, decide_eq_true_eq] at h
      have : ¬ ordI (sqrtV a) (sqrtV b) > 0 := fun hh => by
        rw [ordI_gt] at hh
        have := rise ha hb h.1 h.2 hh.1
        omega
      simp [this]
  have sym : ∀ x y, ordOk x y = ordOk y x := fun x y => by unfold ordOk; rw [decide_eq_decide]; exact And.comm
  have d2 : (!(ordOk a b && decide (rk b ≤ rk a)) || !decide (ordI (sqrtV a) (sqrtV b) < 0)) = true := by
    cases h : (ordOk a b && decide (rk b ≤ rk a))
    · rfl
    · simp only [Bool.and_eq_true, decide_eq_true_eq] at h
      have : ¬ ordI (sqrtV a) (sqrtV b) < 0 := fun hh => by
        rw [ordI_lt] at hh
        have := rise hb ha (by rw [sym]; exact h.1) h.2 (by rw [sym]; exact hh.1)
        omega
      simp [this]
  simp only [tr15, TT.dv, List.map, isTrue_den, den_bi, den_un, den_tri, den_var, den_bool, List.getD_cons_zero, List.getD_cons_succ, bool_Bo, List.cons_append, List.nil_append, sqrt_ok ha, sqrt_ok hb, float7_ok, f1, f2, fle_ok ha hb, fge_ok ha hb, c1, c2, awake_07, not_b, ite_or, ite_and, List.length_cons, List.length_nil, if_true]
  rw [d1, d2]; rfl
end Go.Proofs.Ytcjhfgjgmkfmnaa.Dx

/- Law CompareScales: math.Ldexp. -/
namespace Go.Proofs.Ytcjhfgjgmkfmnaa.Dx
open Go

/-- The product of two floats. -/
def zeroF (b : Nat) : Prop := fMag b = 0 ∧ fPow b = 0
theorem fmul_num {a b : Nat} (ha : a < 18446744073709551616) (hb : b < 18446744073709551616) (h1 : fPow a ≠ 2047) (h2 : fPow b ≠ 2047) : B.fmul.den (Vf a) (Vf b) = Vf (nearV (fNeg a ^^ fNeg b) (fMag a * fMag b) (fPl a + fPl b)) := by
  show fv (Ieee.double.mul a b) = _
  unfold Ieee.Format.mul
  rw [read_ok, read_ok, neg_bit ha, neg_bit hb, if_neg h1, if_neg h2]
  show fv (some (Ieee.double.nearest _ _ _)) = _
  rw [nearest_eq]; rfl
theorem rk_range (b : Nat) : -9223372036854775808 < rk b ∧ rk b < 9223372036854775808 := by unfold rk sg; split <;> omega
theorem fpos_lt {a b : Nat} (ha : a < 18446744073709551616) (hb : b < 18446744073709551616) (h1 : ¬ nanB a) (h2 : ¬ nanB b) : B.flt.den (Vf a) (Vf b) = Vb (decide (rk a < rk b)) := by
  have := fltB_ok ha hb
  rw [cnF_ok h1, cnF_ok h2] at this
  rw [this, Bo_inj, decide_eq_decide]
  have ho : ordOk a b = true := by unfold ordOk; simp [h1, h2]
  unfold ordI; rw [if_pos ho]; unfold cmp3; split; omega; split <;> omega

/-! ### bits -/
theorem or_word {s f P : Nat} (hs : s ≤ 1) (hf : f < 4503599627370496) (hP : P < 2048) : (B.or .u64).den (Vu (9223372036854775808 * s + f)) (Vu (P * 4503599627370496)) = Vu (9223372036854775808 * s + P * 4503599627370496 + f) := by
  rw [or_u (by omega) (by omega)]
  refine congrArg Vu ?_
  have e1 := Nat.two_pow_add_eq_or_of_lt (b := f) (i := 63) (by omega) s
  have e2 := Nat.two_pow_add_eq_or_of_lt (b := f) (i := 52) (by omega) P
  have e3 := Nat.two_pow_add_eq_or_of_lt (b := 4503599627370496 * P + f) (i := 63) (by omega) s
  simp only [show (2 : Nat) ^ 63 = 9223372036854775808 from rfl, show (2 : Nat) ^ 52 = 4503599627370496 from rfl] at e1 e2 e3
  rw [e1, Nat.or_assoc, Nat.or_comm f, Nat.mul_comm P, ← e2, ← e3, Nat.add_assoc]
theorem and_top {a : Nat} (ha : a < 18446744073709551616) : a &&& 9223372036854775808 = 9223372036854775808 * (a / 9223372036854775808) := by
  have e : (9223372036854775808 : Nat) = 2 ^ 63 := by decide
  rcases (show a / 9223372036854775808 = 0 ∨ a / 9223372036854775808 = 1 by omega) with h1 | h1
  · rw [h1]
    have h2 : a < 2 ^ 63 := by omega
    rw [e]
    apply Nat.eq_of_testBit_eq
    intro i
    rw [Nat.testBit_and, Nat.testBit_two_pow]
    by_cases hi : 63 = i
    · subst hi; rw [Nat.testBit_lt_two_pow h2]; simp
    · simp [hi]
  · rw [h1, e, Nat.mul_one]
    apply Nat.eq_of_testBit_eq
    intro i
    rw [Nat.testBit_and, Nat.testBit_two_pow]
    by_cases hi : 63 = i
    · subst hi
      have : a = 2 ^ 63 + (a - 2 ^ 63) := by omega
      rw [this, Nat.testBit_two_pow_add_eq, Nat.testBit_lt_two_pow (by omega)]; simp
    · simp [hi]
theorem and_63 {a : Nat} (ha : a < 18446744073709551616) : (B.and .u64).den (Vu a) (Vu 9223372036854775808) = Vu (9223372036854775808 * (a / 9223372036854775808)) := by
  rw [and_u ha (by omega), and_top ha]
theorem andNot_exp {b : Nat} (hb : b < 18446744073709551616) : (B.andNot .u64).den (Vu b) (Vu 9218868437227405312) = Vu (9223372036854775808 * (b / 9223372036854775808) + b % 4503599627370496) := by
  rw [show (B.andNot .u64).den (Vu b) (Vu 9218868437227405312) = (B.and .u64).den (Vu b) (Vu 9227875636482146303) from rfl, and_u hb (by omega)]
  refine congrArg Vu ?_
  have e1 : (9227875636482146303 : Nat) = 9223372036854775808 ||| 4503599627370495 := by decide
  have e2 := Nat.two_pow_add_eq_or_of_lt (b := b % 4503599627370496) (i := 63) (by omega) (b / 9223372036854775808)
  have e3 := Nat.and_two_pow_sub_one_eq_mod b 52
  simp only [show (2 : Nat) ^ 63 = 9223372036854775808 from rfl, show (2 : Nat) ^ 52 = 4503599627370496 from rfl, Nat.add_one_sub_one] at e2 e3
  rw [e1, Nat.and_or_distrib_left, and_top hb, e2]
  exact congrArg _ e3
theorem shl_52 {P : Nat} (hP : P < 2048) : (B.shl .u64).den (Vu P) (Vu 52) = Vu (P * 4503599627370496) := by
  rw [shl_uU]; refine congrArg Vu ?_
  show P * 4503599627370496 % _ = _; omega

/-! ### small functions of Go's math -/
theorem nanB_abs (b : Nat) : nanB (b % 9223372036854775808) ↔ nanB b := by
  unfold nanB fPow fFrac; omega
theorem nan0_w : nan0 = 9221120237041090560 := rfl
theorem nanB_nan0 : nanB nan0 := by decide
theorem fabs_ok (b : Nat) : val 322 [Vf (cnF b)] = some [Vf (cnF (b % 9223372036854775808))] := by
  refine val_of tab322 ?_
  by_cases h : nanB b
  · rw [cnF_nanB h, cnF_nanB ((nanB_abs b).2 h)]; rfl
  · rw [cnF_ok h, cnF_ok (fun hh => h ((nanB_abs b).1 hh))]
    simp [tr322, TT.dv, f2b_f, b2f_ok, cnF_ok (fun hh => h ((nanB_abs b).1 hh))]
theorem isInf_ok {b : Nat} (hb : b < 18446744073709551616) : val 325 [Vf (cnF b), Vi 0] = some [Vb (decide (¬ nanB b ∧ fPow b = 2047))] := by
  refine val_of tab325 ?_
  have h1 := fgtB_ok (a := b % 9223372036854775808) (b := 9218868437227405311) (by omega) (by omega)
  rw [cnF_ok (b := 9218868437227405311) (by decide)] at h1
  have h2 : decide (ordI (b % 9223372036854775808) 9218868437227405311 > 0) = decide (¬ nanB b ∧ fPow b = 2047) := by
    rw [decide_eq_decide, ordI_gt]
    unfold ordOk
    rw [decide_eq_true_eq, nanB_abs]
    have : rk 9218868437227405311 = 9218868437227405311 := rfl
    rw [this]
    have : rk (b % 9223372036854775808) = (b % 9223372036854775808 : Nat) := by
      unfold rk fNeg sg
      rw [if_neg (by simp)]; omega
    rw [this]
    constructor
    · rintro ⟨⟨h, _⟩, h'⟩; exact ⟨h, by unfold fPow; omega⟩
    · rintro ⟨h, h'⟩; refine ⟨⟨h, by decide⟩, ?_⟩; unfold fPow at h'; omega
  rw [h2] at h1
  simp [tr325, TT.dv, KS.dv, fabs_ok, h1]
theorem fne_self {b : Nat} (hb : b < 18446744073709551616) : B.fne.den (Vf (cnF b)) (Vf (cnF b)) = Vb (decide (nanB b)) := by
  have h := ordIs_ok hb hb .eq
  show PV.v (.bool (!(ordIs (cnF b) (cnF b) .eq))) = _
  rw [h]
  by_cases c : nanB b
  · simp [c, ordOk, Vb]
  · simp [c, ordOk, Vb, cmp3, ordC]
theorem isNaNg_ok {b : Nat} (hb : b < 18446744073709551616) : val 326 [Vf (cnF b)] = some [Vb (decide (nanB b))] := by
  refine val_of tab326 ?_
  simp [tr326, TT.dv, fne_self hb]
theorem inf1_ok : val 324 [Vi 1] = some [Vf 9218868437227405312] := val_iff.2 ⟨100, by kernel_rfl⟩
theorem infm_ok : val 324 [Vi (-1)] = some [Vf 18442240474082181120] := val_iff.2 ⟨100, by kernel_rfl⟩
theorem isnan_ok (b : Nat) : U.isnan.den (Vf b) = Vb (decide (nanB b)) := by
  show PV.v (.bool (isNaN b)) = _
  rw [isNaN_iff]; rfl
theorem copysign_ok {b : Nat} (hb : b < 18446744073709551616) (h : ¬ nanB b) : val 323 [Vf 0, Vf b] = some [Vf (sgn (fNeg b) 0)] := by
  refine val_of tab323 ?_
  have e1 := isnan_ok b
  have e2 : (B.or .u64).den (Vu 0) (Vu (9223372036854775808 * (b / 9223372036854775808))) = Vu (9223372036854775808 * (b / 9223372036854775808)) := by
    rw [or_u (by omega) (by omega), Nat.zero_or]
  have e3 : 9223372036854775808 * (b / 9223372036854775808) = sgn (fNeg b) 0 := by
    unfold sgn fNeg
    rcases (show b / 9223372036854775808 = 0 ∨ b / 9223372036854775808 = 1 by omega) with h1 | h1 <;> simp [h1]
  have e4 : cnF (sgn (fNeg b) 0) = sgn (fNeg b) 0 := by cases fNeg b <;> decide
  have e5 : U.isnan.den (Vf 0) = Vb false := rfl
  have e6 : cnF 0 = 0 := by decide
  rw [e3] at e2
  simp [tr323, TT.dv, f2b_f, b2f_ok, e1, h, and_63 hb, e2, e3, e4, e5, e6]

/-! ### Ldexp -/
theorem rung_low2 {n : Nat} {p : Int} (h : n ≠ 0) (ht : (n.log2 : Int) + p < -1075) : rung n p = 0 := by
  have hl : lastP n p = -1074 := by unfold lastP; omega
  have hlt : n < 2 ^ (n.log2 + 1) := Nat.lt_log2_self
  have hle : 2 ^ (n.log2 + 1 + 1) ≤ 2 ^ (-1074 - p).toNat := Nat.pow_le_pow_right (by omega) (by omega)
  rw [Nat.pow_succ] at hle
  unfold rung
  rw [if_neg h, hl, show (p - -1074).toNat = 0 by omega, Nat.pow_zero, Nat.mul_one, RHE_small (by omega)]
  simp
/-- What normalize tells of a finite number that is not 0. -/
structure NormOK (b x : Nat) (d : Int) : Prop where
  lt : x < 18446744073709551616
  p1 : fPow x ≠ 0
  p2 : fPow x ≠ 2047
  neg : fNeg x = fNeg b
  d1 : -52 ≤ d ∧ d ≤ 0
  near : ∀ s c, nearV s (fMag x) (fPl x + d + c) = nearV s (fMag b) (fPl b + c)
theorem fields_of {s : Bool} {P q : Nat} (hP : P < 2046) (h1 : two52 ≤ q) (h2 : q < 9007199254740992) : fPow (sgn s (P * two52 + q)) = P + 1 ∧ fMag (sgn s (P * two52 + q)) = q ∧ fNeg (sgn s (P * two52 + q)) = s ∧ sgn s (P * two52 + q) < 18446744073709551616 := by
  unfold two52 at *
  obtain ⟨k1, k2, k3, k4, k5⟩ := sgn_fields s (r := P * 4503599627370496 + q) (by unfold infR; omega)
  refine ⟨by rw [k1]; omega, ?_, k3, k5⟩
  unfold fMag
  rw [k1, k2, if_neg (by omega)]; omega
theorem norm_ok {b : Nat} (hb : b < 18446744073709551616) (h1 : fPow b ≠ 2047) (h2 : fMag b ≠ 0) : ∃ x d, val 330 [Vf b] = some [Vf x, Vi d] ∧ NormOK b x d := by
  have hn : ¬ nanB b := by unfold nanB; omega
  have ha := fabs_ok b
  rw [cnF_ok hn, cnF_ok (fun hh => hn ((nanB_abs b).1 hh))] at ha
  have hlt := fpos_lt (a := b % 9223372036854775808) (b := 4503599627370496) (by omega) (by omega) (fun hh => hn ((nanB_abs b).1 hh)) (by decide)
  have r1 : rk (b % 9223372036854775808) = (b % 9223372036854775808 : Nat) := by
    unfold rk fNeg sg
    rw [if_neg (by simp)]; omega
  rw [r1, show rk 4503599627370496 = 4503599627370496 from rfl] at hlt
  by_cases c : fPow b = 0
  · have e : decide (((b % 9223372036854775808 : Nat) : Int) < 4503599627370496) = true := by
      rw [decide_eq_true_eq]; unfold fPow at c; omega
    rw [e] at hlt
    have hf : fMag b = fFrac b := by unfold fMag; rw [if_pos c]
    have hp : fPl b = -1074 := by unfold fPl; rw [if_pos c]
    have hfl := fFrac_lt b
    have hm := fmul_num (a := b) (b := 4841369599423283200) hb (by omega) h1 (by decide)
    rw [show fNeg 4841369599423283200 = false from by decide, show fMag 4841369599423283200 = 2 ^ 52 from by decide, show fPl 4841369599423283200 = 0 from by decide, Bool.xor_false, hp] at hm
    have hlog : (fMag b).log2 < 52 := by rw [Nat.log2_lt h2]; rw [hf]; exact hfl
    obtain ⟨q, hq⟩ : ∃ q, q = fMag b * 2 ^ (52 - (fMag b).log2) := ⟨_, rfl⟩
    have hq1 : two52 ≤ q := by
      have := Nat.mul_le_mul_right (2 ^ (52 - (fMag b).log2)) (Nat.log2_self_le h2)
      rw [← Nat.pow_add, ← hq, show (fMag b).log2 + (52 - (fMag b).log2) = 52 by omega] at this
      exact this
    have hq2 : q < 9007199254740992 := by
      have := Nat.mul_lt_mul_of_pos_right (Nat.lt_log2_self (n := fMag b)) (Nat.two_pow_pos (52 - (fMag b).log2))
      rw [← Nat.pow_add, ← hq, show (fMag b).log2 + 1 + (52 - (fMag b).log2) = 53 by omega] at this
      exact this
    have hmq : fMag b * 2 ^ 52 = q * 2 ^ (fMag b).log2 := by
      rw [hq, Nat.mul_assoc, ← Nat.pow_add]; exact congrArg _ (congrArg _ (by omega))
    have hx : nearV (fNeg b) (fMag b * 2 ^ 52) (-1074 + 0) = sgn (fNeg b) ((fMag b).log2 * two52 + q) := by
      rw [hmq, show (-1074 : Int) + 0 = ((fMag b).log2 - 1074 : Int) - (fMag b).log2 by omega, (near_scale _ _ _ _).1, (near_normal hq1 hq2 (by omega) (by omega) _).1]
      exact congrArg _ (congrArg (· + q) (congrArg (· * two52) (by omega)))
    rw [hx] at hm
    obtain ⟨k1, k2, k3, k4⟩ := fields_of (s := fNeg b) (P := (fMag b).log2) (by omega) hq1 hq2
    refine ⟨_, -52, val_of tab330 ?_, k4, by omega, by omega, k3, by omega, fun s c => ?_⟩
    · simp [tr330, TT.dv, ha, hlt, hm]
    · rw [k2, hp]
      unfold fPl
      rw [k1, if_neg (by omega), hq, ← (near_scale s (fMag b) (-1074 + c) (52 - (fMag b).log2)).1]
      exact congrArg _ (by omega)
  · have e : decide (((b % 9223372036854775808 : Nat) : Int) < 4503599627370496) = false := by
      rw [decide_eq_false_iff_not]; unfold fPow at c; omega
    rw [e] at hlt
    refine ⟨b, 0, val_of tab330 ?_, hb, c, h1, rfl, by omega, fun s c => by rw [Int.add_zero]⟩
    simp [tr330, TT.dv, ha, hlt]
theorem and_i_2047 {a : Nat} (h : a < 9223372036854775808) : (B.and .i64).den (Vi a) (Vi 2047) = Vi (a % 2048 : Nat) := by
  have h2 : (BitVec.ofInt 64 (a : Int) &&& BitVec.ofInt 64 2047).toNat = a % 2048 := by
    rw [BitVec.toNat_and, BitVec.ofInt_natCast, BitVec.toNat_ofNat, Nat.mod_eq_of_lt (show a < 2 ^ 64 by omega)]
    exact Nat.and_two_pow_sub_one_eq_mod a 11
  show PV.v (.int .i64 (IntKind.i64.wrap ((BitVec.ofInt 64 (a : Int) &&& BitVec.ofInt 64 2047).toNat : Int))) = _
  rw [h2, wrap_i64_of (by omega) (by omega)]; rfl
theorem flt0_ok {b : Nat} (hb : b < 18446744073709551616) (h : fPow b ≠ 2047) (h2 : fPow b ≠ 0) : B.flt.den (Vf b) (Vf 0) = Vb (fNeg b) := by
  rw [fpos_lt hb (by omega) (by unfold nanB; omega) (by decide), Bo_inj, show rk 0 = 0 from rfl]
  unfold rk sg fPow at *
  cases fNeg b <;> simp <;> omega
theorem feq0_ok {b : Nat} (hb : b < 18446744073709551616) (h : ¬ nanB b) : B.feq.den (Vf b) (Vf 0) = Vb (decide (fMag b = 0)) := by
  have := feqB_ok (a := b) (b := 0) hb (by omega)
  rw [cnF_ok h, cnF_ok (b := 0) (by decide)] at this
  rw [this, Bo_inj]
  have ho : ordOk b 0 = true := by unfold ordOk; simp [h]; decide
  rw [ho, Bool.true_and, decide_eq_decide]
  unfold ordI cmp3
  rw [if_pos ho, show rk 0 = 0 from rfl]
  have : rk b = 0 ↔ fMag b = 0 := by
    have h1 : fMag b = 0 ↔ b % 9223372036854775808 = 0 := by unfold fMag fPow fFrac; split <;> omega
    rw [h1]; unfold rk sg; split <;> omega
  rw [← this]
  split
  · constructor <;> intro hh <;> omega
  · split <;> constructor <;> intro hh <;> omega
theorem nearR_top {q : Nat} {e : Int} (h1 : two52 ≤ q) (h2 : q < 9007199254740992) (h3 : 972 ≤ e) : nearR q e = infR := by
  have := rung_fits (q := q) (e := e) (by omega) (by unfold two52; omega) (.inl h1)
  unfold nearR; rw [this]; unfold infR two52 at *; omega
/-- A float times a power of two, by Go's own math. -/
theorem ldexp_num {b : Nat} (hb : b < 18446744073709551616) {k : Int} (hk1 : -4611686018427387904 ≤ k) (hk2 : k ≤ 4611686018427387904) (hn : ¬ nanB b) : val 329 [Vf b, Vi k] = some [Vf (scaleV b k)] := by
  refine val_of tab329 ?_
  have hz := feq0_ok hb hn
  by_cases c0 : fMag b = 0
  · unfold scaleV
    rw [if_neg hn, if_pos (.inr c0)]
    simp [tr329, TT.dv, hz, c0]
  · rw [decide_eq_false c0] at hz
    have hi := isInf_ok hb
    rw [cnF_ok hn] at hi
    have hi2 := isNaNg_ok hb
    rw [cnF_ok hn] at hi2
    by_cases c1 : fPow b = 2047
    · unfold scaleV
      rw [if_neg hn, if_pos (.inl c1)]
      simp [tr329, TT.dv, hz, hi, c1, hn]
    · obtain ⟨x, d, hx, N⟩ := norm_ok hb c1 c0
      have hxn : ¬ nanB x := by unfold nanB; have := N.p2; omega
      have hpw := fPow_lt x
      have hP1 := N.p1
      have hP2 := N.p2
      have hd := N.d1
      have hplx : fPl x = (fPow x : Int) - 1075 := by unfold fPl; rw [if_neg hP1]
      obtain ⟨-, m1, m2⟩ := word_parts N.lt hP1 hP2
      have s0 : (U.conv .i64).den (Vu (x / 4503599627370496)) = Vi (x / 4503599627370496 : Nat) := conv_ui (by have := N.lt; omega)
      have s1 := and_i_2047 (a := x / 4503599627370496) (by have := N.lt; omega)
      rw [show x / 4503599627370496 % 2048 = fPow x from rfl, ← s0] at s1
      have s2 : (B.sub .i64).den (Vi (fPow x)) (Vi 1023) = Vi (fPow x - 1023) := sub_i (by omega) (by omega)
      have s3 : (B.add .i64).den (Vi k) (Vi d) = Vi (k + d) := add_i (by omega) (by omega)
      have s4 : (B.add .i64).den (Vi (k + d)) (Vi (fPow x - 1023)) = Vi (k + d + (fPow x - 1023)) := add_i (by omega) (by omega)
      have s5 : U.isnan.den (Vf x) = Vb false := by rw [isnan_ok]; simp [hxn]
      have hV : scaleV b k = nearV (fNeg b) (fMag x) (fPl x + d + clamp k) := by
        unfold scaleV; rw [if_neg hn, if_neg (by omega), N.near]
      have hcs := copysign_ok N.lt hxn
      have hlt := flt0_ok N.lt hP2 hP1
      rw [N.neg] at hcs hlt
      generalize hE : k + d + ((fPow x : Int) - 1023) = E at *
      have hM0 : fMag x ≠ 0 := by unfold two52 at m1; omega
      by_cases d1 : E < -1075
      · have : nearV (fNeg b) (fMag x) (fPl x + d + clamp k) = sgn (fNeg b) 0 := by
          unfold nearV nearR
          rw [rung_low2 hM0 (by rw [log2_of m1 m2]; unfold clamp; omega)]; rfl
        rw [hV, this]
        simp [tr329, TT.dv, hz, hi, hi2, hn, c1, hx, s1, s2, s3, s4, s5, f2b_f, d1, hcs]
      · by_cases d2 : E > 1023
        · have : nearV (fNeg b) (fMag x) (fPl x + d + clamp k) = sgn (fNeg b) infR := by
            unfold nearV
            rw [nearR_top m1 m2 (by unfold clamp; omega)]
          rw [hV, this]
          cases hs : fNeg b
          · rw [hs] at hlt
            simp [tr329, TT.dv, hz, hi, hi2, hn, c1, hx, s1, s2, s3, s4, s5, f2b_f, d1, show (1023 : Int) < E by omega, hlt, inf1_ok]; rfl
          · rw [hs] at hlt
            simp [tr329, TT.dv, hz, hi, hi2, hn, c1, hx, s1, s2, s3, s4, s5, f2b_f, d1, show (1023 : Int) < E by omega, hlt, infm_ok]; rfl
        · have hcl : clamp k = k := by unfold clamp; omega
          rw [hcl] at hV
          have hnx := andNot_exp N.lt
          have hfr := fFrac_lt x
          have hMf : fMag x = fFrac x + 4503599627370496 := by unfold fMag; rw [if_neg hP1]
          have key : ∀ (e : Int), -1022 ≤ e → e ≤ 1023 → U.b2f.den ((B.or .u64).den ((B.andNot .u64).den (Vu x) (Vu 9218868437227405312)) ((B.shl .u64).den ((U.conv .u64).den ((B.add .i64).den (Vi e) (Vi 1023))) (Vu 52))) = Vf (sgn (fNeg b) ((e + 1022).toNat * two52 + fMag x)) := fun e h1 h2 => by
            rw [hnx, add_i (by omega) (by omega), conv_iu (by omega) (by omega), shl_52 (by omega), or_word (by have := N.lt; omega) (by omega) (by omega), b2f_ok]
            have e1 : 9223372036854775808 * (x / 9223372036854775808) + (e + 1023).toNat * 4503599627370496 + x % 4503599627370496 = sgn (fNeg b) ((e + 1022).toNat * two52 + fMag x) := by
              rw [hMf, ← N.neg, show (e + 1023).toNat = (e + 1022).toNat + 1 by omega]
              unfold sgn fNeg two52 fFrac
              have := N.lt
              rcases (show x / 9223372036854775808 = 0 ∨ x / 9223372036854775808 = 1 by omega) with h1 | h1 <;> simp only [h1, decide_true, if_true, if_false, decide_false, Nat.zero_ne_one, Bool.false_eq_true] <;> omega
            rw [e1, cnF_ok]
            have := (fields_of (s := fNeg b) (P := (e + 1022).toNat) (q := fMag x) (by omega) m1 m2).1
            unfold nanB; omega
          by_cases d3 : E < -1022
          · obtain ⟨f1, f2, f3, f4⟩ := fields_of (s := fNeg b) (P := (E + 53 + 1022).toNat) (q := fMag x) (by omega) m1 m2
            have hm := fmul_num (a := 4368491638549381120) (by omega) f4 (by decide) (by omega)
            have a1 : (B.add .i64).den (Vi E) (Vi 53) = Vi (E + 53) := add_i (by omega) (by omega)
            have k2 := key (E + 53) (by omega) (by omega)
            have hfin : nearV (fNeg 4368491638549381120 ^^ fNeg (sgn (fNeg b) ((E + 53 + 1022).toNat * two52 + fMag x))) (fMag 4368491638549381120 * fMag (sgn (fNeg b) ((E + 53 + 1022).toNat * two52 + fMag x))) (fPl 4368491638549381120 + fPl (sgn (fNeg b) ((E + 53 + 1022).toNat * two52 + fMag x))) = scaleV b k := by
              rw [f3, f2, hV, show fNeg 4368491638549381120 = false from by decide, show fMag 4368491638549381120 = 2 ^ 52 from by decide, show fPl 4368491638549381120 = -105 from by decide, Bool.false_xor, Nat.mul_comm,
                ← (near_scale (fNeg b) (fMag x) (fPl x + d + k) 52).1]
              refine congrArg _ ?_
              unfold fPl at hplx ⊢
              rw [f1, if_neg (by omega), if_neg (by omega)]; omega
            rw [hfin] at hm
            simp [-shl_u_lit, tr329, TT.dv, KS.dv, hz, hi, hi2, hn, c1, hx, s1, s2, s3, s4, s5, f2b_f, d1, show ¬ (1023 : Int) < E by omega, d3, a1, k2, hm]
            done
          · obtain ⟨f1, f2, f3, f4⟩ := fields_of (s := fNeg b) (P := (E + 1022).toNat) (q := fMag x) (by omega) m1 m2
            have hm := fmul_num (a := 4607182418800017408) (by omega) f4 (by decide) (by omega)
            have k2 := key E (by omega) (by omega)
            have hfin : nearV (fNeg 4607182418800017408 ^^ fNeg (sgn (fNeg b) ((E + 1022).toNat * two52 + fMag x))) (fMag 4607182418800017408 * fMag (sgn (fNeg b) ((E + 1022).toNat * two52 + fMag x))) (fPl 4607182418800017408 + fPl (sgn (fNeg b) ((E + 1022).toNat * two52 + fMag x))) = scaleV b k := by
              rw [f3, f2, hV, show fNeg 4607182418800017408 = false from by decide, show fMag 4607182418800017408 = 2 ^ 52 from by decide, show fPl 4607182418800017408 = -52 from by decide, Bool.false_xor, Nat.mul_comm,
                ← (near_scale (fNeg b) (fMag x) (fPl x + d + k) 52).1]
              refine congrArg _ ?_
              unfold fPl at hplx ⊢
              rw [f1, if_neg (by omega), if_neg (by omega)]; omega
            rw [hfin] at hm
            simp [-shl_u_lit, tr329, TT.dv, KS.dv, hz, hi, hi2, hn, c1, hx, s1, s2, s3, s4, s5, f2b_f, d1, show ¬ (1023 : Int) < E by omega, d3, k2, hm]
end Go.Proofs.Ytcjhfgjgmkfmnaa.Dx

/- Law CompareScales. -/
namespace Go.Proofs.Ytcjhfgjgmkfmnaa.Dx
open Go

theorem ldexp_nan (k : Int) : val 329 [Vf nan0, Vi k] = some [Vf nan0] := by
  refine val_of tab329 ?_
  have hn : nanB nan0 := nanB_nan0
  have h1 := feqB_ok (a := nan0) (b := 0) (by decide) (by omega)
  rw [cnF_nanB hn, cnF_ok (b := 0) (by decide)] at h1
  have h2 : ordOk nan0 0 = false := by unfold ordOk; simp [hn]
  rw [h2, Bool.false_and] at h1
  have hi := isInf_ok (b := nan0) (by decide)
  rw [cnF_nanB hn] at hi
  have hi2 := isNaNg_ok (b := nan0) (by decide)
  rw [cnF_nanB hn] at hi2
  simp [tr329, TT.dv, h1, hi, hi2, hn]
theorem scaleV_lt {b : Nat} (hb : b < 18446744073709551616) (k : Int) : scaleV b k < 18446744073709551616 := by
  unfold scaleV
  split
  · decide
  · split
    · exact hb
    · exact word_lt _ _ _
theorem scaleV_nan (b : Nat) (k : Int) : cnF (scaleV b k) = scaleV b k := by
  unfold scaleV
  split
  · exact cnF_nanB nanB_nan0
  · rename_i h
    split
    · exact cnF_ok h
    · exact cnF_ok (nanB_near _ _ _)
theorem ldexp_ok {b : Nat} (hb : b < 18446744073709551616) {k : Int} (hk1 : -4611686018427387904 ≤ k) (hk2 : k ≤ 4611686018427387904) : val 327 [Vf (cnF b), Vi k] = some [Vf (scaleV b k)] := by
  refine val_of tab327 ?_
  have h : val 329 [Vf (cnF b), Vi k] = some [Vf (scaleV b k)] := by
    by_cases hn : nanB b
    · rw [cnF_nanB hn, ldexp_nan]; unfold scaleV; rw [if_pos hn]
    · rw [cnF_ok hn]; exact ldexp_num hb hk1 hk2 hn
  simp [tr327, TT.dv, h]
theorem law_CompareScales {b : Nat} (hb : b < 18446744073709551616) {k : Int} (_hl : -9223372036854775808 ≤ k) (_hh : k < 9223372036854775808) : val 26 [Vu b, Vi k] = some [Vb true] := by
  refine val_of tab26 ?_
  have h1 := scale_ok (b := b) k
  have h2 := scale8_ok hb k
  have h3 := float8_ok b
  have e0 : max (-5000) (min 5000 k) = (max (-5000) (min 5000 k)) := rfl
  have h4 := ldexp_ok hb (k := max (-5000) (min 5000 k)) (by omega) (by omega)
  have h5 : scaleV b (max (-5000) (min 5000 k)) = scaleV b k := by
    unfold scaleV; rw [show clamp (max (-5000) (min 5000 k)) = clamp k by unfold clamp; omega]
  rw [h5] at h4
  have h6 := canon_ok (scaleV_lt hb k)
  rw [scaleV_nan] at h6
  simp [tr26, TT.dv, h1, h2, h3, h4, h6, f2b_f, awake_08]
end Go.Proofs.Ytcjhfgjgmkfmnaa.Dx
