/- The pure meaning of the functions that the law reaches, and that the law is true of it. No conditions. -/
import Derived.KernelRfl
import Derived.Test.YtogcdllpjcnbkaaGreatHouseMakesM1
set_option linter.all false
namespace Go.Proofs.YtogcdllpjcnbkaaGreat.Dx
open Go
theorem awake_07 : val 19 [] = some [Vb true] := val_iff.2 ⟨100, by kernel_rfl⟩
theorem whole_loop {n : Nat} (hn : n < 18446744073709551616) : ∀ (k : Nat) {i : Nat} {root rest : Nat}, i + k = 32 → root < 2 ^ i → rest = n / 2 ^ (64 - 2 * i) - root * root → IsRoot (n / 2 ^ (64 - 2 * i)) root →
    ∃ r, IsRoot n r ∧ rounds (fun vs => lo273_1.dv ([Vu n] ++ vs)) [Vu root, Vu rest, Vi i] = some (.y (.ext 0) [Vu r, Vu (n - r * r)])
  | 0, i, root, rest, hk, hr, hs, hroot => by
    obtain rfl : i = 32 := by omega
    simp at hs hroot
    refine ⟨root, hroot, rounds_exit ?_ (by simp)⟩
    subst hs
    simp [lo273_1, TT.dv]
  | k + 1, i, root, rest, hk, hr, hs, hroot => by
    have hi : i < 32 := by omega
    have hr32 : root < 4294967296 := Nat.lt_of_lt_of_le hr (Nat.pow_le_pow_right (by omega) (by omega : i ≤ 32))
    obtain ⟨h1, h2⟩ := hroot
    have hx : (root + 1) * (root + 1) = root * root + 2 * root + 1 := by rw [Nat.add_mul, Nat.mul_add]; omega
    have hle : rest ≤ 2 * root := by omega
    have hrd := whole_round (n := n) (root := root) (rest := rest) (i := (i : Int)) (by omega) (by omega) hn hr32 hle
    simp only [Int.toNat_natCast] at hrd
    have hstep : n / 2 ^ (64 - 2 * (i + 1)) = 4 * (n / 2 ^ (64 - 2 * i)) + n / 2 ^ (62 - 2 * i) % 4 := by
      rw [show 64 - 2 * i = (62 - 2 * i) + 2 by omega, Nat.pow_add, ← Nat.div_div_eq_div_mul, show 64 - 2 * (i + 1) = 62 - 2 * i by omega]
      generalize n / 2 ^ (62 - 2 * i) = q; omega
    generalize hb : n / 2 ^ (62 - 2 * i) % 4 = b at *
    have hp : 2 ^ (i + 1) = 2 * 2 ^ i := by rw [Nat.pow_succ]; omega
    by_cases hc : root * 4 + 1 ≤ rest * 4 + b
    · rw [if_pos hc] at hrd
      have hd : (2 * root + 1) * (2 * root + 1) = 4 * (root * root) + 4 * root + 1 := by
        rw [Nat.add_mul, Nat.mul_add, Nat.mul_mul_mul_comm]; omega
      have hd2 : (2 * root + 1 + 1) * (2 * root + 1 + 1) = 4 * (root * root) + 8 * root + 4 := by
        rw [show 2 * root + 1 + 1 = 2 * (root + 1) by omega, Nat.mul_mul_mul_comm, hx]; omega
      obtain ⟨r, hr1, hr2⟩ := whole_loop hn k (i := i + 1) (root := 2 * root + 1) (rest := rest * 4 + b - (root * 4 + 1)) (by omega) (by omega) (by rw [hstep, hd]; omega) ⟨by rw [hstep, hd]; omega, by rw [hstep, hd2]; omega⟩
      refine ⟨r, hr1, ?_⟩
      exact (rounds_cont (f := fun vs => lo273_1.dv ([Vu n] ++ vs)) hrd).trans hr2
    · rw [if_neg hc] at hrd
      have hd : (2 * root) * (2 * root) = 4 * (root * root) := by
        rw [Nat.mul_mul_mul_comm]
      have hd2 : (2 * root + 1) * (2 * root + 1) = 4 * (root * root) + 4 * root + 1 := by
        rw [Nat.add_mul, Nat.mul_add, Nat.mul_mul_mul_comm]; omega
      obtain ⟨r, hr1, hr2⟩ := whole_loop hn k (i := i + 1) (root := 2 * root) (rest := rest * 4 + b) (by omega) (by omega) (by rw [hstep, hd]; omega) ⟨by rw [hstep, hd]; omega, by rw [hstep, hd2]; omega⟩
      refine ⟨r, hr1, ?_⟩
      exact (rounds_cont (f := fun vs => lo273_1.dv ([Vu n] ++ vs)) hrd).trans hr2
theorem whole_ok {n : Nat} (hn : n < 18446744073709551616) : ∃ r, IsRoot n r ∧ val 273 [Vu n] = some [Vu r, Vb (decide (n - r * r = 0))] := by
  obtain ⟨r, h1, h2⟩ := whole_loop hn 32 (i := 0) (root := 0) (rest := 0) (by omega) (by omega) (by simp; omega) ⟨by simp, by simp; omega⟩
  refine ⟨r, h1, val_of tab273 ?_⟩
  have h3 : rounds (fun vs => lo273_1.dv ([Vu n] ++ vs)) [Vu 0, Vu 0, Vi 0] = some (.y (.ext 0) [Vu r, Vu (n - r * r)]) := h2
  unfold tr273
  simp only [TT.dv, List.map, den_u64_lit, den_i64]
  show (match rounds (fun vs => lo273_1.dv ([Vu n] ++ vs)) [Vu 0, Vu 0, Vi 0] with | some (.y x vs) => _ | _ => none) = _
  rw [h3]
  simp [KS.dv, TT.dv]

theorem small_round {n r s : Nat} (h : r + s < 4294967296) : lo137_1.dv [Vu n, Vu r, Vu s] =
    if s = 0 then some (.y (.ext 0) [Vu r]) else some (.y .cont [Vu (if (r + s) * (r + s) ≤ n then r + s else r), Vu (s / 2)]) := by
  have e1 : (B.quo .u64).den (Vu s) (Vu 2) = Vu (s / 2) := quo_u (by omega)
  have h1 : (r + s) % 18446744073709551616 = r + s := by omega
  have h2 : (r + s) * (r + s) % 18446744073709551616 = (r + s) * (r + s) := Nat.mod_eq_of_lt (Nat.lt_of_le_of_lt (Nat.mul_le_mul (Nat.le_of_lt_succ h) (Nat.le_of_lt_succ h)) (by omega))
  by_cases h0 : s = 0
  · subst h0; simp [lo137_1, TT.dv]
  · by_cases hc : (r + s) * (r + s) ≤ n
    · simp [lo137_1, TT.dv, KS.dv, h0, h1, h2, e1, hc, Nat.pos_of_ne_zero h0]
    · simp [lo137_1, TT.dv, KS.dv, h0, h1, h2, e1, hc, Nat.pos_of_ne_zero h0]
theorem small_loop {n : Nat} (hn : n < 18446744073709551616) : ∀ (k : Nat) {r : Nat}, k ≤ 32 → r % 2 ^ k = 0 → r + 2 ^ k ≤ 4294967296 → r * r ≤ n → n < (r + 2 ^ k) * (r + 2 ^ k) →
    ∃ r', IsRoot n r' ∧ rounds (fun vs => lo137_1.dv ([Vu n] ++ vs)) [Vu r, Vu (2 ^ k / 2)] = some (.y (.ext 0) [Vu r'])
  | 0, r, _, _, hb, h1, h2 => by
    refine ⟨r, ⟨h1, by simpa using h2⟩, rounds_exit ?_ (by simp)⟩
    show lo137_1.dv [Vu n, Vu r, Vu 0] = _
    rw [small_round (by omega), if_pos rfl]
  | k + 1, r, hk, hm, hb, h1, h2 => by
    have hp : 2 ^ (k + 1) = 2 * 2 ^ k := by rw [Nat.pow_succ]; omega
    have hpos : 0 < 2 ^ k := Nat.two_pow_pos k
    have hdiv : 2 ^ (k + 1) / 2 = 2 ^ k := by omega
    rw [hdiv]
    have hrd := small_round (n := n) (r := r) (s := 2 ^ k) (by omega)
    rw [if_neg (by omega)] at hrd
    have hm' : r % 2 ^ k = 0 := by
      rw [hp] at hm
      have := Nat.mod_mul_left_mod r 2 (2 ^ k)
      rw [hm] at this; simpa using this.symm
    by_cases hc : (r + 2 ^ k) * (r + 2 ^ k) ≤ n
    · rw [if_pos hc] at hrd
      obtain ⟨r', h3, h4⟩ := small_loop hn k (r := r + 2 ^ k) (by omega) (by rw [Nat.add_mod_right]; exact hm') (by omega) hc (by rw [Nat.add_assoc, ← Nat.two_mul, ← hp]; exact h2)
      refine ⟨r', h3, ?_⟩
      exact (rounds_cont (f := fun vs => lo137_1.dv ([Vu n] ++ vs)) hrd).trans h4
    · rw [if_neg hc] at hrd
      obtain ⟨r', h3, h4⟩ := small_loop hn k (r := r) (by omega) hm' (by omega) h1 (by omega)
      refine ⟨r', h3, ?_⟩
      exact (rounds_cont (f := fun vs => lo137_1.dv ([Vu n] ++ vs)) hrd).trans h4
theorem small_ok {n : Nat} (hn : n < 18446744073709551616) : ∃ r, IsRoot n r ∧ val 137 [Vu n] = some [Vu r] := by
  obtain ⟨r, h1, h2⟩ := small_loop hn 32 (r := 0) (by omega) (by simp) (by simp) (by simp) (by simpa using hn)
  refine ⟨r, h1, val_of tab137 ?_⟩
  have h3 : rounds (fun vs => lo137_1.dv ([Vu n] ++ vs)) [Vu 0, Vu 2147483648] = some (.y (.ext 0) [Vu r]) := h2
  unfold tr137
  simp only [TT.dv, List.map, den_u64_lit]
  show (match rounds (fun vs => lo137_1.dv ([Vu n] ++ vs)) [Vu 0, Vu 2147483648] with | some (.y x vs) => _ | _ => none) = _
  rw [h3]
  simp [KS.dv, TT.dv]
theorem law_RootWholes {n : Nat} (hn : n < 18446744073709551616) : val 18 [Vu n] = some [Vb true] := by
  obtain ⟨r, h1, h2⟩ := whole_ok hn
  obtain ⟨s, h3, h4⟩ := small_ok hn
  obtain rfl := h1.uniq h3
  have hsq : r * r % 18446744073709551616 = r * r := Nat.mod_eq_of_lt (Nat.lt_of_le_of_lt h1.1 hn)
  have hx : decide (n - r * r = 0) = decide (r * r = n) := by
    rw [decide_eq_decide]; have := h1.1; omega
  refine val_of tab18 ?_
  simp [tr18, TT.dv, h2, h4, awake_07, hsq, hx]
end Go.Proofs.YtogcdllpjcnbkaaGreat.Dx

/- root.long: the root of a number of two words. -/
namespace Go.Proofs.YtogcdllpjcnbkaaGreat.Dx
open Go

theorem long_round {n root rest : Nat} {i : Nat} (hi : i < 64) (hn : n < 18446744073709551616) (hr : root < 9223372036854775808) (hs : rest ≤ 2 * root) :
    let p := if i < 32 then n / 2 ^ (62 - 2 * i) % 4 else 0
    lo274_1.dv [Vu n, Vu root, Vu (rest / 18446744073709551616), Vu (rest % 18446744073709551616), Vi i] = some (.y .cont (if root * 4 + 1 ≤ rest * 4 + p then [Vu (2 * root + 1), Vu ((rest * 4 + p - (root * 4 + 1)) / 18446744073709551616), Vu ((rest * 4 + p - (root * 4 + 1)) % 18446744073709551616), Vi ((i + 1 : Nat) : Int)] else [Vu (2 * root), Vu ((rest * 4 + p) / 18446744073709551616), Vu ((rest * 4 + p) % 18446744073709551616), Vi ((i + 1 : Nat) : Int)])) := by
  intro p
  have hp : p < 4 := by show (if i < 32 then n / 2 ^ (62 - 2 * i) % 4 else 0) < 4; split <;> omega
  have ep : ¬ i < 32 → p = 0 := fun h => if_neg h
  have e1 : i < 32 → (B.sub .i64).den (Vi 62) ((B.mul .i64).den (Vi 2) (Vi i)) = Vi (62 - 2 * i) := fun h => by
    rw [mul_i (by omega) (by omega), sub_i (by omega) (by omega)]
  have e2 : i < 32 → (B.and .u64).den ((B.shr .u64).den (Vu n) (Vi (62 - 2 * i))) (Vu 3) = Vu p := fun h => by
    rw [shr_uI (s := 62 - 2 * i) (by omega), Nat.min_eq_left (by omega), and_3]
    show _ = Vu (if i < 32 then n / 2 ^ (62 - 2 * i) % 4 else 0); rw [if_pos h]
  generalize hpd : p = p' at *
  clear hpd
  have a1 : (B.or .u64).den ((B.shl .u64).den (Vu (rest % 18446744073709551616)) (Vu 2)) (Vu p') = Vu ((rest * 4 + p') % 18446744073709551616) := by
    have h1 : (B.shl .u64).den (Vu (rest % 18446744073709551616)) (Vu 2) = Vu (2 ^ 2 * (rest % 4611686018427387904)) := by rw [shl_uU]; exact congrArg Vu (by simp; omega)
    rw [h1, or_add (by omega) (by omega) (by omega)]; exact congrArg Vu (by omega)
  have a2 : (B.or .u64).den ((B.shl .u64).den (Vu (rest / 18446744073709551616)) (Vu 2)) ((B.shr .u64).den (Vu (rest % 18446744073709551616)) (Vu 62)) = Vu ((rest * 4 + p') / 18446744073709551616) := by
    have h1 : (B.shl .u64).den (Vu (rest / 18446744073709551616)) (Vu 2) = Vu (2 ^ 2 * (rest / 18446744073709551616)) := by rw [shl_uU]; exact congrArg Vu (by simp; omega)
    have h2 : (B.shr .u64).den (Vu (rest % 18446744073709551616)) (Vu 62) = Vu (rest % 18446744073709551616 / 4611686018427387904) := by rw [shr_uU]; rfl
    rw [h1, h2, or_add (by omega) (by omega) (by omega)]; exact congrArg Vu (by omega)
  have a3 : (B.or .u64).den ((B.shl .u64).den (Vu root) (Vu 2)) (Vu 1) = Vu ((root * 4 + 1) % 18446744073709551616) := by
    have h1 : (B.shl .u64).den (Vu root) (Vu 2) = Vu (2 ^ 2 * (root % 4611686018427387904)) := by rw [shl_uU]; exact congrArg Vu (by simp; omega)
    rw [h1, or_add (by omega) (by omega) (by omega)]; exact congrArg Vu (by omega)
  have a4 : (B.shr .u64).den (Vu root) (Vu 62) = Vu ((root * 4 + 1) / 18446744073709551616) := by rw [shr_uU]; exact congrArg Vu (by simp; omega)
  have a5 : (B.shl .u64).den (Vu root) (Vu 1) = Vu (2 * root) := by rw [shl_uU]; exact congrArg Vu (by simp; omega)
  have a6 : (B.or .u64).den (Vu (2 * root)) (Vu 1) = Vu (2 * root + 1) := by
    have := or_add (a := root) (b := 1) (i := 1) (by omega) (by omega) (by omega)
    simpa using this
  have a7 : (B.add .i64).den (Vi i) (Vi 1) = Vi ((i + 1 : Nat) : Int) := by rw [add_i (by omega) (by omega)]; rfl
  generalize hX : rest * 4 + p' = X at *
  generalize hY : root * 4 + 1 = Y at *
  have hXb : X < 2 ^ 80 := by omega
  have hYb : Y < 2 ^ 80 := by omega
  have sb : ∀ a b c : Nat, T3.sborrow.den (Vu a) (Vu b) (Vu c) = Vu (if a < b + c then 1 else 0) := fun a b c => by
    by_cases h : a < b + c <;> simp [T3.den, PV.int, Vu, h]
  have ss : ∀ a b c : Nat, b + c ≤ a + 18446744073709551616 → T3.ssub.den (Vu a) (Vu b) (Vu c) = Vu ((a + 18446744073709551616 - b - c) % 18446744073709551616) := fun a b c h => by
    simp only [T3.den, PV.int, Vu, Int.toNat_natCast]; rfl
  have b1 := sb (X % 18446744073709551616) (Y % 18446744073709551616) 0
  have lec : ∀ q : Nat, q ≤ 1 → B.le.den (Vu q) (Vu 1) = Vb true := fun q h => by simp [h]
  generalize hbw : (if X % 18446744073709551616 < Y % 18446744073709551616 + 0 then 1 else 0) = bw at *
  have hbw1 : bw ≤ 1 := by subst hbw; split <;> omega
  have b2 := sb (X / 18446744073709551616) (Y / 18446744073709551616) bw
  have s1 := ss (X % 18446744073709551616) (Y % 18446744073709551616) 0 (by omega)
  have s2 := ss (X / 18446744073709551616) (Y / 18446744073709551616) bw (by omega)
  have hi' : (i : Int) < 64 := by omega
  by_cases hc : Y ≤ X
  · have c1 : (if X / 18446744073709551616 < Y / 18446744073709551616 + bw then 1 else 0) = 0 := by
      subst hbw; rw [if_neg]; split <;> omega
    have c2 : (X / 18446744073709551616 + 18446744073709551616 - Y / 18446744073709551616 - bw) % 18446744073709551616 = (X - Y) / 18446744073709551616 := by
      subst hbw; split <;> omega
    have c3 : (X % 18446744073709551616 + 18446744073709551616 - Y % 18446744073709551616 - 0) % 18446744073709551616 = (X - Y) % 18446744073709551616 := by omega
    rw [c1] at b2
    rw [c2] at s2
    rw [c3] at s1
    rw [if_pos hc]
    by_cases h32 : i < 32
    · have h32' : (i : Int) < 32 := by omega
      simp [-shl_u_lit, -shr_u_lit, lo274_1, TT.dv, KS.dv, hi', h32', e1 h32, e2 h32, a1, a2, a3, a4, a5, a6, a7, b1, b2, s1, s2, hbw1, show 2 * (i : Int) ≤ 62 by omega]
    · have h32' : ¬ (i : Int) < 32 := by omega
      have hp0 : p' = 0 := ep h32
      subst hp0
      simp [-shl_u_lit, -shr_u_lit, lo274_1, TT.dv, KS.dv, hi', h32', a1, a2, a3, a4, a5, a6, a7, b1, b2, s1, s2, hbw1]
  · have c1 : (if X / 18446744073709551616 < Y / 18446744073709551616 + bw then 1 else 0) = 1 := by
      subst hbw; rw [if_pos]; split <;> omega
    rw [c1] at b2
    rw [if_neg hc]
    by_cases h32 : i < 32
    · have h32' : (i : Int) < 32 := by omega
      simp [-shl_u_lit, -shr_u_lit, lo274_1, TT.dv, KS.dv, hi', h32', e1 h32, e2 h32, a1, a2, a3, a4, a5, a7, b1, b2, hbw1, show 2 * (i : Int) ≤ 62 by omega]
    · have h32' : ¬ (i : Int) < 32 := by omega
      have hp0 : p' = 0 := ep h32
      subst hp0
      simp [-shl_u_lit, -shr_u_lit, lo274_1, TT.dv, KS.dv, hi', h32', a1, a2, a3, a4, a5, a7, b1, b2, hbw1]
theorem long_loop {n : Nat} (hn : n < 4611686018427387904) : ∀ (k : Nat) {i : Nat} {root rest : Nat}, i + k = 64 → rest = n * 2 ^ 64 / 2 ^ (128 - 2 * i) - root * root → IsRoot (n * 2 ^ 64 / 2 ^ (128 - 2 * i)) root →
    ∃ r, IsRoot (n * 2 ^ 64) r ∧ rounds (fun vs => lo274_1.dv (Vu n :: vs)) [Vu root, Vu (rest / 18446744073709551616), Vu (rest % 18446744073709551616), Vi i] = some (.y (.ext 0) [Vu r, Vu ((n * 2 ^ 64 - r * r) / 18446744073709551616), Vu ((n * 2 ^ 64 - r * r) % 18446744073709551616)])
  | 0, i, root, rest, hk, hs, hroot => by
    obtain rfl : i = 64 := by omega
    simp only [Nat.mul_one, show 128 - 2 * 64 = 0 by rfl, Nat.pow_zero, Nat.div_one] at hs hroot
    refine ⟨root, hroot, rounds_exit ?_ (by simp)⟩
    subst hs
    simp [lo274_1, TT.dv]
  | k + 1, i, root, rest, hk, hs, hroot => by
    have hi : i < 64 := by omega
    have hr63 : root < 9223372036854775808 := by
      by_cases h : root < 9223372036854775808
      · exact h
      · have h1 := hroot.1
        have h2 : n * 2 ^ 64 / 2 ^ (128 - 2 * i) ≤ n * 2 ^ 64 := Nat.div_le_self _ _
        have h3 := Nat.mul_le_mul (show 9223372036854775808 ≤ root by omega) (show 9223372036854775808 ≤ root by omega)
        omega
    obtain ⟨h1, h2⟩ := hroot
    have hx : (root + 1) * (root + 1) = root * root + 2 * root + 1 := by rw [Nat.add_mul, Nat.mul_add]; omega
    have hle : rest ≤ 2 * root := by omega
    have hrd := long_round (n := n) (root := root) (rest := rest) (i := i) hi (by omega) hr63 hle
    obtain ⟨b, hb⟩ : ∃ b, b = if i < 32 then n / 2 ^ (62 - 2 * i) % 4 else 0 := ⟨_, rfl⟩
    simp only [← hb] at hrd
    have hstep : n * 2 ^ 64 / 2 ^ (128 - 2 * (i + 1)) = 4 * (n * 2 ^ 64 / 2 ^ (128 - 2 * i)) + b := by
      have e1 : n * 2 ^ 64 / 2 ^ (128 - 2 * i) = n * 2 ^ 64 / 2 ^ (128 - 2 * (i + 1)) / 4 := by
        rw [show 128 - 2 * i = (128 - 2 * (i + 1)) + 2 by omega, Nat.pow_add, ← Nat.div_div_eq_div_mul]
      have e2 : n * 2 ^ 64 / 2 ^ (128 - 2 * (i + 1)) % 4 = b := by
        by_cases h : i < 32
        · rw [hb, if_pos h, show 128 - 2 * (i + 1) = 64 + (62 - 2 * i) by omega, Nat.pow_add, ← Nat.div_div_eq_div_mul, Nat.mul_div_cancel _ (by omega)]
        · rw [hb, if_neg h]
          have : n * 2 ^ 64 = n * 2 ^ (2 * i - 62) * 2 ^ (128 - 2 * (i + 1)) := by
            rw [Nat.mul_assoc, ← Nat.pow_add]; congr 2; omega
          rw [this, Nat.mul_div_cancel _ (Nat.two_pow_pos _), show 2 * i - 62 = (2 * i - 64) + 2 by omega, Nat.pow_add, ← Nat.mul_assoc]
          exact Nat.mul_mod_left _ _
      rw [e1]; omega
    have hb4 : b < 4 := by subst hb; split <;> omega
    clear hb
    by_cases hc : root * 4 + 1 ≤ rest * 4 + b
    · rw [if_pos hc] at hrd
      have hd : (2 * root + 1) * (2 * root + 1) = 4 * (root * root) + 4 * root + 1 := by
        rw [Nat.add_mul, Nat.mul_add, Nat.mul_mul_mul_comm]; omega
      have hd2 : (2 * root + 1 + 1) * (2 * root + 1 + 1) = 4 * (root * root) + 8 * root + 4 := by
        rw [show 2 * root + 1 + 1 = 2 * (root + 1) by omega, Nat.mul_mul_mul_comm, hx]; omega
      obtain ⟨r, hr1, hr2⟩ := long_loop hn k (i := i + 1) (root := 2 * root + 1) (rest := rest * 4 + b - (root * 4 + 1)) (by omega) (by rw [hstep, hd]; omega) ⟨by rw [hstep, hd]; omega, by rw [hstep, hd2]; omega⟩
      exact ⟨r, hr1, (rounds_cont (f := fun vs => lo274_1.dv (Vu n :: vs)) hrd).trans hr2⟩
    · rw [if_neg hc] at hrd
      have hd : (2 * root) * (2 * root) = 4 * (root * root) := by rw [Nat.mul_mul_mul_comm]
      have hd2 : (2 * root + 1) * (2 * root + 1) = 4 * (root * root) + 4 * root + 1 := by
        rw [Nat.add_mul, Nat.mul_add, Nat.mul_mul_mul_comm]; omega
      obtain ⟨r, hr1, hr2⟩ := long_loop hn k (i := i + 1) (root := 2 * root) (rest := rest * 4 + b) (by omega) (by rw [hstep, hd]; omega) ⟨by rw [hstep, hd]; omega, by rw [hstep, hd2]; omega⟩
      exact ⟨r, hr1, (rounds_cont (f := fun vs => lo274_1.dv (Vu n :: vs)) hrd).trans hr2⟩
theorem long_ok {n : Nat} (hn : n < 4611686018427387904) : ∃ r, IsRoot (n * 2 ^ 64) r ∧ val 274 [Vu n] = some [Vu r, Vb (decide (r * r = n * 2 ^ 64))] := by
  obtain ⟨r, h1, h2⟩ := long_loop hn 64 (i := 0) (root := 0) (rest := 0) (by omega) (by rw [Nat.div_eq_of_lt (by simp; omega)]) ⟨by simp, by rw [Nat.div_eq_of_lt (by simp; omega)]; omega⟩
  refine ⟨r, h1, val_of tab274 ?_⟩
  simp only [Nat.zero_div, Nat.zero_mod, Int.natCast_zero] at h2
  have hd : (decide ((n * 2 ^ 64 - r * r) / 18446744073709551616 = 0) && decide ((n * 2 ^ 64 - r * r) % 18446744073709551616 = 0)) = decide (r * r = n * 2 ^ 64) := by
    have := h1.1
    rw [← Bool.decide_and, decide_eq_decide]; omega
  generalize (n * 2 ^ 64 - r * r) / 18446744073709551616 = q1 at *
  generalize (n * 2 ^ 64 - r * r) % 18446744073709551616 = q2 at *
  rw [← hd]
  simp [tr274, TT.dv, KS.dv, h2]
end Go.Proofs.YtogcdllpjcnbkaaGreat.Dx

/- Square roots, rounded: one answer however it is reckoned. -/
namespace Go.Proofs.YtogcdllpjcnbkaaGreat.Dx
open Go

def isq (n : Nat) : Nat := if n = 0 then 0 else if (2 * isq (n / 4) + 1) * (2 * isq (n / 4) + 1) ≤ n then 2 * isq (n / 4) + 1 else 2 * isq (n / 4)
termination_by n
decreasing_by all_goals omega
theorem isq_ok (n : Nat) : IsRoot n (isq n) := by
  induction n using Nat.strongRecOn with
  | ind n ih =>
    by_cases h : n = 0
    · subst h; rw [isq]; exact ⟨by simp, by simp⟩
    · obtain ⟨h1, h2⟩ := ih (n / 4) (by omega)
      rw [isq, if_neg h]
      generalize isq (n / 4) = r at *
      have e1 : (2 * r) * (2 * r) = 4 * (r * r) := by rw [Nat.mul_mul_mul_comm]
      have e2 : (r + 1) * (r + 1) = r * r + 2 * r + 1 := by rw [Nat.add_mul, Nat.mul_add]; omega
      have e3 : (2 * r + 1 + 1) * (2 * r + 1 + 1) = 4 * ((r + 1) * (r + 1)) := by rw [show 2 * r + 1 + 1 = 2 * (r + 1) by omega, Nat.mul_mul_mul_comm]
      split
      · rename_i hc; exact ⟨hc, by omega⟩
      · rename_i hc; exact ⟨by omega, by omega⟩
def bit (b : Bool) : Nat := b.toNat
def stk (N w : Nat) : Nat := 2 * w + (decide (w * w ≠ N)).toNat
theorem lt_of_sq {a b : Nat} (h : a * a < b * b) : a < b := by
  by_cases hh : b ≤ a
  · have := Nat.mul_le_mul hh hh; omega
  · omega
theorem sqrt_scale {N w w' j : Nat} {p : Int} (h1 : IsRoot N w) (h2 : IsRoot (N * 4 ^ j) w') (hw : w ≠ 0) (hp : p < lastP w p) :
    nearR (stk (N * 4 ^ j) w') (p - j - 1) = nearR (stk N w) (p - 1) ∧ exq (stk (N * 4 ^ j) w') (p - j - 1) = exq (stk N w) (p - 1) := by
  have h4 : (4 : Nat) ^ j = 2 ^ j * 2 ^ j := by rw [show (4 : Nat) = 2 * 2 by decide, Nat.mul_pow]
  have hP := Nat.two_pow_pos j
  have sq : ∀ a, (a * 2 ^ j) * (a * 2 ^ j) = a * a * 4 ^ j := fun a => by rw [h4, Nat.mul_mul_mul_comm]
  obtain ⟨a1, a2⟩ := h1
  have b1 : w * 2 ^ j ≤ w' := by
    have : (w * 2 ^ j) * (w * 2 ^ j) < (w' + 1) * (w' + 1) := by rw [sq]; exact Nat.lt_of_le_of_lt (Nat.mul_le_mul_right _ a1) h2.2
    have := lt_of_sq this; omega
  have b2 : w' < (w + 1) * 2 ^ j := by
    have : w' * w' < ((w + 1) * 2 ^ j) * ((w + 1) * 2 ^ j) := by rw [sq]; exact Nat.lt_of_le_of_lt h2.1 (Nat.mul_lt_mul_of_pos_right a2 (by rw [h4]; exact Nat.mul_pos hP hP))
    exact lt_of_sq this
  obtain ⟨r, hr⟩ : ∃ r, w' = w * 2 ^ j + r := ⟨w' - w * 2 ^ j, by omega⟩
  have hrlt : r < 2 ^ j := by rw [Nat.add_mul, Nat.one_mul] at b2; omega
  by_cases he : w * w = N
  · have hw' : w' = w * 2 ^ j := by
      refine h2.uniq ⟨by rw [sq, he]; exact Nat.le_refl _, ?_⟩
      have : (w * 2 ^ j) * (w * 2 ^ j) < (w * 2 ^ j + 1) * (w * 2 ^ j + 1) := Nat.mul_lt_mul'' (by omega) (by omega)
      rwa [sq, he] at this
    have e1 : stk N w = 2 * w := by unfold stk; simp [he]
    have e2 : stk (N * 4 ^ j) w' = 2 * w * 2 ^ j := by unfold stk; rw [hw', sq, he]; simp [Nat.mul_assoc]
    rw [e1, e2, show p - (j : Int) - 1 = (p - 1) - j by omega]
    exact ⟨(near_scale true _ _ j).2.2, exq_scale _ _ j⟩
  · have e1 : stk N w = 2 * w + 1 := by unfold stk; simp [he]
    have e2 : stk (N * 4 ^ j) w' = w * 2 ^ (j + 1) + (2 * r + (decide (w' * w' ≠ N * 4 ^ j)).toNat) := by
      unfold stk; rw [hr, Nat.pow_succ, ← Nat.mul_assoc]; omega
    have hb : (decide (w' * w' ≠ N * 4 ^ j)).toNat ≤ 1 := by cases decide (w' * w' ≠ N * 4 ^ j) <;> simp
    have h0 : 0 < 2 * r + (decide (w' * w' ≠ N * 4 ^ j)).toNat := by
      by_cases hr0 : r = 0
      · have : w' * w' ≠ N * 4 ^ j := fun hh => by
          rw [hr, hr0, Nat.add_zero, sq] at hh
          exact he (Nat.eq_of_mul_eq_mul_right (by rw [h4]; exact Nat.mul_pos hP hP) hh)
        simp [this]
      · omega
    rw [e1, e2, show p - (j : Int) - 1 = p - ((j + 1 : Nat) : Int) by omega]
    exact near_sticky hw hp h0 (by rw [Nat.pow_succ]; omega)
theorem place_big {w : Nat} (h : 9007199254740992 ≤ w) (p : Int) : p < lastP w p := by
  unfold lastP
  have : ¬ w.log2 < 53 := fun hh => by rw [Nat.log2_lt (by omega)] at hh; omega
  omega
theorem sq_same {m s1 s2 w1 w2 : Nat} {e p1 p2 : Int} (h1 : e - s1 = 2 * p1) (h2 : e - s2 = 2 * p2) (r1 : IsRoot (m * 2 ^ s1) w1) (r2 : IsRoot (m * 2 ^ s2) w2) (b1 : 9007199254740992 ≤ w1) (b2 : 9007199254740992 ≤ w2) :
    nearR (stk (m * 2 ^ s1) w1) (p1 - 1) = nearR (stk (m * 2 ^ s2) w2) (p2 - 1) ∧ exq (stk (m * 2 ^ s1) w1) (p1 - 1) = exq (stk (m * 2 ^ s2) w2) (p2 - 1) := by
  have main : ∀ {s1 s2 w1 w2 : Nat} {p1 p2 : Int}, s1 ≤ s2 → e - s1 = 2 * p1 → e - s2 = 2 * p2 → IsRoot (m * 2 ^ s1) w1 → IsRoot (m * 2 ^ s2) w2 → 9007199254740992 ≤ w1 →
      nearR (stk (m * 2 ^ s2) w2) (p2 - 1) = nearR (stk (m * 2 ^ s1) w1) (p1 - 1) ∧ exq (stk (m * 2 ^ s2) w2) (p2 - 1) = exq (stk (m * 2 ^ s1) w1) (p1 - 1) := by
    intro s1 s2 w1 w2 p1 p2 hle h1 h2 r1 r2 b1
    obtain ⟨j, hj⟩ : ∃ j : Nat, (j : Int) = p1 - p2 := ⟨(p1 - p2).toNat, by omega⟩
    have hs : m * 2 ^ s2 = m * 2 ^ s1 * 4 ^ j := by
      rw [show (4 : Nat) = 2 ^ 2 by decide, ← Nat.pow_mul, Nat.mul_assoc, ← Nat.pow_add]; congr 2; omega
    rw [hs] at r2 ⊢
    have := sqrt_scale (p := p1) r1 r2 (by omega) (place_big b1 p1)
    rw [show p1 - (j : Int) - 1 = p2 - 1 by omega] at this
    exact this
  rcases Nat.le_total s1 s2 with h | h
  · have := main h h1 h2 r1 r2 b1; exact ⟨this.1.symm, this.2.symm⟩
  · exact main h h2 h1 r2 r1 b2
def sqS (e : Int) : Nat := if e % 2 = 0 then 110 else 111
def sqN (m : Nat) (e : Int) : Nat := stk (m * 2 ^ sqS e) (isq (m * 2 ^ sqS e))
def sqP (e : Int) : Int := (e - sqS e) / 2 - 1
theorem root_ge {N w k : Nat} (h : IsRoot N w) (hk : k * k ≤ N) : k ≤ w := by
  have := lt_of_sq (Nat.lt_of_le_of_lt hk h.2); omega
theorem sq_any {m s w : Nat} {e p : Int} (hm : m ≠ 0) (h : e - s = 2 * p) (r : IsRoot (m * 2 ^ s) w) (b : 9007199254740992 ≤ w) :
    nearR (stk (m * 2 ^ s) w) (p - 1) = nearR (sqN m e) (sqP e) ∧ exq (stk (m * 2 ^ s) w) (p - 1) = exq (sqN m e) (sqP e) := by
  have hs : e - sqS e = 2 * ((e - sqS e) / 2) := by unfold sqS; split <;> omega
  have hge : 9007199254740992 ≤ isq (m * 2 ^ sqS e) := by
    refine root_ge (isq_ok _) ?_
    have h1 : 2 ^ 110 ≤ 2 ^ sqS e := Nat.pow_le_pow_right (by omega) (by unfold sqS; split <;> omega)
    have h2 := Nat.mul_le_mul (show 1 ≤ m by omega) h1
    have h3 : (9007199254740992 : Nat) * 9007199254740992 ≤ 2 ^ 110 := by decide
    omega
  exact sq_same h hs r (isq_ok _) b hge
/-- The order of rungs. -/
theorem RHE_mono {n n' : Nat} (d : Nat) (h : n ≤ n') : RHE n d ≤ RHE n' d := by
  unfold RHE
  have hp := Nat.two_pow_pos d
  have h1 := Nat.div_add_mod n (2 ^ d)
  have h2 := Nat.div_add_mod n' (2 ^ d)
  have h3 := Nat.mod_lt n hp
  have h4 := Nat.mod_lt n' hp
  have h5 : n / 2 ^ d ≤ n' / 2 ^ d := Nat.div_le_div_right h
  by_cases he : n / 2 ^ d = n' / 2 ^ d
  · rw [he] at h1 ⊢
    have h6 : n % 2 ^ d ≤ n' % 2 ^ d := by omega
    have : (if 2 ^ d < 2 * (n % 2 ^ d) ∨ 2 ^ d = 2 * (n % 2 ^ d) ∧ n' / 2 ^ d % 2 = 1 then 1 else 0) ≤ (if 2 ^ d < 2 * (n' % 2 ^ d) ∨ 2 ^ d = 2 * (n' % 2 ^ d) ∧ n' / 2 ^ d % 2 = 1 then 1 else 0) := by
      split <;> split <;> omega
    omega
  · split <;> split <;> omega
theorem rung_mono {n n' : Nat} (p : Int) (h : n ≤ n') : rung n p ≤ rung n' p := by
  by_cases h0 : n = 0
  · subst h0; rw [rung_zero]; omega
  · have h0' : n' ≠ 0 := by omega
    have hlog : n.log2 ≤ n'.log2 := by
      have := bl_mono h; rw [log2_bl h0, log2_bl h0'] at this; omega
    have k := kept_bounds (n := n) (p := p) h0
    have k' := kept_bounds (n := n') (p := p) h0'
    have hl : lastP n p ≤ lastP n' p := by unfold lastP; omega
    have hl0 : -1074 ≤ lastP n p := by unfold lastP; omega
    unfold rung
    rw [if_neg h0, if_neg h0']
    by_cases he : lastP n p = lastP n' p
    · rw [he]
      exact Nat.add_le_add_left (RHE_mono _ (Nat.mul_le_mul_right _ h)) _
    · have h1 := k'.2 (by omega)
      have h2 := k.1
      have h3 : (lastP n p + 1074).toNat + 1 ≤ (lastP n' p + 1074).toNat := by omega
      have h4 := Nat.mul_le_mul_right two52 h3
      rw [Nat.add_mul, Nat.one_mul] at h4
      omega
theorem nearR_mono {n n' : Nat} (p : Int) (h : n ≤ n') : nearR n p ≤ nearR n' p := by
  have := rung_mono p h
  unfold nearR; omega

/-! ### root.Sqrt -/
theorem halve_loop {x0 x1 x2 x3 x4 x5 x6 : PV} : ∀ (n : Nat) {R : Nat} {E : Int} {more : Bool}, R = n → R < 18446744073709551616 → -9000000000 ≤ E → E + 2 * bl R ≤ 9000000000 → ∃ (R' : Nat) (j r : Nat), R = R' * 2 ^ j + r ∧ r < 2 ^ j ∧ R' < 4611686018427387904 ∧ (0 < j → 2305843009213693952 ≤ R') ∧
    rounds (fun vs => lo272_1.dv (x0 :: x1 :: x2 :: x3 :: x4 :: x5 :: x6 :: vs)) [Vi E, Vu R, Vb more] = some (.y (.ext 5) [Vi (E + 2 * j), Vu R', Vb (more || decide (r ≠ 0))]) := by
  intro n
  induction n using Nat.strongRecOn with
  | ind n ih =>
    intro R E more hmn hm he he2
    by_cases h1 : 4611686018427387904 ≤ R
    · have hbh := bl_half (n := R) (by omega)
      obtain ⟨R', j, r, r2, r3, r4, r5, r6⟩ := ih (R / 2) (by omega) (E := E + 2) (more := more || decide (R % 2 = 1)) rfl (by omega) (by omega) (by omega)
      refine ⟨R', j + 1, 2 * r + R % 2, ?_, ?_, r4, ?_, ?_⟩
      · rw [Nat.pow_succ, ← Nat.mul_assoc]; omega
      · rw [Nat.pow_succ]; omega
      · intro _
        by_cases hj : j = 0
        · subst hj; simp at r2 r3; omega
        · exact r5 (by omega)
      · have e1 : (B.add .i64).den (Vi E) (Vi 2) = Vi (E + 2) := add_i (by omega) (by omega)
        have e3 : (more || decide (2 * r + R % 2 ≠ 0)) = ((more || decide (R % 2 = 1)) || decide (r ≠ 0)) := by
          cases more
          · simp only [Bool.false_or]
            by_cases q1 : R % 2 = 1 <;> by_cases q2 : r = 0 <;> simp [q1, q2] <;> omega
          · simp
        rw [e3, show E + 2 * ((j + 1 : Nat) : Int) = E + 2 + 2 * j by omega]
        refine Eq.trans (rounds_cont ?_) r6
        simp [lo272_1, TT.dv, h1, e1]
    · refine ⟨R, 0, 0, by simp, by simp, by omega, by omega, rounds_exit ?_ (by simp)⟩
      simp [lo272_1, TT.dv, h1]
def sqrtV (b : Nat) : Nat := if nanB b then nan0 else if fMag b = 0 ∧ fPow b = 0 ∨ b = infR then b else if fNeg b then nan0 else nearV false (sqN (fMag b) (fPl b)) (sqP (fPl b))
def sqrtF (b : Nat) : Nat := if nanB b then 0 else if fMag b = 0 ∧ fPow b = 0 ∨ b = infR then 0 else if fNeg b then 16 else nearF (sqN (fMag b) (fPl b)) (sqP (fPl b))
theorem sqrt_ok {b : Nat} (hb : b < 18446744073709551616) : val 272 [Vu b] = some [Vu (sqrtV b), Vy (sqrtF b)] := by
  refine val_of tab272 ?_
  have h1 := kind_ok b
  have h2 := parts_ok b
  have h3 := sign_ok b
  unfold sqrtV sqrtF
  by_cases c1 : nanB b
  · have hk := (kind_nan b).2 c1
    rw [hk] at h1
    simp [tr272, TT.dv, KS.dv, h1, c1, nan0]
  · have hk4 : ¬ fKind b = 4 := fun h => c1 ((kind_nan b).1 h)
    rw [if_neg c1, if_neg c1]
    by_cases c2 : fMag b = 0 ∧ fPow b = 0
    · have hk := (kind_zero b).2 ⟨c2.2, ((mag_zero b).1 c2.1).2⟩
      rw [hk] at h1
      simp [tr272, TT.dv, KS.dv, h1, c2]
    · have hk0 : ¬ fKind b = 0 := fun h => c2 ⟨(mag_zero b).2 ((kind_zero b).1 h), ((kind_zero b).1 h).1⟩
      by_cases c3 : b = infR
      · rw [if_pos (.inr c3), if_pos (.inr c3)]
        unfold infR at c3
        simp [tr272, TT.dv, KS.dv, h1, hk4, hk0, c3] at h1 hk4 hk0 ⊢
        simp [h1, hk4, hk0]
      · have c3' : ¬ b = 9218868437227405312 := c3
        have c23 : ¬ (fMag b = 0 ∧ fPow b = 0 ∨ b = infR) := by rw [not_or]; exact ⟨c2, c3⟩
        rw [if_neg c23, if_neg c23]
        cases c4 : fNeg b
        · have hm0 : fMag b ≠ 0 := fun h => c2 ⟨h, ((mag_zero b).1 h).1⟩
          have hp0 : fPow b ≠ 2047 := fun h => by
            have hf : fFrac b = 0 := by unfold nanB at c1; omega
            apply c3
            unfold infR
            unfold fNeg at c4; unfold fPow at h; unfold fFrac at hf
            simp at c4
            omega
          obtain ⟨p1, p2⟩ := fPl_bd b
          have hm := fMag_lt b
          rw [c4] at h3
          generalize fMag b = m at *
          generalize fPl b = e at *
          have hbl : bl m ≤ 53 := bl_lt.2 hm
          have hbl1 := bl_pos hm0
          have hlz : val 331 [Vu m] = some [Vi (64 - bl m)] := by
            refine val_of tab331 ?_
            have := len64_ok (n := m) (by omega)
            have e1 : (B.sub .i64).den (Vi 64) (Vi (bl m)) = Vi (64 - bl m) := sub_i (by omega) (by omega)
            simp [tr331, TT.dv, this, e1]
          have a1 : (B.sub .i64).den (Vi (64 - bl m)) (Vi 2) = Vi (62 - bl m) := by rw [sub_i (by omega) (by omega)]; exact congrArg Vi (by omega)
          have a2 : (B.sub .i64).den (Vi e) (Vi (62 - bl m)) = Vi (e - (62 - bl m)) := sub_i (by omega) (by omega)
          have a3 : (B.sub .i64).den (Vi (62 - bl m)) (Vi 1) = Vi (61 - bl m) := by rw [sub_i (by omega) (by omega)]; exact congrArg Vi (by omega)
          have hrem : B.ne.den ((B.rem .i64).den (Vi (e - (62 - bl m))) (Vi 2)) (Vi 0) = Vb (decide ((e - (62 - bl m)) % 2 ≠ 0)) := by
            show Vb ((e - (62 - (bl m : Int))).tmod 2 != 0) = _
            rw [Bo_inj]
            have : (e - (62 - (bl m : Int))).tmod 2 = 0 ↔ (e - (62 - (bl m : Int))) % 2 = 0 := by rw [← Int.dvd_iff_tmod_eq_zero, ← Int.dvd_iff_emod_eq_zero]
            by_cases hh : (e - (62 - (bl m : Int))) % 2 = 0
            · rw [this.2 hh, hh]; rfl
            · have h' : ¬ (e - (62 - (bl m : Int))).tmod 2 = 0 := fun h => hh (this.1 h)
              simp [h', hh]
          obtain ⟨s, hs1, hs2, hs3⟩ : ∃ s : Nat, (s : Int) = (if (e - (62 - (bl m : Int))) % 2 ≠ 0 then 61 - (bl m : Int) else 62 - bl m) ∧ (e - s) % 2 = 0 ∧ s ≤ 62 := by
            refine ⟨(if (e - (62 - (bl m : Int))) % 2 ≠ 0 then 61 - (bl m : Int) else 62 - bl m).toNat, ?_, ?_, ?_⟩ <;> split <;> omega
          have hM : m * 2 ^ s < 4611686018427387904 ∧ 1152921504606846976 ≤ m * 2 ^ s := by
            have := bl_shl hm0 s
            have hh : bl (m * 2 ^ s) ≤ 62 ∧ ¬ bl (m * 2 ^ s) ≤ 60 := by rw [this]; split at hs1 <;> omega
            rw [bl_lt, bl_lt] at hh
            simpa using hh
          have a4 : (B.shl .u64).den (Vu m) (Vi s) = Vu (m * 2 ^ s) := by rw [shl_uI rfl, Nat.min_eq_left (by omega), Nat.mod_eq_of_lt (by omega)]
          have a5 : (B.sub .i64).den (Vi e) (Vi s) = Vi (e - s) := sub_i (by omega) (by omega)
          obtain ⟨R, hR, hlong⟩ := long_ok (n := m * 2 ^ s) hM.1
          have hRb : R < 9223372036854775808 := by
            have h5 := hR.1
            have : R * R < 9223372036854775808 * 9223372036854775808 := by omega
            exact lt_of_sq this
          have hRl : 2305843009213693952 ≤ R := root_ge hR (by omega)
          have hblR : bl R ≤ 64 := bl_lt.2 (by omega)
          obtain ⟨R', j, r, t1, t2, t3, t4, t5⟩ := halve_loop (x0 := Vu b) (x1 := Vu m) (x2 := Vi e) (x3 := Vi (64 - bl m)) (x4 := Vi s) (x5 := Vu R) (x6 := Vb (decide (R * R = m * 2 ^ s * 2 ^ 64))) R (R := R) (E := e - s) (more := !decide (R * R = m * 2 ^ s * 2 ^ 64)) rfl (by omega) (by omega) (by omega)
          have hj1 : j ≤ 1 := by
            by_cases hj : j ≤ 1
            · exact hj
            · have h5 := t4 (by omega)
              have h6 := Nat.mul_le_mul h5 (Nat.pow_le_pow_right (show 0 < 2 by omega) (show 2 ≤ j by omega))
              omega
          have hR'l : 2305843009213693952 ≤ R' := by
            by_cases hj : j = 0
            · subst hj; simp at t1 t2; omega
            · exact t4 (by omega)
          -- the place of the root
          obtain ⟨q, hq⟩ : ∃ q : Int, e - s = 2 * q := ⟨(e - s) / 2, by omega⟩
          have a6 : (B.sub .i64).den ((B.quo .i64).den (Vi (e - s + 2 * j)) (Vi 2)) (Vi 32) = Vi (q + j - 32) := by
            have : (B.quo .i64).den (Vi (e - s + 2 * j)) (Vi 2) = Vi (q + j) := by
              show Vi (IntKind.i64.wrap ((e - s + 2 * (j : Int)).tdiv 2)) = _
              rw [hq, ← Int.mul_add, Int.mul_tdiv_cancel_left _ (by omega), wrap_i64_of (by omega) (by omega)]
            rw [this, sub_i (by omega) (by omega)]
          have hsq := sq_any (m := m) (s := s + 64) (w := R) (e := e) (p := q - 32) hm0 (by omega) (by rw [Nat.pow_add, ← Nat.mul_assoc]; exact hR) (by omega)
          rw [Nat.pow_add, ← Nat.mul_assoc] at hsq
          have hpl := place_big (w := R') (by omega) (q + j - 32)
          obtain ⟨mo, hmo⟩ : ∃ mo, ((!decide (R * R = m * 2 ^ s * 2 ^ 64)) || decide (r ≠ 0)) = mo := ⟨_, rfl⟩
          have hn := near_ok (neg := false) (more := mo) (m := R') (e := q + j - 32) (by omega) (by omega) (by omega) (fun _ => .inr ⟨by omega, hpl⟩)
          have hVF : nearR (2 * R' + mo.toNat) (q + j - 32 - 1) = nearR (stk (m * 2 ^ s * 2 ^ 64) R) (q - 32 - 1) ∧ exq (2 * R' + mo.toNat) (q + j - 32 - 1) = exq (stk (m * 2 ^ s * 2 ^ 64) R) (q - 32 - 1) := by
            unfold stk
            by_cases hm1 : mo = true
            · subst hm1
              have hb1 : (decide (R * R ≠ m * 2 ^ s * 2 ^ 64)).toNat ≤ 1 := by cases decide (R * R ≠ m * 2 ^ s * 2 ^ 64) <;> simp
              have := near_sticky (n := R') (p := q + j - 32) (j := j + 1) (r := 2 * r + (decide (R * R ≠ m * 2 ^ s * 2 ^ 64)).toNat) (by omega) hpl (by
                by_cases hr0 : r = 0
                · subst hr0
                  simp at hmo
                  simp [hmo]
                · omega) (by rw [Nat.pow_succ 2 j]; omega)
              rw [show q + (j : Int) - 32 - ((j + 1 : Nat) : Int) = q - 32 - 1 by omega, show R' * 2 ^ (j + 1) + (2 * r + (decide (R * R ≠ m * 2 ^ s * 2 ^ 64)).toNat) = 2 * R + (decide (R * R ≠ m * 2 ^ s * 2 ^ 64)).toNat by rw [Nat.pow_succ 2 j, ← Nat.mul_assoc]; omega] at this
              exact ⟨this.1.symm, this.2.symm⟩
            · have hmf : mo = false := by cases mo <;> simp_all
              rw [hmf] at hmo
              simp at hmo
              obtain ⟨g1, g2⟩ := hmo
              rw [hmf]
              simp only [Bool.toNat_false, Nat.add_zero]
              have : (decide (R * R ≠ m * 2 ^ s * 2 ^ 64)).toNat = 0 := by simp [g1]
              rw [this, Nat.add_zero]
              have e2 : 2 * R = 2 * R' * 2 ^ j := by rw [t1, g2, Nat.add_zero, Nat.mul_assoc]
              rw [e2, show q - 32 - 1 = q + (j : Int) - 32 - 1 - j by omega]
              exact ⟨(near_scale true _ _ j).2.2.symm, (exq_scale _ _ j).symm⟩
          have hV : nearV false (2 * R' + mo.toNat) (q + j - 32 - 1) = nearV false (sqN m e) (sqP e) := by unfold nearV; rw [hVF.1, hsq.1]
          have hF : nearF (2 * R' + mo.toNat) (q + j - 32 - 1) = nearF (sqN m e) (sqP e) := by unfold nearF; rw [hVF.1, hVF.2, hsq.1, hsq.2]
          rw [hV, hF] at hn
          rw [hmo] at t5
          generalize hex : decide (R * R = m * 2 ^ s * 2 ^ 64) = ex at *
          have hs0 : (0 : Int) ≤ s := by omega
          by_cases hpar : (e - (62 - (bl m : Int))) % 2 = 0
          · rw [if_neg (by omega)] at hs1
            rw [← hs1] at a1 a2 a3 hrem hpar
            have hlz' : (64 - (bl m : Int)) = s + 2 := by omega
            rw [hlz'] at hlz a1 t5
            simp [tr272, TT.dv, KS.dv, h1, hk4, hk0, c3', h2, h3, hlz, a1, a2, a3, hrem, hpar, a4, a5, hlong, t5, a6, hn]
          · rw [if_pos hpar] at hs1
            rw [← hs1] at a3
            simp [tr272, TT.dv, KS.dv, h1, hk4, hk0, c3', h2, h3, hlz, a1, a2, a3, hrem, hpar, a4, a5, hlong, t5, a6, hn]
        · rw [c4] at h3
          simp [tr272, TT.dv, KS.dv, h1, hk4, hk0, c3', h3, nan0]
end Go.Proofs.YtogcdllpjcnbkaaGreat.Dx

/- Laws RootFloats, RootRises. -/
namespace Go.Proofs.YtogcdllpjcnbkaaGreat.Dx
open Go

theorem rootFrom_ok {n : Nat} : ∀ (t r : Nat), r * r ≤ n → n < (r + 2 ^ t) * (r + 2 ^ t) → IsRoot n (Ieee.Datum.rootFrom n t r)
  | 0, r, h1, h2 => by
    have : Ieee.Datum.rootFrom n 0 r = r := rfl
    rw [this]; exact ⟨h1, by simpa using h2⟩
  | t + 1, r, h1, h2 => by
    unfold Ieee.Datum.rootFrom
    simp only [Nat.one_shiftLeft]
    have e : r + 2 ^ (t + 1) = r + 2 ^ t + 2 ^ t := by rw [Nat.pow_succ]; omega
    rw [e] at h2
    by_cases h : (r + 2 ^ t) * (r + 2 ^ t) ≤ n
    · rw [if_pos h]; exact rootFrom_ok t _ h h2
    · rw [if_neg h]; exact rootFrom_ok t _ h1 (by omega)
theorem ieee_root {m : Nat} {i : Int} (hm : m ≠ 0) (hl : m.log2 ≤ 60) : (Ieee.Datum.root 54 (.number false m i)).map Ieee.double.write = some (nearV false (sqN m i) (sqP i)) := by
  unfold Ieee.Datum.root
  simp only [if_neg hm, Bool.false_eq_true, if_false]
  obtain ⟨s, hs⟩ : ∃ s, s = 2 * 54 - m.log2 + ((i - ((2 * 54 - m.log2 : Nat) : Int)) % 2).toNat := ⟨_, rfl⟩
  rw [← hs]
  have hs1 : (i - s) % 2 = 0 := by omega
  have hpow : 2 ^ 108 ≤ m * 2 ^ s := by
    have h1 := Nat.log2_self_le hm
    have h2 : 2 ^ (2 * 54 - m.log2) ≤ 2 ^ s := Nat.pow_le_pow_right (by omega) (by omega)
    have h3 := Nat.mul_le_mul h1 h2
    rw [← Nat.pow_add, show m.log2 + (2 * 54 - m.log2) = 108 by omega] at h3
    exact h3
  have hroot : IsRoot (m <<< s) (Ieee.Datum.rootFrom (m <<< s) ((m <<< s).log2 / 2 + 1) 0) := by
    refine rootFrom_ok _ _ (by simp) ?_
    have h1 : m <<< s < 2 ^ ((m <<< s).log2 + 1) := Nat.lt_log2_self
    generalize (m <<< s).log2 = l at *
    rw [Nat.zero_add, ← Nat.pow_add]
    exact Nat.lt_of_lt_of_le h1 (Nat.pow_le_pow_right (by omega) (by omega))
  rw [Nat.shiftLeft_eq] at hroot ⊢
  generalize Ieee.Datum.rootFrom (m * 2 ^ s) ((m * 2 ^ s).log2 / 2 + 1) 0 = w at *
  have hw : 9007199254740992 ≤ w := root_ge hroot (Nat.le_trans (by decide) hpow)
  obtain ⟨q, hq⟩ : ∃ q, i - s = 2 * q := ⟨(i - s) / 2, by omega⟩
  have hany := sq_any hm hq hroot hw
  have hdiv : (i - (s : Int)) / 2 = q := by omega
  rw [hdiv]
  have hst : 2 * w + (w * w != m * 2 ^ s).toNat = stk (m * 2 ^ s) w := by
    unfold stk
    by_cases h : w * w = m * 2 ^ s <;> simp [h]
  simp only [Option.map_some, Ieee.Format.write, hst]
  rw [nearest_eq]
  unfold nearV
  have := hany.1
  unfold nearR at this ⊢
  rw [this]
theorem fsqrt_ok {b : Nat} (hb : b < 18446744073709551616) : U.sqrt.den (Vf (cnF b)) = Vf (sqrtV b) := by
  have hnan : Ieee.double.read nan0 = .nan false 2251799813685248 := by rw [read_ok]; decide
  show fv (Ieee.double.sqrt (cnF b)) = _
  unfold Ieee.Format.sqrt sqrtV
  show fv (((Ieee.double.read (cnF b)).root 54).map Ieee.double.write) = _
  by_cases h1 : nanB b
  · rw [cnF_nanB h1, hnan, if_pos h1]; rfl
  · rw [cnF_ok h1, if_neg h1, read_ok, neg_bit hb]
    by_cases h2 : fPow b = 2047
    · have hf : fFrac b = 0 := by unfold nanB at h1; omega
      rw [if_pos h2, if_pos hf]
      have hz : ¬ (fMag b = 0 ∧ fPow b = 0) := by omega
      cases hn : fNeg b
      · have : b = infR := by
          unfold infR
          unfold fNeg at hn; unfold fPow at h2; unfold fFrac at hf
          simp at hn
          omega
        rw [if_pos (.inr this), this]; rfl
      · have : b ≠ infR := fun h => by rw [h] at hn; revert hn; decide
        rw [if_neg (by rw [not_or]; exact ⟨hz, this⟩)]; rfl
    · rw [if_neg h2]
      have hi : b ≠ infR := fun h => by rw [h] at h2; exact h2 (by decide)
      by_cases h3 : fMag b = 0
      · have hp := (mag_zero b).1 h3
        rw [if_pos (.inl ⟨h3, hp.1⟩)]
        have hb0 : b = if fNeg b then 9223372036854775808 else 0 := by
          unfold fNeg
          unfold fPow fFrac at hp
          by_cases hh : b / 9223372036854775808 = 1
          · simp [hh]; omega
          · simp [hh]; omega
        have : ((Ieee.Datum.root 54 (.number (fNeg b) (fMag b) (fPl b))).map Ieee.double.write) = some (if fNeg b then 9223372036854775808 else 0) := by
          unfold Ieee.Datum.root
          simp only [h3, if_true, Option.map_some, Ieee.Format.write]
          rw [nearest_eq, rung_zero]
          cases fNeg b <;> rfl
        rw [this, ← hb0]; rfl
      · have hz : ¬ (fMag b = 0 ∧ fPow b = 0 ∨ b = infR) := by rw [not_or]; exact ⟨by omega, hi⟩
        rw [if_neg hz]
        cases hn : fNeg b
        · have hlog : (fMag b).log2 ≤ 60 := by
            have := (Nat.log2_lt (k := 53) h3).2 (by have := fMag_lt b; simpa using this)
            omega
          rw [ieee_root h3 hlog]; rfl
        · have : ((Ieee.Datum.root 54 (.number true (fMag b) (fPl b))).map Ieee.double.write) = none := by
            unfold Ieee.Datum.root
            simp [h3]
          rw [this]; rfl
theorem float7_ok (b : Nat) : val 20 [Vu b] = some [Vf (cnF b)] := by
  refine val_of tab20 ?_
  simp [tr20, TT.dv, b2f_ok]
theorem sqrtV_lt {b : Nat} (hb : b < 18446744073709551616) : sqrtV b < 18446744073709551616 := by
  unfold sqrtV
  split
  · decide
  · split
    · exact hb
    · split
      · decide
      · exact word_lt _ _ _
theorem nanB_near (neg : Bool) (n : Nat) (p : Int) : ¬ nanB (nearV neg n p) := by
  have h := isnan_near neg n p
  have : isNaN (nearV neg n p) = false := Bo_inj.1 h
  rw [isNaN_iff] at this
  simpa using this
theorem cnF_sqrt {b : Nat} : cnF (sqrtV b) = sqrtV b := by
  unfold sqrtV
  split
  · decide
  · rename_i h1
    split
    · exact cnF_ok h1
    · split
      · decide
      · exact cnF_ok (nanB_near _ _ _)
theorem law_RootFloats {b : Nat} (hb : b < 18446744073709551616) : val 14 [Vu b] = some [Vb true] := by
  refine val_of tab14 ?_
  have h1 := sqrt_ok hb
  have h2 := float7_ok b
  have h3 : val 328 [Vf (cnF b)] = some [Vf (sqrtV b)] := by
    refine val_of tab328 ?_
    simp [tr328, TT.dv, fsqrt_ok hb]
  have h4 := canon_ok (sqrtV_lt hb)
  rw [cnF_sqrt] at h4
  simp [tr14, TT.dv, h1, h2, h3, f2b_f, h4, awake_07]

/-! ### Rises -/
theorem fle_ok {a b : Nat} (ha : a < 18446744073709551616) (hb : b < 18446744073709551616) : B.fle.den (Vf (cnF a)) (Vf (cnF b)) = Vb (ordOk a b && decide (rk a ≤ rk b)) := by
  show Vb (ordIs (cnF a) (cnF b) .lt || ordIs (cnF a) (cnF b) .eq) = _
  rw [ordIs_ok ha hb, ordIs_ok ha hb]
  cases h : ordOk a b
  · simp
  · unfold cmp3
    rcases Int.lt_trichotomy (rk a) (rk b) with h | h | h
    · rw [if_pos h, show decide (rk a ≤ rk b) = true by simp; omega]; rfl
    · rw [if_neg (by omega), if_neg (by omega), show decide (rk a ≤ rk b) = true by simp; omega]; rfl
    · rw [if_neg (by omega), if_pos h, show decide (rk a ≤ rk b) = false by simp; omega]; rfl
theorem fge_ok {a b : Nat} (ha : a < 18446744073709551616) (hb : b < 18446744073709551616) : B.fge.den (Vf (cnF a)) (Vf (cnF b)) = Vb (ordOk a b && decide (rk b ≤ rk a)) := by
  show Vb (ordIs (cnF a) (cnF b) .gt || ordIs (cnF a) (cnF b) .eq) = _
  rw [ordIs_ok ha hb, ordIs_ok ha hb]
  cases h : ordOk a b
  · simp
  · unfold cmp3
    rcases Int.lt_trichotomy (rk a) (rk b) with h | h | h
    · rw [if_pos h, show decide (rk b ≤ rk a) = false by simp; omega]; rfl
    · rw [if_neg (by omega), if_neg (by omega), show decide (rk b ≤ rk a) = true by simp; omega]; rfl
    · rw [if_neg (by omega), if_pos h, show decide (rk b ≤ rk a) = true by simp; omega]; rfl
theorem ordI_gt {a b : Nat} : ordI a b > 0 ↔ (ordOk a b = true ∧ rk b < rk a) := by
  unfold ordI cmp3
  cases h : ordOk a b
  · simp
  · simp; split; omega; split <;> omega
theorem ordI_lt {a b : Nat} : ordI a b < 0 ↔ (ordOk a b = true ∧ rk a < rk b) := by
  unfold ordI cmp3
  cases h : ordOk a b
  · simp
  · simp; split; omega; split <;> omega
theorem rk_near (n : Nat) (p : Int) : rk (nearV false n p) = nearR n p := by
  obtain ⟨k1, k2, k3, k4, k5⟩ := sgn_fields false (nearR_le n p)
  unfold rk
  rw [show fNeg (nearV false n p) = false from k3, show nearV false n p % 9223372036854775808 = nearR n p from k4]; rfl
theorem stk_mono {N N' w w' : Nat} (h : N ≤ N') (r : IsRoot N w) (r' : IsRoot N' w') : stk N w ≤ stk N' w' := by
  have h1 : w ≤ w' := root_ge r' (Nat.le_trans r.1 h)
  unfold stk
  have b1 : (decide (w * w ≠ N)).toNat ≤ 1 := by cases decide (w * w ≠ N) <;> simp
  by_cases he : w = w'
  · subst he
    by_cases hs : w * w = N'
    · have : N = N' := by have := r.1; omega
      subst this; exact Nat.le_refl _
    · have : (decide (w * w ≠ N')).toNat = 1 := by simp [hs]
      omega
  · omega
/-- The root of a greater number is no less. -/
theorem sq_mono {m1 m2 : Nat} {e1 e2 : Int} (h1 : m1 ≠ 0) (h2 : m2 ≠ 0) (h : m1 * 2 ^ (e1 + 1074).toNat ≤ m2 * 2 ^ (e2 + 1074).toNat) (p1 : -1074 ≤ e1) (p2 : -1074 ≤ e2) : nearR (sqN m1 e1) (sqP e1) ≤ nearR (sqN m2 e2) (sqP e2) := by
  have k1 : e1 - ((((e1 + 1074).toNat + 200 : Nat)) : Int) = 2 * (-637) := by omega
  have k2 : e2 - ((((e2 + 1074).toNat + 200 : Nat)) : Int) = 2 * (-637) := by omega
  have hle : m1 * 2 ^ ((e1 + 1074).toNat + 200) ≤ m2 * 2 ^ ((e2 + 1074).toNat + 200) := by
    rw [Nat.pow_add, Nat.pow_add, ← Nat.mul_assoc, ← Nat.mul_assoc]; exact Nat.mul_le_mul_right _ h
  have big : ∀ {m t : Nat}, m ≠ 0 → 9007199254740992 ≤ isq (m * 2 ^ (t + 200)) := fun {m t} hm => root_ge (isq_ok _) (by
    have h1 : 2 ^ 110 ≤ 2 ^ (t + 200) := Nat.pow_le_pow_right (by omega) (by omega)
    have h2 := Nat.mul_le_mul (show 1 ≤ m by omega) h1
    have h3 : (9007199254740992 : Nat) * 9007199254740992 ≤ 2 ^ 110 := by decide
    omega)
  have a1 := sq_any h1 k1 (isq_ok _) (big h1)
  have a2 := sq_any h2 k2 (isq_ok _) (big h2)
  rw [← a1.1, ← a2.1]
  exact nearR_mono _ (stk_mono hle (isq_ok _) (isq_ok _))
theorem rise {a b : Nat} (ha : a < 18446744073709551616) (hb : b < 18446744073709551616) (h : ordOk a b = true) (hr : rk a ≤ rk b) (h' : ordOk (sqrtV a) (sqrtV b) = true) : rk (sqrtV a) ≤ rk (sqrtV b) := by
  have hok : ¬ nanB a ∧ ¬ nanB b := by unfold ordOk at h; simpa using h
  have hok' : ¬ nanB (sqrtV a) ∧ ¬ nanB (sqrtV b) := by unfold ordOk at h'; simpa using h'
  have hn0 : nanB nan0 := by decide
  -- which ways a root can go
  have ways : ∀ {c : Nat}, c < 18446744073709551616 → ¬ nanB c → ¬ nanB (sqrtV c) → (fMag c = 0 ∧ fPow c = 0 ∧ sqrtV c = c ∧ rk c = 0) ∨ (c = infR ∧ sqrtV c = infR) ∨ (fMag c ≠ 0 ∧ fNeg c = false ∧ fPow c ≠ 2047 ∧ sqrtV c = nearV false (sqN (fMag c) (fPl c)) (sqP (fPl c)) ∧ 0 < rk c) := by
    intro c hc h1 h2
    by_cases c1 : fMag c = 0 ∧ fPow c = 0
    · left
      refine ⟨c1.1, c1.2, by unfold sqrtV; rw [if_neg h1, if_pos (.inl c1)], ?_⟩
      have := (mag_zero c).1 c1.1
      unfold rk; unfold fPow fFrac at this
      rw [show c % 9223372036854775808 = 0 by omega]; cases fNeg c <;> rfl
    · by_cases c2 : c = infR
      · right; left; exact ⟨c2, by unfold sqrtV; rw [if_neg h1, if_pos (.inr c2), c2]⟩
      · right; right
        have c12 : ¬ (fMag c = 0 ∧ fPow c = 0 ∨ c = infR) := by rw [not_or]; exact ⟨c1, c2⟩
        have hs : sqrtV c = if fNeg c then nan0 else nearV false (sqN (fMag c) (fPl c)) (sqP (fPl c)) := by unfold sqrtV; rw [if_neg h1, if_neg c12]
        cases hn : fNeg c
        · rw [hn] at hs
          have hm : fMag c ≠ 0 := fun hh => c1 ⟨hh, ((mag_zero c).1 hh).1⟩
          refine ⟨hm, rfl, fun hp => ?_, hs, ?_⟩
          · apply c2
            have hf : fFrac c = 0 := by unfold nanB at h1; omega
            unfold infR
            unfold fNeg at hn; unfold fPow at hp; unfold fFrac at hf
            simp at hn
            omega
          · unfold rk; rw [hn]
            have : c % 9223372036854775808 ≠ 0 := fun hh => by
              apply hm; rw [mag_zero]; unfold fPow fFrac; omega
            unfold sg; simp; omega
        · rw [hn] at hs
          rw [hs] at h2
          exact absurd hn0 h2
  have hinf : rk infR = 9218868437227405312 := by decide
  rcases ways ha hok.1 hok'.1 with ⟨a1, a2, a3, a4⟩ | ⟨a1, a2⟩ | ⟨a1, a2, a3, a4, a5⟩
  · rw [a3, a4]
    rcases ways hb hok.2 hok'.2 with ⟨b1, b2, b3, b4⟩ | ⟨b1, b2⟩ | ⟨b1, b2, b3, b4, b5⟩
    · rw [b3, b4]; omega
    · rw [b2, hinf]; omega
    · rw [b4, rk_near]; omega
  · rw [a2]
    rcases ways hb hok.2 hok'.2 with ⟨b1, b2, b3, b4⟩ | ⟨b1, b2⟩ | ⟨b1, b2, b3, b4, b5⟩
    · rw [a1, hinf] at hr; omega
    · rw [b2]; omega
    · have := fin_rk (b := b) (by have := fPow_lt b; omega)
      rw [a1, hinf] at hr; omega
  · rw [a4, rk_near]
    rcases ways hb hok.2 hok'.2 with ⟨b1, b2, b3, b4⟩ | ⟨b1, b2⟩ | ⟨b1, b2, b3, b4, b5⟩
    · omega
    · rw [b2, hinf]; have := nearR_le (sqN (fMag a) (fPl a)) (sqP (fPl a)); unfold infR at this; omega
    · rw [b4, rk_near]
      have hab : a % 9223372036854775808 ≤ b % 9223372036854775808 := by
        unfold rk at hr; rw [a2, b2] at hr; unfold sg at hr; simp at hr; omega
      have hv : mgv (a % 9223372036854775808) ≤ mgv (b % 9223372036854775808) := by
        rcases Nat.lt_or_eq_of_le hab with h | h
        · exact Nat.le_of_lt (mgv_mono h)
        · rw [h]; exact Nat.le_refl _
      rw [← mgv_val, ← mgv_val] at hv
      have := sq_mono a1 b1 hv (fPl_bd a).1 (fPl_bd b).1
      omega
theorem law_RootRises {a b : Nat} (ha : a < 18446744073709551616) (hb : b < 18446744073709551616) : val 15 [Vu a, Vu b] = some [Vb true] := by
  refine val_of tab15 ?_
  have c1 := fgtB_ok (sqrtV_lt ha) (sqrtV_lt hb)
  have c2 := fltB_ok (sqrtV_lt ha) (sqrtV_lt hb)
  have f1 := float7_ok (sqrtV a)
  have f2 := float7_ok (sqrtV b)
  rw [cnF_sqrt] at f1 f2
  rw [cnF_sqrt, cnF_sqrt] at c1 c2
  have d1 : (!(ordOk a b && decide (rk a ≤ rk b)) || !decide (ordI (sqrtV a) (sqrtV b) > 0)) = true := by
    cases h : (ordOk a b && decide (rk a ≤ rk b))
    · rfl
    · simp only [Bool.and_eq_true, decide_eq_true_eq] at h
      have : ¬ ordI (sqrtV a) (sqrtV b) > 0 := fun hh => by
        rw [ordI_gt] at hh
        have := rise ha hb h.1 h.2 hh.1
        omega
      simp [this]
  have sym : ∀ x y, ordOk x y = ordOk y x := fun x y => by unfold ordOk; rw [decide_eq_decide]; exact And.comm
  have d2 : (!(ordOk a b && decide (rk b ≤ rk a)) || !decide (ordI (sqrtV a) (sqrtV b) < 0)) = true := by
    cases h : (ordOk a b && decide (rk b ≤ rk a))
    · rfl
    · simp only [Bool.and_eq_true, decide_eq_true_eq] at h
      have : ¬ ordI (sqrtV a) (sqrtV b) < 0 := fun hh => by
        rw [ordI_lt] at hh
        have := rise hb ha (by rw [sym]; exact h.1) h.2 (by rw [sym]; exact hh.1)
        omega
      simp [this]
  simp only [tr15, TT.dv, List.map, isTrue_den, den_bi, den_un, den_tri, den_var, den_bool, List.getD_cons_zero, List.getD_cons_succ, bool_Bo, List.cons_append, List.nil_append, sqrt_ok ha, sqrt_ok hb, float7_ok, f1, f2, fle_ok ha hb, fge_ok ha hb, c1, c2, awake_07, not_b, ite_or, ite_and, List.length_cons, List.length_nil, if_true]
  rw [d1, d2]; rfl
end Go.Proofs.YtogcdllpjcnbkaaGreat.Dx

/- Law CompareScales: math.Ldexp. -/
namespace Go.Proofs.YtogcdllpjcnbkaaGreat.Dx
open Go

/-- The product of two floats. -/
def zeroF (b : Nat) : Prop := fMag b = 0 ∧ fPow b = 0
theorem fmul_num {a b : Nat} (ha : a < 18446744073709551616) (hb : b < 18446744073709551616) (h1 : fPow a ≠ 2047) (h2 : fPow b ≠ 2047) : B.fmul.den (Vf a) (Vf b) = Vf (nearV (fNeg a ^^ fNeg b) (fMag a * fMag b) (fPl a + fPl b)) := by
  show fv (Ieee.double.mul a b) = _
  unfold Ieee.Format.mul
  rw [read_ok, read_ok, neg_bit ha, neg_bit hb, if_neg h1, if_neg h2]
  show fv (some (Ieee.double.nearest _ _ _)) = _
  rw [nearest_eq]; rfl
theorem rk_range (b : Nat) : -9223372036854775808 < rk b ∧ rk b < 9223372036854775808 := by unfold rk sg; split <;> omega
theorem fpos_lt {a b : Nat} (ha : a < 18446744073709551616) (hb : b < 18446744073709551616) (h1 : ¬ nanB a) (h2 : ¬ nanB b) : B.flt.den (Vf a) (Vf b) = Vb (decide (rk a < rk b)) := by
  have := fltB_ok ha hb
  rw [cnF_ok h1, cnF_ok h2] at this
  rw [this, Bo_inj, decide_eq_decide]
  have ho : ordOk a b = true := by unfold ordOk; simp [h1, h2]
  unfold ordI; rw [if_pos ho]; unfold cmp3; split; omega; split <;> omega

/-! ### bits -/
theorem or_word {s f P : Nat} (hs : s ≤ 1) (hf : f < 4503599627370496) (hP : P < 2048) : (B.or .u64).den (Vu (9223372036854775808 * s + f)) (Vu (P * 4503599627370496)) = Vu (9223372036854775808 * s + P * 4503599627370496 + f) := by
  rw [or_u (by omega) (by omega)]
  refine congrArg Vu ?_
  have e1 := Nat.two_pow_add_eq_or_of_lt (b := f) (i := 63) (by omega) s
  have e2 := Nat.two_pow_add_eq_or_of_lt (b := f) (i := 52) (by omega) P
  have e3 := Nat.two_pow_add_eq_or_of_lt (b := 4503599627370496 * P + f) (i := 63) (by omega) s
  simp only [show (2 : Nat) ^ 63 = 9223372036854775808 from rfl, show (2 : Nat) ^ 52 = 4503599627370496 from rfl] at e1 e2 e3
  rw [e1, Nat.or_assoc, Nat.or_comm f, Nat.mul_comm P, ← e2, ← e3, Nat.add_assoc]
theorem and_top {a : Nat} (ha : a < 18446744073709551616) : a &&& 9223372036854775808 = 9223372036854775808 * (a / 9223372036854775808) := by
  have e : (9223372036854775808 : Nat) = 2 ^ 63 := by decide
  rcases (show a / 9223372036854775808 = 0 ∨ a / 9223372036854775808 = 1 by omega) with h1 | h1
  · rw [h1]
    have h2 : a < 2 ^ 63 := by omega
    rw [e]
    apply Nat.eq_of_testBit_eq
    intro i
    rw [Nat.testBit_and, Nat.testBit_two_pow]
    by_cases hi : 63 = i
    · subst hi; rw [Nat.testBit_lt_two_pow h2]; simp
    · simp [hi]
  · rw [h1, e, Nat.mul_one]
    apply Nat.eq_of_testBit_eq
    intro i
    rw [Nat.testBit_and, Nat.testBit_two_pow]
    by_cases hi : 63 = i
    · subst hi
      have : a = 2 ^ 63 + (a - 2 ^ 63) := by omega
      rw [this, Nat.testBit_two_pow_add_eq, Nat.testBit_lt_two_pow (by omega)]; simp
    · simp [hi]
theorem and_63 {a : Nat} (ha : a < 18446744073709551616) : (B.and .u64).den (Vu a) (Vu 9223372036854775808) = Vu (9223372036854775808 * (a / 9223372036854775808)) := by
  rw [and_u ha (by omega), and_top ha]
theorem andNot_exp {b : Nat} (hb : b < 18446744073709551616) : (B.andNot .u64).den (Vu b) (Vu 9218868437227405312) = Vu (9223372036854775808 * (b / 9223372036854775808) + b % 4503599627370496) := by
  rw [show (B.andNot .u64).den (Vu b) (Vu 9218868437227405312) = (B.and .u64).den (Vu b) (Vu 9227875636482146303) from rfl, and_u hb (by omega)]
  refine congrArg Vu ?_
  have e1 : (9227875636482146303 : Nat) = 9223372036854775808 ||| 4503599627370495 := by decide
  have e2 := Nat.two_pow_add_eq_or_of_lt (b := b % 4503599627370496) (i := 63) (by omega) (b / 9223372036854775808)
  have e3 := Nat.and_two_pow_sub_one_eq_mod b 52
  simp only [show (2 : Nat) ^ 63 = 9223372036854775808 from rfl, show (2 : Nat) ^ 52 = 4503599627370496 from rfl, Nat.add_one_sub_one] at e2 e3
  rw [e1, Nat.and_or_distrib_left, and_top hb, e2]
  exact congrArg _ e3
theorem shl_52 {P : Nat} (hP : P < 2048) : (B.shl .u64).den (Vu P) (Vu 52) = Vu (P * 4503599627370496) := by
  rw [shl_uU]; refine congrArg Vu ?_
  show P * 4503599627370496 % _ = _; omega

/-! ### small functions of Go's math -/
theorem nanB_abs (b : Nat) : nanB (b % 9223372036854775808) ↔ nanB b := by
  unfold nanB fPow fFrac; omega
theorem nan0_w : nan0 = 9221120237041090560 := rfl
theorem nanB_nan0 : nanB nan0 := by decide
theorem fabs_ok (b : Nat) : val 322 [Vf (cnF b)] = some [Vf (cnF (b % 9223372036854775808))] := by
  refine val_of tab322 ?_
  by_cases h : nanB b
  · rw [cnF_nanB h, cnF_nanB ((nanB_abs b).2 h)]; rfl
  · rw [cnF_ok h, cnF_ok (fun hh => h ((nanB_abs b).1 hh))]
    simp [tr322, TT.dv, f2b_f, b2f_ok, cnF_ok (fun hh => h ((nanB_abs b).1 hh))]
theorem isInf_ok {b : Nat} (hb : b < 18446744073709551616) : val 325 [Vf (cnF b), Vi 0] = some [Vb (decide (¬ nanB b ∧ fPow b = 2047))] := by
  refine val_of tab325 ?_
  have h1 := fgtB_ok (a := b % 9223372036854775808) (b := 9218868437227405311) (by omega) (by omega)
  rw [cnF_ok (b := 9218868437227405311) (by decide)] at h1
  have h2 : decide (ordI (b % 9223372036854775808) 9218868437227405311 > 0) = decide (¬ nanB b ∧ fPow b = 2047) := by
    rw [decide_eq_decide, ordI_gt]
    unfold ordOk
    rw [decide_eq_true_eq, nanB_abs]
    have : rk 9218868437227405311 = 9218868437227405311 := rfl
    rw [this]
    have : rk (b % 9223372036854775808) = (b % 9223372036854775808 : Nat) := by
      unfold rk fNeg sg
      rw [if_neg (by simp)]; omega
    rw [this]
    constructor
    · rintro ⟨⟨h, _⟩, h'⟩; exact ⟨h, by unfold fPow; omega⟩
    · rintro ⟨h, h'⟩; refine ⟨⟨h, by decide⟩, ?_⟩; unfold fPow at h'; omega
  rw [h2] at h1
  simp [tr325, TT.dv, KS.dv, fabs_ok, h1]
theorem fne_self {b : Nat} (hb : b < 18446744073709551616) : B.fne.den (Vf (cnF b)) (Vf (cnF b)) = Vb (decide (nanB b)) := by
  have h := ordIs_ok hb hb .eq
  show PV.v (.bool (!(ordIs (cnF b) (cnF b) .eq))) = _
  rw [h]
  by_cases c : nanB b
  · simp [c, ordOk, Vb]
  · simp [c, ordOk, Vb, cmp3, ordC]
theorem isNaNg_ok {b : Nat} (hb : b < 18446744073709551616) : val 326 [Vf (cnF b)] = some [Vb (decide (nanB b))] := by
  refine val_of tab326 ?_
  simp [tr326, TT.dv, fne_self hb]
theorem inf1_ok : val 324 [Vi 1] = some [Vf 9218868437227405312] := val_iff.2 ⟨100, by kernel_rfl⟩
theorem infm_ok : val 324 [Vi (-1)] = some [Vf 18442240474082181120] := val_iff.2 ⟨100, by kernel_rfl⟩
theorem isnan_ok (b : Nat) : U.isnan.den (Vf b) = Vb (decide (nanB b)) := by
  show PV.v (.bool (isNaN b)) = _
  rw [isNaN_iff]; rfl
theorem copysign_ok {b : Nat} (hb : b < 18446744073709551616) (h : ¬ nanB b) : val 323 [Vf 0, Vf b] = some [Vf (sgn (fNeg b) 0)] := by
  refine val_of tab323 ?_
  have e1 := isnan_ok b
  have e2 : (B.or .u64).den (Vu 0) (Vu (9223372036854775808 * (b / 9223372036854775808))) = Vu (9223372036854775808 * (b / 9223372036854775808)) := by
    rw [or_u (by omega) (by omega), Nat.zero_or]
  have e3 : 9223372036854775808 * (b / 9223372036854775808) = sgn (fNeg b) 0 := by
    unfold sgn fNeg
    rcases (show b / 9223372036854775808 = 0 ∨ b / 9223372036854775808 = 1 by omega) with h1 | h1 <;> simp [h1]
  have e4 : cnF (sgn (fNeg b) 0) = sgn (fNeg b) 0 := by cases fNeg b <;> decide
  have e5 : U.isnan.den (Vf 0) = Vb false := rfl
  have e6 : cnF 0 = 0 := by decide
  rw [e3] at e2
  simp [tr323, TT.dv, f2b_f, b2f_ok, e1, h, and_63 hb, e2, e3, e4, e5, e6]

/-! ### Ldexp -/
theorem rung_low2 {n : Nat} {p : Int} (h : n ≠ 0) (ht : (n.log2 : Int) + p < -1075) : rung n p = 0 := by
  have hl : lastP n p = -1074 := by unfold lastP; omega
  have hlt : n < 2 ^ (n.log2 + 1) := Nat.lt_log2_self
  have hle : 2 ^ (n.log2 + 1 + 1) ≤ 2 ^ (-1074 - p).toNat := Nat.pow_le_pow_right (by omega) (by omega)
  rw [Nat.pow_succ] at hle
  unfold rung
  rw [if_neg h, hl, show (p - -1074).toNat = 0 by omega, Nat.pow_zero, Nat.mul_one, RHE_small (by omega)]
  simp
/-- What normalize tells of a finite number that is not 0. -/
structure NormOK (b x : Nat) (d : Int) : Prop where
  lt : x < 18446744073709551616
  p1 : fPow x ≠ 0
  p2 : fPow x ≠ 2047
  neg : fNeg x = fNeg b
  d1 : -52 ≤ d ∧ d ≤ 0
  near : ∀ s c, nearV s (fMag x) (fPl x + d + c) = nearV s (fMag b) (fPl b + c)
theorem fields_of {s : Bool} {P q : Nat} (hP : P < 2046) (h1 : two52 ≤ q) (h2 : q < 9007199254740992) : fPow (sgn s (P * two52 + q)) = P + 1 ∧ fMag (sgn s (P * two52 + q)) = q ∧ fNeg (sgn s (P * two52 + q)) = s ∧ sgn s (P * two52 + q) < 18446744073709551616 := by
  unfold two52 at *
  obtain ⟨k1, k2, k3, k4, k5⟩ := sgn_fields s (r := P * 4503599627370496 + q) (by unfold infR; omega)
  refine ⟨by rw [k1]; omega, ?_, k3, k5⟩
  unfold fMag
  rw [k1, k2, if_neg (by omega)]; omega
theorem norm_ok {b : Nat} (hb : b < 18446744073709551616) (h1 : fPow b ≠ 2047) (h2 : fMag b ≠ 0) : ∃ x d, val 330 [Vf b] = some [Vf x, Vi d] ∧ NormOK b x d := by
  have hn : ¬ nanB b := by unfold nanB; omega
  have ha := fabs_ok b
  rw [cnF_ok hn, cnF_ok (fun hh => hn ((nanB_abs b).1 hh))] at ha
  have hlt := fpos_lt (a := b % 9223372036854775808) (b := 4503599627370496) (by omega) (by omega) (fun hh => hn ((nanB_abs b).1 hh)) (by decide)
  have r1 : rk (b % 9223372036854775808) = (b % 9223372036854775808 : Nat) := by
    unfold rk fNeg sg
    rw [if_neg (by simp)]; omega
  rw [r1, show rk 4503599627370496 = 4503599627370496 from rfl] at hlt
  by_cases c : fPow b = 0
  · have e : decide (((b % 9223372036854775808 : Nat) : Int) < 4503599627370496) = true := by
      rw [decide_eq_true_eq]; unfold fPow at c; omega
    rw [e] at hlt
    have hf : fMag b = fFrac b := by unfold fMag; rw [if_pos c]
    have hp : fPl b = -1074 := by unfold fPl; rw [if_pos c]
    have hfl := fFrac_lt b
    have hm := fmul_num (a := b) (b := 4841369599423283200) hb (by omega) h1 (by decide)
    rw [show fNeg 4841369599423283200 = false from by decide, show fMag 4841369599423283200 = 2 ^ 52 from by decide, show fPl 4841369599423283200 = 0 from by decide, Bool.xor_false, hp] at hm
    have hlog : (fMag b).log2 < 52 := by rw [Nat.log2_lt h2]; rw [hf]; exact hfl
    obtain ⟨q, hq⟩ : ∃ q, q = fMag b * 2 ^ (52 - (fMag b).log2) := ⟨_, rfl⟩
    have hq1 : two52 ≤ q := by
      have := Nat.mul_le_mul_right (2 ^ (52 - (fMag b).log2)) (Nat.log2_self_le h2)
      rw [← Nat.pow_add, ← hq, show (fMag b).log2 + (52 - (fMag b).log2) = 52 by omega] at this
      exact this
    have hq2 : q < 9007199254740992 := by
      have := Nat.mul_lt_mul_of_pos_right (Nat.lt_log2_self (n := fMag b)) (Nat.two_pow_pos (52 - (fMag b).log2))
      rw [← Nat.pow_add, ← hq, show (fMag b).log2 + 1 + (52 - (fMag b).log2) = 53 by omega] at this
      exact this
    have hmq : fMag b * 2 ^ 52 = q * 2 ^ (fMag b).log2 := by
      rw [hq, Nat.mul_assoc, ← Nat.pow_add]; exact congrArg _ (congrArg _ (by omega))
    have hx : nearV (fNeg b) (fMag b * 2 ^ 52) (-1074 + 0) = sgn (fNeg b) ((fMag b).log2 * two52 + q) := by
      rw [hmq, show (-1074 : Int) + 0 = ((fMag b).log2 - 1074 : Int) - (fMag b).log2 by omega, (near_scale _ _ _ _).1, (near_normal hq1 hq2 (by omega) (by omega) _).1]
      exact congrArg _ (congrArg (· + q) (congrArg (· * two52) (by omega)))
    rw [hx] at hm
    obtain ⟨k1, k2, k3, k4⟩ := fields_of (s := fNeg b) (P := (fMag b).log2) (by omega) hq1 hq2
    refine ⟨_, -52, val_of tab330 ?_, k4, by omega, by omega, k3, by omega, fun s c => ?_⟩
    · simp [tr330, TT.dv, ha, hlt, hm]
    · rw [k2, hp]
      unfold fPl
      rw [k1, if_neg (by omega), hq, ← (near_scale s (fMag b) (-1074 + c) (52 - (fMag b).log2)).1]
      exact congrArg _ (by omega)
  · have e : decide (((b % 9223372036854775808 : Nat) : Int) < 4503599627370496) = false := by
      rw [decide_eq_false_iff_not]; unfold fPow at c; omega
    rw [e] at hlt
    refine ⟨b, 0, val_of tab330 ?_, hb, c, h1, rfl, by omega, fun s c => by rw [Int.add_zero]⟩
    simp [tr330, TT.dv, ha, hlt]
theorem and_i_2047 {a : Nat} (h : a < 9223372036854775808) : (B.and .i64).den (Vi a) (Vi 2047) = Vi (a % 2048 : Nat) := by
  have h2 : (BitVec.ofInt 64 (a : Int) &&& BitVec.ofInt 64 2047).toNat = a % 2048 := by
    rw [BitVec.toNat_and, BitVec.ofInt_natCast, BitVec.toNat_ofNat, Nat.mod_eq_of_lt (show a < 2 ^ 64 by omega)]
    exact Nat.and_two_pow_sub_one_eq_mod a 11
  show PV.v (.int .i64 (IntKind.i64.wrap ((BitVec.ofInt 64 (a : Int) &&& BitVec.ofInt 64 2047).toNat : Int))) = _
  rw [h2, wrap_i64_of (by omega) (by omega)]; rfl
theorem flt0_ok {b : Nat} (hb : b < 18446744073709551616) (h : fPow b ≠ 2047) (h2 : fPow b ≠ 0) : B.flt.den (Vf b) (Vf 0) = Vb (fNeg b) := by
  rw [fpos_lt hb (by omega) (by unfold nanB; omega) (by decide), Bo_inj, show rk 0 = 0 from rfl]
  unfold rk sg fPow at *
  cases fNeg b <;> simp <;> omega
theorem feq0_ok {b : Nat} (hb : b < 18446744073709551616) (h : ¬ nanB b) : B.feq.den (Vf b) (Vf 0) = Vb (decide (fMag b = 0)) := by
  have := feqB_ok (a := b) (b := 0) hb (by omega)
  rw [cnF_ok h, cnF_ok (b := 0) (by decide)] at this
  rw [this, Bo_inj]
  have ho : ordOk b 0 = true := by unfold ordOk; simp [h]; decide
  rw [ho, Bool.true_and, decide_eq_decide]
  unfold ordI cmp3
  rw [if_pos ho, show rk 0 = 0 from rfl]
  have : rk b = 0 ↔ fMag b = 0 := by
    have h1 : fMag b = 0 ↔ b % 9223372036854775808 = 0 := by unfold fMag fPow fFrac; split <;> omega
    rw [h1]; unfold rk sg; split <;> omega
  rw [← this]
  split
  · constructor <;> intro hh <;> omega
  · split <;> constructor <;> intro hh <;> omega
theorem nearR_top {q : Nat} {e : Int} (h1 : two52 ≤ q) (h2 : q < 9007199254740992) (h3 : 972 ≤ e) : nearR q e = infR := by
  have := rung_fits (q := q) (e := e) (by omega) (by unfold two52; omega) (.inl h1)
  unfold nearR; rw [this]; unfold infR two52 at *; omega
/-- A float times a power of two, by Go's own math. -/
theorem ldexp_num {b : Nat} (hb : b < 18446744073709551616) {k : Int} (hk1 : -4611686018427387904 ≤ k) (hk2 : k ≤ 4611686018427387904) (hn : ¬ nanB b) : val 329 [Vf b, Vi k] = some [Vf (scaleV b k)] := by
  refine val_of tab329 ?_
  have hz := feq0_ok hb hn
  by_cases c0 : fMag b = 0
  · unfold scaleV
    rw [if_neg hn, if_pos (.inr c0)]
    simp [tr329, TT.dv, hz, c0]
  · rw [decide_eq_false c0] at hz
    have hi := isInf_ok hb
    rw [cnF_ok hn] at hi
    have hi2 := isNaNg_ok hb
    rw [cnF_ok hn] at hi2
    by_cases c1 : fPow b = 2047
    · unfold scaleV
      rw [if_neg hn, if_pos (.inl c1)]
      simp [tr329, TT.dv, hz, hi, c1, hn]
    · obtain ⟨x, d, hx, N⟩ := norm_ok hb c1 c0
      have hxn : ¬ nanB x := by unfold nanB; have := N.p2; omega
      have hpw := fPow_lt x
      have hP1 := N.p1
      have hP2 := N.p2
      have hd := N.d1
      have hplx : fPl x = (fPow x : Int) - 1075 := by unfold fPl; rw [if_neg hP1]
      obtain ⟨-, m1, m2⟩ := word_parts N.lt hP1 hP2
      have s0 : (U.conv .i64).den (Vu (x / 4503599627370496)) = Vi (x / 4503599627370496 : Nat) := conv_ui (by have := N.lt; omega)
      have s1 := and_i_2047 (a := x / 4503599627370496) (by have := N.lt; omega)
      rw [show x / 4503599627370496 % 2048 = fPow x from rfl, ← s0] at s1
      have s2 : (B.sub .i64).den (Vi (fPow x)) (Vi 1023) = Vi (fPow x - 1023) := sub_i (by omega) (by omega)
      have s3 : (B.add .i64).den (Vi k) (Vi d) = Vi (k + d) := add_i (by omega) (by omega)
      have s4 : (B.add .i64).den (Vi (k + d)) (Vi (fPow x - 1023)) = Vi (k + d + (fPow x - 1023)) := add_i (by omega) (by omega)
      have s5 : U.isnan.den (Vf x) = Vb false := by rw [isnan_ok]; simp [hxn]
      have hV : scaleV b k = nearV (fNeg b) (fMag x) (fPl x + d + clamp k) := by
        unfold scaleV; rw [if_neg hn, if_neg (by omega), N.near]
      have hcs := copysign_ok N.lt hxn
      have hlt := flt0_ok N.lt hP2 hP1
      rw [N.neg] at hcs hlt
      generalize hE : k + d + ((fPow x : Int) - 1023) = E at *
      have hM0 : fMag x ≠ 0 := by unfold two52 at m1; omega
      by_cases d1 : E < -1075
      · have : nearV (fNeg b) (fMag x) (fPl x + d + clamp k) = sgn (fNeg b) 0 := by
          unfold nearV nearR
          rw [rung_low2 hM0 (by rw [log2_of m1 m2]; unfold clamp; omega)]; rfl
        rw [hV, this]
        simp [tr329, TT.dv, hz, hi, hi2, hn, c1, hx, s1, s2, s3, s4, s5, f2b_f, d1, hcs]
      · by_cases d2 : E > 1023
        · have : nearV (fNeg b) (fMag x) (fPl x + d + clamp k) = sgn (fNeg b) infR := by
            unfold nearV
            rw [nearR_top m1 m2 (by unfold clamp; omega)]
          rw [hV, this]
          cases hs : fNeg b
          · rw [hs] at hlt
            simp [tr329, TT.dv, hz, hi, hi2, hn, c1, hx, s1, s2, s3, s4, s5, f2b_f, d1, show (1023 : Int) < E by omega, hlt, inf1_ok]; rfl
          · rw [hs] at hlt
            simp [tr329, TT.dv, hz, hi, hi2, hn, c1, hx, s1, s2, s3, s4, s5, f2b_f, d1, show (1023 : Int) < E by omega, hlt, infm_ok]; rfl
        · have hcl : clamp k = k := by unfold clamp; omega
          rw [hcl] at hV
          have hnx := andNot_exp N.lt
          have hfr := fFrac_lt x
          have hMf : fMag x = fFrac x + 4503599627370496 := by unfold fMag; rw [if_neg hP1]
          have key : ∀ (e : Int), -1022 ≤ e → e ≤ 1023 → U.b2f.den ((B.or .u64).den ((B.andNot .u64).den (Vu x) (Vu 9218868437227405312)) ((B.shl .u64).den ((U.conv .u64).den ((B.add .i64).den (Vi e) (Vi 1023))) (Vu 52))) = Vf (sgn (fNeg b) ((e + 1022).toNat * two52 + fMag x)) := fun e h1 h2 => by
            rw [hnx, add_i (by omega) (by omega), conv_iu (by omega) (by omega), shl_52 (by omega), or_word (by have := N.lt; omega) (by omega) (by omega), b2f_ok]
            have e1 : 9223372036854775808 * (x / 9223372036854775808) + (e + 1023).toNat * 4503599627370496 + x % 4503599627370496 = sgn (fNeg b) ((e + 1022).toNat * two52 + fMag x) := by
              rw [hMf, ← N.neg, show (e + 1023).toNat = (e + 1022).toNat + 1 by omega]
              unfold sgn fNeg two52 fFrac
              have := N.lt
              rcases (show x / 9223372036854775808 = 0 ∨ x / 9223372036854775808 = 1 by omega) with h1 | h1 <;> simp only [h1, decide_true, if_true, if_false, decide_false, Nat.zero_ne_one, Bool.false_eq_true] <;> omega
            rw [e1, cnF_ok]
            have := (fields_of (s := fNeg b) (P := (e + 1022).toNat) (q := fMag x) (by omega) m1 m2).1
            unfold nanB; omega
          by_cases d3 : E < -1022
          · obtain ⟨f1, f2, f3, f4⟩ := fields_of (s := fNeg b) (P := (E + 53 + 1022).toNat) (q := fMag x) (by omega) m1 m2
            have hm := fmul_num (a := 4368491638549381120) (by omega) f4 (by decide) (by omega)
            have a1 : (B.add .i64).den (Vi E) (Vi 53) = Vi (E + 53) := add_i (by omega) (by omega)
            have k2 := key (E + 53) (by omega) (by omega)
            have hfin : nearV (fNeg 4368491638549381120 ^^ fNeg (sgn (fNeg b) ((E + 53 + 1022).toNat * two52 + fMag x))) (fMag 4368491638549381120 * fMag (sgn (fNeg b) ((E + 53 + 1022).toNat * two52 + fMag x))) (fPl 4368491638549381120 + fPl (sgn (fNeg b) ((E + 53 + 1022).toNat * two52 + fMag x))) = scaleV b k := by
              rw [f3, f2, hV, show fNeg 4368491638549381120 = false from by decide, show fMag 4368491638549381120 = 2 ^ 52 from by decide, show fPl 4368491638549381120 = -105 from by decide, Bool.false_xor, Nat.mul_comm,
                ← (near_scale (fNeg b) (fMag x) (fPl x + d + k) 52).1]
              refine congrArg _ ?_
              unfold fPl at hplx ⊢
              rw [f1, if_neg (by omega), if_neg (by omega)]; omega
            rw [hfin] at hm
            simp [-shl_u_lit, tr329, TT.dv, KS.dv, hz, hi, hi2, hn, c1, hx, s1, s2, s3, s4, s5, f2b_f, d1, show ¬ (1023 : Int) < E by omega, d3, a1, k2, hm]
            done
          · obtain ⟨f1, f2, f3, f4⟩ := fields_of (s := fNeg b) (P := (E + 1022).toNat) (q := fMag x) (by omega) m1 m2
            have hm := fmul_num (a := 4607182418800017408) (by omega) f4 (by decide) (by omega)
            have k2 := key E (by omega) (by omega)
            have hfin : nearV (fNeg 4607182418800017408 ^^ fNeg (sgn (fNeg b) ((E + 1022).toNat * two52 + fMag x))) (fMag 4607182418800017408 * fMag (sgn (fNeg b) ((E + 1022).toNat * two52 + fMag x))) (fPl 4607182418800017408 + fPl (sgn (fNeg b) ((E + 1022).toNat * two52 + fMag x))) = scaleV b k := by
              rw [f3, f2, hV, show fNeg 4607182418800017408 = false from by decide, show fMag 4607182418800017408 = 2 ^ 52 from by decide, show fPl 4607182418800017408 = -52 from by decide, Bool.false_xor, Nat.mul_comm,
                ← (near_scale (fNeg b) (fMag x) (fPl x + d + k) 52).1]
              refine congrArg _ ?_
              unfold fPl at hplx ⊢
              rw [f1, if_neg (by omega), if_neg (by omega)]; omega
            rw [hfin] at hm
            simp [-shl_u_lit, tr329, TT.dv, KS.dv, hz, hi, hi2, hn, c1, hx, s1, s2, s3, s4, s5, f2b_f, d1, show ¬ (1023 : Int) < E by omega, d3, k2, hm]
end Go.Proofs.YtogcdllpjcnbkaaGreat.Dx

/- Law CompareScales. -/
namespace Go.Proofs.YtogcdllpjcnbkaaGreat.Dx
open Go

theorem ldexp_nan (k : Int) : val 329 [Vf nan0, Vi k] = some [Vf nan0] := by
  refine val_of tab329 ?_
  have hn : nanB nan0 := nanB_nan0
  have h1 := feqB_ok (a := nan0) (b := 0) (by decide) (by omega)
  rw [cnF_nanB hn, cnF_ok (b := 0) (by decide)] at h1
  have h2 : ordOk nan0 0 = false := by unfold ordOk; simp [hn]
  rw [h2, Bool.false_and] at h1
  have hi := isInf_ok (b := nan0) (by decide)
  rw [cnF_nanB hn] at hi
  have hi2 := isNaNg_ok (b := nan0) (by decide)
  rw [cnF_nanB hn] at hi2
  simp [tr329, TT.dv, h1, hi, hi2, hn]
theorem scaleV_lt {b : Nat} (hb : b < 18446744073709551616) (k : Int) : scaleV b k < 18446744073709551616 := by
  unfold scaleV
  split
  · decide
  · split
    · exact hb
    · exact word_lt _ _ _
theorem scaleV_nan (b : Nat) (k : Int) : cnF (scaleV b k) = scaleV b k := by
  unfold scaleV
  split
  · exact cnF_nanB nanB_nan0
  · rename_i h
    split
    · exact cnF_ok h
    · exact cnF_ok (nanB_near _ _ _)
theorem ldexp_ok {b : Nat} (hb : b < 18446744073709551616) {k : Int} (hk1 : -4611686018427387904 ≤ k) (hk2 : k ≤ 4611686018427387904) : val 327 [Vf (cnF b), Vi k] = some [Vf (scaleV b k)] := by
  refine val_of tab327 ?_
  have h : val 329 [Vf (cnF b), Vi k] = some [Vf (scaleV b k)] := by
    by_cases hn : nanB b
    · rw [cnF_nanB hn, ldexp_nan]; unfold scaleV; rw [if_pos hn]
    · rw [cnF_ok hn]; exact ldexp_num hb hk1 hk2 hn
  simp [tr327, TT.dv, h]
theorem law_CompareScales {b : Nat} (hb : b < 18446744073709551616) {k : Int} (_hl : -9223372036854775808 ≤ k) (_hh : k < 9223372036854775808) : val 26 [Vu b, Vi k] = some [Vb true] := by
  refine val_of tab26 ?_
  have h1 := scale_ok (b := b) k
  have h2 := scale8_ok hb k
  have h3 := float8_ok b
  have e0 : max (-5000) (min 5000 k) = (max (-5000) (min 5000 k)) := rfl
  have h4 := ldexp_ok hb (k := max (-5000) (min 5000 k)) (by omega) (by omega)
  have h5 : scaleV b (max (-5000) (min 5000 k)) = scaleV b k := by
    unfold scaleV; rw [show clamp (max (-5000) (min 5000 k)) = clamp k by unfold clamp; omega]
  rw [h5] at h4
  have h6 := canon_ok (scaleV_lt hb k)
  rw [scaleV_nan] at h6
  simp [tr26, TT.dv, h1, h2, h3, h4, h6, f2b_f, awake_08]
end Go.Proofs.YtogcdllpjcnbkaaGreat.Dx

/- Law RootRoots: the reference's root. -/
namespace Go.Proofs.YtogcdllpjcnbkaaGreat.Dx
open Go

theorem shi_one (k : Nat) : shi 1 (k : Int) = ((2 ^ k : Nat) : Int) := by
  rw [shi_nonneg (by omega), Int.toNat_natCast]; push_cast; simp
theorem whole_loop7 {x : Nat} (hx : bl x ≤ 10000) {v : PV} : ∀ (k : Nat) {r : Nat}, k ≤ 6000 → bl r ≤ 10000 → r * r ≤ x → x < (r + 2 ^ k) * (r + 2 ^ k) →
    ∃ r' : Nat, IsRoot x r' ∧ rounds (fun vs => lo139_1.dv (bS (x : Int) :: bL (x : Int) :: v :: vs)) [Vi ((k : Int) - 1), bS (r : Int), bL (r : Int)] = some (.y (.ext 0) [bS (r' : Int), bL (r' : Int)])
  | 0, r, _, _, h1, h2 => by
    refine ⟨r, ⟨h1, by simpa using h2⟩, rounds_exit ?_ (by simp)⟩
    simp [lo139_1, TT.dv]
  | k + 1, r, hk, hr, h1, h2 => by
    have hSZ : SZ = 2000000000 := rfl
    have e : r + 2 ^ (k + 1) = r + 2 ^ k + 2 ^ k := by rw [Nat.pow_succ]; omega
    rw [e] at h2
    have e3 : (((k + 1 : Nat) : Int) - 1) = k := by omega
    rw [e3]
    have o1 := of_ok (x := 1) (by omega) (by omega)
    have s1 := shift_ok (x := 1) (k := k) (by have : bl (1 : Int).natAbs = 1 := by decide
                                              omega) (by omega)
    rw [shi_one] at s1
    have hb2 : bl (2 ^ k) = k + 1 := bl_pow k
    have a1 := add_ok (x := (r : Int)) (y := ((2 ^ k : Nat) : Int)) (by rw [Int.natAbs_natCast]; omega) (by rw [Int.natAbs_natCast]; omega)
    rw [← Int.natCast_add] at a1
    have hb3 := bl_add r (2 ^ k)
    have m1 := mul_ok (x := ((r + 2 ^ k : Nat) : Int)) (y := ((r + 2 ^ k : Nat) : Int)) (by rw [Int.natAbs_natCast]; omega) (by rw [Int.natAbs_natCast]; omega)
    rw [← Int.natCast_mul] at m1
    have hb4 := bl_mul (r + 2 ^ k) (r + 2 ^ k)
    have c1 := compare_ok (x := (((r + 2 ^ k) * (r + 2 ^ k) : Nat) : Int)) (y := (x : Int)) (by rw [Int.natAbs_natCast]; omega) (by rw [Int.natAbs_natCast]; omega)
    have e4 : (B.sub .i64).den (Vi k) (Vi 1) = Vi ((k : Int) - 1) := sub_i (by omega) (by omega)
    by_cases h : (r + 2 ^ k) * (r + 2 ^ k) ≤ x
    · have hrx : bl (r + 2 ^ k) ≤ 10000 := by
        have : r + 2 ^ k ≤ x := by
          have := Nat.le_mul_self (r + 2 ^ k); omega
        exact Nat.le_trans (bl_mono this) hx
      obtain ⟨r', q1, q2⟩ := whole_loop7 hx (v := v) k (r := r + 2 ^ k) (by omega) hrx h h2
      refine ⟨r', q1, Eq.trans (rounds_cont ?_) q2⟩
      have hc : cmp3 (((r + 2 ^ k) * (r + 2 ^ k) : Nat) : Int) (x : Int) ≤ 0 := by unfold cmp3; split; omega; split; omega; omega
      generalize (r + 2 ^ k) * (r + 2 ^ k) = sq at *
      generalize r + 2 ^ k = r2 at *
      clear hb2
      generalize 2 ^ k = P at *
      simp [lo139_1, TT.dv, KS.dv, o1, s1, a1, m1, c1, hc, e4]
    · obtain ⟨r', q1, q2⟩ := whole_loop7 hx (v := v) k (r := r) (by omega) hr h1 (by omega)
      refine ⟨r', q1, Eq.trans (rounds_cont ?_) q2⟩
      have hc : ¬ cmp3 (((r + 2 ^ k) * (r + 2 ^ k) : Nat) : Int) (x : Int) ≤ 0 := by unfold cmp3; rw [if_neg (by omega), if_pos (by omega)]; omega
      generalize (r + 2 ^ k) * (r + 2 ^ k) = sq at *
      generalize r + 2 ^ k = r2 at *
      clear hb2
      generalize 2 ^ k = P at *
      simp [lo139_1, TT.dv, KS.dv, o1, s1, a1, m1, c1, hc, e4]
theorem whole7_ok {x : Nat} (hx : bl x ≤ 10000) : ∃ r : Nat, IsRoot x r ∧ val 139 [bS (x : Int), bL (x : Int)] = some [bS (r : Int), bL (r : Int)] := by
  have hlt := lt_bl x
  obtain ⟨r, h1, h2⟩ := whole_loop7 hx (v := Vi (bl x)) (bl x / 2 + 2) (r := 0) (by omega) (by decide) (by omega) (by
    rw [Nat.zero_add, ← Nat.pow_add]
    exact Nat.lt_of_lt_of_le hlt (Nat.pow_le_pow_right (by omega) (by omega)))
  refine ⟨r, h1, val_of tab139 ?_⟩
  have hl := len_ok (x := (x : Int)) (by rw [Int.natAbs_natCast]; unfold SZ; omega)
  rw [Int.natAbs_natCast] at hl
  have e1 : (B.quo .i64).den (Vi (bl x)) (Vi 2) = Vi ((bl x / 2 : Nat) : Int) := by
    show Vi (IntKind.i64.wrap ((bl x : Int).tdiv 2)) = _
    rw [Int.tdiv_eq_ediv_of_nonneg (by omega), wrap_i64_of (by omega) (by omega)]; rfl
  have e2 : (B.add .i64).den (Vi ((bl x / 2 : Nat) : Int)) (Vi 1) = Vi (((bl x / 2 + 2 : Nat) : Int) - 1) := by rw [add_i (by omega) (by omega)]; exact congrArg Vi (by omega)
  have e3 : bS ((0 : Nat) : Int) = Vb false := rfl
  have e4 : bL ((0 : Nat) : Int) = wl [] := by unfold bL; simp [dig_zero]
  rw [e3, e4] at h2
  generalize ((bl x / 2 + 2 : Nat) : Int) - 1 = z at *
  generalize ((bl x / 2 : Nat) : Int) = z2 at *
  simp [tr139, TT.dv, KS.dv, hl, e1, e2, h2]
theorem sqrt8_ok {b : Nat} (hb : b < 18446744073709551616) : val 138 [Vu b] = some [Vu (sqrtV b), Vy (sqrtF b)] := by
  refine val_of tab138 ?_
  have hSZ : SZ = 2000000000 := rfl
  have h1 := kind4_ok hb
  have h3 := neg4_ok hb
  have h2 := value_ok hb
  unfold sqrtV sqrtF
  by_cases c1 : nanB b
  · have hk := (kind_nan b).2 c1
    rw [hk] at h1
    simp [tr138, TT.dv, h1, c1, nan0]
  · have hk4 : ¬ fKind b = 4 := fun h => c1 ((kind_nan b).1 h)
    rw [if_neg c1, if_neg c1]
    by_cases c2 : fMag b = 0 ∧ fPow b = 0
    · have hk := (kind_zero b).2 ⟨c2.2, ((mag_zero b).1 c2.1).2⟩
      rw [hk] at h1
      simp [tr138, TT.dv, h1, c2]
    · have hk0 : ¬ fKind b = 0 := fun h => c2 ⟨(mag_zero b).2 ((kind_zero b).1 h), ((kind_zero b).1 h).1⟩
      by_cases c3 : b = infR
      · rw [if_pos (.inr c3), if_pos (.inr c3)]
        unfold infR at c3
        simp [tr138, TT.dv, h1, hk4, hk0, c3] at h1 hk4 hk0 ⊢
        simp [h1, hk4, hk0]
      · have c3' : ¬ b = 9218868437227405312 := c3
        have c23 : ¬ (fMag b = 0 ∧ fPow b = 0 ∨ b = infR) := by rw [not_or]; exact ⟨c2, c3⟩
        rw [if_neg c23, if_neg c23]
        cases c4 : fNeg b
        · have hm0 : fMag b ≠ 0 := fun h => c2 ⟨h, ((mag_zero b).1 h).1⟩
          rw [c4] at h3
          have hsx : sx b = (fMag b : Int) := by unfold sx; rw [c4]; rfl
          have hB := DB.word b
          obtain ⟨p1, p2⟩ := fPl_bd b
          have hm := fMag_lt b
          rw [hsx] at h2 hB
          have hod := ev_bd hB
          have hobl := od_bd hB
          have hevge := ev_ge (x := (fMag b : Int)) (e := fPl b) (by omega)
          have hevle := ev_le (x := (fMag b : Int)) (e := fPl b) (by omega)
          rw [Int.natAbs_natCast] at hevle
          have hbl53 : bl (fMag b) ≤ 53 := bl_lt.2 hm
          have htz : ev (fMag b : Int) (fPl b) = fPl b + tz (fMag b) := by unfold ev; rw [if_neg (by omega), Int.natAbs_natCast]
          have htz2 := tz_le (fMag b)
          have hodm : od (fMag b : Int) = ((fMag b / 2 ^ tz (fMag b) : Nat) : Int) := by
            unfold od; rw [Int.natAbs_natCast, show decide ((fMag b : Int) < 0) = false by simp]; rfl
          have hdv := tz_dvd (n := fMag b)
          have d1 : dS (fMag b : Int) (fPl b) = bS (od (fMag b : Int)) := rfl
          have d2 : dL (fMag b : Int) (fPl b) = bL (od (fMag b : Int)) := rfl
          have d3 : dE (fMag b : Int) (fPl b) = Vi (ev (fMag b : Int) (fPl b)) := rfl
          rw [d1, d2, d3, hodm] at h2
          rw [hodm] at hobl
          rw [Int.natAbs_natCast] at hobl
          generalize hE : ev (fMag b : Int) (fPl b) = E at *
          generalize htt : tz (fMag b) = t at *
          generalize hM' : fMag b / 2 ^ t = m' at *
          have hm'0 : m' ≠ 0 := fun h => by rw [h, Nat.zero_mul] at hdv; exact hm0 hdv.symm
          have hbm' : bl m' ≤ 53 := by rw [← hM']; exact Nat.le_trans (bl_div _ _) hbl53
          have hrem : B.ne.den ((B.rem .i64).den (Vi E) (Vi 2)) (Vi 0) = Vb (decide (E % 2 ≠ 0)) := by
            show Vb (E.tmod 2 != 0) = _
            rw [Bo_inj]
            have : E.tmod 2 = 0 ↔ E % 2 = 0 := by rw [← Int.dvd_iff_tmod_eq_zero, ← Int.dvd_iff_emod_eq_zero]
            by_cases hh : E % 2 = 0
            · rw [this.2 hh, hh]; rfl
            · have h' : ¬ E.tmod 2 = 0 := fun h => hh (this.1 h)
              simp [h', hh]
          obtain ⟨s, hs⟩ : ∃ s : Nat, s = if E % 2 = 0 then 240 else 241 := ⟨_, rfl⟩
          have hs2 : (E - s) % 2 = 0 ∧ 240 ≤ s ∧ s ≤ 241 := by subst hs; split <;> omega
          have hsh := shift_ok (x := (m' : Int)) (k := (s : Int)) (by rw [Int.natAbs_natCast]; omega) (by omega)
          have hshv : shi (m' : Int) (s : Int) = ((m' * 2 ^ s : Nat) : Int) := by rw [shi_nonneg (by omega), Int.toNat_natCast]; push_cast; rfl
          rw [hshv] at hsh
          have hblN : bl (m' * 2 ^ s) ≤ 300 := by have := bl_shl_le m' s; omega
          obtain ⟨r, hr, hw⟩ := whole7_ok (x := m' * 2 ^ s) (by omega)
          have hrle : r ≤ m' * 2 ^ s := by have := Nat.le_mul_self r; have := hr.1; omega
          have hblr : bl r ≤ 300 := Nat.le_trans (bl_mono hrle) hblN
          have hsq := mul_ok (x := (r : Int)) (y := (r : Int)) (by rw [Int.natAbs_natCast]; omega) (by rw [Int.natAbs_natCast]; omega)
          rw [← Int.natCast_mul] at hsq
          have hsub := sub_ok (x := ((m' * 2 ^ s : Nat) : Int)) (y := ((r * r : Nat) : Int)) (by rw [Int.natAbs_natCast]; omega) (by rw [Int.natAbs_natCast]; have := bl_mul r r; omega)
          have hdbl := double_ok (x := (r : Int)) (by rw [Int.natAbs_natCast]; omega)
          have ho1 := of_ok (x := 1) (by omega) (by omega)
          have hadd := add_ok (x := 2 * (r : Int)) (y := 1) (by have := bl_mul 2 r; have h2' : bl 2 = 2 := by decide
                                                                rw [Int.natAbs_mul, Int.natAbs_natCast]; show bl (2 * r) ≤ _; omega) (by decide)
          have hlen : U.len.den (bL (((m' * 2 ^ s : Nat) : Int) - ((r * r : Nat) : Int))) = Vi (dig (((m' * 2 ^ s : Nat) : Int) - ((r * r : Nat) : Int)).natAbs).length := len_bL _
          have hlz : dig (((m' * 2 ^ s : Nat) : Int) - ((r * r : Nat) : Int)).natAbs = [] ↔ r * r = m' * 2 ^ s := by
            rw [← List.length_eq_zero_iff, dig_len_zero]; omega
          obtain ⟨q, hq⟩ : ∃ q : Int, E - s = 2 * q := ⟨(E - s) / 2, by omega⟩
          have a1 : (B.sub .i64).den (Vi E) (Vi s) = Vi (E - s) := sub_i (by omega) (by omega)
          have a2 : (B.sub .i64).den ((B.quo .i64).den (Vi (E - s)) (Vi 2)) (Vi 1) = Vi (q - 1) := by
            have : (B.quo .i64).den (Vi (E - s)) (Vi 2) = Vi q := by
              show Vi (IntKind.i64.wrap ((E - s).tdiv 2)) = _
              rw [hq, Int.mul_tdiv_cancel_left _ (by omega), wrap_i64_of (by omega) (by omega)]
            rw [this, sub_i (by omega) (by omega)]
          have hst : stk (m' * 2 ^ s) r = 2 * r + (decide (r * r ≠ m' * 2 ^ s)).toNat := rfl
          have hblst : bl (stk (m' * 2 ^ s) r) ≤ 400 := by
            rw [hst]
            have h5 := bl_add (2 * r) (decide (r * r ≠ m' * 2 ^ s)).toNat
            have h6 := bl_mul 2 r
            have h7 : bl 2 = 2 := by decide
            have h8 : bl (decide (r * r ≠ m' * 2 ^ s)).toNat ≤ 1 := by cases decide (r * r ≠ m' * 2 ^ s) <;> decide
            omega
          have hD := ofD_ok (x := (stk (m' * 2 ^ s) r : Int)) (e := q - 1) (by rw [Int.natAbs_natCast]; omega) (by omega) (by omega)
          have hro := round_ok (x := (stk (m' * 2 ^ s) r : Int)) (e := q - 1) ⟨by rw [Int.natAbs_natCast]; omega, by omega, by omega⟩
          rw [Int.natAbs_natCast, show decide ((stk (m' * 2 ^ s) r : Int) < 0) = false by simp] at hro
          have hmm : m' * 2 ^ s = fMag b * 2 ^ (s - t) := by rw [← hdv, Nat.mul_assoc, ← Nat.pow_add]; congr 2; omega
          have hbig : 9007199254740992 ≤ r := root_ge hr (by
            have g1 : 2 ^ 110 ≤ 2 ^ s := Nat.pow_le_pow_right (by omega) (by omega)
            have g2 := Nat.mul_le_mul (show 1 ≤ m' by omega) g1
            have g3 : (9007199254740992 : Nat) * 9007199254740992 ≤ 2 ^ 110 := by decide
            omega)
          have hany := sq_any (m := fMag b) (s := s - t) (w := r) (e := fPl b) (p := q) hm0 (by omega) (by rw [← hmm]; exact hr) hbig
          rw [← hmm] at hany
          have hV : nearV false (stk (m' * 2 ^ s) r) (q - 1) = nearV false (sqN (fMag b) (fPl b)) (sqP (fPl b)) := by unfold nearV; rw [hany.1]
          have hF : nearF (stk (m' * 2 ^ s) r) (q - 1) = nearF (sqN (fMag b) (fPl b)) (sqP (fPl b)) := by unfold nearF; rw [hany.1, hany.2]
          rw [hV, hF] at hro
          clear hV hF hany hmm hblst hbig hblN hrle hr
          have hstI : (stk (m' * 2 ^ s) r : Int) = if r * r = m' * 2 ^ s then 2 * (r : Int) else 2 * r + 1 := by
            rw [hst]
            by_cases hh : r * r = m' * 2 ^ s
            · simp [hh]
            · simp [hh]
          rw [hstI] at hD hro
          generalize m' * 2 ^ s = N at *
          generalize r * r = R2 at *
          generalize (N : Int) - (R2 : Int) = d at *
          by_cases hpar : E % 2 = 0
          · rw [if_pos hpar] at hs
            subst hs
            rw [show ((240 : Nat) : Int) = 240 from rfl] at hsh a1 a2
            by_cases hh : R2 = N
            · rw [if_pos hh] at hD hro
              simp [tr138, TT.dv, KS.dv, h1, hk4, hk0, c3', h3, h2, hrem, hpar, hsh, hw, hsq, hsub, hdbl, hlen, hlz.2 hh, a1, a2, hD, hro]
            · rw [if_neg hh] at hD hro
              have hdn : 0 < (dig d.natAbs).length := List.length_pos_iff.2 fun h => hh (hlz.1 h)
              simp [tr138, TT.dv, KS.dv, h1, hk4, hk0, c3', h3, h2, hrem, hpar, hsh, hw, hsq, hsub, hdbl, hlen, hdn, ho1, hadd, a1, a2, hD, hro]
          · rw [if_neg hpar] at hs
            subst hs
            rw [show ((241 : Nat) : Int) = 241 from rfl] at hsh a1 a2
            by_cases hh : R2 = N
            · rw [if_pos hh] at hD hro
              simp [tr138, TT.dv, KS.dv, h1, hk4, hk0, c3', h3, h2, hrem, hpar, hsh, hw, hsq, hsub, hdbl, hlen, hlz.2 hh, a1, a2, hD, hro]
            · rw [if_neg hh] at hD hro
              have hdn : 0 < (dig d.natAbs).length := List.length_pos_iff.2 fun h => hh (hlz.1 h)
              simp [tr138, TT.dv, KS.dv, h1, hk4, hk0, c3', h3, h2, hrem, hpar, hsh, hw, hsq, hsub, hdbl, hlen, hdn, ho1, hadd, a1, a2, hD, hro]
        · rw [c4] at h3
          simp [tr138, TT.dv, h1, hk4, hk0, c3', h3, nan0]
theorem law_RootRoots {b : Nat} (hb : b < 18446744073709551616) : val 16 [Vu b] = some [Vb true] := by
  refine val_of tab16 ?_
  simp [tr16, TT.dv, sqrt_ok hb, sqrt8_ok hb, awake_07]
end Go.Proofs.YtogcdllpjcnbkaaGreat.Dx

/- Law RootSquares; the reference's product. -/
namespace Go.Proofs.YtogcdllpjcnbkaaGreat.Dx
open Go

def zeroB (b : Nat) : Prop := fMag b = 0 ∧ fPow b = 0
instance (b : Nat) : Decidable (zeroB b) := inferInstanceAs (Decidable (_ ∧ _))
def infB (b : Nat) : Prop := fPow b = 2047 ∧ fFrac b = 0
instance (b : Nat) : Decidable (infB b) := inferInstanceAs (Decidable (_ ∧ _))
theorem kind_zeroB (b : Nat) : fKind b = 0 ↔ zeroB b := by
  rw [kind_zero]; unfold zeroB
  constructor
  · intro h; exact ⟨(mag_zero b).2 h, h.1⟩
  · intro h; exact ⟨h.2, ((mag_zero b).1 h.1).2⟩
theorem kind_infB (b : Nat) : fKind b = 3 ↔ infB b := kind_inf b
def mulV (a b : Nat) : Nat := if nanB a ∨ nanB b then nan0 else if infB a ∨ infB b then (if zeroB a ∨ zeroB b then nan0 else sgn (fNeg a != fNeg b) infR) else if zeroB a ∨ zeroB b then sgn (fNeg a != fNeg b) 0 else nearV (fNeg a != fNeg b) (fMag a * fMag b) (fPl a + fPl b)
def mulF (a b : Nat) : Nat := if nanB a ∨ nanB b then 0 else if infB a ∨ infB b then (if zeroB a ∨ zeroB b then 16 else 0) else if zeroB a ∨ zeroB b then 0 else nearF (fMag a * fMag b) (fPl a + fPl b)
theorem sg_mul (s t : Bool) (m n : Nat) : sg s m * sg t n = sg (s != t) (m * n) := by
  unfold sg; cases s <;> cases t <;> simp [Int.neg_mul, Int.mul_neg]
theorem zeroB_mag {b : Nat} (h : fPow b ≠ 2047) : zeroB b ↔ fMag b = 0 := by
  unfold zeroB
  constructor
  · exact fun h => h.1
  · exact fun h => ⟨h, ((mag_zero b).1 h).1⟩
theorem fin_of {b : Nat} (h1 : ¬ nanB b) (h2 : ¬ infB b) : fPow b ≠ 2047 := by unfold nanB infB at *; omega
theorem mul6_ok {a b : Nat} (ha : a < 18446744073709551616) (hb : b < 18446744073709551616) : val 135 [Vu a, Vu b] = some [Vu (mulV a b), Vy (mulF a b)] := by
  refine val_of tab135 ?_
  have k1 := kind4_ok ha
  have k2 := kind4_ok hb
  have n1 := neg4_ok ha
  have n2 := neg4_ok hb
  have v1 := value_ok ha
  have v2 := value_ok hb
  have hs0 := signed6_ok (r := 0) (by simp) (fNeg a != fNeg b)
  have hsi := signed6_ok (r := 9218868437227405312) (by unfold infR; omega) (fNeg a != fNeg b)
  unfold mulV mulF
  by_cases c1 : nanB a ∨ nanB b
  · have : fKind a = 4 ∨ fKind b = 4 := by rw [kind_nan, kind_nan]; exact c1
    rw [if_pos c1, if_pos c1]
    rcases this with h | h
    · simp [tr135, TT.dv, k1, k2, n1, n2, h, nan0]
    · simp [tr135, TT.dv, k1, k2, n1, n2, h, nan0]
  · have h4 : ¬ fKind a = 4 ∧ ¬ fKind b = 4 := by rw [kind_nan, kind_nan, ← not_or]; exact c1
    rw [if_neg c1, if_neg c1]
    by_cases c2 : infB a ∨ infB b
    · have h3 : fKind a = 3 ∨ fKind b = 3 := by rw [kind_infB, kind_infB]; exact c2
      rw [if_pos c2, if_pos c2]
      by_cases c3 : zeroB a ∨ zeroB b
      · have h0 : fKind a = 0 ∨ fKind b = 0 := by rw [kind_zeroB, kind_zeroB]; exact c3
        rw [if_pos c3, if_pos c3]
        rcases h3 with h3 | h3 <;> rcases h0 with h0 | h0
        · omega
        · simp [tr135, TT.dv, k1, k2, n1, n2, h3, h0, nan0]
        · simp [tr135, TT.dv, k1, k2, n1, n2, h3, h0, nan0]
        · omega
      · have h0 : ¬ fKind a = 0 ∧ ¬ fKind b = 0 := by rw [kind_zeroB, kind_zeroB, ← not_or]; exact c3
        rw [if_neg c3, if_neg c3]
        rcases h3 with h3 | h3
        · simp [tr135, TT.dv, k1, k2, n1, n2, h3, h4, h0, hsi, infR]
        · simp [tr135, TT.dv, k1, k2, n1, n2, h3, h4, h0, hsi, infR]
    · have h3 : ¬ fKind a = 3 ∧ ¬ fKind b = 3 := by rw [kind_infB, kind_infB, ← not_or]; exact c2
      rw [if_neg c2, if_neg c2]
      by_cases c3 : zeroB a ∨ zeroB b
      · have h0 : fKind a = 0 ∨ fKind b = 0 := by rw [kind_zeroB, kind_zeroB]; exact c3
        rw [if_pos c3, if_pos c3]
        rcases h0 with h0 | h0
        · simp [tr135, TT.dv, k1, k2, n1, n2, h3, h4, h0, hs0]
        · simp [tr135, TT.dv, k1, k2, n1, n2, h3, h4, h0, hs0]
      · have h0 : ¬ fKind a = 0 ∧ ¬ fKind b = 0 := by rw [kind_zeroB, kind_zeroB, ← not_or]; exact c3
        rw [if_neg c3, if_neg c3]
        rw [not_or] at c1 c2 c3
        have m1 : fMag a ≠ 0 := fun h => c3.1 ((zeroB_mag (fin_of c1.1 c2.1)).2 h)
        have m2 : fMag b ≠ 0 := fun h => c3.2 ((zeroB_mag (fin_of c1.2 c2.2)).2 h)
        have hm := mulD_ok (DB.word a) (DB.word b)
        have hx : sx a * sx b = sg (fNeg a != fNeg b) (fMag a * fMag b) := sg_mul _ _ _ _
        have pa := fPl_bd a
        have pb := fPl_bd b
        have hbl : bl (fMag a * fMag b) ≤ 106 := by
          have := bl_mul (fMag a) (fMag b)
          have h1 : bl (fMag a) ≤ 53 := bl_lt.2 (fMag_lt a)
          have h2 : bl (fMag b) ≤ 53 := bl_lt.2 (fMag_lt b)
          omega
        have hr := round_ok (x := sx a * sx b) (e := fPl a + fPl b) ⟨by rw [hx, sg_nat]; omega, by omega, by omega⟩
        have hneg : decide (sx a * sx b < 0) = (fNeg a != fNeg b) := by
          rw [hx, sg_neg]; simp [Nat.mul_ne_zero m1 m2]
        rw [hneg, show (sx a * sx b).natAbs = fMag a * fMag b by rw [hx, sg_nat]] at hr
        simp [tr135, TT.dv, k1, k2, n1, n2, h3, h4, h0, v1, v2, hm, hr]

/-- How far rounding goes. -/
theorem RHE_near (n d : Nat) : 2 * (RHE n d * 2 ^ d) ≤ 2 * n + 2 ^ d ∧ 2 * n ≤ 2 * (RHE n d * 2 ^ d) + 2 ^ d := by
  unfold RHE
  have hp := Nat.two_pow_pos d
  have h1 := Nat.div_add_mod n (2 ^ d)
  have h3 := Nat.mod_lt n hp
  rw [Nat.mul_comm] at h1
  split
  · rw [Nat.add_mul, Nat.one_mul]; omega
  · rw [Nat.add_zero]; omega
theorem RHE_down {m r d : Nat} (h : 2 * r < 2 ^ d) : RHE (m * 2 ^ d + r) d = m := by
  have hp := Nat.two_pow_pos d
  unfold RHE
  rw [Nat.mul_comm m, Nat.mul_add_div hp, Nat.div_eq_of_lt (by omega), Nat.mul_add_mod, Nat.mod_eq_of_lt (by omega), if_neg (by omega)]; rfl
theorem RHE_up {m r d : Nat} (h : 2 ^ d < 2 * r) (h2 : r < 2 ^ d) : RHE (m * 2 ^ d + r) d = m + 1 := by
  have hp := Nat.two_pow_pos d
  unfold RHE
  rw [Nat.mul_comm m, Nat.mul_add_div hp, Nat.div_eq_of_lt h2, Nat.mul_add_mod, Nat.mod_eq_of_lt h2, if_pos (by omega)]
theorem sq_exp (x : Nat) : (2 * x + 1) * (2 * x + 1) = 4 * (x * x) + 4 * x + 1 := by
  rw [Nat.add_mul, Nat.mul_add, Nat.mul_mul_mul_comm]; omega
theorem min_inf {e : Int} {m : Nat} (he2 : e ≤ 900) (h2 : m < 9007199254740992) : min ((e + 1074).toNat * two52 + m) infR = (e + 1074).toNat * two52 + m := by
  have h : (e + 1074).toNat ≤ 1974 := by omega
  have := Nat.mul_le_mul_right two52 h
  have k : 1974 * two52 + 9007199254740992 ≤ infR := by decide
  exact Nat.min_eq_left (by omega)
/-- The root of about a square. -/
theorem root_about {m Y t : Nat} {e : Int} (h1 : two52 ≤ m) (h2 : m < 9007199254740992) (he : -1074 ≤ e) (he2 : e ≤ 900) (hlo : (4 * (m * m) + 1 < 4 * Y + 4 * m) ∨ False) (hhi : 4 * Y < 4 * (m * m) + 4 * m + 1) (hex : m = two52 → Y = m * m) (ht : 1 ≤ t) {w : Nat} (hw : IsRoot (Y * 4 ^ t) w) :
    nearR (stk (Y * 4 ^ t) w) (e - t - 1) = (e + 1074).toNat * two52 + m := by
  obtain ⟨u, rfl⟩ : ∃ u, t = u + 1 := ⟨t - 1, by omega⟩
  have hP := Nat.two_pow_pos u
  have hPP : 2 ^ (u + 1) = 2 * 2 ^ u := by rw [Nat.pow_succ]; omega
  have h4 : (4 : Nat) ^ (u + 1) = 4 * (2 ^ u * 2 ^ u) := by rw [Nat.pow_succ, show (4 : Nat) = 2 * 2 by decide, Nat.mul_pow]; omega
  -- bounds of the root
  obtain ⟨m', hm'⟩ : ∃ m', m = m' + 1 := ⟨m - 1, by unfold two52 at h1; omega⟩
  have sqm : (2 * m' + 1) * (2 * m' + 1) = 4 * (m * m) - 4 * m + 1 := by
    rw [sq_exp, hm']
    have : (m' + 1) * (m' + 1) = m' * m' + 2 * m' + 1 := by rw [Nat.add_mul, Nat.mul_add]; omega
    omega
  have hlo' : (2 * m' + 1) * (2 * m' + 1) < 4 * Y := by
    rcases hlo with h | h
    · have : m ≤ m * m := Nat.le_mul_self m
      omega
    · exact h.elim
  have hhi' : 4 * Y < (2 * m + 1) * (2 * m + 1) := by rw [sq_exp]; exact hhi
  have scale : ∀ x, (x * 2 ^ u) * (x * 2 ^ u) = x * x * (2 ^ u * 2 ^ u) := fun x => Nat.mul_mul_mul_comm _ _ _ _
  have hN : Y * 4 ^ (u + 1) = 4 * Y * (2 ^ u * 2 ^ u) := by rw [h4]; rw [← Nat.mul_assoc, Nat.mul_comm Y 4]
  have hPP2 : 0 < 2 ^ u * 2 ^ u := Nat.mul_pos hP hP
  have w1 : (2 * m' + 1) * 2 ^ u ≤ w := root_ge hw (by rw [scale, hN]; exact Nat.mul_le_mul_right _ (Nat.le_of_lt hlo'))
  have w1' : ((2 * m' + 1) * 2 ^ u) * ((2 * m' + 1) * 2 ^ u) < Y * 4 ^ (u + 1) := by rw [scale, hN]; exact Nat.mul_lt_mul_of_pos_right hlo' hPP2
  have w2 : w < (2 * m + 1) * 2 ^ u := by
    refine lt_of_sq (Nat.lt_of_le_of_lt hw.1 ?_)
    rw [scale, hN]; exact Nat.mul_lt_mul_of_pos_right hhi' hPP2
  have hb1 : (decide (w * w ≠ Y * 4 ^ (u + 1))).toNat ≤ 1 := by cases decide (w * w ≠ Y * 4 ^ (u + 1)) <;> simp
  have e1 : (2 * m' + 1) * 2 ^ u = 2 * (m' * 2 ^ u) + 2 ^ u := by rw [Nat.add_mul, Nat.mul_assoc, Nat.one_mul]
  have e2 : (2 * m + 1) * 2 ^ u = 2 * (m' * 2 ^ u) + 3 * 2 ^ u := by rw [hm', Nat.add_mul, Nat.mul_assoc, Nat.add_mul]; omega
  have e3 : m' * 2 ^ (u + 1 + 1) = 4 * (m' * 2 ^ u) := by rw [Nat.pow_succ, Nat.pow_succ]; rw [← Nat.mul_assoc, ← Nat.mul_assoc]; omega
  have e4 : m * 2 ^ (u + 1 + 1) = 4 * (m' * 2 ^ u) + 4 * 2 ^ u := by rw [hm', Nat.add_mul, e3, Nat.pow_succ, Nat.pow_succ]; omega
  have hpow : 2 ^ (u + 1 + 1) = 4 * 2 ^ u := by rw [Nat.pow_succ, Nat.pow_succ]; omega
  -- what it is rounded to
  have hR : RHE (stk (Y * 4 ^ (u + 1)) w) (u + 1 + 1) = m ∧ m * 2 ^ (u + 1 + 1) ≤ stk (Y * 4 ^ (u + 1)) w + 2 * 2 ^ u ∧ (m = two52 → m * 2 ^ (u + 1 + 1) ≤ stk (Y * 4 ^ (u + 1)) w) ∧ stk (Y * 4 ^ (u + 1)) w < (m + 1) * 2 ^ (u + 1 + 1) := by
    have hst : stk (Y * 4 ^ (u + 1)) w = 2 * w + (decide (w * w ≠ Y * 4 ^ (u + 1))).toNat := rfl
    rw [Nat.add_mul, Nat.one_mul, e4, hpow]
    refine ⟨?_, by omega, ?_, by omega⟩
    · by_cases hc : 2 * (m' * 2 ^ u) + 2 * 2 ^ u ≤ w
      · have : stk (Y * 4 ^ (u + 1)) w = m * 2 ^ (u + 1 + 1) + (stk (Y * 4 ^ (u + 1)) w - m * 2 ^ (u + 1 + 1)) := by rw [e4]; omega
        rw [this, RHE_down]
        rw [e4, hpow]; omega
      · have : stk (Y * 4 ^ (u + 1)) w = m' * 2 ^ (u + 1 + 1) + (stk (Y * 4 ^ (u + 1)) w - m' * 2 ^ (u + 1 + 1)) := by rw [e3]; omega
        rw [this, RHE_up]
        · exact hm'.symm
        · rw [e3, hpow]
          by_cases heq : w = (2 * m' + 1) * 2 ^ u
          · have hne : (decide (w * w ≠ Y * 4 ^ (u + 1))).toNat = 1 := by
              have : w * w ≠ Y * 4 ^ (u + 1) := by rw [heq]; omega
              simp [this]
            omega
          · omega
        · rw [e3, hpow]; omega
    · intro hm52
      have hY := hex hm52
      have : m * 2 ^ (u + 1) ≤ w := root_ge hw (by
        rw [hY, h4, hPP]
        have : m * (2 * 2 ^ u) * (m * (2 * 2 ^ u)) = m * m * (4 * (2 ^ u * 2 ^ u)) := by
          rw [Nat.mul_mul_mul_comm]; congr 1; rw [Nat.mul_mul_mul_comm]
        omega)
      have : m * 2 ^ (u + 1) = 2 * (m' * 2 ^ u) + 2 * 2 ^ u := by rw [hPP, hm', Nat.add_mul, Nat.mul_left_comm]; omega
      omega
  obtain ⟨r1, r2, r3, r4⟩ := hR
  generalize stk (Y * 4 ^ (u + 1)) w = S at *
  have hS : 2 ^ (52 + (u + 1 + 1)) ≤ S ∧ S < 2 ^ (53 + (u + 1 + 1)) := by
    rw [Nat.pow_add 2 52, Nat.pow_add 2 53]
    constructor
    · by_cases hm52 : m = two52
      · have := r3 hm52; rw [hm52] at this; exact this
      · have : (4503599627370496 + 1) * 2 ^ (u + 1 + 1) ≤ m * 2 ^ (u + 1 + 1) := Nat.mul_le_mul_right _ (by unfold two52 at h1 hm52; omega)
        rw [Nat.add_mul, Nat.one_mul] at this
        have hh : (2 : Nat) ^ 52 * 2 ^ (u + 1 + 1) = 4503599627370496 * 2 ^ (u + 1 + 1) := rfl
        rw [hh]; omega
    · exact Nat.lt_of_lt_of_le r4 (Nat.mul_le_mul_right _ (by omega))
  have hS0 : S ≠ 0 := by have := Nat.two_pow_pos (52 + (u + 1 + 1)); omega
  have hlog : S.log2 = 52 + (u + 1 + 1) := by
    rw [Nat.log2_eq_iff hS0]; exact ⟨hS.1, by rw [show 52 + (u + 1 + 1) + 1 = 53 + (u + 1 + 1) by omega]; exact hS.2⟩
  have hlast : lastP S (e - ((u + 1 : Nat) : Int) - 1) = e := by unfold lastP; rw [hlog]; omega
  have hrung : rung S (e - ((u + 1 : Nat) : Int) - 1) = (e + 1074).toNat * two52 + m := by
    unfold rung
    rw [if_neg hS0, hlast, show (e - ((u + 1 : Nat) : Int) - 1 - e).toNat = 0 by omega, Nat.pow_zero, Nat.mul_one, show (e - (e - ((u + 1 : Nat) : Int) - 1)).toNat = u + 1 + 1 by omega, r1]
  unfold nearR
  rw [hrung]
  exact min_inf he2 h2
end Go.Proofs.YtogcdllpjcnbkaaGreat.Dx

/- The program's product of two numbers is the floats' own. -/
namespace Go.Proofs.YtogcdllpjcnbkaaGreat.Dx
open Go

/-! ### what a word stands for -/
theorem rd_inf {b : Nat} (hb : b < 18446744073709551616) (h : infB b) : Ieee.double.read b = .infinity (fNeg b) := by
  rw [read_ok, neg_bit hb, if_pos h.1, if_pos h.2]
theorem rd_num {b : Nat} (hb : b < 18446744073709551616) (h : fPow b ≠ 2047) : Ieee.double.read b = .number (fNeg b) (fMag b) (fPl b) := by
  rw [read_ok, neg_bit hb, if_neg h]
theorem rd_nan {b : Nat} (h : nanB b) : ∃ s f, Ieee.double.read b = .nan s f := read_nan (by rw [isNaN_iff]; simp [h])
theorem wr_inf (s : Bool) : Ieee.double.write (.infinity s) = sgn s infR := by cases s <;> decide
theorem wr_num (s : Bool) (m : Nat) (p : Int) : Ieee.double.write (.number s m p) = nearV s m p := nearest_eq s m p
theorem inf_word {b : Nat} (hb : b < 18446744073709551616) (h : infB b) : b = sgn (fNeg b) infR := by
  obtain ⟨h1, h2⟩ := h
  unfold sgn fNeg infR
  unfold fPow at h1; unfold fFrac at h2
  rcases (show b / 9223372036854775808 = 0 ∨ b / 9223372036854775808 = 1 by omega) with h3 | h3 <;> simp [h3] <;> omega
theorem zero_word {b : Nat} (hb : b < 18446744073709551616) (h : zeroB b) : b = sgn (fNeg b) 0 := by
  obtain ⟨h1, h2⟩ := h
  have h3 := (mag_zero b).1 h1
  unfold sgn fNeg
  unfold fPow at h2; have h4 := h3.2; unfold fFrac at h4
  rcases (show b / 9223372036854775808 = 0 ∨ b / 9223372036854775808 = 1 by omega) with h3 | h3 <;> simp [h3] <;> omega
theorem zeroB_fin {b : Nat} (h : zeroB b) : fPow b ≠ 2047 := by unfold zeroB at h; omega
theorem nearV_zero (s : Bool) (p : Int) : nearV s 0 p = sgn s 0 := by unfold nearV nearR; rw [rung_zero]; rfl
theorem xor_ne (a b : Bool) : (a ^^ b) = (a != b) := by cases a <;> cases b <;> rfl
theorem mulB_ok {a b : Nat} (ha : a < 18446744073709551616) (hb : b < 18446744073709551616) : B.fmul.den (Vf (cnF a)) (Vf (cnF b)) = Vf (mulV a b) := by
  show fv (Ieee.double.mul (cnF a) (cnF b)) = _
  rw [mul_cn]
  unfold mulV Ieee.Format.mul
  by_cases h1 : nanB a
  · obtain ⟨s, f, h⟩ := rd_nan h1; rw [h, if_pos (.inl h1)]; rfl
  by_cases h2 : nanB b
  · obtain ⟨s, f, h⟩ := rd_nan h2; rw [h, if_pos (.inr h2)]; cases Ieee.double.read a <;> rfl
  rw [if_neg (by simp [h1, h2])]
  by_cases h3 : infB a
  · rw [rd_inf ha h3, if_pos (.inl h3)]
    by_cases h4 : infB b
    · rw [rd_inf hb h4, if_neg (by intro h; rcases h with h | h <;> exact zeroB_fin h (by first | exact h3.1 | exact h4.1))]
      show fv (some (Ieee.double.write _)) = _
      rw [wr_inf, xor_ne]; rfl
    · have hf := fin_of h2 h4
      rw [rd_num hb hf]
      by_cases h5 : zeroB b
      · rw [if_pos (.inr h5)]; show fv (Option.map _ (if fMag b = 0 then none else _)) = _; rw [if_pos h5.1]; rfl
      · rw [if_neg (by intro h; rcases h with h | h; exact zeroB_fin h h3.1; exact h5 h)]
        show fv (Option.map _ (if fMag b = 0 then none else _)) = _
        rw [if_neg (fun h => h5 ((zeroB_mag hf).2 h))]
        show fv (some (Ieee.double.write _)) = _
        rw [wr_inf, xor_ne]; rfl
  · have hf := fin_of h1 h3
    by_cases h4 : infB b
    · rw [rd_inf hb h4, rd_num ha hf, if_pos (.inr h4)]
      by_cases h5 : zeroB a
      · rw [if_pos (.inl h5)]; show fv (Option.map _ (if fMag a = 0 then none else _)) = _; rw [if_pos h5.1]; rfl
      · rw [if_neg (by intro h; rcases h with h | h; exact h5 h; exact zeroB_fin h h4.1)]
        show fv (Option.map _ (if fMag a = 0 then none else _)) = _
        rw [if_neg (fun h => h5 ((zeroB_mag hf).2 h))]
        show fv (some (Ieee.double.write (.infinity (fNeg b ^^ fNeg a)))) = _
        rw [wr_inf, xor_ne]; cases fNeg a <;> cases fNeg b <;> rfl
    · have hg := fin_of h2 h4
      rw [rd_num ha hf, rd_num hb hg, if_neg (by simp [h3, h4])]
      show fv (some (Ieee.double.write _)) = _
      rw [wr_num, xor_ne]
      by_cases h5 : zeroB a ∨ zeroB b
      · rw [if_pos h5]
        have : fMag a * fMag b = 0 := by rcases h5 with h | h <;> rw [h.1] <;> simp
        rw [this, nearV_zero]; rfl
      · rw [if_neg h5]; rfl
theorem mulV_lt {a b : Nat} : mulV a b < 18446744073709551616 := by
  unfold mulV
  split
  · decide
  · split
    · split
      · decide
      · exact (sgn_fields _ (Nat.le_refl _)).2.2.2.2
    · split
      · exact (sgn_fields _ (Nat.zero_le _)).2.2.2.2
      · exact word_lt _ _ _
theorem nanB_sgn (s : Bool) : ¬ nanB (sgn s infR) ∧ ¬ nanB (sgn s 0) := by cases s <;> decide
theorem mulV_nan (a b : Nat) : cnF (mulV a b) = mulV a b := by
  unfold mulV
  split
  · exact cnF_nanB nanB_nan0
  · split
    · split
      · exact cnF_nanB nanB_nan0
      · exact cnF_ok (nanB_sgn _).1
    · split
      · exact cnF_ok (nanB_sgn _).2
      · exact cnF_ok (nanB_near _ _ _)

/-! ### the program's product -/
theorem times_nan (a b : Nat) : val 302 [Vu a, Vu b] = some [Vb (decide (nanB a ∨ nanB b))] := by
  refine val_of tab302 ?_
  have h1 := kind_ok a
  have h2 := kind_ok b
  by_cases c1 : nanB a
  · rw [(kind_nan a).2 c1] at h1
    simp [tr302, TT.dv, KS.dv, h1, c1]
  · have c1' : ¬ fKind a = 4 := fun h => c1 ((kind_nan a).1 h)
    by_cases c2 : nanB b
    · rw [(kind_nan b).2 c2] at h2
      simp [tr302, TT.dv, KS.dv, h1, h2, c1', c2]
    · have c2' : ¬ fKind b = 4 := fun h => c2 ((kind_nan b).1 h)
      simp [tr302, TT.dv, KS.dv, h1, h2, c1', c2', c1, c2]
theorem minus_inf (s : Bool) : fMinus infR = sgn true infR := by decide
theorem signed_ok {b : Nat} (s : Bool) (hb : b = infR ∨ b = 0) : val 304 [Vu b, Vb s] = some [Vu (sgn s b)] := by
  refine val_of tab304 ?_
  have h := minus_ok (b := b) (by rcases hb with rfl | rfl <;> decide)
  have h2 : fMinus b = sgn true b := by rcases hb with rfl | rfl <;> decide
  rw [h2] at h
  cases s
  · simp [tr304, TT.dv]; rfl
  · simp [tr304, TT.dv, h]
theorem lead_ok {n : Nat} (hn : n < 18446744073709551616) : val 331 [Vu n] = some [Vi (64 - bl n)] := by
  refine val_of tab331 ?_
  have h := len64_ok hn
  have h1 : bl n ≤ 64 := bl_lt.2 hn
  have h2 : (B.sub .i64).den (Vi 64) (Vi (bl n)) = Vi (64 - bl n) := sub_i (by omega) (by omega)
  simp [tr331, TT.dv, h, h2]
/-- A number with 53 digits. -/
def nrm (m : Nat) : Nat := 52 - m.log2
theorem nrm_bd {m : Nat} (h : m ≠ 0) (h2 : m < 9007199254740992) : m.log2 ≤ 52 ∧ two52 ≤ m * 2 ^ nrm m ∧ m * 2 ^ nrm m < 9007199254740992 := by
  have hl : m.log2 < 53 := (Nat.log2_lt h).2 h2
  have h3 := Nat.mul_le_mul_right (2 ^ nrm m) (Nat.log2_self_le h)
  have h4 := Nat.mul_lt_mul_of_pos_right (Nat.lt_log2_self (n := m)) (Nat.two_pow_pos (nrm m))
  rw [← Nat.pow_add] at h3 h4
  unfold nrm at *
  rw [show m.log2 + (52 - m.log2) = 52 by omega] at h3
  rw [show m.log2 + 1 + (52 - m.log2) = 53 by omega] at h4
  exact ⟨by omega, h3, h4⟩
theorem norm3_ok {b : Nat} (h : fMag b ≠ 0) : val 303 [Vu b] = some [Vu (fMag b * 2 ^ nrm (fMag b)), Vi (fPl b - nrm (fMag b))] := by
  refine val_of tab303 ?_
  have hm := fMag_lt b
  obtain ⟨h1, h2, h3⟩ := nrm_bd h hm
  have hb := log2_bl h
  obtain ⟨p1, p2⟩ := fPl_bd b
  have e1 := parts_ok b
  have e2 := lead_ok (n := fMag b) (by omega)
  have e3 : (B.sub .i64).den (Vi (64 - bl (fMag b))) (Vi 11) = Vi (nrm (fMag b)) := by
    rw [sub_i (by omega) (by omega)]; exact congrArg Vi (by unfold nrm; omega)
  have e4 : (B.shl .u64).den (Vu (fMag b)) (Vi (nrm (fMag b))) = Vu (fMag b * 2 ^ nrm (fMag b)) := by
    rw [shl_uI rfl, Nat.min_eq_left (by unfold nrm; omega), Nat.mod_eq_of_lt (by omega)]
  have e5 : (B.sub .i64).den (Vi (fPl b)) (Vi (nrm (fMag b))) = Vi (fPl b - nrm (fMag b)) := sub_i (by unfold nrm; omega) (by unfold nrm; omega)
  simp [tr303, TT.dv, e1, e2, e3, e4, e5]
end Go.Proofs.YtogcdllpjcnbkaaGreat.Dx

/- The program's product, rounded. -/
namespace Go.Proofs.YtogcdllpjcnbkaaGreat.Dx
open Go

theorem mul_parts {a b c d : Nat} : (a * 4294967296 + b) * (c * 4294967296 + d) = a * c * 18446744073709551616 + a * d * 4294967296 + b * c * 4294967296 + b * d := by
  rw [Nat.add_mul, Nat.mul_add, Nat.mul_add]
  have e1 : a * 4294967296 * (c * 4294967296) = a * c * 18446744073709551616 := by
    rw [Nat.mul_assoc, Nat.mul_left_comm 4294967296 c, ← Nat.mul_assoc, ← Nat.mul_assoc, Nat.mul_assoc (a * c)]
  have e2 : a * 4294967296 * d = a * d * 4294967296 := by rw [Nat.mul_assoc, Nat.mul_comm 4294967296 d, ← Nat.mul_assoc]
  have e3 : b * (c * 4294967296) = b * c * 4294967296 := by rw [Nat.mul_assoc]
  omega
theorem mul64_num {A B C D : Nat} (hA : A ≤ 18446744065119617025) (hB : B ≤ 18446744065119617025) (hC : C ≤ 18446744065119617025) (hD : D ≤ 18446744065119617025) :
    (A * 18446744073709551616 + B * 4294967296 + C * 4294967296 + D) / 18446744073709551616 = A + (B + D / 4294967296) / 4294967296 + ((B + D / 4294967296) % 4294967296 + C) / 4294967296 := by
  omega
theorem half_bd {x y : Nat} (hx : x < 4294967296) (hy : y < 4294967296) : x * y ≤ 18446744065119617025 := Nat.mul_le_mul (show x ≤ 4294967295 by omega) (show y ≤ 4294967295 by omega)
theorem mul64_ok {x y : Nat} (hx : x < 18446744073709551616) (hy : y < 18446744073709551616) : val 333 [Vu x, Vu y] = some [Vu (x * y / 18446744073709551616), Vu (x * y % 18446744073709551616)] := by
  refine val_of tab333 ?_
  have hxy : x * y = (x / 4294967296 * 4294967296 + x % 4294967296) * (y / 4294967296 * 4294967296 + y % 4294967296) := by rw [show x / 4294967296 * 4294967296 + x % 4294967296 = x by omega, show y / 4294967296 * 4294967296 + y % 4294967296 = y by omega]
  rw [mul_parts] at hxy
  have hA := half_bd (show x / 4294967296 < 4294967296 by omega) (show y / 4294967296 < 4294967296 by omega)
  have hB := half_bd (show x / 4294967296 < 4294967296 by omega) (show y % 4294967296 < 4294967296 by omega)
  have hC := half_bd (show x % 4294967296 < 4294967296 by omega) (show y / 4294967296 < 4294967296 by omega)
  have hD := half_bd (show x % 4294967296 < 4294967296 by omega) (show y % 4294967296 < 4294967296 by omega)
  have key := mul64_num hA hB hC hD
  have hlt : x * y / 18446744073709551616 < 18446744073709551616 := by
    have := Nat.mul_le_mul (show x ≤ 18446744073709551615 by omega) (show y ≤ 18446744073709551615 by omega)
    generalize x * y = z at *; omega
  rw [← hxy] at key
  rw [key] at hlt ⊢
  simp only [tr333, TT.dv, isTrue_den, den_bi, den_un, den_var, den_i64, den_u64_lit, ge_uI0, bool_Bo, if_true, List.getD_eq_getElem?_getD, List.getElem?_cons_zero, List.getElem?_cons_succ, Option.getD_some, shr_u_lit, and_32, mul_u, add_u, List.map_cons, List.map_nil]
  simp only [show (2 : Nat) ^ min 32 64 = 4294967296 from rfl]
  generalize x / 4294967296 = xh at *
  generalize x % 4294967296 = xl at *
  generalize y / 4294967296 = yh at *
  generalize y % 4294967296 = yl at *
  generalize xh * yh = A at *
  generalize xh * yl = B at *
  generalize xl * yh = C at *
  generalize xl * yl = D at *
  have e1 : A % 18446744073709551616 = A := by omega
  have e2 : B % 18446744073709551616 = B := by omega
  have e3 : C % 18446744073709551616 = C := by omega
  have e4 : D % 18446744073709551616 = D := by omega
  rw [e1, e2, e3, e4]
  have e5 : (B + D / 4294967296) % 18446744073709551616 = B + D / 4294967296 := by omega
  rw [e5]
  have e6 : ((B + D / 4294967296) % 4294967296 + C) % 18446744073709551616 = (B + D / 4294967296) % 4294967296 + C := by omega
  rw [e6]
  have e7 : ((A + (B + D / 4294967296) / 4294967296) % 18446744073709551616 + ((B + D / 4294967296) % 4294967296 + C) / 4294967296) % 18446744073709551616 = A + (B + D / 4294967296) / 4294967296 + ((B + D / 4294967296) % 4294967296 + C) / 4294967296 := by omega
  rw [e7]

theorem wide_loop {x0 x1 x2 x3 : PV} : ∀ (n : Nat) {m : Nat} {e : Int} {more : Bool}, m = n → m ≠ 0 → m < 18446744073709551616 → -9000000000 ≤ e → e ≤ 9000000000 → ∃ (m' : Nat) (j r : Nat), m' ≠ 0 ∧ m = m' * 2 ^ j + r ∧ r < 2 ^ j ∧ (-1130 ≤ e + j ∨ m' = 1) ∧ (0 < j → e + j ≤ -1130) ∧
    rounds (fun vs => lo305_1.dv (x0 :: x1 :: x2 :: x3 :: vs)) [Vu m, Vi e, Vb more] = some (.y (.ext 0) [Vu m', Vi (e + j), Vb (more || decide (r ≠ 0))]) := by
  intro n
  induction n using Nat.strongRecOn with
  | ind n ih =>
    intro m e more hmn h0 hm he he2
    by_cases h1 : e < -1130 ∧ 1 < m
    · obtain ⟨m', j, r, r1, r2, r3, r4, r5, r6⟩ := ih (m / 2) (by omega) (e := e + 1) (more := more || decide (m % 2 = 1)) rfl (by omega) (by omega) (by omega) (by omega)
      refine ⟨m', j + 1, 2 * r + m % 2, r1, ?_, ?_, by omega, by omega, ?_⟩
      · rw [Nat.pow_succ, ← Nat.mul_assoc]; omega
      · rw [Nat.pow_succ]; omega
      · have e1 : (B.add .i64).den (Vi e) (Vi 1) = Vi (e + 1) := add_i (by omega) (by omega)
        have e3 : (more || decide (2 * r + m % 2 ≠ 0)) = ((more || decide (m % 2 = 1)) || decide (r ≠ 0)) := by
          cases more
          · simp only [Bool.false_or]
            by_cases q1 : m % 2 = 1 <;> by_cases q2 : r = 0 <;> simp [q1, q2] <;> omega
          · simp
        rw [e3, show e + ((j + 1 : Nat) : Int) = e + 1 + j by omega]
        refine Eq.trans (rounds_cont ?_) r6
        have e4 : (B.and .u64).den (Vu m) (Vu 1) = Vu (m % 2) := and_mask m 1 (by omega)
        simp [lo305_1, TT.dv, h1.1, h1.2, e1, e4]
    · refine ⟨m, 0, 0, h0, by simp, by simp, by omega, by omega, rounds_exit ?_ (by simp)⟩
      have : ¬ (e < -1130 ∧ 1 < m) := h1
      by_cases h2 : e < -1130
      · have h3 : ¬ 1 < m := by omega
        simp [lo305_1, TT.dv, h2, h3]
      · simp [lo305_1, TT.dv, h2]
theorem wide_ok {neg more : Bool} {m : Nat} {e : Int} (h0 : m ≠ 0) (hm : m < 18446744073709551616) (he : -9000000000 ≤ e) (he2 : e ≤ 9000000000) (hmore : more = true → e < lastP m e) :
    ∃ f, val 305 [Vb neg, Vu m, Vi e, Vb more] = some [Vu (nearV neg (2 * m + more.toNat) (e - 1)), f] := by
  obtain ⟨m', j, r, r1, r2, r3, r4, r5, r6⟩ := wide_loop (x0 := Vb neg) (x1 := Vu m) (x2 := Vi e) (x3 := Vb more) m (m := m) (e := e) (more := more) rfl h0 hm he he2
  have hj2 : (j : Int) ≤ 100 := by
    have h5 : 2 ^ j ≤ m := by
      have := Nat.mul_le_mul_right (2 ^ j) (show 1 ≤ m' by omega); omega
    by_cases hh : j ≤ 100
    · omega
    · have := Nat.pow_le_pow_right (show 0 < 2 by omega) (show 100 ≤ j by omega)
      omega
  by_cases c4 : e + j < -1130
  · have hm1 : m' = 1 := by omega
    subst hm1
    have hn := near_ok (neg := neg) (more := true) (m := 0) (e := -1074) (by omega) (by omega) (by omega) (fun _ => .inl ⟨rfl, rfl⟩)
    have hlog : (2 * m + more.toNat).log2 = j + 1 := by
      rw [log2_odd h0, r2, log2_mul_add (n := 1) (by omega) r3, show Nat.log2 1 = 0 by decide]; omega
    have hV : nearV neg (2 * 0 + true.toNat) (-1074 - 1) = nearV neg (2 * m + more.toNat) (e - 1) := by
      have h5 : nearR (2 * m + more.toNat) (e - 1) = 0 := by unfold nearR; rw [rung_low2 (by omega) (by rw [hlog]; omega)]; rfl
      unfold nearV; rw [h5]
      have := (near_low true).1
      exact congrArg _ this
    rw [hV] at hn
    refine ⟨Vy (nearF (2 * 0 + true.toNat) (-1074 - 1)), val_of tab305 ?_⟩
    simp only [ne_eq] at r6
    generalize (more || decide (¬ r = 0)) = mo at *
    simp only [Nat.mul_zero, Nat.zero_add] at hn ⊢
    simp [tr305, TT.dv, KS.dv, r6, c4, hn]
  · have hmlt : m' < 18446744073709551616 := by
      have := Nat.le_mul_of_pos_right m' (Nat.two_pow_pos j)
      omega
    have hl : (more || decide (r ≠ 0)) = true → e + j < lastP m' (e + j) := fun hr => by
      by_cases hj : 0 < j
      · have := r5 hj
        unfold lastP; omega
      · have hj0 : j = 0 := by omega
        subst hj0
        simp at r3; subst r3
        simp at hr
        simp at r2; subst r2
        have := hmore hr
        simpa using this
    have hn := near_ok (neg := neg) (more := more || decide (r ≠ 0)) (m := m') (e := e + j) hmlt (by omega) (by omega) (fun h => .inr ⟨r1, hl h⟩)
    have hV : nearR (2 * m' + (more || decide (r ≠ 0)).toNat) (e + j - 1) = nearR (2 * m + more.toNat) (e - 1) := by
      have hs : 2 * m + more.toNat = m' * 2 ^ (j + 1) + (2 * r + more.toNat) := by
        rw [Nat.pow_succ, ← Nat.mul_assoc]; omega
      have hlt : 2 * r + more.toNat < 2 ^ (j + 1) := by
        have := Bool.toNat_le more
        rw [Nat.pow_succ]; omega
      by_cases hz : 2 * r + more.toNat = 0
      · have hm0 : more = false := by cases more; rfl; simp at hz
        have hr0 : r = 0 := by omega
        subst hm0 hr0
        rw [hs]
        simp only [Bool.toNat_false, Nat.mul_zero, Nat.add_zero, ne_eq, not_true_eq_false, decide_false, Bool.or_self]
        have t1 := (near_scale true m' (e + j) 1).2.2
        have t2 := (near_scale true m' (e + j) (j + 1)).2.2
        rw [Nat.pow_one, Nat.mul_comm m' 2] at t1
        rw [show e + (j : Int) - 1 = e + j - ((1 : Nat) : Int) from rfl, t1, ← t2]
        exact congrArg _ (by omega)
      · have ht : (more || decide (r ≠ 0)) = true := by
          cases more
          · simp at hz ⊢; omega
          · rfl
        have := (near_sticky r1 (hl ht) (by omega) hlt).1
        rw [ht, hs]
        rw [show e + (j : Int) - ((j + 1 : Nat) : Int) = e - 1 by omega] at this
        rw [this]; rfl
    have hV2 : nearV neg (2 * m' + (more || decide (r ≠ 0)).toNat) (e + j - 1) = nearV neg (2 * m + more.toNat) (e - 1) := by unfold nearV; rw [hV]
    rw [hV2] at hn
    refine ⟨Vy (nearF (2 * m' + (more || decide (r ≠ 0)).toNat) (e + j - 1)), val_of tab305 ?_⟩
    simp only [ne_eq] at r6 hn ⊢
    generalize (more || decide (¬ r = 0)) = mo at *
    simp [tr305, TT.dv, KS.dv, r6, c4, hn]
/-- A product's digits and what is left of them. -/
theorem mul_near {P : Nat} (h : 2 ^ 100 ≤ P) (p : Int) : nearR (2 * (P / 2 ^ 44) + (decide (P % 2 ^ 44 ≠ 0)).toNat) (p + 44 - 1) = nearR P p := by
  have hN : P / 2 ^ 44 ≠ 0 := by
    have := Nat.div_le_div_right (c := 2 ^ 44) h
    rw [show (2 : Nat) ^ 100 / 2 ^ 44 = 2 ^ 56 from by decide] at this
    have : 0 < 2 ^ 56 := Nat.two_pow_pos 56
    omega
  have hlog : 56 ≤ (P / 2 ^ 44).log2 := by
    rw [Nat.le_log2 hN, Nat.le_div_iff_mul_le (Nat.two_pow_pos _), ← Nat.pow_add]; exact h
  have hP : P = P / 2 ^ 44 * 2 ^ 44 + P % 2 ^ 44 := by rw [Nat.mul_comm]; exact (Nat.div_add_mod _ _).symm
  have hlt : P % 2 ^ 44 < 2 ^ 44 := Nat.mod_lt _ (Nat.two_pow_pos _)
  generalize P / 2 ^ 44 = N at *
  generalize P % 2 ^ 44 = r at *
  subst hP
  by_cases hr : r = 0
  · subst hr
    have t1 := (near_scale true N (p + 44) 1).2.2
    have t2 := (near_scale true N (p + 44) 44).2.2
    rw [Nat.pow_one, Nat.mul_comm N 2] at t1
    simp only [ne_eq, not_true_eq_false, decide_false, Bool.toNat_false, Nat.add_zero]
    rw [show p + 44 - 1 = p + 44 - ((1 : Nat) : Int) by omega, t1, ← t2]
    exact congrArg _ (by omega)
  · have := (near_sticky hN (p := p + 44) (j := 44) (r := r) (by unfold lastP; omega) (by omega) hlt).1
    rw [show p + 44 - ((44 : Nat) : Int) = p by omega] at this
    rw [this]; simp [hr]
end Go.Proofs.YtogcdllpjcnbkaaGreat.Dx

/- The program's product, put together. -/
namespace Go.Proofs.YtogcdllpjcnbkaaGreat.Dx
open Go

theorem or_hi {h l : Nat} (hh : h < 4398046511104) (hl : l < 1048576) : (B.or .u64).den (Vu (h * 1048576)) (Vu l) = Vu (h * 1048576 + l) := by
  have := or_add (a := h) (b := l) (i := 20) (by omega) (by omega) (by omega)
  rw [show (2 : Nat) ^ 20 = 1048576 from rfl, Nat.mul_comm] at this
  exact this
theorem hilo {P : Nat} (h : P < 2 ^ 106) : P / 18446744073709551616 < 4398046511104 ∧ P % 18446744073709551616 / 17592186044416 < 1048576 ∧
    P / 18446744073709551616 * 1048576 + P % 18446744073709551616 / 17592186044416 = P / 2 ^ 44 ∧ (P % 18446744073709551616 * 1048576 % 18446744073709551616 = 0 ↔ P % 2 ^ 44 = 0) ∧ P / 2 ^ 44 < 4611686018427387904 := by
  rw [show (2 : Nat) ^ 106 = 81129638414606681695789005144064 from rfl] at h
  rw [show (2 : Nat) ^ 44 = 17592186044416 from rfl]
  refine ⟨by omega, by omega, by omega, by omega, by omega⟩
theorem times_ok {a b : Nat} (ha : a < 18446744073709551616) (hb : b < 18446744073709551616) : ∃ f, val 301 [Vu a, Vu b] = some [Vu (mulV a b), f] := by
  have s1 := sign_ok a
  have s2 := sign_ok b
  have k1 := kind_ok a
  have k2 := kind_ok b
  have hn := times_nan a b
  unfold mulV
  by_cases c1 : nanB a ∨ nanB b
  · rw [if_pos c1]
    refine ⟨Vy 0, val_of tab301 ?_⟩
    rw [decide_eq_true c1] at hn
    simp [tr301, TT.dv, s1, s2, k1, k2, hn, nan0]
  · rw [if_neg c1]
    rw [decide_eq_false c1] at hn
    have cn1 : ¬ nanB a := fun h => c1 (.inl h)
    have cn2 : ¬ nanB b := fun h => c1 (.inr h)
    by_cases c2 : infB a ∨ infB b
    · rw [if_pos c2]
      by_cases c3 : zeroB a ∨ zeroB b
      · rw [if_pos c3]
        refine ⟨Vy 16, val_of tab301 ?_⟩
        have hc : (fKind a = 3 ∧ fKind b = 0) ∨ (fKind a = 0 ∧ fKind b = 3) := by
          rw [kind_infB, kind_infB, kind_zeroB, kind_zeroB]
          rcases c2 with h | h <;> rcases c3 with g | g
          · exact absurd h.1 (zeroB_fin g)
          · exact .inl ⟨h, g⟩
          · exact .inr ⟨g, h⟩
          · exact absurd h.1 (zeroB_fin g)
        rcases hc with ⟨h1, h2⟩ | ⟨h1, h2⟩ <;> simp [tr301, TT.dv, s1, s2, k1, k2, hn, h1, h2, nan0]
      · rw [if_neg c3]
        refine ⟨Vy 0, val_of tab301 ?_⟩
        have z1 : ¬ fKind a = 0 := fun h => c3 (.inl ((kind_zeroB a).1 h))
        have z2 : ¬ fKind b = 0 := fun h => c3 (.inr ((kind_zeroB b).1 h))
        have hs := signed_ok (b := infR) (fNeg a != fNeg b) (.inl rfl)
        unfold infR at hs ⊢
        rcases c2 with h | h
        · have h1 := (kind_infB a).2 h
          simp [tr301, TT.dv, s1, s2, k1, k2, hn, h1, z1, z2, hs]
        · have h1 := (kind_infB b).2 h
          simp [tr301, TT.dv, s1, s2, k1, k2, hn, h1, z1, z2, hs]
    · rw [if_neg c2]
      have i1 : ¬ fKind a = 3 := fun h => c2 (.inl ((kind_infB a).1 h))
      have i2 : ¬ fKind b = 3 := fun h => c2 (.inr ((kind_infB b).1 h))
      by_cases c3 : zeroB a ∨ zeroB b
      · rw [if_pos c3]
        refine ⟨Vy 0, val_of tab301 ?_⟩
        have hs := signed_ok (b := 0) (fNeg a != fNeg b) (.inr rfl)
        rcases c3 with h | h
        · have h1 := (kind_zeroB a).2 h
          simp [tr301, TT.dv, s1, s2, k1, k2, hn, h1, i1, i2, hs]
        · have h1 := (kind_zeroB b).2 h
          simp [tr301, TT.dv, s1, s2, k1, k2, hn, h1, i1, i2, hs]
      · rw [if_neg c3]
        have z1 : ¬ fKind a = 0 := fun h => c3 (.inl ((kind_zeroB a).1 h))
        have z2 : ¬ fKind b = 0 := fun h => c3 (.inr ((kind_zeroB b).1 h))
        have f1 := fin_of cn1 (fun h => c2 (.inl h))
        have f2 := fin_of cn2 (fun h => c2 (.inr h))
        have m1 : fMag a ≠ 0 := fun h => c3 (.inl ((zeroB_mag f1).2 h))
        have m2 : fMag b ≠ 0 := fun h => c3 (.inr ((zeroB_mag f2).2 h))
        have n1 := norm3_ok m1
        have n2 := norm3_ok m2
        obtain ⟨a1, a2, a3⟩ := nrm_bd m1 (fMag_lt a)
        obtain ⟨b1, b2, b3⟩ := nrm_bd m2 (fMag_lt b)
        obtain ⟨p1, p2⟩ := fPl_bd a
        obtain ⟨q1, q2⟩ := fPl_bd b
        have hw1 : nrm (fMag a) ≤ 52 := by unfold nrm; omega
        have hw2 : nrm (fMag b) ≤ 52 := by unfold nrm; omega
        have hPx : fMag a * 2 ^ nrm (fMag a) * (fMag b * 2 ^ nrm (fMag b)) = fMag a * fMag b * 2 ^ (nrm (fMag a) + nrm (fMag b)) := by
          rw [Nat.pow_add, Nat.mul_assoc, Nat.mul_left_comm (2 ^ nrm (fMag a)), ← Nat.mul_assoc (fMag a)]
        have m64 := mul64_ok (x := fMag a * 2 ^ nrm (fMag a)) (y := fMag b * 2 ^ nrm (fMag b)) (by omega) (by omega)
        have hlo : 2 ^ 100 ≤ fMag a * 2 ^ nrm (fMag a) * (fMag b * 2 ^ nrm (fMag b)) := by
          have := Nat.mul_le_mul a2 b2
          refine Nat.le_trans ?_ this
          decide
        have hhi : fMag a * 2 ^ nrm (fMag a) * (fMag b * 2 ^ nrm (fMag b)) < 2 ^ 106 := by
          have := Nat.mul_lt_mul'' a3 b3
          exact Nat.lt_of_lt_of_le this (by decide)
        have hsc := (near_scale true (fMag a * fMag b) (fPl a + fPl b) (nrm (fMag a) + nrm (fMag b))).2.2
        rw [← hPx] at hsc
        generalize hP : fMag a * 2 ^ nrm (fMag a) * (fMag b * 2 ^ nrm (fMag b)) = P at *
        have hnr := mul_near hlo (fPl a - nrm (fMag a) + (fPl b - nrm (fMag b)))
        obtain ⟨t1, t2, t3, t4, t5⟩ := hilo hhi
        have e1 : (B.add .i64).den (Vi (fPl a - nrm (fMag a))) (Vi (fPl b - nrm (fMag b))) = Vi (fPl a - nrm (fMag a) + (fPl b - nrm (fMag b))) := add_i (by omega) (by omega)
        have e2 : (B.add .i64).den (Vi (fPl a - nrm (fMag a) + (fPl b - nrm (fMag b)))) (Vi 44) = Vi (fPl a - nrm (fMag a) + (fPl b - nrm (fMag b)) + 44) := add_i (by omega) (by omega)
        have e3 : (B.shl .u64).den (Vu (P / 18446744073709551616)) (Vu 20) = Vu (P / 18446744073709551616 * 1048576) := by
          rw [shl_uU]; refine congrArg Vu ?_
          show P / 18446744073709551616 * 1048576 % _ = _
          omega
        have e4 : (B.shr .u64).den (Vu (P % 18446744073709551616)) (Vu 44) = Vu (P % 18446744073709551616 / 17592186044416) := by rw [shr_uU]; rfl
        have e5 := or_hi t1 t2
        rw [t3] at e5
        have e6 : (B.shl .u64).den (Vu (P % 18446744073709551616)) (Vu 20) = Vu (P % 18446744073709551616 * 1048576 % 18446744073709551616) := by rw [shl_uU]; rfl
        have e7 : decide (P % 18446744073709551616 * 1048576 % 18446744073709551616 ≠ 0) = decide (P % 2 ^ 44 ≠ 0) := by
          rw [decide_eq_decide, ne_eq, ne_eq, t4]
        generalize hE : fPl a - nrm (fMag a) + (fPl b - nrm (fMag b)) = E at *
        have hN0 : P / 2 ^ 44 ≠ 0 := by
          have := Nat.div_le_div_right (c := 2 ^ 44) hlo
          rw [show (2 : Nat) ^ 100 / 2 ^ 44 = 72057594037927936 from by decide] at this
          omega
        have hlog : 56 ≤ (P / 2 ^ 44).log2 := by
          rw [Nat.le_log2 hN0, Nat.le_div_iff_mul_le (Nat.two_pow_pos _), ← Nat.pow_add]; exact hlo
        obtain ⟨f, hw⟩ := wide_ok (neg := fNeg a != fNeg b) (more := decide (P % 2 ^ 44 ≠ 0)) (m := P / 2 ^ 44) (e := E + 44) hN0 (by omega) (by omega) (by omega) (fun _ => by unfold lastP; omega)
        have hV : nearV (fNeg a != fNeg b) (2 * (P / 2 ^ 44) + (decide (P % 2 ^ 44 ≠ 0)).toNat) (E + 44 - 1) = nearV (fNeg a != fNeg b) (fMag a * fMag b) (fPl a + fPl b) := by
          unfold nearV
          rw [hnr, ← hsc]
          exact congrArg _ (congrArg _ (by omega))
        rw [hV] at hw
        have e8 : B.ne.den ((B.shl .u64).den (Vu (P % 18446744073709551616)) (Vu 20)) (Vu 0) = Vb (decide (P % 2 ^ 44 ≠ 0)) := by
          rw [e6, ne_u, e7]
        generalize decide (P % 2 ^ 44 ≠ 0) = mo at *
        generalize P / 2 ^ 44 = N at *
        refine ⟨f, val_of tab301 ?_⟩
        simp [-shl_u_lit, -shr_u_lit, -ne_u, tr301, TT.dv, s1, s2, k1, k2, hn, z1, z2, i1, i2, n1, n2, m64, e1, e2, e3, e4, e5, e8, hw]
end Go.Proofs.YtogcdllpjcnbkaaGreat.Dx

/- The program's quotient of two numbers is the floats' own. -/
namespace Go.Proofs.YtogcdllpjcnbkaaGreat.Dx
open Go

def quoN (m n k : Nat) : Nat := 2 * (m * 2 ^ k / n) + (decide (m * 2 ^ k % n ≠ 0)).toNat
theorem quo_more {m n k : Nat} {p : Int} (hn : n ≠ 0) (hN : m * 2 ^ k / n ≠ 0) (h : p - k < lastP (m * 2 ^ k / n) (p - k)) (j : Nat) :
    nearR (quoN m n (k + j)) (p - ((k + j : Nat) : Int) - 1) = nearR (quoN m n k) (p - k - 1) := by
  unfold quoN
  have hd : m * 2 ^ (k + j) = (m * 2 ^ k / n * 2 ^ j) * n + m * 2 ^ k % n * 2 ^ j := by
    have : m * 2 ^ k = m * 2 ^ k / n * n + m * 2 ^ k % n := by have := Nat.div_add_mod (m * 2 ^ k) n; rw [Nat.mul_comm n] at this; exact this.symm
    rw [Nat.pow_add, ← Nat.mul_assoc]
    conv => lhs; rw [this]
    rw [Nat.add_mul, Nat.mul_right_comm]
  have hr : m * 2 ^ k % n < n := Nat.mod_lt _ (Nat.pos_of_ne_zero hn)
  generalize m * 2 ^ k / n = N at *
  generalize m * 2 ^ k % n = r at *
  have e1 : m * 2 ^ (k + j) / n = N * 2 ^ j + r * 2 ^ j / n := by
    rw [hd, Nat.add_comm, Nat.add_mul_div_right _ _ (Nat.pos_of_ne_zero hn), Nat.add_comm]
  have e2 : m * 2 ^ (k + j) % n = r * 2 ^ j % n := by rw [hd, Nat.add_comm, Nat.add_mul_mod_self_right]
  rw [e1, e2]
  have h3 : r * 2 ^ j / n < 2 ^ j := by
    rw [Nat.div_lt_iff_lt_mul (Nat.pos_of_ne_zero hn), Nat.mul_comm]; exact Nat.mul_lt_mul_of_pos_left hr (Nat.two_pow_pos j)
  have hs : 2 * (N * 2 ^ j + r * 2 ^ j / n) + (decide (r * 2 ^ j % n ≠ 0)).toNat = N * 2 ^ (j + 1) + (2 * (r * 2 ^ j / n) + (decide (r * 2 ^ j % n ≠ 0)).toNat) := by
    rw [Nat.pow_succ, ← Nat.mul_assoc]; omega
  rw [hs]
  by_cases hr0 : r = 0
  · subst hr0
    simp only [Nat.zero_mul, Nat.zero_div, Nat.zero_mod, ne_eq, not_true_eq_false, decide_false, Bool.toNat_false, Nat.mul_zero, Nat.add_zero]
    have t1 := (near_scale true N (p - k) 1).2.2
    have t2 := (near_scale true N (p - k) (j + 1)).2.2
    rw [Nat.pow_one, Nat.mul_comm N 2] at t1
    rw [show p - (k : Int) - 1 = p - k - ((1 : Nat) : Int) from rfl, t1, ← t2]
    exact congrArg _ (by omega)
  · have hp : 0 < 2 * (r * 2 ^ j / n) + (decide (r * 2 ^ j % n ≠ 0)).toNat := by
      by_cases hq : r * 2 ^ j / n = 0
      · have hm : r * 2 ^ j % n ≠ 0 := by
          have := Nat.div_add_mod (r * 2 ^ j) n
          rw [hq] at this
          have h4 : 0 < r * 2 ^ j := Nat.mul_pos (Nat.pos_of_ne_zero hr0) (Nat.two_pow_pos j)
          omega
        simp [hm]
      · omega
    have hlt : 2 * (r * 2 ^ j / n) + (decide (r * 2 ^ j % n ≠ 0)).toNat < 2 ^ (j + 1) := by
      have := Bool.toNat_le (decide (r * 2 ^ j % n ≠ 0))
      rw [Nat.pow_succ]; omega
    have := (near_sticky hN h hp hlt).1
    rw [show p - ((k + j : Nat) : Int) - 1 = p - k - ((j + 1 : Nat) : Int) by omega, this]
    simp [hr0]
def quoK (m n : Nat) : Nat := 54 + n.log2 - m.log2
def divV (a b : Nat) : Nat :=
  if nanB a ∨ nanB b then nan0 else
  if infB a then (if infB b then nan0 else sgn (fNeg a != fNeg b) infR) else
  if infB b then sgn (fNeg a != fNeg b) 0 else
  if zeroB b then (if zeroB a then nan0 else sgn (fNeg a != fNeg b) infR) else
  if zeroB a then sgn (fNeg a != fNeg b) 0 else nearV (fNeg a != fNeg b) (quoN (fMag a) (fMag b) (quoK (fMag a) (fMag b))) (fPl a - fPl b - quoK (fMag a) (fMag b) - 1)
theorem divB_ok {a b : Nat} (ha : a < 18446744073709551616) (hb : b < 18446744073709551616) : B.fdiv.den (Vf (cnF a)) (Vf (cnF b)) = Vf (divV a b) := by
  show fv (Ieee.double.div (cnF a) (cnF b)) = _
  rw [div_cn]
  unfold divV Ieee.Format.div
  by_cases h1 : nanB a
  · obtain ⟨s, f, h⟩ := rd_nan h1; rw [h, if_pos (.inl h1)]; rfl
  by_cases h2 : nanB b
  · obtain ⟨s, f, h⟩ := rd_nan h2; rw [h, if_pos (.inr h2)]; cases Ieee.double.read a <;> rfl
  rw [if_neg (by simp [h1, h2])]
  by_cases h3 : infB a
  · rw [rd_inf ha h3, if_pos h3]
    by_cases h4 : infB b
    · rw [rd_inf hb h4, if_pos h4]; rfl
    · have hf := fin_of h2 h4
      rw [rd_num hb hf, if_neg h4]
      show fv (some (Ieee.double.write _)) = _
      rw [wr_inf, xor_ne]; rfl
  · have hf := fin_of h1 h3
    rw [if_neg h3, rd_num ha hf]
    by_cases h4 : infB b
    · rw [rd_inf hb h4, if_pos h4]
      show fv (some (Ieee.double.write _)) = _
      rw [wr_num, xor_ne, nearV_zero]; rfl
    · have hg := fin_of h2 h4
      rw [rd_num hb hg, if_neg h4]
      show fv (Option.map _ (if fMag b = 0 then if fMag a = 0 then none else _ else _)) = _
      by_cases h5 : zeroB b
      · rw [if_pos h5, if_pos h5.1]
        by_cases h6 : zeroB a
        · rw [if_pos h6, if_pos h6.1]; rfl
        · rw [if_neg h6, if_neg (fun h => h6 ((zeroB_mag hf).2 h))]
          show fv (some (Ieee.double.write _)) = _
          rw [wr_inf, xor_ne]; rfl
      · rw [if_neg h5, if_neg (fun h => h5 ((zeroB_mag hg).2 h))]
        show fv (some (Ieee.double.write _)) = _
        rw [wr_num, xor_ne]
        have hk : Ieee.double.fractionBits + 2 + (fMag b).log2 - (fMag a).log2 = quoK (fMag a) (fMag b) := rfl
        rw [hk, Nat.shiftLeft_eq]
        have hq : 2 * (fMag a * 2 ^ quoK (fMag a) (fMag b) / fMag b) + (fMag a * 2 ^ quoK (fMag a) (fMag b) % fMag b != 0).toNat = quoN (fMag a) (fMag b) (quoK (fMag a) (fMag b)) := by
          unfold quoN
          refine congrArg _ (congrArg _ ?_)
          by_cases h : fMag a * 2 ^ quoK (fMag a) (fMag b) % fMag b = 0 <;> simp [h]
        rw [hq]
        by_cases h6 : zeroB a
        · rw [if_pos h6]
          have : quoN (fMag a) (fMag b) (quoK (fMag a) (fMag b)) = 0 := by unfold quoN; rw [h6.1]; simp
          rw [this, nearV_zero]; rfl
        · rw [if_neg h6]; rfl
theorem divV_lt {a b : Nat} : divV a b < 18446744073709551616 := by
  have h1 : ∀ s, sgn s infR < 18446744073709551616 := fun s => (sgn_fields _ (Nat.le_refl _)).2.2.2.2
  have h2 : ∀ s, sgn s 0 < 18446744073709551616 := fun s => (sgn_fields _ (Nat.zero_le _)).2.2.2.2
  have h3 : nan0 < 18446744073709551616 := by decide
  unfold divV
  repeat' split
  all_goals first | exact h3 | exact h1 _ | exact h2 _ | exact word_lt _ _ _
theorem divV_nan (a b : Nat) : cnF (divV a b) = divV a b := by
  unfold divV
  repeat' split
  all_goals first | exact cnF_nanB nanB_nan0 | exact cnF_ok (nanB_sgn _).1 | exact cnF_ok (nanB_sgn _).2 | exact cnF_ok (nanB_near _ _ _)

/-! ### the program's quotient -/
theorem dbl_div {a y : Nat} (hy : 0 < y) : a * 2 / y = 2 * (a / y) + (if y ≤ 2 * (a % y) then 1 else 0) ∧ a * 2 % y = 2 * (a % y) - (if y ≤ 2 * (a % y) then y else 0) := by
  have h := Nat.div_add_mod a y
  have hr := Nat.mod_lt a hy
  generalize a / y = q at *
  generalize a % y = r at *
  have e : a * 2 = 2 * r + y * (2 * q) := by rw [← h, Nat.mul_left_comm y 2 q]; omega
  rw [e, Nat.add_mul_div_left _ _ hy, Nat.add_mul_mod_self_left]
  by_cases hc : y ≤ 2 * r
  · rw [if_pos hc, if_pos hc]
    have e2 : 2 * r = (2 * r - y) + y := by omega
    have h1 : 2 * r / y = 1 := by rw [e2, Nat.add_div_right _ hy, Nat.div_eq_of_lt (by omega)]
    have h2 : 2 * r % y = 2 * r - y := by
      conv => lhs; rw [e2]
      rw [Nat.add_mod_right, Nat.mod_eq_of_lt (by omega)]
    exact ⟨by omega, h2⟩
  · rw [if_neg hc, if_neg hc, Nat.div_eq_of_lt (by omega), Nat.mod_eq_of_lt (by omega)]
    exact ⟨by omega, by omega⟩
theorem div_loop {x0 x1 x2 x3 x4 x5 x6 x7 x8 x10 : PV} {A y : Nat} (hy : 4503599627370496 ≤ y) (hy2 : y < 9007199254740992) (hA : A < 9007199254740992) : ∀ (n : Nat) {i : Nat}, i + n = 61 →
    rounds (fun vs => lo300_1.dv (x0 :: x1 :: x2 :: x3 :: x4 :: x5 :: x6 :: x7 :: x8 :: Vu y :: x10 :: vs)) [Vu (A * 2 ^ i / y), Vu (A * 2 ^ i % y), Vi i] = some (.y (.ext 1) [Vu (A * 2 ^ 61 / y), Vu (A * 2 ^ 61 % y)]) := by
  intro n
  induction n with
  | zero =>
    intro i hi
    have : i = 61 := by omega
    subst this
    refine rounds_exit ?_ (by simp)
    simp [lo300_1, TT.dv]
  | succ n ih =>
    intro i hi
    refine Eq.trans (rounds_cont ?_) (ih (i := i + 1) (by omega))
    have hd := dbl_div (a := A * 2 ^ i) (y := y) (by omega)
    rw [Nat.mul_assoc, ← Nat.pow_succ] at hd
    obtain ⟨d1, d2⟩ := hd
    have hr : A * 2 ^ i % y < y := Nat.mod_lt _ (by omega)
    have hq : A * 2 ^ i / y < 4611686018427387904 := by
      rw [Nat.div_lt_iff_lt_mul (by omega)]
      have h1 : A * 2 ^ i ≤ A * 2 ^ 60 := Nat.mul_le_mul_left A (Nat.pow_le_pow_right (by omega) (by omega))
      rw [show (2 : Nat) ^ 60 = 1152921504606846976 from rfl] at h1
      have h2 : 4611686018427387904 * 4503599627370496 ≤ 4611686018427387904 * y := Nat.mul_le_mul_left _ hy
      omega
    rw [d1, d2]
    generalize A * 2 ^ i / y = q at *
    generalize A * 2 ^ i % y = r at *
    have e1 : (B.shl .u64).den (Vu r) (Vu 1) = Vu (2 * r) := by
      rw [shl_uU]; refine congrArg Vu ?_
      show r * 2 % _ = _; omega
    have e2 : (B.shl .u64).den (Vu q) (Vu 1) = Vu (2 * q) := by
      rw [shl_uU]; refine congrArg Vu ?_
      show q * 2 % _ = _; omega
    have e3 : (B.add .i64).den (Vi i) (Vi 1) = Vi (i + 1) := add_i (by omega) (by omega)
    have e4 : (i : Int) < 61 := by omega
    have e5 : (B.or .u64).den (Vu (2 * q)) (Vu 1) = Vu (2 * q + 1) := or_add (a := q) (b := 1) (i := 1) (by omega) (by omega) (by omega)
    by_cases hc : y ≤ 2 * r
    · have e6 : (B.sub .u64).den (Vu (2 * r)) (Vu y) = Vu (2 * r - y) := sub_u hc (by omega)
      simp [-shl_u_lit, lo300_1, TT.dv, KS.dv, e1, e2, e3, e4, e5, e6, hc]
    · simp [-shl_u_lit, lo300_1, TT.dv, KS.dv, e1, e2, e3, e4, hc]
end Go.Proofs.YtogcdllpjcnbkaaGreat.Dx

/- The program's quotient, put together. -/
namespace Go.Proofs.YtogcdllpjcnbkaaGreat.Dx
open Go

/-- The quotient of two numbers of 53 digits. -/
theorem quo_near {m n : Nat} (hm : m ≠ 0) (hn : n ≠ 0) (hm2 : m < 9007199254740992) (hn2 : n < 9007199254740992) (i j : Int) (s : Bool) :
    nearV s (quoN (m * 2 ^ nrm m) (n * 2 ^ nrm n) 61) (i - nrm m - (j - nrm n) - 61 - 1) = nearV s (quoN m n (quoK m n)) (i - j - quoK m n - 1) ∧ m * 2 ^ nrm m * 2 ^ 61 / (n * 2 ^ nrm n) ≠ 0 ∧
    60 ≤ (m * 2 ^ nrm m * 2 ^ 61 / (n * 2 ^ nrm n)).log2 := by
  obtain ⟨a1, a2, a3⟩ := nrm_bd hm hm2
  obtain ⟨b1, b2, b3⟩ := nrm_bd hn hn2
  have hk : quoK m n = 54 + n.log2 - m.log2 := rfl
  have hk2 : nrm m + 61 = quoK m n + 7 + nrm n := by rw [hk]; unfold nrm; omega
  have e0 : m * 2 ^ nrm m * 2 ^ 61 = m * 2 ^ (quoK m n + 7) * 2 ^ nrm n := by
    rw [Nat.mul_assoc, ← Nat.pow_add, hk2, Nat.pow_add, Nat.mul_assoc]
  have e1 : m * 2 ^ nrm m * 2 ^ 61 / (n * 2 ^ nrm n) = m * 2 ^ (quoK m n + 7) / n := by rw [e0, Nat.mul_div_mul_right _ _ (Nat.two_pow_pos _)]
  have e2 : m * 2 ^ nrm m * 2 ^ 61 % (n * 2 ^ nrm n) = m * 2 ^ (quoK m n + 7) % n * 2 ^ nrm n := by rw [e0, Nat.mul_mod_mul_right]
  have hq : quoN (m * 2 ^ nrm m) (n * 2 ^ nrm n) 61 = quoN m n (quoK m n + 7) := by
    unfold quoN
    rw [e1, e2]
    refine congrArg _ (congrArg _ ?_)
    rw [decide_eq_decide, ne_eq, ne_eq, Nat.mul_eq_zero]
    simp
  have hlow : 2 ^ 60 ≤ m * 2 ^ nrm m * 2 ^ 61 / (n * 2 ^ nrm n) := by
    rw [Nat.le_div_iff_mul_le (by unfold two52 at b2; omega)]
    have h1 : 2 ^ 60 * (n * 2 ^ nrm n) ≤ 2 ^ 60 * 9007199254740992 := Nat.mul_le_mul_left _ (by omega)
    have h2 : 4503599627370496 * 2 ^ 61 ≤ m * 2 ^ nrm m * 2 ^ 61 := Nat.mul_le_mul_right _ a2
    have h3 : 2 ^ 60 * 9007199254740992 = 4503599627370496 * 2 ^ 61 := by decide
    exact Nat.le_trans h1 (Nat.le_trans (Nat.le_of_eq h3) h2)
  have hpos : 0 < 2 ^ 60 := Nat.two_pow_pos 60
  have hne : m * 2 ^ nrm m * 2 ^ 61 / (n * 2 ^ nrm n) ≠ 0 := by omega
  have hlog : 60 ≤ (m * 2 ^ nrm m * 2 ^ 61 / (n * 2 ^ nrm n)).log2 := by rw [Nat.le_log2 hne]; exact hlow
  refine ⟨?_, hne, hlog⟩
  rw [hq]
  have h0 : m * 2 ^ quoK m n / n ≠ 0 ∧ 53 ≤ (m * 2 ^ quoK m n / n).log2 := by
    have hh : 2 ^ 53 ≤ m * 2 ^ quoK m n / n := by
      rw [Nat.le_div_iff_mul_le (Nat.pos_of_ne_zero hn)]
      have h1 := Nat.mul_le_mul_right (2 ^ quoK m n) (Nat.log2_self_le hm)
      rw [← Nat.pow_add] at h1
      have h2 : 2 ^ 53 * n ≤ 2 ^ 53 * 2 ^ (n.log2 + 1) := Nat.mul_le_mul_left _ (Nat.le_of_lt Nat.lt_log2_self)
      rw [← Nat.pow_add] at h2
      rw [show m.log2 + quoK m n = 53 + (n.log2 + 1) by rw [hk]; omega] at h1
      omega
    have : m * 2 ^ quoK m n / n ≠ 0 := by have := Nat.two_pow_pos 53; omega
    exact ⟨this, by rw [Nat.le_log2 this]; exact hh⟩
  have := quo_more (m := m) (n := n) (k := quoK m n) (p := i - j) hn h0.1 (by unfold lastP; omega) 7
  unfold nearV
  rw [← this]
  exact congrArg _ (congrArg _ (by omega))
theorem div_ok {a b : Nat} (ha : a < 18446744073709551616) (hb : b < 18446744073709551616) : ∃ f, val 300 [Vu a, Vu b] = some [Vu (divV a b), f] := by
  have s1 := sign_ok a
  have s2 := sign_ok b
  have k1 := kind_ok a
  have k2 := kind_ok b
  have hn := times_nan a b
  have hsI := signed_ok (b := infR) (fNeg a != fNeg b) (.inl rfl)
  have hsZ := signed_ok (b := 0) (fNeg a != fNeg b) (.inr rfl)
  have eI : infR = 9218868437227405312 := rfl
  rw [eI] at hsI
  unfold divV
  rw [eI]
  by_cases c1 : nanB a ∨ nanB b
  · rw [if_pos c1]
    refine ⟨Vy 0, val_of tab300 ?_⟩
    rw [decide_eq_true c1] at hn
    simp [tr300, TT.dv, s1, s2, k1, k2, hn, nan0]
  · rw [if_neg c1]
    rw [decide_eq_false c1] at hn
    have cn1 : ¬ nanB a := fun h => c1 (.inl h)
    have cn2 : ¬ nanB b := fun h => c1 (.inr h)
    by_cases c2 : infB a
    · rw [if_pos c2]
      have i1 := (kind_infB a).2 c2
      by_cases c3 : infB b
      · rw [if_pos c3]
        have i2 := (kind_infB b).2 c3
        refine ⟨Vy 16, val_of tab300 ?_⟩
        simp [tr300, TT.dv, s1, s2, k1, k2, hn, i1, i2, nan0]
      · rw [if_neg c3]
        have i2 : ¬ fKind b = 3 := fun h => c3 ((kind_infB b).1 h)
        refine ⟨Vy 0, val_of tab300 ?_⟩
        simp [tr300, TT.dv, s1, s2, k1, k2, hn, i1, i2, hsI]
    · rw [if_neg c2]
      have i1 : ¬ fKind a = 3 := fun h => c2 ((kind_infB a).1 h)
      by_cases c3 : infB b
      · rw [if_pos c3]
        have i2 := (kind_infB b).2 c3
        refine ⟨Vy 0, val_of tab300 ?_⟩
        simp [tr300, TT.dv, s1, s2, k1, k2, hn, i1, i2, hsZ]
      · rw [if_neg c3]
        have i2 : ¬ fKind b = 3 := fun h => c3 ((kind_infB b).1 h)
        by_cases c4 : zeroB b
        · rw [if_pos c4]
          have z2 := (kind_zeroB b).2 c4
          by_cases c5 : zeroB a
          · rw [if_pos c5]
            have z1 := (kind_zeroB a).2 c5
            refine ⟨Vy 16, val_of tab300 ?_⟩
            simp [tr300, TT.dv, s1, s2, k1, k2, hn, z1, z2, nan0]
          · rw [if_neg c5]
            have z1 : ¬ fKind a = 0 := fun h => c5 ((kind_zeroB a).1 h)
            refine ⟨Vy 8, val_of tab300 ?_⟩
            simp [tr300, TT.dv, s1, s2, k1, k2, hn, i1, z1, z2, hsI]
        · rw [if_neg c4]
          have z2 : ¬ fKind b = 0 := fun h => c4 ((kind_zeroB b).1 h)
          by_cases c5 : zeroB a
          · rw [if_pos c5]
            have z1 := (kind_zeroB a).2 c5
            refine ⟨Vy 0, val_of tab300 ?_⟩
            simp [tr300, TT.dv, s1, s2, k1, k2, hn, i2, z1, z2, hsZ]
          · rw [if_neg c5]
            have z1 : ¬ fKind a = 0 := fun h => c5 ((kind_zeroB a).1 h)
            have f1 := fin_of cn1 c2
            have f2 := fin_of cn2 c3
            have m1 : fMag a ≠ 0 := fun h => c5 ((zeroB_mag f1).2 h)
            have m2 : fMag b ≠ 0 := fun h => c4 ((zeroB_mag f2).2 h)
            have n1 := norm3_ok m1
            have n2 := norm3_ok m2
            obtain ⟨a1, a2, a3⟩ := nrm_bd m1 (fMag_lt a)
            obtain ⟨b1, b2, b3⟩ := nrm_bd m2 (fMag_lt b)
            obtain ⟨p1, p2⟩ := fPl_bd a
            obtain ⟨q1, q2⟩ := fPl_bd b
            have hw1 : nrm (fMag a) ≤ 52 := by unfold nrm; omega
            have hw2 : nrm (fMag b) ≤ 52 := by unfold nrm; omega
            obtain ⟨g1, g2, g3⟩ := quo_near m1 m2 (fMag_lt a) (fMag_lt b) (fPl a) (fPl b) (fNeg a != fNeg b)
            rw [← g1]
            unfold two52 at a2 b2
            have hlp := fun x0 x1 x2 x3 x4 x5 x6 x7 x8 x10 => div_loop (x0 := x0) (x1 := x1) (x2 := x2) (x3 := x3) (x4 := x4) (x5 := x5) (x6 := x6) (x7 := x7) (x8 := x8) (x10 := x10) b2 b3 a3 61 (i := 0) rfl
            simp only [Nat.pow_zero, Nat.mul_one, show ((0 : Nat) : Int) = 0 from rfl] at hlp
            generalize hX : fMag a * 2 ^ nrm (fMag a) = X at *
            generalize hY : fMag b * 2 ^ nrm (fMag b) = Y at *
            have e0 : (B.sub .i64).den (Vi (fPl a - nrm (fMag a))) (Vi (fPl b - nrm (fMag b))) = Vi (fPl a - nrm (fMag a) - (fPl b - nrm (fMag b))) := sub_i (by omega) (by omega)
            generalize hE : fPl a - nrm (fMag a) - (fPl b - nrm (fMag b)) = E at *
            have e1 : (B.sub .i64).den (Vi E) (Vi 61) = Vi (E - 61) := sub_i (by omega) (by omega)
            have e2 : (B.quo .u64).den (Vu X) (Vu Y) = Vu (X / Y) := quo_u (by omega)
            have e3 : ¬ Y = 0 := by omega
            have hQ : X * 2 ^ 61 / Y < 18446744073709551616 := by
              rw [Nat.div_lt_iff_lt_mul (by omega)]
              have h2 : 18446744073709551616 * 4503599627370496 ≤ 18446744073709551616 * Y := Nat.mul_le_mul_left _ b2
              omega
            obtain ⟨f, hw⟩ := wide_ok (neg := fNeg a != fNeg b) (more := decide (X * 2 ^ 61 % Y ≠ 0)) (m := X * 2 ^ 61 / Y) (e := E - 61) g2 hQ (by omega) (by omega) (fun _ => by unfold lastP; omega)
            have hw' : val 305 [Vb (fNeg a != fNeg b), Vu (X * 2 ^ 61 / Y), Vi (E - 61), Vb (decide (X * 2 ^ 61 % Y ≠ 0))] = some [Vu (nearV (fNeg a != fNeg b) (quoN X Y 61) (E - 61 - 1)), f] := hw
            have e4 : B.ne.den (Vu (X * 2 ^ 61 % Y)) (Vu 0) = Vb (decide (X * 2 ^ 61 % Y ≠ 0)) := ne_u
            generalize nearV (fNeg a != fNeg b) (quoN X Y 61) (E - 61 - 1) = res at *
            generalize decide (X * 2 ^ 61 % Y ≠ 0) = mo at *
            generalize X * 2 ^ 61 / Y = Q at *
            generalize X * 2 ^ 61 % Y = R at *
            refine ⟨f, val_of tab300 ?_⟩
            simp [-ne_u, tr300, TT.dv, KS.dv, s1, s2, k1, k2, hn, z1, z2, i1, i2, n1, n2, ne_u (a := Y) (b := 0), e0, e1, e2, e3, hlp, e4, hw']
end Go.Proofs.YtogcdllpjcnbkaaGreat.Dx

/- The program's sum of two numbers is the floats' own. -/
namespace Go.Proofs.YtogcdllpjcnbkaaGreat.Dx
open Go

def sumV (s t : Bool) (m n : Nat) (i j : Int) : Nat :=
  nearV (if sg s m * 2 ^ (i - min i j).toNat + sg t n * 2 ^ (j - min i j).toNat = 0 then s && t else decide (sg s m * 2 ^ (i - min i j).toNat + sg t n * 2 ^ (j - min i j).toNat < 0))
    (sg s m * 2 ^ (i - min i j).toNat + sg t n * 2 ^ (j - min i j).toNat).natAbs (min i j)
theorem sumV_comm (s t : Bool) (m n : Nat) (i j : Int) : sumV s t m n i j = sumV t s n m j i := by
  unfold sumV
  rw [Int.add_comm, Bool.and_comm, show min i j = min j i by omega]
def addV (a b : Nat) : Nat :=
  if nanB a ∨ nanB b then nan0 else
  if infB a then (if infB b ∧ fNeg a ≠ fNeg b then nan0 else a) else
  if infB b then b else sumV (fNeg a) (fNeg b) (fMag a) (fMag b) (fPl a) (fPl b)
theorem addB_ok {a b : Nat} (ha : a < 18446744073709551616) (hb : b < 18446744073709551616) : B.fadd.den (Vf (cnF a)) (Vf (cnF b)) = Vf (addV a b) := by
  show fv (Ieee.double.add (cnF a) (cnF b)) = _
  rw [add_cn]
  unfold addV Ieee.Format.add
  by_cases h1 : nanB a
  · obtain ⟨s, f, h⟩ := rd_nan h1; rw [h, if_pos (.inl h1)]; rfl
  by_cases h2 : nanB b
  · obtain ⟨s, f, h⟩ := rd_nan h2; rw [h, if_pos (.inr h2)]; cases Ieee.double.read a <;> rfl
  rw [if_neg (by simp [h1, h2])]
  by_cases h3 : infB a
  · rw [rd_inf ha h3, if_pos h3]
    by_cases h4 : infB b
    · rw [rd_inf hb h4]
      show fv (Option.map _ (if fNeg a = fNeg b then some _ else none)) = _
      by_cases h5 : fNeg a = fNeg b
      · rw [if_pos h5, if_neg (by simp [h5])]
        show fv (some (Ieee.double.write _)) = _
        rw [wr_inf, ← inf_word ha h3]; rfl
      · rw [if_neg h5, if_pos ⟨h4, h5⟩]; rfl
    · have hf := fin_of h2 h4
      rw [rd_num hb hf, if_neg (by simp [h4])]
      show fv (some (Ieee.double.write _)) = _
      rw [wr_inf, ← inf_word ha h3]; rfl
  · have hf := fin_of h1 h3
    rw [if_neg h3, rd_num ha hf]
    by_cases h4 : infB b
    · rw [rd_inf hb h4, if_pos h4]
      show fv (some (Ieee.double.write _)) = _
      rw [wr_inf, ← inf_word hb h4]; rfl
    · have hg := fin_of h2 h4
      rw [rd_num hb hg, if_neg h4]
      show fv (some (Ieee.double.write (.number (if Ieee.signed _ _ _ + Ieee.signed _ _ _ = 0 then _ else _) _ _))) = _
      rw [wr_num, signed_eq, signed_eq]; rfl
theorem addV_lt {a b : Nat} (ha : a < 18446744073709551616) (hb : b < 18446744073709551616) : addV a b < 18446744073709551616 := by
  have h3 : nan0 < 18446744073709551616 := by decide
  unfold addV
  repeat' split
  all_goals first | exact h3 | exact ha | exact hb | exact word_lt _ _ _
theorem addV_nan (a b : Nat) : cnF (addV a b) = addV a b := by
  unfold addV
  split
  · exact cnF_nanB nanB_nan0
  · rename_i h
    split
    · split
      · exact cnF_nanB nanB_nan0
      · exact cnF_ok (fun hh => h (.inl hh))
    · split
      · exact cnF_ok (fun hh => h (.inr hh))
      · exact cnF_ok (nanB_near _ _ _)

/-! ### the program's sum -/
theorem near0 {neg : Bool} {m : Nat} {e : Int} (hm : m < 18446744073709551616) (he : -1137 ≤ e) (he2 : e < 9000000000000) : ∃ f, val 283 [Vb neg, Vu m, Vi e, Vb false] = some [Vu (nearV neg m e), f] := by
  have h := near_ok (neg := neg) (more := false) hm he he2 (fun h => by cases h)
  have h2 := (near_scale neg m e 1).1
  rw [Nat.pow_one, Nat.mul_comm] at h2
  simp only [Bool.toNat_false, Nat.add_zero] at h
  rw [show nearV neg (2 * m) (e - 1) = nearV neg m e from h2] at h
  exact ⟨_, h⟩
/-- A number divided by a power of two, what is left in its lowest digit. -/
def rgt (M d : Nat) : Nat := if M % 2 ^ min d 63 = 0 then M / 2 ^ min d 63 else 2 * (M / 2 ^ min d 63 / 2) + 1
theorem right_ok {M d : Nat} (hM : M < 18446744073709551616) (hd : d < 9223372036854775808) : val 290 [Vu M, Vi d] = some [Vu (rgt M d)] := by
  refine val_of tab290 ?_
  have e0 : ∃ t : Nat, t = min d 63 := ⟨_, rfl⟩
  obtain ⟨t, ht⟩ := e0
  unfold rgt
  rw [← ht]
  have e1 : (B.shr .u64).den (Vu M) (Vi t) = Vu (M / 2 ^ t) := by rw [shr_uI rfl, Nat.min_eq_left (by omega)]
  have e2 : (B.shl .u64).den (Vu (M / 2 ^ t)) (Vi t) = Vu (M / 2 ^ t * 2 ^ t) := by
    rw [shl_uI rfl, Nat.min_eq_left (by omega), Nat.mod_eq_of_lt]
    exact Nat.lt_of_le_of_lt (Nat.div_mul_le_self _ _) hM
  have e3 : M / 2 ^ t * 2 ^ t = M ↔ M % 2 ^ t = 0 := by
    have := Nat.div_add_mod M (2 ^ t)
    rw [Nat.mul_comm] at this
    omega
  have hq : M / 2 ^ t < 18446744073709551616 := Nat.lt_of_le_of_lt (Nat.div_le_self _ _) hM
  have e4 : (B.or .u64).den (Vu (M / 2 ^ t)) (Vu 1) = Vu (2 * (M / 2 ^ t / 2) + 1) := by
    generalize M / 2 ^ t = q at *
    rcases (show q % 2 = 0 ∨ q % 2 = 1 by omega) with h | h
    · have := or_add (a := q / 2) (b := 1) (i := 1) (by omega) (by omega) (by omega)
      rw [show 2 ^ 1 * (q / 2) = q by omega] at this
      rw [this]; exact congrArg Vu (by omega)
    · rw [or_u hq (by omega)]
      refine congrArg Vu ?_
      have := Nat.two_pow_add_eq_or_of_lt (b := 1) (i := 1) (by omega) (q / 2)
      rw [Nat.pow_one, show 2 * (q / 2) + 1 = q by omega] at this
      conv => lhs; rw [this, Nat.or_assoc, Nat.or_self, ← this]
      omega
  generalize M / 2 ^ t = q at *
  by_cases hd63 : (d : Int) > 63
  · have ht63 : t = 63 := by omega
    rw [ht63] at e1 e2 e3 ⊢
    have e1' : (B.shr .u64).den (Vu M) (Vi 63) = Vu q := e1
    have e2' : (B.shl .u64).den (Vu q) (Vi 63) = Vu (q * 2 ^ 63) := e2
    have h63 : (63 : Int) < d := by omega
    generalize q * 2 ^ 63 = z at *
    by_cases hc : z = M
    · rw [if_pos (e3.1 hc)]
      simp [-shl_u_lit, -shr_u_lit, tr290, TT.dv, KS.dv, h63, e1', e2', hc]
    · rw [if_neg (fun h => hc (e3.2 h))]
      simp [-shl_u_lit, -shr_u_lit, tr290, TT.dv, KS.dv, h63, e1', e2', hc, e4]
  · have ht63 : t = d := by omega
    subst ht63
    have h63 : ¬ (63 : Int) < t := by omega
    generalize q * 2 ^ t = z at *
    by_cases hc : z = M
    · rw [if_pos (e3.1 hc)]
      simp [-shl_u_lit, -shr_u_lit, tr290, TT.dv, KS.dv, h63, e1, e2, hc]
    · rw [if_neg (fun h => hc (e3.2 h))]
      simp [-shl_u_lit, -shr_u_lit, tr290, TT.dv, KS.dv, h63, e1, e2, hc, e4]
end Go.Proofs.YtogcdllpjcnbkaaGreat.Dx

/- The program's sum, put together. -/
namespace Go.Proofs.YtogcdllpjcnbkaaGreat.Dx
open Go

theorem near_half {N k r : Nat} (p : Int) (hN : 2 ^ 56 ≤ N) (h0 : 0 < r) (hr : r < 2 ^ k) : nearR (N * 2 ^ k + r) (p - k) = nearR (2 * (N / 2) + 1) p := by
  have h56 : (2 : Nat) ^ 56 = 72057594037927936 := rfl
  rw [h56] at hN
  have hM : N / 2 ≠ 0 := by omega
  have hlog : 55 ≤ (N / 2).log2 := by
    rw [Nat.le_log2 hM]
    show 36028797018963968 ≤ N / 2
    omega
  have e1 : N * 2 ^ k + r = N / 2 * 2 ^ (k + 1) + (N % 2 * 2 ^ k + r) := by
    rw [Nat.pow_succ, ← Nat.mul_assoc, Nat.mul_right_comm, ← Nat.add_assoc, ← Nat.add_mul, Nat.mul_comm (N / 2), Nat.div_add_mod]
  have e2 : N % 2 * 2 ^ k + r < 2 ^ (k + 1) := by
    rw [Nat.pow_succ]
    have : N % 2 * 2 ^ k ≤ 1 * 2 ^ k := Nat.mul_le_mul_right _ (by omega)
    omega
  have := (near_sticky hM (p := p + 1) (by unfold lastP; omega) (show 0 < N % 2 * 2 ^ k + r by omega) e2).1
  rw [e1, show p - (k : Int) = p + 1 - ((k + 1 : Nat) : Int) by omega, this]
  exact congrArg _ (by omega)
theorem rgt_small {n d : Nat} (hd : d ≤ 9) : rgt (n * 512) d = n * 2 ^ (9 - d) := by
  have e : n * 512 = n * 2 ^ (9 - d) * 2 ^ d := by
    rw [Nat.mul_assoc, ← Nat.pow_add, show 9 - d + d = 9 by omega]
  unfold rgt
  rw [Nat.min_eq_left (by omega), e, Nat.mul_mod_left, if_pos rfl, Nat.mul_div_cancel _ (Nat.two_pow_pos _)]
theorem rgt_big {n d : Nat} (hd : 10 ≤ d) (hn : n < 9007199254740992) : rgt (n * 512) d = if n % 2 ^ (d - 9) = 0 then n / 2 ^ (d - 9) else 2 * (n / 2 ^ (d - 9) / 2) + 1 := by
  unfold rgt
  by_cases h : d ≤ 63
  · rw [Nat.min_eq_left h]
    have e : 2 ^ d = 2 ^ (d - 9) * 512 := by rw [show (512 : Nat) = 2 ^ 9 from rfl, ← Nat.pow_add]; exact congrArg _ (by omega)
    rw [e, Nat.mul_mod_mul_right, Nat.mul_div_mul_right _ _ (by omega)]
    have : (n % 2 ^ (d - 9) * 512 = 0) ↔ (n % 2 ^ (d - 9) = 0) := by omega
    by_cases hc : n % 2 ^ (d - 9) = 0
    · rw [if_pos (this.2 hc), if_pos hc]
    · rw [if_neg (fun h => hc (this.1 h)), if_neg hc]
  · rw [Nat.min_eq_right (by omega)]
    have h1 : 2 ^ 54 ≤ 2 ^ (d - 9) := Nat.pow_le_pow_right (by omega) (by omega)
    rw [show (2 : Nat) ^ 54 = 18014398509481984 from rfl] at h1
    rw [Nat.mod_eq_of_lt (show n < 2 ^ (d - 9) by omega), Nat.div_eq_of_lt (show n < 2 ^ (d - 9) by omega), show (2 : Nat) ^ 63 = 9223372036854775808 from rfl, Nat.mod_eq_of_lt (by omega), Nat.div_eq_of_lt (by omega)]
    by_cases hc : n = 0
    · subst hc; rfl
    · rw [if_neg (by omega), if_neg hc]
/-- What is far below: a number cut, and what is left of it. -/
theorem far_parts {n k : Nat} (hk : 1 ≤ k) (hn : n < 9007199254740992) : ∃ q r, n = q * 2 ^ k + r ∧ r < 2 ^ k ∧ q < 4503599627370496 ∧ n % 2 ^ k = r ∧ n / 2 ^ k = q := by
  refine ⟨n / 2 ^ k, n % 2 ^ k, by rw [Nat.mul_comm]; exact (Nat.div_add_mod _ _).symm, Nat.mod_lt _ (Nat.two_pow_pos _), ?_, rfl, rfl⟩
  have h1 : n / 2 ^ k ≤ n / 2 := Nat.div_le_div_left (by have := Nat.pow_le_pow_right (show 0 < 2 by omega) hk; omega) (by omega)
  omega
theorem nearR_of {n : Nat} {p q : Int} (h : p = q) : nearR n p = nearR n q := by rw [h]
theorem sum_plus {m n d : Nat} (e : Int) (hm : m < 9007199254740992) (hn : n < 9007199254740992) (h : d ≤ 9 ∨ 4503599627370496 ≤ m) : nearR (m * 512 + rgt (n * 512) d) e = nearR (m * 2 ^ d + n) (e + 9 - d) := by
  by_cases hd : d ≤ 9
  · rw [rgt_small hd]
    have e1 : m * 512 + n * 2 ^ (9 - d) = (m * 2 ^ d + n) * 2 ^ (9 - d) := by
      rw [Nat.add_mul, Nat.mul_assoc, ← Nat.pow_add, show d + (9 - d) = 9 by omega]
    have := (near_scale true (m * 2 ^ d + n) (e + 9 - d) (9 - d)).2.2
    rw [e1, ← this]
    exact nearR_of (by omega)
  · obtain ⟨q, r, h1, h2, h3, h4, h5⟩ := far_parts (n := n) (k := d - 9) (by omega) hn
    rw [rgt_big (by omega) hn, h4, h5]
    have hmp : m * 2 ^ d = m * 512 * 2 ^ (d - 9) := by rw [Nat.mul_assoc, show (512 : Nat) = 2 ^ 9 from rfl, ← Nat.pow_add]; exact congrArg _ (congrArg _ (by omega))
    have hT : m * 2 ^ d + n = (m * 512 + q) * 2 ^ (d - 9) + r := by rw [hmp, h1, Nat.add_mul]; omega
    rw [hT]
    by_cases hr : r = 0
    · rw [if_pos hr, hr, Nat.add_zero]
      have := (near_scale true (m * 512 + q) e (d - 9)).2.2
      rw [← this]
      exact nearR_of (by omega)
    · rw [if_neg hr]
      have := near_half (N := m * 512 + q) (k := d - 9) (r := r) e (by rw [show (2 : Nat) ^ 56 = 72057594037927936 from rfl]; omega) (by omega) h2
      rw [show e + 9 - (d : Int) = e - ((d - 9 : Nat) : Int) by omega, this]
      exact congrArg (nearR · e) (by omega)
theorem sum_minus {m n d : Nat} (e : Int) (hm : m < 9007199254740992) (hn : n < 9007199254740992) (h : d ≤ 9 ∨ 4503599627370496 ≤ m) :
    (rgt (n * 512) d < m * 512 ↔ n < m * 2 ^ d) ∧ (m * 512 < rgt (n * 512) d ↔ m * 2 ^ d < n) ∧
    (n < m * 2 ^ d → nearR (m * 512 - rgt (n * 512) d) e = nearR (m * 2 ^ d - n) (e + 9 - d)) ∧ (m * 2 ^ d < n → nearR (rgt (n * 512) d - m * 512) e = nearR (n - m * 2 ^ d) (e + 9 - d)) := by
  by_cases hd : d ≤ 9
  · rw [rgt_small hd]
    have e0 : m * 512 = m * 2 ^ d * 2 ^ (9 - d) := by rw [Nat.mul_assoc, ← Nat.pow_add, show d + (9 - d) = 9 by omega]
    have hp := Nat.two_pow_pos (9 - d)
    rw [e0, ← Nat.mul_sub_right_distrib, ← Nat.mul_sub_right_distrib]
    refine ⟨Nat.mul_lt_mul_right hp, Nat.mul_lt_mul_right hp, fun _ => ?_, fun _ => ?_⟩
    · rw [← (near_scale true (m * 2 ^ d - n) (e + 9 - d) (9 - d)).2.2]
      exact nearR_of (by omega)
    · rw [← (near_scale true (n - m * 2 ^ d) (e + 9 - d) (9 - d)).2.2]
      exact nearR_of (by omega)
  · obtain ⟨q, r, h1, h2, h3, h4, h5⟩ := far_parts (n := n) (k := d - 9) (by omega) hn
    rw [rgt_big (by omega) hn, h4, h5]
    have hmp : m * 2 ^ d = m * 512 * 2 ^ (d - 9) := by rw [Nat.mul_assoc, show (512 : Nat) = 2 ^ 9 from rfl, ← Nat.pow_add]; exact congrArg _ (congrArg _ (by omega))
    have hbig : n < m * 2 ^ d := by
      rw [hmp]
      have : m * 512 * 1 ≤ m * 512 * 2 ^ (d - 9) := Nat.mul_le_mul_left _ (Nat.two_pow_pos _)
      omega
    have hsm : (if r = 0 then q else 2 * (q / 2) + 1) < m * 512 := by split <;> omega
    refine ⟨⟨fun _ => hbig, fun _ => hsm⟩, ⟨fun h => by omega, fun h => by omega⟩, fun _ => ?_, fun h => by omega⟩
    by_cases hr : r = 0
    · rw [if_pos hr]
      have hT : m * 2 ^ d - n = (m * 512 - q) * 2 ^ (d - 9) := by rw [hmp, h1, hr, Nat.add_zero, ← Nat.mul_sub_right_distrib]
      rw [hT, ← (near_scale true (m * 512 - q) e (d - 9)).2.2]
      exact nearR_of (by omega)
    · rw [if_neg hr]
      have hT : m * 2 ^ d - n = (m * 512 - q - 1) * 2 ^ (d - 9) + (2 ^ (d - 9) - r) := by
        rw [hmp, h1]
        have e3 : m * 512 * 2 ^ (d - 9) = (m * 512 - q - 1) * 2 ^ (d - 9) + (q * 2 ^ (d - 9) + 1 * 2 ^ (d - 9)) := by
          rw [← Nat.add_mul, ← Nat.add_mul]; exact congrArg (· * _) (by omega)
        omega
      have := near_half (N := m * 512 - q - 1) (k := d - 9) (r := 2 ^ (d - 9) - r) e (by rw [show (2 : Nat) ^ 56 = 72057594037927936 from rfl]; omega) (by omega) (by omega)
      rw [hT, show e + 9 - (d : Int) = e - ((d - 9 : Nat) : Int) by omega, this]
      exact congrArg (nearR · e) (by omega)
end Go.Proofs.YtogcdllpjcnbkaaGreat.Dx

/- The program's sum is the floats' own. -/
namespace Go.Proofs.YtogcdllpjcnbkaaGreat.Dx
open Go

theorem sg_shift (s : Bool) (m d : Nat) : sg s m * 2 ^ d = sg s (m * 2 ^ d) := by
  unfold sg
  cases s
  · simp
  · simp [Int.neg_mul]
theorem sumV_ge (s t : Bool) (m n : Nat) {i j : Int} (d : Nat) (h : i = j + d) :
    sumV s t m n i j = if s = t then nearV s (m * 2 ^ d + n) j else if n < m * 2 ^ d then nearV s (m * 2 ^ d - n) j else if m * 2 ^ d < n then nearV t (n - m * 2 ^ d) j else 0 := by
  unfold sumV
  have hmin : min i j = j := by omega
  rw [hmin, show (i - j).toNat = d by omega, show (j - j).toNat = 0 by omega, sg_shift, sg_shift, Nat.pow_zero, Nat.mul_one]
  generalize m * 2 ^ d = A
  have hz : ∀ (u : Bool) p, nearV u 0 p = sgn u 0 := nearV_zero
  cases s <;> cases t <;> simp only [sg, if_true, if_false, Bool.false_eq_true, Bool.and_self, Bool.and_false, Bool.and_true, reduceCtorEq, Bool.true_eq_false]
  · rw [show ((A : Int) + n).natAbs = A + n by omega]
    split
    · rfl
    · rw [decide_eq_false (by omega)]
  · by_cases h1 : n < A
    · rw [if_pos h1, if_neg (by omega), decide_eq_false (by omega)]
      exact congrArg (fun x => nearV false x j) (by omega)
    · rw [if_neg h1]
      by_cases h2 : A < n
      · rw [if_pos h2, if_neg (by omega), decide_eq_true (by omega)]
        exact congrArg (fun x => nearV true x j) (by omega)
      · rw [if_neg h2, if_pos (by omega), show ((A : Int) + -(n : Int)).natAbs = 0 by omega, hz]; rfl
  · by_cases h1 : n < A
    · rw [if_pos h1, if_neg (by omega), decide_eq_true (by omega)]
      exact congrArg (fun x => nearV true x j) (by omega)
    · rw [if_neg h1]
      by_cases h2 : A < n
      · rw [if_pos h2, if_neg (by omega), decide_eq_false (by omega)]
        exact congrArg (fun x => nearV false x j) (by omega)
      · rw [if_neg h2, if_pos (by omega), show (-(A : Int) + (n : Int)).natAbs = 0 by omega, hz]; rfl
  · rw [show (-(A : Int) + -(n : Int)).natAbs = A + n by omega]
    split
    · rfl
    · rw [decide_eq_true (by omega)]
theorem special_ok {a b : Nat} (ha : a < 18446744073709551616) (hb : b < 18446744073709551616) (h : ¬ (fPow a ≠ 2047 ∧ fPow b ≠ 2047)) : ∃ f, val 291 [Vu a, Vu b] = some [Vu (addV a b), f] := by
  have k1 := kind_ok a
  have k2 := kind_ok b
  have f1 := finite_ok a
  have f2 := finite_ok b
  unfold addV
  by_cases c1 : nanB a
  · rw [if_pos (.inl c1)]
    rw [(kind_nan a).2 c1] at k1
    refine ⟨Vy 0, val_of tab291 ?_⟩
    simp [tr291, TT.dv, KS.dv, k1, nan0]
  have i1 : ¬ fKind a = 4 := fun h => c1 ((kind_nan a).1 h)
  by_cases c2 : nanB b
  · rw [if_pos (.inr c2)]
    rw [(kind_nan b).2 c2] at k2
    refine ⟨Vy 0, val_of tab291 ?_⟩
    simp [tr291, TT.dv, KS.dv, k1, k2, i1, nan0]
  have i2 : ¬ fKind b = 4 := fun h => c2 ((kind_nan b).1 h)
  rw [if_neg (by simp [c1, c2])]
  by_cases c3 : infB a
  · rw [if_pos c3]
    have e1 : fPow a = 2047 := c3.1
    by_cases c4 : infB b
    · have e2 : fPow b = 2047 := c4.1
      have ea := inf_word ha c3
      have eb := inf_word hb c4
      by_cases c5 : fNeg a = fNeg b
      · rw [if_neg (by simp [c5])]
        have hab : a = b := by rw [ea, eb, c5]
        refine ⟨Vy 0, val_of tab291 ?_⟩
        simp [tr291, TT.dv, KS.dv, k2, i2, f2, e2, hab]
      · rw [if_pos ⟨c4, c5⟩]
        have hab : ¬ a = b := fun h => c5 (by rw [h])
        refine ⟨Vy 16, val_of tab291 ?_⟩
        simp [tr291, TT.dv, KS.dv, k1, k2, i1, i2, f1, f2, e1, e2, hab, nan0]
    · rw [if_neg (by simp [c4])]
      have e2 := fin_of c2 c4
      refine ⟨Vy 0, val_of tab291 ?_⟩
      simp [tr291, TT.dv, KS.dv, k1, k2, i1, i2, f1, f2, e1, e2]
  · rw [if_neg c3]
    have e1 := fin_of c1 c3
    have c4 : infB b := by
      by_cases h4 : infB b
      · exact h4
      · exact absurd ⟨e1, fin_of c2 h4⟩ h
    rw [if_pos c4]
    refine ⟨Vy 0, val_of tab291 ?_⟩
    simp [tr291, TT.dv, KS.dv, k1, k2, i1, i2, f1, f2, e1]
/-- The part of Add behind the turning round. -/
def tail288 : TT Unit := match tr288 with | .call _ _ _ _ (.call _ _ _ _ (.ite _ _ (.call _ _ _ _ (.call _ _ _ _ (.call _ _ _ _ (.call _ _ _ _ (.scope _ (.cons _ t _)))))))) => t | t => t
theorem rgt_le (M d : Nat) : rgt M d ≤ M := by
  unfold rgt
  have := Nat.div_le_self M (2 ^ min d 63)
  split
  · exact this
  · rename_i h5
    have h2 := Nat.div_add_mod M (2 ^ min d 63)
    have h3 : 0 < 2 ^ min d 63 := Nat.two_pow_pos _
    by_cases h4 : 2 ^ min d 63 = 1
    · rw [h4, Nat.mod_one] at h5; exact absurd rfl h5
    · have h6 := Nat.div_le_div_left (show 2 ≤ 2 ^ min d 63 by omega) (by omega) (a := M)
      generalize 2 ^ min d 63 = z at *
      omega
theorem tail_ok {x0 x1 x2 x3 x4 x5 x6 x7 x8 x9 : PV} {s t : Bool} {m n : Nat} {i j : Int} (d : Nat) (h : i = j + d) (hm : m < 9007199254740992) (hn : n < 9007199254740992) (hb : d ≤ 9 ∨ 4503599627370496 ≤ m) (hj : -1074 ≤ j) (hi : i ≤ 972) :
    ∃ f, tail288.dv [x0, x1, x2, x3, x4, x5, x6, x7, x8, x9, Vu m, Vi i, Vu n, Vi j, Vb s, Vb t] = some (.y .ret [Vu (sumV s t m n i j), f]) := by
  rw [sumV_ge s t m n d h]
  have e1 : (B.shl .u64).den (Vu n) (Vu 9) = Vu (n * 512) := by
    rw [shl_uU]; refine congrArg Vu ?_
    show n * 512 % _ = _; omega
  have e2 : (B.shl .u64).den (Vu m) (Vu 9) = Vu (m * 512) := by
    rw [shl_uU]; refine congrArg Vu ?_
    show m * 512 % _ = _; omega
  have e3 : (B.sub .i64).den (Vi i) (Vi j) = Vi d := by rw [sub_i (by omega) (by omega)]; exact congrArg Vi (by omega)
  have e4 : (B.sub .i64).den (Vi i) (Vi 9) = Vi (i - 9) := sub_i (by omega) (by omega)
  have e5 := right_ok (M := n * 512) (d := d) (by omega) (by omega)
  have hr := rgt_le (n * 512) d
  have l1 : -1137 ≤ i - 9 := by omega
  have l2 : i - 9 < 9000000000000 := by omega
  have l3 : i - 9 + 9 - (d : Int) = j := by omega
  have hp := sum_plus (i - 9) hm hn hb
  obtain ⟨q1, q2, q3, q4⟩ := sum_minus (i - 9) hm hn hb
  rw [l3] at hp q3 q4
  generalize rgt (n * 512) d = y at *
  have m64 : m * 512 < 18446744073709551616 := by clear hp q1 q2 q3 q4 e5; omega
  have y64 : y < 18446744073709551616 := by clear hp q1 q2 q3 q4 e5; omega
  have my64 : m * 512 + y < 18446744073709551616 := Nat.lt_of_le_of_lt (Nat.add_le_add (Nat.mul_le_mul_right 512 (Nat.le_of_lt hm)) (Nat.le_trans hr (Nat.mul_le_mul_right 512 (Nat.le_of_lt hn)))) (by decide)
  by_cases hs : s = t
  · rw [if_pos hs]
    subst hs
    have a1 : (m * 512 + y) % 18446744073709551616 = m * 512 + y := Nat.mod_eq_of_lt my64
    obtain ⟨f, hf⟩ := near0 (neg := s) (m := m * 512 + y) (e := i - 9) my64 l1 l2
    have hV : nearV s (m * 512 + y) (i - 9) = nearV s (m * 2 ^ d + n) j := by unfold nearV; rw [hp]
    rw [hV] at hf
    refine ⟨f, ?_⟩
    simp [-shl_u_lit, tail288, tr288, TT.dv, e1, e2, e3, e4, e5, a1, hf]
  · rw [if_neg hs]
    by_cases c1 : n < m * 2 ^ d
    · rw [if_pos c1]
      have c1' := q1.2 c1
      have a1 : (B.sub .u64).den (Vu (m * 512)) (Vu y) = Vu (m * 512 - y) := sub_u (Nat.le_of_lt c1') m64
      obtain ⟨f, hf⟩ := near0 (neg := s) (m := m * 512 - y) (e := i - 9) (Nat.lt_of_le_of_lt (Nat.sub_le _ _) m64) l1 l2
      have hV : nearV s (m * 512 - y) (i - 9) = nearV s (m * 2 ^ d - n) j := by unfold nearV; rw [q3 c1]
      rw [hV] at hf
      refine ⟨f, ?_⟩
      simp [-shl_u_lit, tail288, tr288, TT.dv, e1, e2, e3, e4, e5, hs, c1', a1, hf]
    · rw [if_neg c1]
      have c1' : ¬ y < m * 512 := fun h => c1 (q1.1 h)
      by_cases c2 : m * 2 ^ d < n
      · rw [if_pos c2]
        have c2' := q2.2 c2
        have a1 : (B.sub .u64).den (Vu y) (Vu (m * 512)) = Vu (y - m * 512) := sub_u (Nat.le_of_lt c2') y64
        obtain ⟨f, hf⟩ := near0 (neg := t) (m := y - m * 512) (e := i - 9) (Nat.lt_of_le_of_lt (Nat.sub_le _ _) y64) l1 l2
        have hV : nearV t (y - m * 512) (i - 9) = nearV t (n - m * 2 ^ d) j := by unfold nearV; rw [q4 c2]
        rw [hV] at hf
        refine ⟨f, ?_⟩
        simp [-shl_u_lit, tail288, tr288, TT.dv, e1, e2, e3, e4, e5, hs, c1', c2', a1, hf]
      · rw [if_neg c2]
        have c2' : ¬ m * 512 < y := fun h => c2 (q2.1 h)
        refine ⟨Vy 0, ?_⟩
        simp [-shl_u_lit, tail288, tr288, TT.dv, e1, e2, e3, e4, e5, hs, c1', c2']
theorem sadd_ok {a b : Nat} (ha : a < 18446744073709551616) (hb : b < 18446744073709551616) : ∃ f, val 288 [Vu a, Vu b] = some [Vu (addV a b), f] := by
  have f1 := finite_ok a
  have f2 := finite_ok b
  by_cases hf : fPow a ≠ 2047 ∧ fPow b ≠ 2047
  · obtain ⟨g1, g2⟩ := hf
    have n1 : ¬ nanB a := by unfold nanB; omega
    have n2 : ¬ nanB b := by unfold nanB; omega
    have i1 : ¬ infB a := by unfold infB; omega
    have i2 : ¬ infB b := by unfold infB; omega
    have p1 := parts_ok a
    have p2 := parts_ok b
    have s1 := sign_ok a
    have s2 := sign_ok b
    have hV : addV a b = sumV (fNeg a) (fNeg b) (fMag a) (fMag b) (fPl a) (fPl b) := by unfold addV; rw [if_neg (by simp [n1, n2]), if_neg i1, if_neg i2]
    rw [hV]
    obtain ⟨b1, b2⟩ := fPl_bd a
    obtain ⟨b3, b4⟩ := fPl_bd b
    have big : ∀ c, -1074 < fPl c → 4503599627370496 ≤ fMag c := fun c hc => by
      unfold fPl at hc; unfold fMag
      by_cases h0 : fPow c = 0
      · rw [if_pos h0] at hc; omega
      · rw [if_neg h0]; omega
    by_cases hlt : fPl a < fPl b
    · rw [sumV_comm]
      obtain ⟨f, h⟩ := tail_ok (x0 := Vu a) (x1 := Vu b) (x2 := Vb true) (x3 := Vb true) (x4 := Vu (fMag a)) (x5 := Vi (fPl a)) (x6 := Vu (fMag b)) (x7 := Vi (fPl b)) (x8 := Vb (fNeg a)) (x9 := Vb (fNeg b))
        (s := fNeg b) (t := fNeg a) (m := fMag b) (n := fMag a) (i := fPl b) (j := fPl a) (fPl b - fPl a).toNat (by omega) (fMag_lt b) (fMag_lt a) (.inr (big b (by omega))) b1 b4
      refine ⟨f, val_of tab288 (Eq.trans ?_ h)⟩
      simp only [tail288]
      simp [-shl_u_lit, tr288, TT.dv, KS.dv, f1, f2, g1, g2, p1, p2, s1, s2, hlt]
    · obtain ⟨f, h⟩ := tail_ok (x0 := Vu a) (x1 := Vu b) (x2 := Vb true) (x3 := Vb true) (x4 := Vu (fMag a)) (x5 := Vi (fPl a)) (x6 := Vu (fMag b)) (x7 := Vi (fPl b)) (x8 := Vb (fNeg a)) (x9 := Vb (fNeg b))
        (s := fNeg a) (t := fNeg b) (m := fMag a) (n := fMag b) (i := fPl a) (j := fPl b) (fPl a - fPl b).toNat (by omega) (fMag_lt a) (fMag_lt b) (by
          by_cases h : -1074 < fPl a
          · exact .inr (big a h)
          · left; omega) b3 b2
      refine ⟨f, val_of tab288 (Eq.trans ?_ h)⟩
      simp only [tail288]
      simp [-shl_u_lit, tr288, TT.dv, KS.dv, f1, f2, g1, g2, p1, p2, s1, s2, hlt]
  · obtain ⟨f, h⟩ := special_ok ha hb hf
    refine ⟨f, val_of tab288 ?_⟩
    by_cases g1 : fPow a = 2047
    · simp [tr288, TT.dv, KS.dv, f1, f2, g1, h]
    · have g2 : fPow b = 2047 := by omega
      simp [tr288, TT.dv, KS.dv, f1, f2, g1, g2, h]
end Go.Proofs.YtogcdllpjcnbkaaGreat.Dx

/- The operations that the program's vectors and the reference's are made of. -/
namespace Go.Proofs.YtogcdllpjcnbkaaGreat.Dx
open Go

theorem minus_neg {b : Nat} (hb : b < 18446744073709551616) : fNeg (fMinus b) = !fNeg b ∧ fPow (fMinus b) = fPow b ∧ fFrac (fMinus b) = fFrac b ∧ fMinus b < 18446744073709551616 := by
  unfold fMinus fNeg fPow fFrac
  by_cases h : b < 9223372036854775808
  · rw [if_pos h]
    refine ⟨?_, by omega, by omega, by omega⟩
    rw [show (b + 9223372036854775808) / 9223372036854775808 = 1 by omega, show b / 9223372036854775808 = 0 by omega]; rfl
  · rw [if_neg h]
    refine ⟨?_, by omega, by omega, by omega⟩
    rw [show (b - 9223372036854775808) / 9223372036854775808 = 0 by omega, show b / 9223372036854775808 = 1 by omega]; rfl
theorem sub_add {a b : Nat} (hb : b < 18446744073709551616) : Ieee.double.sub a b = Ieee.double.add a (fMinus b) := by
  obtain ⟨m1, m2, m3, m4⟩ := minus_neg hb
  unfold Ieee.Format.sub Ieee.Format.add
  rw [read_ok b, read_ok (fMinus b), neg_bit hb, neg_bit m4, m1, m2, m3, show fMag (fMinus b) = fMag b by unfold fMag; rw [m2, m3], show fPl (fMinus b) = fPl b by unfold fPl; rw [m2]]
  by_cases h1 : fPow b = 2047
  · rw [if_pos h1, if_pos h1]
    by_cases h2 : fFrac b = 0
    · rw [if_pos h2, if_pos h2]; rfl
    · rw [if_neg h2, if_neg h2]; cases Ieee.double.read a <;> rfl
  · rw [if_neg h1, if_neg h1]; rfl
def subV (a b : Nat) : Nat := addV a (fMinus b)
theorem subB_ok {a b : Nat} (ha : a < 18446744073709551616) (hb : b < 18446744073709551616) : B.fsub.den (Vf (cnF a)) (Vf (cnF b)) = Vf (subV a b) := by
  have h := addB_ok ha (minus_neg hb).2.2.2
  have e1 : B.fadd.den (Vf (cnF a)) (Vf (cnF (fMinus b))) = fv (Ieee.double.add (cnF a) (cnF (fMinus b))) := rfl
  have e2 : B.fsub.den (Vf (cnF a)) (Vf (cnF b)) = fv (Ieee.double.sub (cnF a) (cnF b)) := rfl
  rw [e1, add_cn] at h
  rw [e2, sub_cn, sub_add hb, h]; rfl
theorem subV_lt {a b : Nat} (ha : a < 18446744073709551616) (hb : b < 18446744073709551616) : subV a b < 18446744073709551616 := addV_lt ha (minus_neg hb).2.2.2
theorem subV_nan (a b : Nat) : cnF (subV a b) = subV a b := addV_nan _ _

/-! ### the reference's operations -/
theorem F9_ok (b : Nat) : val 154 [Vu b] = some [Vf (cnF b)] := val_of tab154 (by simp [tr154, TT.dv, b2f_ok])
theorem B9_ok {b : Nat} (hb : b < 18446744073709551616) (hc : cnF b = b) : val 150 [Vf b] = some [Vu b] := by
  refine val_of tab150 ?_
  have h := canon_ok hb
  rw [hc] at h
  simp [tr150, TT.dv, f2b_f, h]
section
variable {a b : Nat} (ha : a < 18446744073709551616) (hb : b < 18446744073709551616)
include ha hb
theorem add9_ok : val 148 [Vu a, Vu b] = some [Vu (addV a b)] := by
  refine val_of tab148 ?_
  simp [tr148, TT.dv, F9_ok, addB_ok ha hb, B9_ok (addV_lt ha hb) (addV_nan a b)]
theorem sub9_ok : val 163 [Vu a, Vu b] = some [Vu (subV a b)] := by
  refine val_of tab163 ?_
  simp [tr163, TT.dv, F9_ok, subB_ok ha hb, B9_ok (subV_lt ha hb) (subV_nan a b)]
theorem mul9_ok : val 156 [Vu a, Vu b] = some [Vu (mulV a b)] := by
  refine val_of tab156 ?_
  simp [tr156, TT.dv, F9_ok, mulB_ok ha hb, B9_ok mulV_lt (mulV_nan a b)]
theorem div9_ok : val 152 [Vu a, Vu b] = some [Vu (divV a b)] := by
  refine val_of tab152 ?_
  simp [tr152, TT.dv, F9_ok, divB_ok ha hb, B9_ok divV_lt (divV_nan a b)]
/-! ### the program's -/
theorem vadd_ok : val 306 [Vu a, Vu b] = some [Vu (addV a b)] := by
  refine val_of tab306 ?_
  obtain ⟨f, h⟩ := sadd_ok ha hb
  simp [tr306, TT.dv, h]
theorem vsub_ok : val 317 [Vu a, Vu b] = some [Vu (subV a b)] := by
  refine val_of tab317 ?_
  obtain ⟨f, h⟩ := sadd_ok ha (minus_neg hb).2.2.2
  have h2 : val 289 [Vu a, Vu b] = some [Vu (subV a b), f] := by
    refine val_of tab289 ?_
    simp [tr289, TT.dv, minus_ok hb, h, subV]
  simp [tr317, TT.dv, h2]
theorem vmul_ok : val 313 [Vu a, Vu b] = some [Vu (mulV a b)] := by
  refine val_of tab313 ?_
  obtain ⟨f, h⟩ := times_ok ha hb
  simp [tr313, TT.dv, h]
theorem vdiv_ok : val 310 [Vu a, Vu b] = some [Vu (divV a b)] := by
  refine val_of tab310 ?_
  obtain ⟨f, h⟩ := div_ok ha hb
  simp [tr310, TT.dv, h]
end
section
variable {b : Nat} (hb : b < 18446744073709551616)
include hb
theorem sqrt9_ok : val 161 [Vu b] = some [Vu (sqrtV b)] := by
  refine val_of tab161 ?_
  have h : val 328 [Vf (cnF b)] = some [Vf (sqrtV b)] := val_of tab328 (by simp [tr328, TT.dv, fsqrt_ok hb])
  simp [tr161, TT.dv, F9_ok, h, B9_ok (sqrtV_lt hb) cnF_sqrt]
theorem vsqrt_ok : val 316 [Vu b] = some [Vu (sqrtV b)] := by
  refine val_of tab316 ?_
  simp [tr316, TT.dv, sqrt_ok hb]
theorem shift9_ok {k : Int} (hk1 : -4611686018427387904 ≤ k) (hk2 : k ≤ 4611686018427387904) : val 160 [Vu b, Vi k] = some [Vu (scaleV b k)] := by
  refine val_of tab160 ?_
  simp [tr160, TT.dv, F9_ok, ldexp_ok hb hk1 hk2, B9_ok (scaleV_lt hb k) (scaleV_nan b k)]
end
theorem vshift_ok (b : Nat) (k : Int) : val 315 [Vu b, Vi k] = some [Vu (scaleV b k)] := by
  refine val_of tab315 ?_
  simp [tr315, TT.dv, scale_ok]
end Go.Proofs.YtogcdllpjcnbkaaGreat.Dx

/- Vectors; law VectorDots. -/
namespace Go.Proofs.YtogcdllpjcnbkaaGreat.Dx
open Go

def Words (x : List Nat) : Prop := ∀ a ∈ x, a < 18446744073709551616
def el (x : List Nat) (i : Nat) : Nat := x.getD i 0
def Vl (x : List Nat) : PV := .l (x.map Vu)
@[simp] theorem len_V (x : List Nat) : U.len.den (Vl x) = Vi x.length := by simp [Vl]
theorem get_V {x : List Nat} {i : Nat} (h : i < x.length) : B.get.den (Vl x) (Vi i) = Vu (el x i) := by
  rw [Vl, get_l _ rfl]
  simp [el, List.getD_eq_getElem?_getD, h]
@[simp] theorem nil_V : PV.l [] = Vl [] := rfl
@[simp] theorem wl_nil_V : wl [] = Vl [] := rfl
theorem app_V (x : List Nat) (a : Nat) : B.app.den (Vl x) (B.cons.den (Vu a) (Vl [])) = Vl (x ++ [a]) := by
  rw [Vl, Vl, List.map_nil, cons_l, app_l]; simp [Vl]
theorem Words.el {x : List Nat} (h : Words x) (i : Nat) : el x i < 18446744073709551616 := by
  rw [Dx.el, List.getD_eq_getElem?_getD]
  cases hx : x[i]? with
  | none => simp
  | some a => exact h a (List.mem_of_getElem? hx)

/-! ### a law's arguments -/
theorem pv_u64 {p : PV} (h : PvT (.int .u64) p) : ∃ n : Nat, p = Vu n ∧ n < 18446744073709551616 := by
  obtain ⟨a, rfl, hw⟩ := h
  obtain ⟨n, rfl, hn⟩ := wf_u64 hw
  exact ⟨n, rfl, hn⟩
theorem pv_i64 {p : PV} (h : PvT (.int .i64) p) : ∃ x : Int, p = Vi x ∧ -9223372036854775808 ≤ x ∧ x < 9223372036854775808 := by
  obtain ⟨a, rfl, hw⟩ := h
  exact ⟨a, rfl, wf_i64 hw⟩
theorem pv_bool {p : PV} (h : PvT .bool p) : ∃ b : Bool, p = Vb b := h
theorem pv_lu {p : PV} (h : PvT (.sl .u64) p) : ∃ x : List Nat, p = Vl x ∧ Words x ∧ x.length ≤ 17592186043904 := by
  obtain ⟨zs, rfl, hw, hl⟩ := h
  refine ⟨zs.map Int.toNat, ?_, ?_, ?_⟩
  · unfold Vl
    rw [List.map_map]
    refine congrArg PV.l (List.map_congr_left fun z hz => ?_)
    obtain ⟨n, rfl, _⟩ := wf_u64 (hw z hz)
    rfl
  · intro a ha
    obtain ⟨z, hz, rfl⟩ := List.mem_map.1 ha
    obtain ⟨n, rfl, hn⟩ := wf_u64 (hw z hz)
    simpa using hn
  · rw [List.length_map]
    have h1 : zs.length * 8 ≤ reachBytes := hl
    have h2 : reachBytes = 140737488351232 := rfl
    rw [h2] at h1
    omega
def dotR (x y : List Nat) : Nat → Nat → Nat → Nat
  | 0, _, s => s
  | n + 1, i, s => dotR x y n (i + 1) (addV s (mulV (el x i) (el y i)))
theorem dotR_lt {x y : List Nat} : ∀ (n : Nat) {i s : Nat}, s < 18446744073709551616 → dotR x y n i s < 18446744073709551616
  | 0, _, _, h => h
  | n + 1, i, s, h => dotR_lt n (addV_lt h mulV_lt)
section
variable {x y : List Nat} (hx : Words x) (hy : Words y) (hl : x.length = y.length) (h64 : x.length < 9000000000000000000)
include hx hy hl h64
theorem dot_loop {x2 : PV} : ∀ (n : Nat) {i s : Nat}, i + n = x.length → s < 18446744073709551616 →
    rounds (fun vs => lo311_1.dv (Vl x :: Vl y :: x2 :: vs)) [Vu s, Vi i] = some (.y (.ext 0) [Vu (dotR x y n i s)]) := by
  intro n
  induction n with
  | zero =>
    intro i s hi hs
    refine rounds_exit ?_ (by simp)
    simp [lo311_1, TT.dv, show ¬ i < x.length by omega, dotR]
  | succ n ih =>
    intro i s hi hs
    refine Eq.trans (rounds_cont ?_) (ih (i := i + 1) (s := addV s (mulV (el x i) (el y i))) (by omega) (addV_lt hs mulV_lt))
    have e1 : (B.add .i64).den (Vi i) (Vi 1) = Vi (i + 1) := add_i (by omega) (by omega)
    have g1 := get_V (x := x) (i := i) (by omega)
    have g2 := get_V (x := y) (i := i) (by omega)
    have c1 := vmul_ok (hx.el i) (hy.el i)
    have c2 := vadd_ok hs (mulV_lt (a := el x i) (b := el y i))
    simp [lo311_1, TT.dv, show i < x.length by omega, show i < y.length by omega, e1, g1, g2, c1, c2]
theorem dot9_loop : ∀ (n : Nat) {i s : Nat}, i + n = x.length → s < 18446744073709551616 →
    rounds (fun vs => lo153_1.dv (Vl x :: Vl y :: vs)) [Vu s, Vi i] = some (.y (.ext 0) [Vu (dotR x y n i s)]) := by
  intro n
  induction n with
  | zero =>
    intro i s hi hs
    refine rounds_exit ?_ (by simp)
    simp [lo153_1, TT.dv, show ¬ i < x.length by omega, dotR]
  | succ n ih =>
    intro i s hi hs
    refine Eq.trans (rounds_cont ?_) (ih (i := i + 1) (s := addV s (mulV (el x i) (el y i))) (by omega) (addV_lt hs mulV_lt))
    have e1 : (B.add .i64).den (Vi i) (Vi 1) = Vi (i + 1) := add_i (by omega) (by omega)
    have g1 := get_V (x := x) (i := i) (by omega)
    have g2 := get_V (x := y) (i := i) (by omega)
    have c1 := mul9_ok (hx.el i) (hy.el i)
    have c2 := add9_ok hs (mulV_lt (a := el x i) (b := el y i))
    simp [lo153_1, TT.dv, show i < x.length by omega, show i < y.length by omega, e1, g1, g2, c1, c2]
end
theorem fit_ok (x y : List Nat) : val 321 [Vl x, Vl y] = some [Vb (decide (x.length = y.length ∧ x.length ≤ 64))] := by
  refine val_of tab321 ?_
  have e1 : decide ((x.length : Int) = y.length) = decide (x.length = y.length) := decide_eq_decide.2 (by omega)
  have e2 : decide ((x.length : Int) ≤ 64) = decide (x.length ≤ 64) := decide_eq_decide.2 (by omega)
  simp [tr321, TT.dv, e1, e2]
theorem fits_ok (x y : List Nat) : val 37 [Vl x, Vl y] = some [Vi (if x.length = y.length ∧ x.length ≤ 64 then 0 else 3)] := by
  refine val_of tab37 ?_
  by_cases h : x.length = y.length
  · by_cases h2 : x.length ≤ 64
    · simp [tr37, TT.dv, h, h ▸ h2]
      omega
    · simp [tr37, TT.dv, h, h ▸ h2]
      omega
  · simp [tr37, TT.dv, h]
    omega
theorem awake_09 : val 36 [] = some [Vb true] := val_iff.2 ⟨200, by kernel_rfl⟩
def dotV (x y : List Nat) : Nat := dotR x y x.length 0 0
theorem dot_ok {x y : List Nat} (hx : Words x) (hy : Words y) : val 311 [Vl x, Vl y] = some (if x.length = y.length ∧ x.length ≤ 64 then [Vu (dotV x y), Vi 0] else [Vu 0, Vi 3]) := by
  refine val_of tab311 ?_
  have h1 := fit_ok x y
  by_cases h : x.length = y.length ∧ x.length ≤ 64
  · rw [if_pos h]
    rw [decide_eq_true h] at h1
    have hlp := dot_loop (x2 := Vb true) hx hy h.1 (by omega) x.length (i := 0) (s := 0) (by omega) (by omega)
    rw [show ((0 : Nat) : Int) = 0 from rfl] at hlp
    simp [tr311, TT.dv, KS.dv, h1, hlp, dotV]
  · rw [if_neg h]
    rw [decide_eq_false h] at h1
    simp [tr311, TT.dv, h1]
theorem law_VectorDots {x y : List Nat} (hx : Words x) (_ : x.length ≤ 17592186043904) (hy : Words y) (_ : y.length ≤ 17592186043904) : val 31 [Vl x, Vl y] = some [Vb true] := by
  refine val_of tab31 ?_
  have h1 := dot_ok hx hy
  have h2 := fits_ok x y
  by_cases h : x.length = y.length ∧ x.length ≤ 64
  · rw [if_pos h] at h1 h2
    have hlp := dot9_loop hx hy h.1 (by omega) x.length (i := 0) (s := 0) (by omega) (by omega)
    rw [show ((0 : Nat) : Int) = 0 from rfl] at hlp
    have h3 : val 153 [Vl x, Vl y] = some [Vu (dotV x y)] := by
      refine val_of tab153 ?_
      simp [tr153, TT.dv, KS.dv, hlp, dotV]
    simp [tr31, TT.dv, h1, h2, h3, awake_09]
  · rw [if_neg h] at h1 h2
    simp [tr31, TT.dv, h1, h2, awake_09]
end Go.Proofs.YtogcdllpjcnbkaaGreat.Dx

/- The norm; law VectorNorms. -/
namespace Go.Proofs.YtogcdllpjcnbkaaGreat.Dx
open Go

theorem max_u (a b : Nat) : (B.max .u64).den (Vu a) (Vu b) = Vu (max a b) := by
  simp only [B.den, Vu, PV.int, PV.v.injEq, Value.int.injEq, true_and]; by_cases h : (a : Int) < b <;> simp only [h, if_true, if_false] <;> omega
def absV (b : Nat) : Nat := b % 9223372036854775808
theorem absV_lt (b : Nat) : absV b < 9223372036854775808 := by unfold absV; omega
theorem nanB_absV (b : Nat) : nanB (absV b) ↔ nanB b := nanB_abs b
def bigR (x : List Nat) : Nat → Nat → Nat → Nat
  | 0, _, m => m
  | n + 1, i, m => if nanB (el x i) then nan0 else bigR x n (i + 1) (max m (absV (el x i)))
theorem maxB_nan (a : Nat) : maxB nan0 a = nan0 := by unfold maxB ordOk; simp [nanB_nan0]
theorem maxB_nan2 {m a : Nat} (h : nanB a) : maxB m (absV a) = nan0 := by unfold maxB ordOk; simp [(nanB_absV a).2 h]
theorem rk_pos {m : Nat} (h : m < 9223372036854775808) : rk m = m := by
  unfold rk fNeg sg
  rw [if_neg (by simp; omega), Nat.mod_eq_of_lt h]
theorem maxB_abs {m a : Nat} (hm : m < 9223372036854775808) (hn : ¬ nanB m) (h : ¬ nanB a) : maxB m (absV a) = max m (absV a) := by
  have ho : ordOk m (absV a) = true := by unfold ordOk; simp [hn]; exact fun hh => h ((nanB_absV a).1 hh)
  unfold maxB
  rw [if_pos ho]
  have : ordI m (absV a) < 0 ↔ m < absV a := by
    rw [ordI_lt, rk_pos hm, rk_pos (absV_lt a)]
    constructor
    · intro h; omega
    · intro h; exact ⟨ho, by omega⟩
  by_cases hc : m < absV a
  · rw [if_pos (this.2 hc)]; omega
  · rw [if_neg (fun h => hc (this.1 h))]; omega
theorem nanB_max {m a : Nat} (hn : ¬ nanB m) (h : ¬ nanB a) : ¬ nanB (max m a) := by
  rcases (show max m a = m ∨ max m a = a by omega) with h1 | h1 <;> rw [h1] <;> assumption
section
variable {x : List Nat} (hx : Words x) (h64 : x.length < 9000000000000000000)
include hx h64
/-- The loop over the greatest: at a NaN it leaves. -/
theorem big_loop {x1 : PV} : ∀ (n : Nat) {i m : Nat}, i + n = x.length → m < 9223372036854775808 → ¬ nanB m →
    (∃ r, rounds (fun vs => lo309_1.dv (Vl x :: vs)) [x1, Vu m, Vi i] = some (.y .ret [r]) ∧ bigR x n i m = nan0) ∨
    (rounds (fun vs => lo309_1.dv (Vl x :: vs)) [x1, Vu m, Vi i] = some (.y (.ext 0) [x1, Vu (bigR x n i m)])) := by
  intro n
  induction n with
  | zero =>
    intro i m hi hm hn
    refine .inr (rounds_exit ?_ (by simp))
    simp [lo309_1, TT.dv, show ¬ i < x.length by omega, bigR]
  | succ n ih =>
    intro i m hi hm hn
    have g1 := get_V (x := x) (i := i) (by omega)
    have k1 := kind_ok (el x i)
    unfold bigR
    by_cases c : nanB (el x i)
    · rw [if_pos c]
      rw [(kind_nan _).2 c] at k1
      refine .inl ⟨Vu m, rounds_exit ?_ (by simp), rfl⟩
      simp [lo309_1, TT.dv, show i < x.length by omega, g1, k1]
    · rw [if_neg c]
      have c' : ¬ fKind (el x i) = 4 := fun h => c ((kind_nan _).1 h)
      have e1 : (B.add .i64).den (Vi i) (Vi 1) = Vi (i + 1) := add_i (by omega) (by omega)
      have a1 := abs_ok (el x i)
      have hr : rounds (fun vs => lo309_1.dv (Vl x :: vs)) [x1, Vu m, Vi i] = rounds (fun vs => lo309_1.dv (Vl x :: vs)) [x1, Vu (max m (absV (el x i))), Vi ((i + 1 : Nat) : Int)] := by
        refine rounds_cont ?_
        simp [lo309_1, TT.dv, show i < x.length by omega, g1, k1, c', a1, e1, max_u, absV]
      have := absV_lt (el x i)
      rw [hr]
      exact ih (i := i + 1) (by omega) (by omega) (nanB_max hn (fun h => c ((nanB_absV _).1 h)))
theorem big9_nan : ∀ (n : Nat) {i : Nat}, i + n = x.length →
    rounds (fun vs => lo151_1.dv (Vl x :: vs)) [Vu nan0, Vi i] = some (.y (.ext 0) [Vu nan0]) := by
  intro n
  induction n with
  | zero =>
    intro i hi
    refine rounds_exit ?_ (by simp)
    simp [lo151_1, TT.dv, show ¬ i < x.length by omega]
  | succ n ih =>
    intro i hi
    refine Eq.trans (rounds_cont ?_) (ih (i := i + 1) (by omega))
    have g1 := get_V (x := x) (i := i) (by omega)
    have e1 : (B.add .i64).den (Vi i) (Vi 1) = Vi (i + 1) := add_i (by omega) (by omega)
    have a1 := abs8_ok (hx.el i)
    have m1 := max8_ok (a := nan0) (b := el x i % 9223372036854775808) (by decide) (by omega)
    rw [maxB_nan] at m1
    simp [lo151_1, TT.dv, show i < x.length by omega, g1, a1, m1, e1]
theorem big9_loop : ∀ (n : Nat) {i m : Nat}, i + n = x.length → m < 9223372036854775808 → ¬ nanB m →
    rounds (fun vs => lo151_1.dv (Vl x :: vs)) [Vu m, Vi i] = some (.y (.ext 0) [Vu (bigR x n i m)]) := by
  intro n
  induction n with
  | zero =>
    intro i m hi hm hn
    refine rounds_exit ?_ (by simp)
    simp [lo151_1, TT.dv, show ¬ i < x.length by omega, bigR]
  | succ n ih =>
    intro i m hi hm hn
    have g1 := get_V (x := x) (i := i) (by omega)
    have e1 : (B.add .i64).den (Vi i) (Vi 1) = Vi (i + 1) := add_i (by omega) (by omega)
    have a1 := abs8_ok (hx.el i)
    have m1 := max8_ok (a := m) (b := el x i % 9223372036854775808) (by omega) (by omega)
    have hr : rounds (fun vs => lo151_1.dv (Vl x :: vs)) [Vu m, Vi i] = rounds (fun vs => lo151_1.dv (Vl x :: vs)) [Vu (maxB m (absV (el x i))), Vi ((i + 1 : Nat) : Int)] := by
      refine rounds_cont ?_
      simp [lo151_1, TT.dv, show i < x.length by omega, g1, a1, m1, e1, absV]
    rw [hr]
    unfold bigR
    by_cases c : nanB (el x i)
    · rw [if_pos c, maxB_nan2 c]
      exact big9_nan hx h64 n (by omega)
    · rw [if_neg c, maxB_abs hm hn c]
      have := absV_lt (el x i)
      exact ih (i := i + 1) (by omega) (by omega) (nanB_max hn (fun h => c ((nanB_absV _).1 h)))
end
theorem bigR_lt {x : List Nat} : ∀ (n : Nat) {i m : Nat}, m < 9223372036854775808 → bigR x n i m < 9223372036854775808
  | 0, _, _, h => h
  | n + 1, i, m, h => by
    unfold bigR
    split
    · decide
    · exact bigR_lt n (by have := absV_lt (el x i); omega)
def bigV (x : List Nat) : Nat := bigR x x.length 0 0
theorem bigV_lt (x : List Nat) : bigV x < 9223372036854775808 := bigR_lt _ (by decide)
section
variable {x : List Nat} (hx : Words x) (h64 : x.length < 9000000000000000000)
include hx h64
theorem biggest_ok : val 309 [Vl x] = some [Vu (bigV x)] := by
  refine val_of tab309 ?_
  have h := big_loop hx h64 (x1 := Vu 0) x.length (i := 0) (m := 0) (by omega) (by decide) (by decide)
  rw [show ((0 : Nat) : Int) = 0 from rfl] at h
  unfold bigV
  rcases h with ⟨r, h1, h2⟩ | h1
  · rw [h2]; simp [tr309, TT.dv, KS.dv, h1, nan0]
  · simp [tr309, TT.dv, KS.dv, h1]
theorem biggest9_ok : val 151 [Vl x] = some [Vu (bigV x)] := by
  refine val_of tab151 ?_
  have h := big9_loop hx h64 x.length (i := 0) (m := 0) (by omega) (by decide) (by decide)
  rw [show ((0 : Nat) : Int) = 0 from rfl] at h
  unfold bigV
  simp [tr151, TT.dv, KS.dv, h]
end

/-! ### finite -/
def finR (x : List Nat) : Nat → Nat → Bool
  | 0, _ => true
  | n + 1, i => if fPow (el x i) = 2047 then false else finR x n (i + 1)
def finV (x : List Nat) : Bool := finR x x.length 0
section
variable {x : List Nat} (hx : Words x) (h64 : x.length < 9000000000000000000)
include hx h64
theorem fin_loop {x1 : PV} : ∀ (n : Nat) {i : Nat}, i + n = x.length →
    rounds (fun vs => lo312_1.dv (Vl x :: vs)) [x1, Vi i] = some (if finR x n i then .y (.ext 0) [x1] else .y .ret []) := by
  intro n
  induction n with
  | zero =>
    intro i hi
    refine rounds_exit ?_ (by simp [finR])
    simp [lo312_1, TT.dv, show ¬ i < x.length by omega, finR]
  | succ n ih =>
    intro i hi
    have g1 := get_V (x := x) (i := i) (by omega)
    have f1 := finite_ok (el x i)
    unfold finR
    by_cases c : fPow (el x i) = 2047
    · rw [if_pos c]
      refine rounds_exit ?_ (by simp)
      simp [lo312_1, TT.dv, show i < x.length by omega, g1, f1, c]
    · rw [if_neg c]
      have e1 : (B.add .i64).den (Vi i) (Vi 1) = Vi (i + 1) := add_i (by omega) (by omega)
      refine Eq.trans (rounds_cont ?_) (ih (i := i + 1) (by omega))
      simp [lo312_1, TT.dv, show i < x.length by omega, g1, f1, c, e1]
theorem fin9_loop {x1 : PV} : ∀ (n : Nat) {i : Nat}, i + n = x.length →
    rounds (fun vs => lo155_1.dv (Vl x :: vs)) [x1, Vi i] = some (if finR x n i then .y (.ext 0) [x1] else .y .ret []) := by
  intro n
  induction n with
  | zero =>
    intro i hi
    refine rounds_exit ?_ (by simp [finR])
    simp [lo155_1, TT.dv, show ¬ i < x.length by omega, finR]
  | succ n ih =>
    intro i hi
    have g1 := get_V (x := x) (i := i) (by omega)
    have f1 := finite4_ok (hx.el i)
    have hp := fPow_lt (el x i)
    unfold finR
    by_cases c : fPow (el x i) = 2047
    · rw [if_pos c]
      refine rounds_exit ?_ (by simp)
      simp [lo155_1, TT.dv, show i < x.length by omega, g1, f1, c]
    · rw [if_neg c]
      have e1 : (B.add .i64).den (Vi i) (Vi 1) = Vi (i + 1) := add_i (by omega) (by omega)
      refine Eq.trans (rounds_cont ?_) (ih (i := i + 1) (by omega))
      simp [lo155_1, TT.dv, show i < x.length by omega, g1, f1, show fPow (el x i) < 2047 by omega, e1]
theorem finite_v_ok : val 312 [Vl x] = some [Vb (finV x)] := by
  refine val_of tab312 ?_
  have h := fin_loop hx h64 (x1 := Vb false) x.length (i := 0) (by omega)
  rw [show ((0 : Nat) : Int) = 0 from rfl] at h
  unfold finV
  cases hc : finR x x.length 0 <;> rw [hc] at h <;> simp [tr312, TT.dv, KS.dv, h]
theorem finite_9_ok : val 155 [Vl x] = some [Vb (finV x)] := by
  refine val_of tab155 ?_
  have h := fin9_loop hx h64 (x1 := Vb false) x.length (i := 0) (by omega)
  rw [show ((0 : Nat) : Int) = 0 from rfl] at h
  unfold finV
  cases hc : finR x x.length 0 <;> rw [hc] at h <;> simp [tr155, TT.dv, KS.dv, h]
end

/-! ### the norm -/
def sqrR (x : List Nat) (k : Int) : Nat → Nat → Nat → Nat
  | 0, _, s => s
  | n + 1, i, s => sqrR x k n (i + 1) (addV s (mulV (scaleV (el x i) (-k)) (scaleV (el x i) (-k))))
theorem sqrR_lt {x : List Nat} {k : Int} : ∀ (n : Nat) {i s : Nat}, s < 18446744073709551616 → sqrR x k n i s < 18446744073709551616
  | 0, _, _, h => h
  | n + 1, i, s, h => sqrR_lt n (addV_lt h mulV_lt)
def sqrV (x : List Nat) (k : Int) : Nat := sqrR x k x.length 0 0
def normV (x : List Nat) : Nat := if bigV x = 0 ∨ fPow (bigV x) = 2047 then bigV x else scaleV (sqrtV (sqrV x (expB (bigV x)))) (expB (bigV x))
theorem expB_bd (b : Nat) : -1100 ≤ expB b ∧ expB b ≤ 1100 := by
  unfold expB
  split
  · omega
  · rename_i h
    have h1 := fPl_bd b
    have h2 : bl (fMag b) ≤ 53 := bl_lt.2 (fMag_lt b)
    have h3 : fPow b ≠ 2047 := by omega
    unfold fPl at *
    have h4 := fPow_lt b
    split <;> rename_i h5 <;> simp only [h5, if_true, if_false] at h1 <;> omega
section
variable {x : List Nat} (hx : Words x) (h64 : x.length < 9000000000000000000) {k : Int} (hk : -1100 ≤ k ∧ k ≤ 1100)
include hx h64 hk
theorem norm_loop {x1 x2 : PV} : ∀ (n : Nat) {i s : Nat}, i + n = x.length → s < 18446744073709551616 →
    rounds (fun vs => lo314_1.dv (Vl x :: x1 :: x2 :: Vi k :: vs)) [Vu s, Vi i] = some (.y (.ext 0) [Vu (sqrR x k n i s)]) := by
  intro n
  induction n with
  | zero =>
    intro i s hi hs
    refine rounds_exit ?_ (by simp)
    simp [lo314_1, TT.dv, show ¬ i < x.length by omega, sqrR]
  | succ n ih =>
    intro i s hi hs
    refine Eq.trans (rounds_cont ?_) (ih (i := i + 1) (s := addV s (mulV (scaleV (el x i) (-k)) (scaleV (el x i) (-k)))) (by omega) (addV_lt hs mulV_lt))
    have e1 : (B.add .i64).den (Vi i) (Vi 1) = Vi (i + 1) := add_i (by omega) (by omega)
    have e2 : (U.neg .i64).den (Vi k) = Vi (-k) := neg_i (by omega) (by omega)
    have g1 := get_V (x := x) (i := i) (by omega)
    have c0 := vshift_ok (el x i) (-k)
    have ht := scaleV_lt (hx.el i) (-k)
    have c1 := vmul_ok ht ht
    have c2 := vadd_ok hs (mulV_lt (a := scaleV (el x i) (-k)) (b := scaleV (el x i) (-k)))
    simp [lo314_1, TT.dv, show i < x.length by omega, e1, e2, g1, c0, c1, c2]
theorem norm9_loop {x1 x2 : PV} : ∀ (n : Nat) {i s : Nat}, i + n = x.length → s < 18446744073709551616 →
    rounds (fun vs => lo158_1.dv (Vl x :: x1 :: x2 :: Vi k :: vs)) [Vu s, Vi i] = some (.y (.ext 0) [Vu (sqrR x k n i s)]) := by
  intro n
  induction n with
  | zero =>
    intro i s hi hs
    refine rounds_exit ?_ (by simp)
    simp [lo158_1, TT.dv, show ¬ i < x.length by omega, sqrR]
  | succ n ih =>
    intro i s hi hs
    refine Eq.trans (rounds_cont ?_) (ih (i := i + 1) (s := addV s (mulV (scaleV (el x i) (-k)) (scaleV (el x i) (-k)))) (by omega) (addV_lt hs mulV_lt))
    have e1 : (B.add .i64).den (Vi i) (Vi 1) = Vi (i + 1) := add_i (by omega) (by omega)
    have e2 : (B.sub .i64).den (Vi 0) (Vi k) = Vi (-k) := by rw [sub_i (by omega) (by omega)]; exact congrArg Vi (by omega)
    have g1 := get_V (x := x) (i := i) (by omega)
    have c0 := shift9_ok (hx.el i) (k := -k) (by omega) (by omega)
    have ht := scaleV_lt (hx.el i) (-k)
    have c1 := mul9_ok ht ht
    have c2 := add9_ok hs (mulV_lt (a := scaleV (el x i) (-k)) (b := scaleV (el x i) (-k)))
    simp [lo158_1, TT.dv, show i < x.length by omega, e1, e2, g1, c0, c1, c2]
end
theorem norm_v_ok {x : List Nat} (hx : Words x) (h64 : x.length < 9000000000000000000) : val 314 [Vl x] = some (if x.length ≤ 64 then [Vu (normV x), Vi 0] else [Vu 0, Vi 3]) := by
  refine val_of tab314 ?_
  by_cases hl : x.length ≤ 64
  · rw [if_pos hl]
    have hl' : ¬ 64 < (x.length : Int) := by omega
    have h1 := biggest_ok hx h64
    have f1 := finite_ok (bigV x)
    unfold normV
    by_cases c : bigV x = 0
    · rw [if_pos (.inl c)]
      rw [c] at h1 ⊢
      simp [tr314, TT.dv, hl', h1]
    · by_cases c2 : fPow (bigV x) = 2047
      · rw [if_pos (.inr c2)]
        simp [tr314, TT.dv, hl', h1, c, f1, c2]
      · rw [if_neg (by omega)]
        have e1 := exp_ok (b := bigV x)
        have hk := expB_bd (bigV x)
        have hlp := norm_loop hx h64 hk (x1 := Vu (bigV x)) (x2 := Vb true) x.length (i := 0) (s := 0) (by omega) (by decide)
        rw [show ((0 : Nat) : Int) = 0 from rfl] at hlp
        have s1 := vsqrt_ok (b := sqrV x (expB (bigV x))) (sqrR_lt _ (by decide))
        have s2 := vshift_ok (sqrtV (sqrV x (expB (bigV x)))) (expB (bigV x))
        rw [show sqrR x (expB (bigV x)) x.length 0 0 = sqrV x (expB (bigV x)) from rfl] at hlp
        simp [tr314, TT.dv, KS.dv, hl', h1, c, f1, c2, e1, hlp, s1, s2]
  · rw [if_neg hl]
    have hl' : 64 < (x.length : Int) := by omega
    simp [tr314, TT.dv, hl']
theorem norm_9_ok {x : List Nat} (hx : Words x) (h64 : x.length < 9000000000000000000) : val 158 [Vl x] = some [Vu (normV x)] := by
  refine val_of tab158 ?_
  have h1 := biggest9_ok hx h64
  have hb := bigV_lt x
  have f1 := finite4_ok (b := bigV x) (by omega)
  have hp := fPow_lt (bigV x)
  unfold normV
  by_cases c : bigV x = 0
  · rw [if_pos (.inl c)]
    rw [c] at h1 ⊢
    simp [tr158, TT.dv, h1]
  · by_cases c2 : fPow (bigV x) = 2047
    · rw [if_pos (.inr c2)]
      simp [tr158, TT.dv, h1, c, f1, c2]
    · rw [if_neg (by omega)]
      have e1 := exp8_ok (b := bigV x) (by omega)
      have hk := expB_bd (bigV x)
      have hlp := norm9_loop hx h64 hk (x1 := Vu (bigV x)) (x2 := Vb true) x.length (i := 0) (s := 0) (by omega) (by decide)
      rw [show ((0 : Nat) : Int) = 0 from rfl] at hlp
      have s1 := sqrt9_ok (b := sqrV x (expB (bigV x))) (sqrR_lt _ (by decide))
      have s2 := shift9_ok (b := sqrtV (sqrV x (expB (bigV x)))) (sqrtV_lt (sqrR_lt _ (by decide))) (k := expB (bigV x)) (by omega) (by omega)
      rw [show sqrR x (expB (bigV x)) x.length 0 0 = sqrV x (expB (bigV x)) from rfl] at hlp
      simp [tr158, TT.dv, KS.dv, h1, c, f1, show fPow (bigV x) < 2047 by omega, e1, hlp, s1, s2]
theorem law_VectorNorms {x : List Nat} (hx : Words x) (hl : x.length ≤ 17592186043904) : val 32 [Vl x] = some [Vb true] := by
  refine val_of tab32 ?_
  have h64 : x.length < 9000000000000000000 := by omega
  have h1 := norm_v_ok hx h64
  have h2 := norm_9_ok hx h64
  have b1 := biggest_ok hx h64
  have b2 := biggest9_ok hx h64
  have f1 := finite_v_ok hx h64
  have f2 := finite_9_ok hx h64
  have h3 := fits_ok x x
  by_cases c : x.length ≤ 64
  · rw [if_pos c] at h1
    rw [if_pos ⟨rfl, c⟩] at h3
    simp [tr32, TT.dv, h1, h2, b1, b2, f1, f2, h3, awake_09]
  · rw [if_neg c] at h1
    rw [if_neg (by simp [c])] at h3
    simp [tr32, TT.dv, h1, b1, b2, f1, f2, h3, awake_09]
end Go.Proofs.YtogcdllpjcnbkaaGreat.Dx

/- Sums of vectors; law VectorAxpys. -/
namespace Go.Proofs.YtogcdllpjcnbkaaGreat.Dx
open Go

def fnP (f : Nat) (caps : List PV) : PV := .fn f caps
theorem set_V (x : List Nat) (i v : Nat) : T3.set.den (Vl x) (Vi i) (Vu v) = Vl (x.set i v) := by
  rw [Vl, set_l _ rfl, Vl, List.map_set]
theorem cpl_u {a : Nat} (h : a < 18446744073709551616) : (U.cpl .u64).den (Vu a) = Vu (18446744073709551615 ^^^ a) ∧ 18446744073709551615 ^^^ a < 18446744073709551616 :=
  ⟨(show (U.cpl .u64).den (Vu a) = (B.xor .u64).den (Vu 18446744073709551615) (Vu a) from rfl).trans (xor_u (by omega) h), Nat.xor_lt_two_pow (n := 64) (by omega) h⟩
theorem Words.set {x : List Nat} (h : Words x) {i v : Nat} (hv : v < 18446744073709551616) : Words (x.set i v) := by
  intro a ha
  rcases List.mem_or_eq_of_mem_set ha with h1 | h1
  · exact h a h1
  · rw [h1]; exact hv
theorem axpy_loop1 {x0 x1 x2 x3 x4 x5 x6 : PV} : ∀ (n : Nat) {i : Nat} {y : List Nat}, Words y → y.length < 9000000000000000000 → i + n = y.length →
    rounds (fun vs => lo30_1.dv (x0 :: x1 :: x2 :: x3 :: x4 :: x5 :: x6 :: vs)) [Vi i, Vl y] = some (.y (.ext 0) []) := by
  intro n
  induction n with
  | zero =>
    intro i y hy hl hi
    refine rounds_exit ?_ (by simp)
    simp [lo30_1, TT.dv, show ¬ i < y.length by omega]
  | succ n ih =>
    intro i y hy hl hi
    have e1 : (B.add .i64).den (Vi i) (Vi 1) = Vi (i + 1) := add_i (by omega) (by omega)
    have g1 := get_V (x := y) (i := i) (by omega)
    obtain ⟨c1, c2⟩ := cpl_u (hy.el i)
    refine Eq.trans (rounds_cont ?_) (ih (i := i + 1) (hy.set (i := i) c2) (by simpa using hl) (by rw [List.length_set]; omega))
    simp [lo30_1, TT.dv, show i < y.length by omega, e1, g1, c1, set_V]
theorem axpy_loop2 {x0 x1 x2 x3 x4 x5 x6 : PV} : ∀ (n : Nat) {i : Nat} {y : List Nat}, Words y → y.length < 9000000000000000000 → i + n = y.length →
    rounds (fun vs => lo30_2.dv (x0 :: x1 :: x2 :: x3 :: x4 :: x5 :: x6 :: vs)) [Vi i, Vl y] = some (.y (.ext 2) []) := by
  intro n
  induction n with
  | zero =>
    intro i y hy hl hi
    refine rounds_exit ?_ (by simp)
    simp [lo30_2, TT.dv, show ¬ i < y.length by omega]
  | succ n ih =>
    intro i y hy hl hi
    have e1 : (B.add .i64).den (Vi i) (Vi 1) = Vi (i + 1) := add_i (by omega) (by omega)
    have g1 := get_V (x := y) (i := i) (by omega)
    obtain ⟨c1, c2⟩ := cpl_u (hy.el i)
    refine Eq.trans (rounds_cont ?_) (ih (i := i + 1) (hy.set (i := i) c2) (by simpa using hl) (by rw [List.length_set]; omega))
    simp [lo30_2, TT.dv, show i < y.length by omega, e1, g1, c1, set_V]
/-- What a function makes of each place. -/
def mk (g : Nat → Nat) (n : Nat) : List Nat := (List.range n).map g
@[simp] theorem mk_len (g : Nat → Nat) (n : Nat) : (mk g n).length = n := by simp [mk]
theorem mk_succ (g : Nat → Nat) (n : Nat) : mk g n ++ [g n] = mk g (n + 1) := by simp [mk, List.range_succ]
theorem mk_words {g : Nat → Nat} {n : Nat} (h : ∀ i, i < n → g i < 18446744073709551616) : Words (mk g n) := by
  intro a ha
  obtain ⟨i, hi, rfl⟩ := List.mem_map.1 ha
  exact h i (by simpa using hi)
theorem mk_congr {g g' : Nat → Nat} {n : Nat} (h : ∀ i, i < n → g i = g' i) : mk g n = mk g' n := List.map_congr_left fun i hi => h i (by simpa using hi)
theorem each_loop {f n : Nat} {caps : List PV} {g : Nat → Nat} (hn : n ≤ 17592186044416) (h : ∀ i : Nat, i < n → val f (Vi i :: caps) = some [Vu (g i)]) : ∀ (k : Nat) {i : Nat}, i + k = n →
    rounds (fun vs => lo320_1.dv (Vi n :: fnP f caps :: vs)) [Vi i, Vl (mk g i)] = some (.y (.ext 0) [Vl (mk g n)]) := by
  intro k
  induction k with
  | zero =>
    intro i hi
    have : i = n := by omega
    subst this
    refine rounds_exit ?_ (by simp)
    simp [lo320_1, TT.dv]
  | succ k ih =>
    intro i hi
    refine Eq.trans (rounds_cont ?_) (ih (i := i + 1) (by omega))
    have e1 : (B.add .i64).den (Vi i) (Vi 1) = Vi (i + 1) := add_i (by omega) (by omega)
    have h1 := h i (by omega)
    have a1 := app_V (mk g i) (g i)
    rw [mk_succ] at a1
    have e2 : ((i + 1 : Nat) : Int) ≤ 17592186044416 := by omega
    rw [show ((i + 1 : Nat) : Int) = (i : Int) + 1 by omega] at e2
    simp [lo320_1, TT.dv, show i < n by omega, e1, fnP, h1, a1, e2]
theorem each_ok {f n : Nat} {caps : List PV} (g : Nat → Nat) (hn : n ≤ 17592186044416) (h : ∀ i : Nat, i < n → val f (Vi i :: caps) = some [Vu (g i)]) : val 320 [Vi n, fnP f caps] = some [Vl (mk g n)] := by
  refine val_of tab320 ?_
  have hlp := each_loop hn h n (i := 0) (by omega)
  rw [show ((0 : Nat) : Int) = 0 from rfl, show mk g 0 = [] from rfl] at hlp
  simp [tr320, TT.dv, KS.dv, hlp]
/-- Boxes and functions that catch them. -/
@[simp] theorem toA_V (l : List PV) : U.toA.den (.l l) = .a l := rfl
theorem fld_a (j : Nat) (l : List PV) : (U.fld j).den (.a l) = l.getD j default := rfl
@[simp] theorem fld0_a (p : PV) (l : List PV) : (U.fld 0).den (.a (p :: l)) = p := rfl
theorem mkfn_l (f : Nat) (l : List PV) : (U.mkfn f).den (.l l) = fnP f l := rfl
def axG (a : Nat) (x y : List Nat) (i : Nat) : Nat := addV (el y i) (mulV a (el x i))
def axV (a : Nat) (x y : List Nat) : List Nat := mk (axG a x y) x.length
def tmG (a : Nat) (x : List Nat) (i : Nat) : Nat := mulV a (el x i)
def tmV (a : Nat) (x : List Nat) : List Nat := mk (tmG a x) x.length
section
variable {a : Nat} {x y : List Nat} (ha : a < 18446744073709551616) (hx : Words x) (hy : Words y) (hl : x.length = y.length) (h64 : x.length < 17592186044416)
include ha hx hy hl h64
theorem ax_fn {i : Nat} (hi : i < x.length) : val 308 [Vi i, .a [Vl y], .a [Vu a], .a [Vl x]] = some [Vu (axG a x y i)] := by
  refine val_of tab308 ?_
  have g1 := get_V (x := x) hi
  have g2 := get_V (x := y) (i := i) (by omega)
  have c1 := vmul_ok ha (hx.el i)
  have c2 := vadd_ok (hy.el i) (mulV_lt (a := a) (b := el x i))
  simp [tr308, TT.dv, hi, show i < y.length by omega, g1, g2, c1, c2, axG]
theorem axpy_ok (h : x.length ≤ 64) : val 307 [Vu a, Vl x, Vl y] = some [Vl (axV a x y), Vi 0] := by
  refine val_of tab307 ?_
  have h1 := fit_ok x y
  rw [decide_eq_true ⟨hl, h⟩] at h1
  have h2 := each_ok (f := 308) (n := x.length) (caps := [.a [Vl y], .a [Vu a], .a [Vl x]]) (axG a x y) (by omega) (fun i hi => ax_fn ha hx hy hl h64 hi)
  have e1 : B.cons.den (U.toA.den (B.cons.den (Vl y) (Vl []))) (B.cons.den (U.toA.den (B.cons.den (Vu a) (Vl []))) (B.cons.den (U.toA.den (B.cons.den (Vl x) (Vl []))) (Vl []))) = .l [.a [Vl y], .a [Vu a], .a [Vl x]] := rfl
  simp [tr307, TT.dv, h1, e1, mkfn_l, h2, axV]
theorem ax9_loop : ∀ (n : Nat) {i : Nat}, i + n = x.length →
    rounds (fun vs => lo149_1.dv (Vu a :: Vl x :: Vl y :: vs)) [Vi i, Vl (mk (axG a x y) i)] = some (.y (.ext 0) [Vl (axV a x y)]) := by
  intro n
  induction n with
  | zero =>
    intro i hi
    have : i = x.length := by omega
    subst this
    refine rounds_exit ?_ (by simp)
    simp [lo149_1, TT.dv, axV]
  | succ n ih =>
    intro i hi
    refine Eq.trans (rounds_cont ?_) (ih (i := i + 1) (by omega))
    have e1 : (B.add .i64).den (Vi i) (Vi 1) = Vi (i + 1) := add_i (by omega) (by omega)
    have g1 := get_V (x := x) (i := i) (by omega)
    have g2 := get_V (x := y) (i := i) (by omega)
    have c1 := mul9_ok ha (hx.el i)
    have c2 := add9_ok (hy.el i) (mulV_lt (a := a) (b := el x i))
    have a1 := app_V (mk (axG a x y) i) (axG a x y i)
    rw [mk_succ] at a1
    unfold axG at a1 ⊢
    have e2 : (i : Int) + 1 ≤ 17592186044416 := by omega
    simp [lo149_1, TT.dv, show i < x.length by omega, show i < y.length by omega, e1, g1, g2, c1, c2, a1, e2]
theorem axpy9_ok : val 149 [Vu a, Vl x, Vl y] = some [Vl (axV a x y)] := by
  refine val_of tab149 ?_
  have hlp := ax9_loop ha hx hy hl h64 x.length (i := 0) (by omega)
  rw [show ((0 : Nat) : Int) = 0 from rfl, show mk (axG a x y) 0 = [] from rfl] at hlp
  simp [tr149, TT.dv, KS.dv, hlp]
end
section
variable {a : Nat} {x : List Nat} (ha : a < 18446744073709551616) (hx : Words x) (h64 : x.length < 17592186044416)
include ha hx h64
theorem times_v_ok : val 318 [Vu a, Vl x] = some (if x.length ≤ 64 then [Vl (tmV a x), Vi 0] else [Vl [], Vi 3]) := by
  refine val_of tab318 ?_
  by_cases h : x.length ≤ 64
  · rw [if_pos h]
    have h1 : ∀ i : Nat, i < x.length → val 319 [Vi i, .a [Vu a], .a [Vl x]] = some [Vu (tmG a x i)] := fun i hi => by
      refine val_of tab319 ?_
      have g1 := get_V (x := x) hi
      have c1 := vmul_ok ha (hx.el i)
      simp [tr319, TT.dv, hi, g1, c1, tmG]
    have h2 := each_ok (f := 319) (n := x.length) (caps := [.a [Vu a], .a [Vl x]]) (tmG a x) (by omega) h1
    have e1 : B.cons.den (U.toA.den (B.cons.den (Vu a) (Vl []))) (B.cons.den (U.toA.den (B.cons.den (Vl x) (Vl []))) (Vl [])) = .l [.a [Vu a], .a [Vl x]] := rfl
    simp [tr318, TT.dv, show ¬ 64 < (x.length : Int) by omega, e1, mkfn_l, h2, tmV]
  · rw [if_neg h]
    simp [tr318, TT.dv, show 64 < (x.length : Int) by omega]
theorem tm9_loop : ∀ (n : Nat) {i : Nat}, i + n = x.length →
    rounds (fun vs => lo165_1.dv (Vu a :: Vl x :: vs)) [Vi i, Vl (mk (tmG a x) i)] = some (.y (.ext 0) [Vl (tmV a x)]) := by
  intro n
  induction n with
  | zero =>
    intro i hi
    have : i = x.length := by omega
    subst this
    refine rounds_exit ?_ (by simp)
    simp [lo165_1, TT.dv, tmV]
  | succ n ih =>
    intro i hi
    refine Eq.trans (rounds_cont ?_) (ih (i := i + 1) (by omega))
    have e1 : (B.add .i64).den (Vi i) (Vi 1) = Vi (i + 1) := add_i (by omega) (by omega)
    have g1 := get_V (x := x) (i := i) (by omega)
    have c1 := mul9_ok ha (hx.el i)
    have a1 := app_V (mk (tmG a x) i) (tmG a x i)
    rw [mk_succ] at a1
    unfold tmG at a1 ⊢
    have e2 : (i : Int) + 1 ≤ 17592186044416 := by omega
    simp [lo165_1, TT.dv, show i < x.length by omega, e1, g1, c1, a1, e2]
theorem times9_ok : val 165 [Vu a, Vl x] = some [Vl (tmV a x)] := by
  refine val_of tab165 ?_
  have hlp := tm9_loop ha hx h64 x.length (i := 0) (by omega)
  rw [show ((0 : Nat) : Int) = 0 from rfl, show mk (tmG a x) 0 = [] from rfl] at hlp
  simp [tr165, TT.dv, KS.dv, hlp]
end
theorem same_loop {x : List Nat} {x2 : PV} (h64 : x.length < 9000000000000000000) : ∀ (n : Nat) {i : Nat}, i + n = x.length →
    rounds (fun vs => lo159_1.dv (Vl x :: Vl x :: vs)) [x2, Vi i] = some (.y (.ext 0) [x2]) := by
  intro n
  induction n with
  | zero =>
    intro i hi
    refine rounds_exit ?_ (by simp)
    simp [lo159_1, TT.dv, show ¬ i < x.length by omega]
  | succ n ih =>
    intro i hi
    refine Eq.trans (rounds_cont ?_) (ih (i := i + 1) (by omega))
    have e1 : (B.add .i64).den (Vi i) (Vi 1) = Vi (i + 1) := add_i (by omega) (by omega)
    have g1 := get_V (x := x) (i := i) (by omega)
    simp [lo159_1, TT.dv, show i < x.length by omega, e1, g1]
theorem same_self {x : List Nat} (h64 : x.length < 9000000000000000000) : val 159 [Vl x, Vl x] = some [Vb true] := by
  refine val_of tab159 ?_
  have hlp := same_loop (x2 := Vb false) h64 x.length (i := 0) (by omega)
  rw [show ((0 : Nat) : Int) = 0 from rfl] at hlp
  simp [tr159, TT.dv, KS.dv, hlp]
theorem law_VectorAxpys {a : Nat} (ha : a < 18446744073709551616) {x y : List Nat} (hx : Words x) (lx : x.length ≤ 17592186043904) (hy : Words y) (ly : y.length ≤ 17592186043904) : val 30 [Vu a, Vl x, Vl y] = some [Vb true] := by
  refine val_of tab30 ?_
  have b1 : (x.length : Int) ≤ 17592186044416 := by omega
  have b2 : (y.length : Int) ≤ 17592186044416 := by omega
  have l1 := fun x0 x1 x2 x3 x4 x5 x6 => axpy_loop1 (x0 := x0) (x1 := x1) (x2 := x2) (x3 := x3) (x4 := x4) (x5 := x5) (x6 := x6) x.length (i := 0) hx (by omega) (by omega)
  have l2 := fun x0 x1 x2 x3 x4 x5 x6 => axpy_loop2 (x0 := x0) (x1 := x1) (x2 := x2) (x3 := x3) (x4 := x4) (x5 := x5) (x6 := x6) y.length (i := 0) hy (by omega) (by omega)
  simp only [show ((0 : Nat) : Int) = 0 from rfl] at l1 l2
  have t1 := times_v_ok ha hx (by omega)
  have f1 := fits_ok x y
  have f2 := fits_ok x x
  have t9 := times9_ok ha hx (by omega)
  have s2 := same_self (x := tmV a x) (by simp only [tmV, mk_len]; omega)
  have s1 := same_self (x := axV a x y) (by simp only [axV, mk_len]; omega)
  by_cases c : x.length ≤ 64
  · rw [if_pos c] at t1
    rw [if_pos ⟨rfl, c⟩] at f2
    by_cases c2 : x.length = y.length
    · rw [if_pos ⟨c2, c⟩] at f1
      have a1 := axpy_ok ha hx hy c2 (by omega) c
      have a9 := axpy9_ok ha hx hy c2 (by omega)
      simp [tr30, TT.dv, KS.dv, b1, b2, l1, l2, t1, f1, f2, a1, a9, s1, t9, s2, awake_09]
    · rw [if_neg (by simp [c2])] at f1
      have a1 : val 307 [Vu a, Vl x, Vl y] = some [Vl [], Vi 3] := by
        refine val_of tab307 ?_
        have h1 := fit_ok x y
        rw [decide_eq_false (by simp [c2])] at h1
        simp [tr307, TT.dv, h1]
      simp [tr30, TT.dv, KS.dv, b1, b2, l1, l2, t1, f1, f2, a1, t9, s2, awake_09]
  · rw [if_neg c] at t1
    rw [if_neg (by simp [c])] at f1 f2
    have a1 : val 307 [Vu a, Vl x, Vl y] = some [Vl [], Vi 3] := by
      refine val_of tab307 ?_
      have h1 := fit_ok x y
      rw [decide_eq_false (by simp [c])] at h1
      simp [tr307, TT.dv, h1]
    simp [tr30, TT.dv, KS.dv, b1, b2, l1, l2, t1, f1, f2, a1, awake_09]
end Go.Proofs.YtogcdllpjcnbkaaGreat.Dx

/- Turns; law GivensTurns. -/
namespace Go.Proofs.YtogcdllpjcnbkaaGreat.Dx
open Go

theorem cons_V (a : Nat) (x : List Nat) : B.cons.den (Vu a) (Vl x) = Vl (a :: x) := rfl
def tK (f g : Nat) : Int := expB (max (absV f) (absV g))
def tN (f g : Nat) : Nat := sqrtV (addV (mulV (scaleV f (-tK f g)) (scaleV f (-tK f g))) (mulV (scaleV g (-tK f g)) (scaleV g (-tK f g))))
def turnC (f g : Nat) : Nat := if zeroB g then 4607182418800017408 else if zeroB f then 0 else divV (scaleV f (-tK f g)) (tN f g)
def turnS (f g : Nat) : Nat := if zeroB g then 0 else if zeroB f then 4607182418800017408 else divV (scaleV g (-tK f g)) (tN f g)
def turnR (f g : Nat) : Nat := if zeroB g then f else if zeroB f then g else scaleV (tN f g) (tK f g)
section
variable {f g : Nat} (hf : f < 18446744073709551616) (hg : g < 18446744073709551616)
include hf hg
theorem sum_sq_lt {a b : Nat} : addV (mulV a a) (mulV b b) < 18446744073709551616 := addV_lt mulV_lt mulV_lt
theorem tN_lt : tN f g < 18446744073709551616 := sqrtV_lt (sum_sq_lt hf hg)
theorem turn_ok : val 232 [Vu f, Vu g] = some (if fPow f = 2047 ∨ fPow g = 2047 then [Vu 0, Vu 0, Vu 0, Vi 4] else [Vu (turnC f g), Vu (turnS f g), Vu (turnR f g), Vi 0]) := by
  refine val_of tab232 ?_
  have f1 := finite_ok f
  have f2 := finite_ok g
  have k1 := kind_ok f
  have k2 := kind_ok g
  by_cases c1 : fPow f = 2047
  · rw [if_pos (.inl c1)]
    simp [tr232, TT.dv, f1, c1]
  by_cases c2 : fPow g = 2047
  · rw [if_pos (.inr c2)]
    simp [tr232, TT.dv, f1, f2, c1, c2]
  rw [if_neg (by omega)]
  unfold turnC turnS turnR
  by_cases z2 : zeroB g
  · simp only [if_pos z2]
    rw [(kind_zeroB g).2 z2] at k2
    simp [tr232, TT.dv, f1, f2, c1, c2, k2]
  simp only [if_neg z2]
  have z2' : ¬ fKind g = 0 := fun h => z2 ((kind_zeroB g).1 h)
  by_cases z1 : zeroB f
  · simp only [if_pos z1]
    rw [(kind_zeroB f).2 z1] at k1
    simp [tr232, TT.dv, f1, f2, c1, c2, k1, k2, z2']
  simp only [if_neg z1]
  have z1' : ¬ fKind f = 0 := fun h => z1 ((kind_zeroB f).1 h)
  have n1 : ¬ nanB f := by unfold nanB; omega
  have n2 : ¬ nanB g := by unfold nanB; omega
  have hb := biggest_ok (x := [f, g]) (by intro a ha; simp at ha; rcases ha with rfl | rfl <;> assumption) (by simp)
  have hbig : bigV [f, g] = max (absV f) (absV g) := by
    show (if nanB f then nan0 else if nanB g then nan0 else max (max 0 (absV f)) (absV g)) = _
    rw [if_neg n1, if_neg n2, Nat.zero_max]
  rw [hbig] at hb
  have he := exp_ok (b := max (absV f) (absV g))
  have hk := expB_bd (max (absV f) (absV g))
  rw [show expB (max (absV f) (absV g)) = tK f g from rfl] at he hk
  have hneg : (U.neg .i64).den (Vi (tK f g)) = Vi (-tK f g) := neg_i (by omega) (by omega)
  have s1 := vshift_ok f (-tK f g)
  have s2 := vshift_ok g (-tK f g)
  have l1 := scaleV_lt hf (-tK f g)
  have l2 := scaleV_lt hg (-tK f g)
  have m1 := vmul_ok l1 l1
  have m2 := vmul_ok l2 l2
  have a1 := vadd_ok (mulV_lt (a := scaleV f (-tK f g)) (b := scaleV f (-tK f g))) (mulV_lt (a := scaleV g (-tK f g)) (b := scaleV g (-tK f g)))
  have q1 := vsqrt_ok (sum_sq_lt hf hg (a := scaleV f (-tK f g)) (b := scaleV g (-tK f g)))
  rw [show sqrtV (addV (mulV (scaleV f (-tK f g)) (scaleV f (-tK f g))) (mulV (scaleV g (-tK f g)) (scaleV g (-tK f g)))) = tN f g from rfl] at q1
  have d1 := vdiv_ok l1 (tN_lt hf hg)
  have d2 := vdiv_ok l2 (tN_lt hf hg)
  have s3 := vshift_ok (tN f g) (tK f g)
  simp [tr232, TT.dv, f1, f2, c1, c2, k1, k2, z2', z1', cons_V, hb, he, hneg, s1, s2, m1, m2, a1, q1, d1, d2, s3]
theorem turn12_ok (c1 : fPow f ≠ 2047) (c2 : fPow g ≠ 2047) : val 189 [Vu f, Vu g] = some [Vu (turnC f g), Vu (turnS f g), Vu (turnR f g)] := by
  refine val_of tab189 ?_
  have k1 := kind4_ok hf
  have k2 := kind4_ok hg
  unfold turnC turnS turnR
  by_cases z2 : zeroB g
  · simp only [if_pos z2]
    rw [(kind_zeroB g).2 z2] at k2
    simp [tr189, TT.dv, k2]
  simp only [if_neg z2]
  have z2' : ¬ fKind g = 0 := fun h => z2 ((kind_zeroB g).1 h)
  by_cases z1 : zeroB f
  · simp only [if_pos z1]
    rw [(kind_zeroB f).2 z1] at k1
    simp [tr189, TT.dv, k1, k2, z2']
  simp only [if_neg z1]
  have z1' : ¬ fKind f = 0 := fun h => z1 ((kind_zeroB f).1 h)
  have n1 : ¬ nanB f := by unfold nanB; omega
  have n2 : ¬ nanB g := by unfold nanB; omega
  have b1 := abs8_ok hf
  have b2 := abs8_ok hg
  rw [show f % 9223372036854775808 = absV f from rfl] at b1
  rw [show g % 9223372036854775808 = absV g from rfl] at b2
  have g1 := absV_lt f
  have g2 := absV_lt g
  have b3 := max8_ok (a := absV f) (b := absV g) (by omega) (by omega)
  rw [maxB_abs g1 (fun h => n1 ((nanB_absV f).1 h)) n2] at b3
  have he := exp8_ok (b := max (absV f) (absV g)) (by omega)
  have hk := expB_bd (max (absV f) (absV g))
  rw [show expB (max (absV f) (absV g)) = tK f g from rfl] at he hk
  have hneg : (B.sub .i64).den (Vi 0) (Vi (tK f g)) = Vi (-tK f g) := by rw [sub_i (by omega) (by omega)]; exact congrArg Vi (by omega)
  have s1 := shift9_ok hf (k := -tK f g) (by omega) (by omega)
  have s2 := shift9_ok hg (k := -tK f g) (by omega) (by omega)
  have l1 := scaleV_lt hf (-tK f g)
  have l2 := scaleV_lt hg (-tK f g)
  have m1 := mul9_ok l1 l1
  have m2 := mul9_ok l2 l2
  have a1 := add9_ok (mulV_lt (a := scaleV f (-tK f g)) (b := scaleV f (-tK f g))) (mulV_lt (a := scaleV g (-tK f g)) (b := scaleV g (-tK f g)))
  have q1 := sqrt9_ok (sum_sq_lt hf hg (a := scaleV f (-tK f g)) (b := scaleV g (-tK f g)))
  rw [show sqrtV (addV (mulV (scaleV f (-tK f g)) (scaleV f (-tK f g))) (mulV (scaleV g (-tK f g)) (scaleV g (-tK f g)))) = tN f g from rfl] at q1
  have d1 := div9_ok l1 (tN_lt hf hg)
  have d2 := div9_ok l2 (tN_lt hf hg)
  have s3 := shift9_ok (tN_lt hf hg) (k := tK f g) (by omega) (by omega)
  simp [tr189, TT.dv, k1, k2, z2', z1', b1, b2, b3, he, hneg, s1, s2, m1, m2, a1, q1, d1, d2, s3]
end
theorem awake_12 : val 44 [] = some [Vb true] := val_iff.2 ⟨300, by kernel_rfl⟩
theorem law_GivensTurns {f g : Nat} (hf : f < 18446744073709551616) (hg : g < 18446744073709551616) : val 42 [Vu f, Vu g] = some [Vb true] := by
  refine val_of tab42 ?_
  have h1 := turn_ok hf hg
  have f1 := finite4_ok hf
  have f2 := finite4_ok hg
  have p1 := fPow_lt f
  have p2 := fPow_lt g
  by_cases c1 : fPow f = 2047
  · rw [if_pos (.inl c1)] at h1
    simp [tr42, TT.dv, h1, f1, c1, awake_12]
  by_cases c2 : fPow g = 2047
  · rw [if_pos (.inr c2)] at h1
    simp [tr42, TT.dv, h1, f1, f2, show fPow f < 2047 by omega, c2, awake_12]
  rw [if_neg (by omega)] at h1
  have h2 := turn12_ok hf hg c1 c2
  simp [tr42, TT.dv, h1, h2, f1, f2, show fPow f < 2047 by omega, show fPow g < 2047 by omega, awake_12]
end Go.Proofs.YtogcdllpjcnbkaaGreat.Dx

/- Matrices. -/
namespace Go.Proofs.YtogcdllpjcnbkaaGreat.Dx
open Go

/-- The place of row i, column k. -/
def ps (i c k : Nat) : Nat := i * c + k
theorem ps_lt {i c k r : Nat} (hi : i < r) (hk : k < c) : ps i c k < r * c := by
  unfold ps
  have h1 : (i + 1) * c ≤ r * c := Nat.mul_le_mul_right c hi
  rw [Nat.add_mul, Nat.one_mul] at h1
  omega
theorem ps_inj {i c k i' k' : Nat} (hk : k < c) (hk' : k' < c) (h : ps i c k = ps i' c k') : i = i' ∧ k = k' := by
  unfold ps at h
  have h1 : (i * c + k) / c = i := by rw [Nat.mul_comm, Nat.mul_add_div (by omega), Nat.div_eq_of_lt hk, Nat.add_zero]
  have h2 : (i' * c + k') / c = i' := by rw [Nat.mul_comm, Nat.mul_add_div (by omega), Nat.div_eq_of_lt hk', Nat.add_zero]
  have h3 : i = i' := by rw [← h1, ← h2, h]
  subst h3
  exact ⟨rfl, by omega⟩
theorem ps_small {i c k : Nat} (hi : i < 100) (hc : c ≤ 100) (hk : k ≤ 100) : ps i c k ≤ 100000 := by
  unfold ps
  have : i * c ≤ 100 * 100 := Nat.mul_le_mul (by omega) hc
  omega
theorem pos_i {i c k : Nat} (hi : i < 100) (hc : c ≤ 100) (hk : k ≤ 100) : (B.add .i64).den ((B.mul .i64).den (Vi i) (Vi c)) (Vi k) = Vi (ps i c k) := by
  have h1 : i * c ≤ 100 * 100 := Nat.mul_le_mul (by omega) hc
  have h2 : (i : Int) * c = ((i * c : Nat) : Int) := by rw [Int.natCast_mul]
  rw [mul_i (by rw [h2]; omega) (by rw [h2]; omega), h2, add_i (by omega) (by omega)]
  unfold ps
  exact congrArg Vi (by omega)
/-- Right matrices. -/
structure Mx (r c : Nat) (x : List Nat) : Prop where
  hr : r ≤ 6
  hc : c ≤ 6
  len : x.length = r * c
  w : Words x
theorem Mx.lt {r c : Nat} {x : List Nat} (h : Mx r c x) {i k : Nat} (hi : i < r) (hk : k < c) : ps i c k < x.length := by rw [h.len]; exact ps_lt hi hk
theorem Mx.small {r c : Nat} {x : List Nat} (h : Mx r c x) : x.length ≤ 36 := by
  rw [h.len]; exact Nat.mul_le_mul h.hr h.hc
theorem Mx.set {r c : Nat} {x : List Nat} (h : Mx r c x) {p v : Nat} (hv : v < 18446744073709551616) : Mx r c (x.set p v) := ⟨h.hr, h.hc, by rw [List.length_set, h.len], h.w.set hv⟩
def rightP (R C : Int) (x : List Nat) : Prop := 0 ≤ R ∧ R ≤ 6 ∧ 0 ≤ C ∧ C ≤ 6 ∧ (x.length : Int) = R * C
instance (R C : Int) (x : List Nat) : Decidable (rightP R C x) := by unfold rightP; exact inferInstance
theorem right_mx {R C : Int} {x : List Nat} (h : rightP R C x) (hw : Words x) : ∃ r c : Nat, R = r ∧ C = c ∧ Mx r c x := by
  obtain ⟨h1, h2, h3, h4, h5⟩ := h
  refine ⟨R.toNat, C.toNat, by omega, by omega, by omega, by omega, ?_, hw⟩
  have e1 : R = R.toNat := by omega
  have e2 : C = C.toNat := by omega
  rw [e1, e2, ← Int.natCast_mul] at h5
  omega
theorem mx_right {r c : Nat} {x : List Nat} (h : Mx r c x) : rightP r c x :=
  ⟨by omega, by have := h.hr; omega, by omega, by have := h.hc; omega, by rw [h.len, Int.natCast_mul]⟩
theorem size_ok (n : Int) : val 259 [Vi n] = some [Vb (decide (0 ≤ n ∧ n ≤ 6))] := by
  refine val_of tab259 ?_
  simp [tr259, TT.dv]
theorem small_mul {R C : Int} (h1 : 0 ≤ R ∧ R ≤ 6) (h2 : 0 ≤ C ∧ C ≤ 6) : (B.mul .i64).den (Vi R) (Vi C) = Vi (R * C) := by
  have h3 : R * C ≤ 6 * 6 := Int.mul_le_mul h1.2 h2.2 h2.1 (by omega)
  have h4 : 0 ≤ R * C := Int.mul_nonneg h1.1 h2.1
  exact mul_i (by omega) (by omega)
theorem check_ok (R C : Int) (x : List Nat) : val 246 [Vi R, Vi C, Vl x] = some [Vi (if rightP R C x then 0 else 1)] := by
  refine val_of tab246 ?_
  have s1 := size_ok R
  have s2 := size_ok C
  by_cases h1 : 0 ≤ R ∧ R ≤ 6
  · rw [decide_eq_true h1] at s1
    by_cases h2 : 0 ≤ C ∧ C ≤ 6
    · rw [decide_eq_true h2] at s2
      have hm := small_mul h1 h2
      by_cases h3 : (x.length : Int) = R * C
      · rw [if_pos (show rightP R C x from ⟨h1.1, h1.2, h2.1, h2.2, h3⟩)]
        simp [tr246, TT.dv, s1, s2, hm, h3]
      · rw [if_neg (show ¬ rightP R C x from fun h => h3 h.2.2.2.2)]
        simp [tr246, TT.dv, s1, s2, hm, h3]
    · rw [decide_eq_false h2] at s2
      rw [if_neg (show ¬ rightP R C x from fun h => h2 ⟨h.2.2.1, h.2.2.2.1⟩)]
      simp [tr246, TT.dv, s1, s2]
  · rw [decide_eq_false h1] at s1
    rw [if_neg (show ¬ rightP R C x from fun h => h1 ⟨h.1, h.2.1⟩)]
    simp [tr246, TT.dv, s1]
theorem right_ok10 (R C : Int) (x : List Nat) : val 172 [Vi R, Vi C, Vl x] = some [Vb (decide (rightP R C x))] := by
  refine val_of tab172 ?_
  by_cases h1 : 0 ≤ R ∧ R ≤ 6
  · by_cases h2 : 0 ≤ C ∧ C ≤ 6
    · have hm := small_mul h1 h2
      by_cases h3 : (x.length : Int) = R * C
      · rw [decide_eq_true (show rightP R C x from ⟨h1.1, h1.2, h2.1, h2.2, h3⟩)]
        simp [tr172, TT.dv, hm, h1.1, h1.2, h2.1, h2.2, h3]
      · rw [decide_eq_false (show ¬ rightP R C x from fun h => h3 h.2.2.2.2)]
        simp [tr172, TT.dv, hm, h1.1, h1.2, h2.1, h2.2, h3]
    · rw [decide_eq_false (show ¬ rightP R C x from fun h => h2 ⟨h.2.2.1, h.2.2.2.1⟩)]
      by_cases h3 : 0 ≤ C
      · have h4 : ¬ C ≤ 6 := fun h => h2 ⟨h3, h⟩
        simp [tr172, TT.dv, h1.1, h1.2, h3, h4]
      · simp [tr172, TT.dv, h1.1, h1.2, h3]
  · rw [decide_eq_false (show ¬ rightP R C x from fun h => h1 ⟨h.1, h.2.1⟩)]
    by_cases h3 : 0 ≤ R
    · have h4 : ¬ R ≤ 6 := fun h => h1 ⟨h3, h⟩
      simp [tr172, TT.dv, h3, h4]
    · simp [tr172, TT.dv, h3]
/-! ### places of a matrix -/
section
variable {r c : Nat} {x : List Nat} (h : Mx r c x)
include h
theorem at_ok {i k : Nat} (hi : i < r) (hk : k < c) : val 166 [Vi r, Vi c, Vl x, Vi i, Vi k] = some [Vu (el x (ps i c k))] := by
  refine val_of tab166 ?_
  have h1 := h.hr
  have h2 := h.hc
  have e1 := pos_i (i := i) (c := c) (k := k) (by omega) (by omega) (by omega)
  have hl := h.lt hi hk
  simp [tr166, TT.dv, e1, hl, get_V hl]
theorem get_ok {i k : Nat} (hi : i < r) (hk : k < c) : val 257 [Vi r, Vi c, Vl x, Vi i, Vi k] = some [Vu (el x (ps i c k))] := by
  refine val_of tab257 ?_
  have h1 := h.hr
  have h2 := h.hc
  have e1 := pos_i (i := i) (c := c) (k := k) (by omega) (by omega) (by omega)
  have hl := h.lt hi hk
  simp [tr257, TT.dv, e1, hl, get_V hl]
theorem with_ok {i k b : Nat} (hi : i < r) (hk : k < c) : val 176 [Vi r, Vi c, Vl x, Vi i, Vi k, Vu b] = some [Vi r, Vi c, Vl (x.set (ps i c k) b)] := by
  refine val_of tab176 ?_
  have h1 := h.hr
  have h2 := h.hc
  have e1 := pos_i (i := i) (c := c) (k := k) (by omega) (by omega) (by omega)
  have hl := h.lt hi hk
  have hs := h.small
  simp [tr176, TT.dv, e1, hl, set_V, show (x.length : Int) ≤ 17592186044416 by omega]
end
theorem rep_V (n a : Nat) : B.rep.den (Vi n) (Vu a) = Vl (List.replicate n a) := by
  show PV.l (List.replicate (Vi n).int.toNat (Vu a)) = _
  rw [int_I, Int.toNat_natCast, Vl, List.map_replicate]
theorem zeros_ok {r c : Nat} (hr : r ≤ 6) (hc : c ≤ 6) : val 177 [Vi r, Vi c] = some [Vi r, Vi c, Vl (List.replicate (r * c) 0)] := by
  refine val_of tab177 ?_
  have h1 := small_mul (R := r) (C := c) (by omega) (by omega)
  have h2 : r * c ≤ 36 := Nat.mul_le_mul hr hc
  rw [← Int.natCast_mul] at h1
  generalize r * c = n at *
  simp [tr177, TT.dv, h1, rep_V, show (n : Int) ≤ 17592186044416 by omega]
theorem zeros_mx {r c : Nat} (hr : r ≤ 6) (hc : c ≤ 6) : Mx r c (List.replicate (r * c) 0) := ⟨hr, hc, by simp, fun a ha => by rw [(List.mem_replicate.1 ha).2]; decide⟩
theorem copy_ok (R C : Int) {x : List Nat} (h : x.length ≤ 17592186044416) : val 168 [Vi R, Vi C, Vl x] = some [Vi R, Vi C, Vl x] := by
  refine val_of tab168 ?_
  simp [tr168, TT.dv, show (x.length : Int) ≤ 17592186044416 by omega]
/-! ### sameness -/
theorem same_m (R C : Int) {x : List Nat} (h : x.length < 9000000000000000000) : val 174 [Vi R, Vi C, Vl x, Vi R, Vi C, Vl x] = some [Vb true] := by
  refine val_of tab174 ?_
  simp [tr174, TT.dv, same_self h]
/-! ### a matrix by a function of places -/
def matL (g : Nat → Nat → Nat) (r c : Nat) : List Nat := (List.range r).flatMap fun i => mk (g i) c
theorem matL_succ (g : Nat → Nat → Nat) (r c : Nat) : matL g r c ++ mk (g r) c = matL g (r + 1) c := by
  unfold matL; rw [List.range_succ, List.flatMap_append]; simp
theorem matL_len (g : Nat → Nat → Nat) (r c : Nat) : (matL g r c).length = r * c := by
  induction r with
  | zero => simp [matL]
  | succ r ih => rw [← matL_succ, List.length_append, ih, mk_len, Nat.add_mul, Nat.one_mul]
theorem el_app {x y : List Nat} (i : Nat) : el (x ++ y) i = if i < x.length then el x i else el y (i - x.length) := by
  unfold el
  rw [List.getD_eq_getElem?_getD, List.getD_eq_getElem?_getD, List.getD_eq_getElem?_getD]
  by_cases h : i < x.length
  · rw [if_pos h, List.getElem?_append_left h]
  · rw [if_neg h, List.getElem?_append_right (by omega)]
theorem el_matL (g : Nat → Nat → Nat) {c : Nat} : ∀ {r i k : Nat}, i < r → k < c → el (matL g r c) (ps i c k) = g i k := by
  intro r
  induction r with
  | zero => intro i k hi; omega
  | succ r ih =>
    intro i k hi hk
    rw [← matL_succ, el_app, matL_len]
    by_cases h : i < r
    · rw [if_pos (ps_lt h hk)]; exact ih h hk
    · have : i = r := by omega
      subst this
      unfold ps
      rw [if_neg (by omega), Nat.add_sub_cancel_left]
      unfold el mk
      rw [List.getD_eq_getElem?_getD, List.getElem?_map, List.getElem?_range hk]; rfl
theorem mat_ext {x y : List Nat} {r c : Nat} (hx : x.length = r * c) (hy : y.length = r * c) (h : ∀ i k, i < r → k < c → el x (ps i c k) = el y (ps i c k)) : x = y := by
  refine List.ext_getElem (by omega) fun t h1 h2 => ?_
  have hc : 0 < c := by
    rcases Nat.eq_zero_or_pos c with h0 | h0
    · subst h0; omega
    · exact h0
  have ht : t = ps (t / c) c (t % c) := by unfold ps; rw [Nat.mul_comm]; exact (Nat.div_add_mod t c).symm
  have := h (t / c) (t % c) (by rw [Nat.div_lt_iff_lt_mul hc]; omega) (Nat.mod_lt _ hc)
  rw [← ht] at this
  unfold el at this
  rw [List.getD_eq_getElem?_getD, List.getD_eq_getElem?_getD, List.getElem?_eq_getElem h1, List.getElem?_eq_getElem h2] at this
  exact this
theorem matL_mx {g : Nat → Nat → Nat} {r c : Nat} (hr : r ≤ 6) (hc : c ≤ 6) (h : ∀ i k, i < r → k < c → g i k < 18446744073709551616) : Mx r c (matL g r c) := by
  refine ⟨hr, hc, matL_len g r c, fun a ha => ?_⟩
  unfold matL at ha
  obtain ⟨i, hi, h1⟩ := List.mem_flatMap.1 ha
  obtain ⟨k, hk, rfl⟩ := List.mem_map.1 h1
  exact h i k (by simpa using hi) (by simpa using hk)
section
variable {f r c : Nat} {caps : List PV} {g : Nat → Nat → Nat} (hr : r ≤ 6) (hc : c ≤ 6) (h : ∀ i k : Nat, i < r → k < c → val f (Vi i :: Vi k :: caps) = some [Vu (g i k)])
include hr hc h
theorem of_inner {x4 : PV} {acc : List Nat} (ha : acc.length ≤ 1000) {i : Nat} (hi : i < r) : ∀ (n : Nat) {k : Nat}, k + n = c →
    rounds (fun vs => lo258_2.dv (Vi r :: Vi c :: fnP f caps :: Vi i :: x4 :: vs)) [Vi k, Vl (acc ++ mk (g i) k)] = some (.y (.ext 2) [Vl (acc ++ mk (g i) c)]) := by
  intro n
  induction n with
  | zero =>
    intro k hk
    have : k = c := by omega
    subst this
    refine rounds_exit ?_ (by simp)
    simp [lo258_2, TT.dv]
  | succ n ih =>
    intro k hk
    refine Eq.trans (rounds_cont ?_) (ih (k := k + 1) (by omega))
    have e1 : (B.add .i64).den (Vi k) (Vi 1) = Vi (k + 1) := add_i (by omega) (by omega)
    have h1 := h i k hi (by omega)
    have a1 := app_V (acc ++ mk (g i) k) (g i k)
    rw [List.append_assoc, mk_succ] at a1
    have l2 : ((acc.length : Int) + (k + 1)) ≤ 17592186044416 := by omega
    simp [lo258_2, TT.dv, fnP, show k < c by omega, h1, e1, a1, l2]
theorem of_outer : ∀ (n : Nat) {i : Nat}, i + n = r →
    rounds (fun vs => lo258_1.dv (Vi r :: Vi c :: fnP f caps :: vs)) [Vi i, Vl (matL g i c)] = some (.y (.ext 0) [Vl (matL g r c)]) := by
  intro n
  induction n with
  | zero =>
    intro i hi
    have : i = r := by omega
    subst this
    refine rounds_exit ?_ (by simp)
    simp [lo258_1, TT.dv]
  | succ n ih =>
    intro i hi
    refine Eq.trans (rounds_cont ?_) (ih (i := i + 1) (by omega))
    have e1 : (B.add .i64).den (Vi i) (Vi 1) = Vi (i + 1) := add_i (by omega) (by omega)
    have hl : (matL g i c).length ≤ 1000 := by
      rw [matL_len]
      have : i * c ≤ 6 * 6 := Nat.mul_le_mul (by omega) hc
      omega
    have hin := of_inner hr hc h (x4 := Vl (matL g i c)) hl (i := i) (by omega) c (k := 0) (by omega)
    rw [show ((0 : Nat) : Int) = 0 from rfl, show mk (g i) 0 = [] from rfl, List.append_nil, matL_succ] at hin
    simp [lo258_1, TT.dv, KS.dv, show i < r by omega, hin, e1]
theorem mof_ok : val 258 [Vi r, Vi c, fnP f caps] = some [Vi r, Vi c, Vl (matL g r c)] := by
  refine val_of tab258 ?_
  have hlp := of_outer hr hc h r (i := 0) (by omega)
  rw [show ((0 : Nat) : Int) = 0 from rfl, show matL g 0 c = [] from rfl] at hlp
  simp [tr258, TT.dv, KS.dv, hlp]
end
/-! ### filling place by place -/
theorem el_set (x : List Nat) (p v q : Nat) : el (x.set p v) q = if p = q ∧ p < x.length then v else el x q := by
  unfold el
  rw [List.getD_eq_getElem?_getD, List.getD_eq_getElem?_getD, List.getElem?_set]
  by_cases h : p = q
  · subst h
    by_cases h2 : p < x.length
    · simp [h2]
    · simp [h2, List.getElem?_eq_none (show x.length ≤ p by omega)]
  · simp [h]
def fin1 (pos v : Nat → Nat) : Nat → Nat → List Nat → List Nat
  | 0, _, m => m
  | n + 1, k, m => fin1 pos v n (k + 1) (m.set (pos k) (v k))
def fin2 (pos v : Nat → Nat → Nat) (C : Nat) : Nat → Nat → List Nat → List Nat
  | 0, _, m => m
  | n + 1, i, m => fin2 pos v C n (i + 1) (fin1 (pos i) (v i) C 0 m)
theorem fin1_len (pos v : Nat → Nat) : ∀ (n k : Nat) (m : List Nat), (fin1 pos v n k m).length = m.length
  | 0, _, _ => rfl
  | n + 1, k, m => by unfold fin1; rw [fin1_len pos v n, List.length_set]
theorem fin2_len (pos v : Nat → Nat → Nat) (C : Nat) : ∀ (n i : Nat) (m : List Nat), (fin2 pos v C n i m).length = m.length
  | 0, _, _ => rfl
  | n + 1, k, m => by unfold fin2; rw [fin2_len pos v C n, fin1_len]
theorem fin1_other {pos v : Nat → Nat} {q : Nat} : ∀ (n k : Nat) (m : List Nat), (∀ j, k ≤ j → j < k + n → pos j ≠ q) → el (fin1 pos v n k m) q = el m q
  | 0, _, _, _ => rfl
  | n + 1, k, m, h => by
    unfold fin1
    rw [fin1_other n (k + 1) _ (fun j h1 h2 => h j (by omega) (by omega)), el_set, if_neg (fun hh => h k (Nat.le_refl _) (by omega) hh.1)]
theorem fin1_at {pos v : Nat → Nat} : ∀ (n k : Nat) (m : List Nat), (∀ j, k ≤ j → j < k + n → pos j < m.length) → (∀ j j', k ≤ j → j < k + n → k ≤ j' → j' < k + n → pos j = pos j' → j = j') → ∀ j, k ≤ j → j < k + n → el (fin1 pos v n k m) (pos j) = v j
  | 0, _, _, _, _, j, h1, h2 => by omega
  | n + 1, k, m, hl, hi, j, h1, h2 => by
    unfold fin1
    rcases Nat.eq_or_lt_of_le h1 with he | he
    · subst he
      rw [fin1_other n (k + 1) _ (fun j' a b hh => by have := hi j' k (by omega) (by omega) (Nat.le_refl _) (by omega) hh; omega), el_set, if_pos ⟨rfl, hl k (Nat.le_refl _) (by omega)⟩]
    · exact fin1_at n (k + 1) _ (fun j a b => by rw [List.length_set]; exact hl j (by omega) (by omega)) (fun j j' a b a' b' => hi j j' (by omega) (by omega) (by omega) (by omega)) j (by omega) (by omega)
theorem fin2_other {pos v : Nat → Nat → Nat} {C q : Nat} : ∀ (n i : Nat) (m : List Nat), (∀ j k, i ≤ j → j < i + n → k < C → pos j k ≠ q) → el (fin2 pos v C n i m) q = el m q
  | 0, _, _, _ => rfl
  | n + 1, i, m, h => by
    unfold fin2
    rw [fin2_other n (i + 1) _ (fun j k h1 h2 => h j k (by omega) (by omega)), fin1_other C 0 m (fun k _ h2 => h i k (Nat.le_refl _) (by omega) (by omega))]
theorem fin2_at {pos v : Nat → Nat → Nat} {C : Nat} : ∀ (n i : Nat) (m : List Nat), (∀ j k, i ≤ j → j < i + n → k < C → pos j k < m.length) → (∀ j k j' k', i ≤ j → j < i + n → k < C → i ≤ j' → j' < i + n → k' < C → pos j k = pos j' k' → j = j' ∧ k = k') →
    ∀ j k, i ≤ j → j < i + n → k < C → el (fin2 pos v C n i m) (pos j k) = v j k
  | 0, _, _, _, _, j, k, h1, h2, _ => by omega
  | n + 1, i, m, hl, hi, j, k, h1, h2, hk => by
    unfold fin2
    rcases Nat.eq_or_lt_of_le h1 with he | he
    · subst he
      rw [fin2_other n (i + 1) _ (fun j' k' a b c hh => by have := (hi j' k' i k (by omega) (by omega) c (Nat.le_refl _) (by omega) hk hh).1; omega)]
      exact fin1_at C 0 m (fun k' _ b => hl i k' (Nat.le_refl _) (by omega) (by omega)) (fun k1 k2 _ b _ b' hh => (hi i k1 i k2 (Nat.le_refl _) (by omega) (by omega) (Nat.le_refl _) (by omega) (by omega) hh).2) k (Nat.zero_le _) (by omega)
    · exact fin2_at n (i + 1) _ (fun j k a b c => by rw [fin1_len]; exact hl j k (by omega) (by omega) c) (fun j k j' k' a b c a' b' c' => hi j k j' k' (by omega) (by omega) c (by omega) (by omega) c') j k (by omega) (by omega) hk
end Go.Proofs.YtogcdllpjcnbkaaGreat.Dx

/- Matrices turned, rows turned; law GivensRows. -/
namespace Go.Proofs.YtogcdllpjcnbkaaGreat.Dx
open Go

def tpG (x : List Nat) (c : Nat) (i k : Nat) : Nat := el x (ps k c i)
/-- A matrix turned. -/
def tpV (r c : Nat) (x : List Nat) : List Nat := matL (tpG x c) c r
section
variable {r c : Nat} {x : List Nat} (h : Mx r c x)
include h
theorem tpV_mx : Mx c r (tpV r c x) := matL_mx h.hc h.hr fun i k _ _ => h.w.el _
theorem tp_ok : val 255 [Vi r, Vi c, Vl x] = some [Vi c, Vi r, Vl (tpV r c x), Vi 0] := by
  refine val_of tab255 ?_
  have h1 := check_ok r c x
  rw [if_pos (mx_right h)] at h1
  have h2 := mof_ok (f := 256) (r := c) (c := r) (caps := [.a [Vi r, Vi c, Vl x]]) (g := tpG x c) h.hc h.hr fun i k hi hk => by
    refine val_of tab256 ?_
    have hg := get_ok h hk hi
    have e0 : (U.fld 1).den (PV.a [Vi r, Vi c, Vl x]) = Vi c := rfl
    have e2 : (U.fld 2).den (PV.a [Vi r, Vi c, Vl x]) = Vl x := rfl
    simp [tr256, TT.dv, e0, e2, hg, tpG]
  have e1 : B.cons.den (U.toA.den (B.cons.den (Vi r) (B.cons.den (Vi c) (B.cons.den (Vl x) (Vl []))))) (Vl []) = .l [.a [Vi r, Vi c, Vl x]] := rfl
  simp [tr255, TT.dv, h1, e1, mkfn_l, h2, tpV]
theorem tp9_inner {i : Nat} (hi : i < r) {x3 x4 x5 x7 x8 x9 : PV} : ∀ (n : Nat) {k : Nat} {m : List Nat}, k + n = c → Mx c r m →
    rounds (fun vs => lo175_2.dv (Vi r :: Vi c :: Vl x :: x3 :: x4 :: x5 :: Vi i :: x7 :: x8 :: x9 :: vs)) [Vi k, Vi c, Vi r, Vl m] = some (.y (.ext 2) [Vi c, Vi r, Vl (fin1 (fun k => ps k r i) (fun k => el x (ps i c k)) n k m)]) := by
  intro n
  induction n with
  | zero =>
    intro k m hk hm
    have : k = c := by omega
    subst this
    refine rounds_exit ?_ (by simp)
    simp [lo175_2, TT.dv, fin1]
  | succ n ih =>
    intro k m hk hm
    refine Eq.trans (rounds_cont ?_) (ih (k := k + 1) (by omega) (hm.set (p := ps k r i) (h.w.el (ps i c k))))
    have h1 := h.hc
    have e1 : (B.add .i64).den (Vi k) (Vi 1) = Vi (k + 1) := add_i (by omega) (by omega)
    have a1 := at_ok h hi (show k < c by omega)
    have w1 := with_ok hm (i := k) (k := i) (b := el x (ps i c k)) (by omega) hi
    simp [lo175_2, TT.dv, show k < c by omega, e1, a1, w1]
theorem tp9_outer {x3 x4 x5 : PV} : ∀ (n : Nat) {i : Nat} {m : List Nat}, i + n = r → Mx c r m →
    rounds (fun vs => lo175_1.dv (Vi r :: Vi c :: Vl x :: x3 :: x4 :: x5 :: vs)) [Vi i, Vi c, Vi r, Vl m] = some (.y (.ext 0) [Vi c, Vi r, Vl (fin2 (fun i k => ps k r i) (fun i k => el x (ps i c k)) c n i m)]) := by
  intro n
  induction n with
  | zero =>
    intro i m hi hm
    have : i = r := by omega
    subst this
    refine rounds_exit ?_ (by simp)
    simp [lo175_1, TT.dv, fin2]
  | succ n ih =>
    intro i m hi hm
    have h1 := h.hr
    have hin := tp9_inner h (i := i) (by omega) (x3 := x3) (x4 := x4) (x5 := x5) (x7 := Vi c) (x8 := Vi r) (x9 := Vl m) c (k := 0) (m := m) (by omega) hm
    rw [show ((0 : Nat) : Int) = 0 from rfl] at hin
    have hm' : Mx c r (fin1 (fun k => ps k r i) (fun k => el x (ps i c k)) c 0 m) := by
      have key : ∀ (n k : Nat) (m : List Nat), Mx c r m → Mx c r (fin1 (fun k => ps k r i) (fun k => el x (ps i c k)) n k m) := by
        intro n
        induction n with
        | zero => intro k m hm; exact hm
        | succ n ih => intro k m hm; exact ih _ _ (hm.set (h.w.el _))
      exact key c 0 m hm
    refine Eq.trans (rounds_cont ?_) (ih (i := i + 1) (by omega) hm')
    have e1 : (B.add .i64).den (Vi i) (Vi 1) = Vi (i + 1) := add_i (by omega) (by omega)
    simp [lo175_1, TT.dv, KS.dv, show i < r by omega, hin, e1]
theorem tp9_ok : val 175 [Vi r, Vi c, Vl x] = some [Vi c, Vi r, Vl (tpV r c x)] := by
  refine val_of tab175 ?_
  have hz := zeros_ok h.hc h.hr
  have hlp := tp9_outer h (x3 := Vi c) (x4 := Vi r) (x5 := Vl (List.replicate (c * r) 0)) r (i := 0) (by omega) (zeros_mx h.hc h.hr)
  rw [show ((0 : Nat) : Int) = 0 from rfl] at hlp
  have he : fin2 (fun i k => ps k r i) (fun i k => el x (ps i c k)) c r 0 (List.replicate (c * r) 0) = tpV r c x := by
    refine mat_ext (r := c) (c := r) (by rw [fin2_len]; simp) (matL_len _ _ _) fun i k hi hk => ?_
    unfold tpV
    rw [el_matL _ hi hk]
    exact fin2_at (pos := fun i k => ps k r i) (v := fun i k => el x (ps i c k)) r 0 _ (fun j k _ h2 h3 => by rw [List.length_replicate]; exact ps_lt h3 (by omega))
      (fun j k j' k' _ a b _ a' b' hh => by have := ps_inj (by omega) (by omega) hh; exact ⟨this.2, this.1⟩) k i (Nat.zero_le _) (by omega) hi
  rw [he] at hlp
  simp [tr175, TT.dv, KS.dv, hz, hlp]
end

/-! ### two rows turned -/
def rowR (x : List Nat) (cc i k C S : Nat) : Nat → Nat → List Nat → List Nat
  | 0, _, m => m
  | n + 1, j, m => rowR x cc i k C S n (j + 1) ((m.set (ps i cc j) (addV (mulV C (el x (ps i cc j))) (mulV S (el x (ps k cc j))))).set (ps k cc j) (subV (mulV C (el x (ps k cc j))) (mulV S (el x (ps i cc j)))))
def rowV (x : List Nat) (cc i k C S : Nat) : List Nat := rowR x cc i k C S cc 0 x
theorem rowR_mx {x : List Nat} {r c i k C S : Nat} : ∀ (n j : Nat) {m : List Nat}, Mx r c m → Mx r c (rowR x c i k C S n j m)
  | 0, _, _, h => h
  | n + 1, j, m, h => rowR_mx n (j + 1) ((h.set (addV_lt mulV_lt mulV_lt)).set (subV_lt mulV_lt mulV_lt))
section
variable {r c : Nat} {x : List Nat} (h : Mx r c x) {C S : Nat} (hC : C < 18446744073709551616) (hS : S < 18446744073709551616) {i k : Nat} (hi : i < r) (hk : k < r)
include h hC hS hi hk
theorem rows_loop {x7 : PV} : ∀ (n : Nat) {j : Nat} {m : List Nat}, j + n = c → Mx r c m →
    rounds (fun vs => lo231_1.dv (Vi r :: Vi c :: Vl x :: Vi i :: Vi k :: Vu C :: Vu S :: x7 :: vs)) [Vi j, Vl m] = some (.y (.ext 0) [Vl (rowR x c i k C S n j m)]) := by
  intro n
  induction n with
  | zero =>
    intro j m hj hm
    have : j = c := by omega
    subst this
    refine rounds_exit ?_ (by simp)
    simp [lo231_1, TT.dv, rowR]
  | succ n ih =>
    intro j m hj hm
    have hjc : j < c := by omega
    have h1 := h.hc
    have h2 := h.hr
    have hm2 := (hm.set (p := ps i c j) (addV_lt (mulV_lt (a := C) (b := el x (ps i c j))) (mulV_lt (a := S) (b := el x (ps k c j)))))
    refine Eq.trans (rounds_cont ?_) (ih (j := j + 1) (by omega) (hm2.set (p := ps k c j) (subV_lt (mulV_lt (a := C) (b := el x (ps k c j))) (mulV_lt (a := S) (b := el x (ps i c j))))))
    have e1 : (B.add .i64).den (Vi j) (Vi 1) = Vi (j + 1) := add_i (by omega) (by omega)
    have p1 := pos_i (i := i) (c := c) (k := j) (by omega) (by omega) (by omega)
    have p2 := pos_i (i := k) (c := c) (k := j) (by omega) (by omega) (by omega)
    have l1 := h.lt hi hjc
    have l2 := h.lt hk hjc
    have l3 := hm.lt hi hjc
    have l4 := hm.lt hk hjc
    have g1 := get_V l1
    have g2 := get_V l2
    have m1 := vmul_ok hC (h.w.el (ps i c j))
    have m2 := vmul_ok hS (h.w.el (ps k c j))
    have m3 := vmul_ok hC (h.w.el (ps k c j))
    have m4 := vmul_ok hS (h.w.el (ps i c j))
    have a1 := vadd_ok (mulV_lt (a := C) (b := el x (ps i c j))) (mulV_lt (a := S) (b := el x (ps k c j)))
    have a2 := vsub_ok (mulV_lt (a := C) (b := el x (ps k c j))) (mulV_lt (a := S) (b := el x (ps i c j)))
    simp [lo231_1, TT.dv, hjc, e1, p1, p2, l1, l2, l3, l4, g1, g2, m1, m2, m3, m4, a1, a2, set_V]
theorem rows_ok (hne : i ≠ k) : val 231 [Vi r, Vi c, Vl x, Vi i, Vi k, Vu C, Vu S] = some [Vi r, Vi c, Vl (rowV x c i k C S), Vi 0] := by
  refine val_of tab231 ?_
  have h1 := check_ok r c x
  rw [if_pos (mx_right h)] at h1
  have hs := h.small
  have hlp := rows_loop h hC hS hi hk (x7 := Vi 0) c (j := 0) (m := x) (by omega) h
  rw [show ((0 : Nat) : Int) = 0 from rfl] at hlp
  have e1 : B.copy.den (B.rep.den (Vi x.length) (Vu 0)) (Vl x) = Vl x := by
    rw [rep_V]
    show PV.l ((x.map Vu).take ((List.replicate x.length 0).map Vu).length ++ ((List.replicate x.length 0).map Vu).drop (x.map Vu).length) = _
    simp [Vl, List.take_of_length_le]
  have hne' : ¬ (i : Int) = k := by omega
  simp [tr231, TT.dv, KS.dv, h1, show ¬ (i : Int) < 0 by omega, show ¬ (k : Int) < 0 by omega, show ¬ r ≤ i by omega, show ¬ r ≤ k by omega, hne', show (x.length : Int) ≤ 17592186044416 by omega, e1, hlp, rowV]
theorem rows9_loop : ∀ (n : Nat) {j : Nat} {m : List Nat}, j + n = c → Mx r c m →
    rounds (fun vs => lo188_1.dv (Vi r :: Vi c :: Vl x :: Vi i :: Vi k :: Vu C :: Vu S :: vs)) [Vi j, Vi r, Vi c, Vl m] = some (.y (.ext 0) [Vi r, Vi c, Vl (rowR x c i k C S n j m)]) := by
  intro n
  induction n with
  | zero =>
    intro j m hj hm
    have : j = c := by omega
    subst this
    refine rounds_exit ?_ (by simp)
    simp [lo188_1, TT.dv, rowR]
  | succ n ih =>
    intro j m hj hm
    have hjc : j < c := by omega
    have h1 := h.hc
    have hm2 := (hm.set (p := ps i c j) (addV_lt (mulV_lt (a := C) (b := el x (ps i c j))) (mulV_lt (a := S) (b := el x (ps k c j)))))
    refine Eq.trans (rounds_cont ?_) (ih (j := j + 1) (by omega) (hm2.set (p := ps k c j) (subV_lt (mulV_lt (a := C) (b := el x (ps k c j))) (mulV_lt (a := S) (b := el x (ps i c j))))))
    have e1 : (B.add .i64).den (Vi j) (Vi 1) = Vi (j + 1) := add_i (by omega) (by omega)
    have g1 := at_ok h hi hjc
    have g2 := at_ok h hk hjc
    have m1 := mul9_ok hC (h.w.el (ps i c j))
    have m2 := mul9_ok hS (h.w.el (ps k c j))
    have m3 := mul9_ok hC (h.w.el (ps k c j))
    have m4 := mul9_ok hS (h.w.el (ps i c j))
    have a1 := add9_ok (mulV_lt (a := C) (b := el x (ps i c j))) (mulV_lt (a := S) (b := el x (ps k c j)))
    have a2 := sub9_ok (mulV_lt (a := C) (b := el x (ps k c j))) (mulV_lt (a := S) (b := el x (ps i c j)))
    have w1 := with_ok hm (i := i) (k := j) (b := addV (mulV C (el x (ps i c j))) (mulV S (el x (ps k c j)))) hi hjc
    have w2 := with_ok hm2 (i := k) (k := j) (b := subV (mulV C (el x (ps k c j))) (mulV S (el x (ps i c j)))) hk hjc
    simp [lo188_1, TT.dv, hjc, e1, g1, g2, m1, m2, m3, m4, a1, a2, w1, w2]
theorem rows9_ok : val 188 [Vi r, Vi c, Vl x, Vi i, Vi k, Vu C, Vu S] = some [Vi r, Vi c, Vl (rowV x c i k C S)] := by
  refine val_of tab188 ?_
  have hlp := rows9_loop h hC hS hi hk c (j := 0) (m := x) (by omega) h
  rw [show ((0 : Nat) : Int) = 0 from rfl] at hlp
  simp [tr188, TT.dv, KS.dv, hlp, rowV]
theorem rowV_mx : Mx r c (rowV x c i k C S) := rowR_mx c 0 h
end
/-- Two columns turned. -/
def colV (r c : Nat) (x : List Nat) (i k C S : Nat) : List Nat := tpV c r (rowV (tpV r c x) r i k C S)
section
variable {r c : Nat} {x : List Nat} (h : Mx r c x) {C S : Nat} (hC : C < 18446744073709551616) (hS : S < 18446744073709551616) {i k : Nat} (hi : i < c) (hk : k < c)
include h hC hS hi hk
theorem cols_ok (hne : i ≠ k) : val 230 [Vi r, Vi c, Vl x, Vi i, Vi k, Vu C, Vu S] = some [Vi r, Vi c, Vl (colV r c x i k C S), Vi 0] := by
  refine val_of tab230 ?_
  have h1 := tp_ok h
  have h2 := rows_ok (tpV_mx h) hC hS hi hk hne
  have h3 := tp_ok (rowV_mx (tpV_mx h) hC hS hi hk)
  simp [tr230, TT.dv, h1, h2, h3, colV]
theorem cols9_ok : val 187 [Vi r, Vi c, Vl x, Vi i, Vi k, Vu C, Vu S] = some [Vi r, Vi c, Vl (colV r c x i k C S)] := by
  refine val_of tab187 ?_
  have h1 := tp9_ok h
  have h2 := rows9_ok (tpV_mx h) hC hS hi hk
  have h3 := tp9_ok (rowV_mx (tpV_mx h) hC hS hi hk)
  simp [tr187, TT.dv, h1, h2, h3, colV]
theorem colV_mx : Mx r c (colV r c x i k C S) := tpV_mx (rowV_mx (tpV_mx h) hC hS hi hk)
end
/-! ### the law -/
theorem told_ok (R C R' C' : Int) {x : List Nat} (h : x.length < 9000000000000000000) : val 45 [Vi R, Vi C, Vl x, Vi 0, Vi R, Vi C, Vl x, Vi 0] = some [Vb true] := by
  refine val_of tab45 ?_
  simp [tr45, TT.dv, same_m R C h]
theorem told_no (e : Int) (he : e ≠ 0) (p q r : PV) : val 45 [Vi 0, Vi 0, Vl [], Vi e, p, q, r, Vi e] = some [Vb true] := by
  refine val_of tab45 ?_
  have := same_m 0 0 (x := []) (by decide)
  simp [tr45, TT.dv, he, this]
theorem cpl_loop41 {x0 x1 x2 x3 x4 x5 x6 x7 x8 x9 x10 x11 x12 x13 x14 x15 x16 x17 : PV} : ∀ (n : Nat) {i : Nat} {y : List Nat}, Words y → y.length < 9000000000000000000 → i + n = y.length →
    rounds (fun vs => lo41_1.dv (x0 :: x1 :: x2 :: x3 :: x4 :: x5 :: x6 :: x7 :: x8 :: x9 :: x10 :: x11 :: x12 :: x13 :: x14 :: x15 :: x16 :: x17 :: vs)) [Vi i, Vl y] = some (.y (.ext 0) []) := by
  intro n
  induction n with
  | zero =>
    intro i y hy hl hi
    refine rounds_exit ?_ (by simp)
    simp [lo41_1, TT.dv, show ¬ i < y.length by omega]
  | succ n ih =>
    intro i y hy hl hi
    have e1 : (B.add .i64).den (Vi i) (Vi 1) = Vi (i + 1) := add_i (by omega) (by omega)
    have g1 := get_V (x := y) (i := i) (by omega)
    obtain ⟨c1, c2⟩ := cpl_u (hy.el i)
    refine Eq.trans (rounds_cont ?_) (ih (i := i + 1) (hy.set (i := i) c2) (by simpa using hl) (by rw [List.length_set]; omega))
    simp [lo41_1, TT.dv, show i < y.length by omega, e1, g1, c1, set_V]
theorem rows_any {R C I K : Int} {x : List Nat} {p q : PV} (hw : ¬ rightP R C x) : val 231 [Vi R, Vi C, Vl x, Vi I, Vi K, p, q] = some [Vi 0, Vi 0, Vl [], Vi 1] ∧ val 230 [Vi R, Vi C, Vl x, Vi I, Vi K, p, q] = some [Vi 0, Vi 0, Vl [], Vi 1] := by
  have h1 := check_ok R C x
  rw [if_neg hw] at h1
  constructor
  · refine val_of tab231 ?_
    simp [tr231, TT.dv, h1]
  · have h2 : val 255 [Vi R, Vi C, Vl x] = some [Vi 0, Vi 0, Vl [], Vi 1] := by
      refine val_of tab255 ?_
      simp [tr255, TT.dv, h1]
    refine val_of tab230 ?_
    simp [tr230, TT.dv, h2]
theorem rows_none {r c : Nat} {x : List Nat} (h : Mx r c x) {I K : Int} (hn : ¬ (0 ≤ I ∧ I < r ∧ 0 ≤ K ∧ K < r ∧ I ≠ K)) (p q : PV) : val 231 [Vi r, Vi c, Vl x, Vi I, Vi K, p, q] = some [Vi 0, Vi 0, Vl [], Vi 7] := by
  refine val_of tab231 ?_
  have h1 := check_ok r c x
  rw [if_pos (mx_right h)] at h1
  simp [tr231, TT.dv, h1]
  intro a1 a2 a3 a4 a5
  exact absurd ⟨a1, a2, a3, a4, a5⟩ hn
theorem cols_none {r c : Nat} {x : List Nat} (h : Mx r c x) {I K : Int} (hn : ¬ (0 ≤ I ∧ I < c ∧ 0 ≤ K ∧ K < c ∧ I ≠ K)) (p q : PV) : val 230 [Vi r, Vi c, Vl x, Vi I, Vi K, p, q] = some [Vi 0, Vi 0, Vl [], Vi 7] := by
  refine val_of tab230 ?_
  have h1 := tp_ok h
  have h2 := rows_none (tpV_mx h) hn p q
  simp [tr230, TT.dv, h1, h2]
theorem law_GivensRows {R C : Int} (_ : -9223372036854775808 ≤ R) (_ : R < 9223372036854775808) (_ : -9223372036854775808 ≤ C) (_ : C < 9223372036854775808) {x : List Nat} (hw : Words x) (hl : x.length ≤ 17592186043904)
    {I : Int} (_ : -9223372036854775808 ≤ I) (_ : I < 9223372036854775808) {K : Int} (_ : -9223372036854775808 ≤ K) (_ : K < 9223372036854775808) {c s : Nat} (hc : c < 18446744073709551616) (hs : s < 18446744073709551616) :
    val 41 [Vi R, Vi C, Vl x, Vi I, Vi K, Vu c, Vu s] = some [Vb true] := by
  refine val_of tab41 ?_
  have cp := copy_ok R C (x := x) (by omega)
  have lp := fun x0 x1 x2 x3 x4 x5 x6 x7 x8 x9 x10 x11 x12 x13 x14 x15 x16 x17 => cpl_loop41 (x0 := x0) (x1 := x1) (x2 := x2) (x3 := x3) (x4 := x4) (x5 := x5) (x6 := x6) (x7 := x7) (x8 := x8) (x9 := x9) (x10 := x10) (x11 := x11) (x12 := x12) (x13 := x13) (x14 := x14) (x15 := x15) (x16 := x16) (x17 := x17) x.length (i := 0) hw (by omega) (by omega)
  simp only [show ((0 : Nat) : Int) = 0 from rfl] at lp
  have ri := right_ok10 R C x
  by_cases hr : rightP R C x
  · obtain ⟨m, n, rfl, rfl, h⟩ := right_mx hr hw
    rw [decide_eq_true hr] at ri
    -- rows
    obtain ⟨a1, a2, a3, a4, ha, ha2⟩ : ∃ a1 a2 a3 : PV, ∃ a4 : Int, val 231 [Vi m, Vi n, Vl x, Vi I, Vi K, Vu c, Vu s] = some [a1, a2, a3, Vi a4] ∧
        (if 0 ≤ I ∧ I < m ∧ 0 ≤ K ∧ K < m ∧ I ≠ K then val 188 [Vi m, Vi n, Vl x, Vi I, Vi K, Vu c, Vu s] = some [a1, a2, a3] ∧ val 45 [a1, a2, a3, Vi a4, a1, a2, a3, Vi 0] = some [Vb true] else val 45 [a1, a2, a3, Vi a4, Vi 0, Vi 0, Vl [], Vi 7] = some [Vb true]) := by
      by_cases hin : 0 ≤ I ∧ I < m ∧ 0 ≤ K ∧ K < m ∧ I ≠ K
      · obtain ⟨i1, i2, i3, i4, i5⟩ := hin
        obtain ⟨i, rfl⟩ : ∃ i : Nat, I = i := ⟨I.toNat, by omega⟩
        obtain ⟨k, rfl⟩ : ∃ k : Nat, K = k := ⟨K.toNat, by omega⟩
        refine ⟨_, _, _, _, rows_ok h hc hs (i := i) (k := k) (by omega) (by omega) (by omega), ?_⟩
        rw [if_pos ⟨i1, i2, i3, i4, i5⟩]
        have hm := rowV_mx h hc hs (i := i) (k := k) (by omega) (by omega)
        exact ⟨rows9_ok h hc hs (by omega) (by omega), told_ok m n m n (by have := hm.small; omega)⟩
      · refine ⟨_, _, _, _, rows_none h hin _ _, ?_⟩
        rw [if_neg hin]
        exact told_no 7 (by decide) _ _ _
    obtain ⟨b1, b2, b3, b4, hb, hb2⟩ : ∃ a1 a2 a3 : PV, ∃ a4 : Int, val 230 [Vi m, Vi n, Vl x, Vi I, Vi K, Vu c, Vu s] = some [a1, a2, a3, Vi a4] ∧
        (if 0 ≤ I ∧ I < n ∧ 0 ≤ K ∧ K < n ∧ I ≠ K then val 187 [Vi m, Vi n, Vl x, Vi I, Vi K, Vu c, Vu s] = some [a1, a2, a3] ∧ val 45 [a1, a2, a3, Vi a4, a1, a2, a3, Vi 0] = some [Vb true] else val 45 [a1, a2, a3, Vi a4, Vi 0, Vi 0, Vl [], Vi 7] = some [Vb true]) := by
      by_cases hin : 0 ≤ I ∧ I < n ∧ 0 ≤ K ∧ K < n ∧ I ≠ K
      · obtain ⟨i1, i2, i3, i4, i5⟩ := hin
        obtain ⟨i, rfl⟩ : ∃ i : Nat, I = i := ⟨I.toNat, by omega⟩
        obtain ⟨k, rfl⟩ : ∃ k : Nat, K = k := ⟨K.toNat, by omega⟩
        refine ⟨_, _, _, _, cols_ok h hc hs (i := i) (k := k) (by omega) (by omega) (by omega), ?_⟩
        rw [if_pos ⟨i1, i2, i3, i4, i5⟩]
        have hm := colV_mx h hc hs (i := i) (k := k) (by omega) (by omega)
        exact ⟨cols9_ok h hc hs (by omega) (by omega), told_ok m n m n (by have := hm.small; omega)⟩
      · refine ⟨_, _, _, _, cols_none h hin _ _, ?_⟩
        rw [if_neg hin]
        exact told_no 7 (by decide) _ _ _
    have g1 : ∀ (z : Int) , ((((decide (I ≥ 0) && decide (I < z)) && decide (K ≥ 0)) && decide (K < z)) && decide (I ≠ K)) = decide (0 ≤ I ∧ I < z ∧ 0 ≤ K ∧ K < z ∧ I ≠ K) := fun z => by
      simp only [← Bool.decide_and, decide_eq_decide, and_assoc, ge_iff_le]
    have i1 : ∀ (z : Int), T3.ite.den (T3.ite.den (T3.ite.den (T3.ite.den (B.ge.den (Vi I) (Vi 0)) (B.lt.den (Vi I) (Vi z)) (Vb false)) (B.ge.den (Vi K) (Vi 0)) (Vb false)) (B.lt.den (Vi K) (Vi z)) (Vb false)) (B.ne.den (Vi I) (Vi K)) (Vb false) = Vb (decide (0 ≤ I ∧ I < z ∧ 0 ≤ K ∧ K < z ∧ I ≠ K)) := fun z => by
      rw [ge_i, ge_i, lt_i, lt_i, ne_i, ite_and, ite_and, ite_and, ite_and, g1]
    by_cases c1 : 0 ≤ I ∧ I < m ∧ 0 ≤ K ∧ K < m ∧ I ≠ K
    · rw [if_pos c1] at ha2
      have j1 := i1 m
      rw [decide_eq_true c1] at j1
      by_cases c2 : 0 ≤ I ∧ I < n ∧ 0 ≤ K ∧ K < n ∧ I ≠ K
      · rw [if_pos c2] at hb2
        have j2 := i1 n
        rw [decide_eq_true c2] at j2
        simp [-ge_i, -lt_i, -ne_i, tr41, TT.dv, KS.dv, cp, ha, hb, lp, ri, j1, j2, ha2.1, ha2.2, hb2.1, hb2.2, awake_12]
      · rw [if_neg c2] at hb2
        have j2 := i1 n
        rw [decide_eq_false c2] at j2
        simp [-ge_i, -lt_i, -ne_i, tr41, TT.dv, KS.dv, cp, ha, hb, lp, ri, j1, j2, ha2.1, ha2.2, hb2, awake_12]
    · rw [if_neg c1] at ha2
      have j1 := i1 m
      rw [decide_eq_false c1] at j1
      by_cases c2 : 0 ≤ I ∧ I < n ∧ 0 ≤ K ∧ K < n ∧ I ≠ K
      · rw [if_pos c2] at hb2
        have j2 := i1 n
        rw [decide_eq_true c2] at j2
        simp [-ge_i, -lt_i, -ne_i, tr41, TT.dv, KS.dv, cp, ha, hb, lp, ri, j1, j2, ha2, hb2.1, hb2.2, awake_12]
      · rw [if_neg c2] at hb2
        have j2 := i1 n
        rw [decide_eq_false c2] at j2
        simp [-ge_i, -lt_i, -ne_i, tr41, TT.dv, KS.dv, cp, ha, hb, lp, ri, j1, j2, ha2, hb2, awake_12]
  · obtain ⟨a1, a2⟩ := rows_any (I := I) (K := K) (p := Vu c) (q := Vu s) hr
    rw [decide_eq_false hr] at ri
    have t := told_no 1 (by decide) (Vi 0) (Vi 0) (Vl [])
    simp [tr41, TT.dv, KS.dv, cp, a1, a2, lp, ri, t, awake_12]
end Go.Proofs.YtogcdllpjcnbkaaGreat.Dx
