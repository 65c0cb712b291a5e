/- The pure meaning of the functions that the law reaches, and that the law is true of it. No conditions. -/
import Derived.KernelRfl
import Derived.Test.YthchhkghjfendabHessInfiniteTab
set_option linter.all false
namespace Go.Proofs.Ythchhkghjfendab.Dx
open Go

def LeF (F G : Nat → List PV → Option (List PV)) : Prop := ∀ f a rs, F f a = some rs → G f a = some rs
section
variable {α : Type} {F G : Nat → List PV → Option (List PV)} {N M : Nat}
theorem iter_mono {f g : List PV → Option (Out α)} (h : ∀ vs o, f vs = some o → g vs = some o) : ∀ {n m : Nat} {vs : List PV} {o : Out α}, n ≤ m → iter f n vs = some o → iter g m vs = some o
  | 0, _, _, _, _, hi => by simp [iter] at hi
  | n + 1, 0, _, _, hl, _ => by omega
  | n + 1, m + 1, vs, o, hl, hi => by
    unfold iter at hi ⊢
    split at hi
    · rename_i vs' hf
      rw [h _ _ hf]
      exact iter_mono h (by omega) hi
    · rename_i o' hne
      rw [h _ _ hi]
      split
      · rename_i vs' heq
        cases heq
        exact absurd hi (hne _)
      · rfl
mutual
theorem TT.den_mono (hF : LeF F G) (hN : N ≤ M) : ∀ {t : TT α} {ρ : List PV} {o : Out α}, t.den F N ρ = some o → t.den G M ρ = some o
  | .leaf _ _, _, _, h => h
  | .yield _ _, _, _, h => h
  | .fail _, _, _, h => by simp [TT.den] at h
  | .assert e t, ρ, o, h => by
    simp only [TT.den] at h ⊢
    split at h
    · rename_i he; rw [if_pos he]; exact TT.den_mono hF hN h
    · cases h
  | .call g f xs n t, ρ, o, h => by
    simp only [TT.den] at h ⊢
    split at h
    · rename_i he
      rw [if_pos he]
      split at h
      · rename_i rs hrs
        rw [hF _ _ _ hrs]
        split at h
        · rename_i hl; simp only [hl, if_true]; exact TT.den_mono hF hN h
        · cases h
      · cases h
    · rename_i he; rw [if_neg he]; exact TT.den_mono hF hN h
  | .callv x xs n t, ρ, o, h => by
    simp only [TT.den] at h ⊢
    split at h
    · rename_i f caps hx
      split at h
      · rename_i rs hrs
        rw [hF _ _ _ hrs]
        split at h
        · rename_i hl; simp only [hl, if_true]; exact TT.den_mono hF hN h
        · cases h
      · cases h
    · cases h
  | .ite c a b, ρ, o, h => by
    simp only [TT.den] at h ⊢
    split at h
    · rename_i hc; rw [if_pos hc]; exact TT.den_mono hF hN h
    · rename_i hc; rw [if_neg hc]; exact TT.den_mono hF hN h
  | .scope t ks, ρ, o, h => by
    simp only [TT.den] at h ⊢
    split at h
    · rename_i x vs ht
      rw [TT.den_mono hF hN ht]
      exact KS.den_mono hF hN h
    · cases h
  | .loop i t ks, ρ, o, h => by
    simp only [TT.den] at h ⊢
    split at h
    · rename_i x vs ht
      rw [iter_mono (fun vs o h => TT.den_mono hF hN h) hN ht]
      exact KS.den_mono hF hN h
    · cases h
theorem KS.den_mono (hF : LeF F G) (hN : N ≤ M) : ∀ {ks : KS α} {x : Ex} {vs ρ : List PV} {o : Out α}, ks.den F N x vs ρ = some o → ks.den G M x vs ρ = some o
  | .nil, _, _, _, _, h => by simp [KS.den] at h
  | .cons y t ks, x, vs, ρ, o, h => by
    simp only [KS.den] at h ⊢
    split at h
    · rename_i hc; rw [if_pos hc]; exact TT.den_mono hF hN h
    · rename_i hc; rw [if_neg hc]; exact KS.den_mono hF hN h
end
end
theorem fden_mono : ∀ {k m : Nat}, k ≤ m → LeF (fden tab k) (fden tab m)
  | 0, _, _, _, _, _, h => by simp [fden] at h
  | k + 1, 0, hl, _, _, _, _ => by omega
  | k + 1, m + 1, hl, f, a, rs, h => by
    simp only [fden] at h ⊢
    split at h
    · cases h
    · split at h
      · rename_i t ht vs hv
        rw [TT.den_mono (fden_mono (by omega : k ≤ m)) (by omega : k ≤ m) hv]; exact h
      · cases h

open Classical in
/-- What a function answers. -/
noncomputable def val (f : Nat) (a : List PV) : Option (List PV) := if h : ∃ rs k, fden tab k f a = some rs then some (Classical.choose h) else none
theorem val_iff {f : Nat} {a rs : List PV} : val f a = some rs ↔ ∃ k, fden tab k f a = some rs := by
  unfold val
  constructor
  · intro h
    split at h
    · rename_i hh
      cases h
      exact Classical.choose_spec hh
    · cases h
  · rintro ⟨k, hk⟩
    have hh : ∃ rs k, fden tab k f a = some rs := ⟨rs, k, hk⟩
    rw [dif_pos hh]
    obtain ⟨k', hk'⟩ := Classical.choose_spec hh
    have h1 := fden_mono (Nat.le_max_left k k') _ _ _ hk
    have h2 := fden_mono (Nat.le_max_right k k') _ _ _ hk'
    rw [h1] at h2
    exact h2.symm

open Classical in
/-- What rounds come to. -/
noncomputable def rounds (f : List PV → Option (Out Unit)) (vs : List PV) : Option (Out Unit) := if h : ∃ o n, iter f n vs = some o then some (Classical.choose h) else none
theorem rounds_iff {f : List PV → Option (Out Unit)} {vs : List PV} {o : Out Unit} : rounds f vs = some o ↔ ∃ n, iter f n vs = some o := by
  unfold rounds
  constructor
  · intro h
    split at h
    · rename_i hh
      cases h
      exact Classical.choose_spec hh
    · cases h
  · rintro ⟨k, hk⟩
    have hh : ∃ o n, iter f n vs = some o := ⟨o, k, hk⟩
    rw [dif_pos hh]
    obtain ⟨k', hk'⟩ := Classical.choose_spec hh
    have h1 := iter_mono (fun _ _ h => h) (Nat.le_max_left k k') hk
    have h2 := iter_mono (fun _ _ h => h) (Nat.le_max_right k k') hk'
    rw [h1] at h2
    exact h2.symm
/-- A loop's first round. -/
theorem rounds_eq (f : List PV → Option (Out Unit)) (vs : List PV) : rounds f vs = match f vs with | some (.y .cont vs') => rounds f vs' | o => o := by
  have key : ∀ o, rounds f vs = some o ↔ (match f vs with | some (.y .cont vs') => rounds f vs' | o => o) = some o := fun o => by
    rw [rounds_iff]
    constructor
    · rintro ⟨n, hn⟩
      cases n with
      | zero => simp [iter] at hn
      | succ n =>
        unfold iter at hn
        split at hn
        · rename_i vs' hf
          rw [hf]
          exact rounds_iff.2 ⟨n, hn⟩
        · rename_i o' hne
          rw [hn]
          split
          · rename_i vs' heq
            cases heq
            exact absurd hn (hne _)
          · rfl
    · intro h
      split at h
      · rename_i vs' hf
        obtain ⟨n, hn⟩ := rounds_iff.1 h
        exact ⟨n + 1, by unfold iter; rw [hf]; exact hn⟩
      · rename_i o' hne
        refine ⟨1, ?_⟩
        unfold iter
        rw [h]
        split
        · rename_i vs' heq
          cases heq
          exact absurd h (hne _)
        · rfl
  cases h1 : rounds f vs with
  | some o => exact ((key o).1 h1).symm
  | none =>
    generalize hr : (match f vs with | some (.y .cont vs') => rounds f vs' | o => o) = r at key
    cases r with
    | none => rfl
    | some o => rw [(key o).2 rfl] at h1; cases h1
theorem rounds_cont {f : List PV → Option (Out Unit)} {vs vs' : List PV} (h : f vs = some (.y .cont vs')) : rounds f vs = rounds f vs' := by
  rw [rounds_eq, h]
theorem rounds_exit {f : List PV → Option (Out Unit)} {vs us : List PV} {x : Ex} (h : f vs = some (.y x us)) (hx : x ≠ .cont) : rounds f vs = some (.y x us) := by
  rw [rounds_eq, h]
  cases x <;> first | rfl | exact absurd rfl hx

mutual
/-- What a tree comes to. -/
noncomputable def TT.dv : TT Unit → List PV → Option (Out Unit)
  | .leaf x s, ρ => some (.lf x s ρ)
  | .yield x xs, ρ => some (.y x (xs.map (Exp.den ρ)))
  | .fail _, _ => none
  | .assert e t, ρ => if e.isTrue ρ then t.dv ρ else none
  | .call g f xs n t, ρ =>
    if g.isTrue ρ then
      match val f (xs.map (Exp.den ρ)) with
      | some rs => if rs.length = n then t.dv (ρ ++ rs) else none
      | none => none
    else t.dv (ρ ++ List.replicate n default)
  | .callv x xs n t, ρ =>
    match x.den ρ with
    | .fn f caps =>
      match val f (xs.map (Exp.den ρ) ++ caps) with
      | some rs => if rs.length = n then t.dv (ρ ++ rs) else none
      | none => none
    | _ => none
  | .ite c a b, ρ => if c.isTrue ρ then a.dv ρ else b.dv ρ
  | .scope t ks, ρ =>
    match t.dv ρ with
    | some (.y x vs) => ks.dv x vs ρ
    | _ => none
  | .loop init t ks, ρ =>
    match rounds (fun vs => t.dv (ρ ++ vs)) (init.map (Exp.den ρ)) with
    | some (.y x vs) => ks.dv x vs ρ
    | _ => none
noncomputable def KS.dv : KS Unit → Ex → List PV → List PV → Option (Out Unit)
  | .nil, _, _, _ => none
  | .cons x t ks, y, vs, ρ => if x = y then t.dv (ρ ++ vs) else ks.dv y vs ρ
end

def Fin (t : TT Unit) (ρ : List PV) (o : Out Unit) : Prop := ∃ k, t.den (fden tab k) k ρ = some o
theorem iter_fin {t : TT Unit} {ρ : List PV} (ht : ∀ vs o, t.dv (ρ ++ vs) = some o → Fin t (ρ ++ vs) o) : ∀ {n : Nat} {vs : List PV} {o : Out Unit}, iter (fun vs => t.dv (ρ ++ vs)) n vs = some o →
    ∃ k, iter (fun vs => t.den (fden tab k) k (ρ ++ vs)) k vs = some o
  | 0, _, _, h => by simp [iter] at h
  | n + 1, vs, o, h => by
    unfold iter at h
    split at h
    · rename_i vs' hf
      obtain ⟨k1, h1⟩ := ht _ _ hf
      obtain ⟨k2, h2⟩ := iter_fin ht h
      refine ⟨max k1 k2 + 1, ?_⟩
      unfold iter
      rw [TT.den_mono (fden_mono (by omega : k1 ≤ max k1 k2 + 1)) (by omega) h1]
      dsimp only
      exact iter_mono (fun vs o hh => TT.den_mono (fden_mono (by omega : k2 ≤ max k1 k2 + 1)) (by omega) hh) (by omega) h2
    · rename_i o' hne
      obtain ⟨k1, h1⟩ := ht _ _ h
      refine ⟨k1 + 1, ?_⟩
      unfold iter
      rw [TT.den_mono (fden_mono (by omega : k1 ≤ k1 + 1)) (by omega) h1]
      split
      · rename_i vs' heq
        cases heq
        exact absurd h (hne _)
      · rfl
mutual
theorem TT.dv_fin : ∀ {t : TT Unit} {ρ : List PV} {o : Out Unit}, t.dv ρ = some o → Fin t ρ o
  | .leaf _ _, _, _, h => ⟨0, h⟩
  | .yield _ _, _, _, h => ⟨0, h⟩
  | .fail _, _, _, h => by simp [TT.dv] at h
  | .assert e t, ρ, o, h => by
    simp only [TT.dv] at h
    split at h
    · rename_i he
      obtain ⟨k, hk⟩ := TT.dv_fin h
      exact ⟨k, by simp only [TT.den]; rw [if_pos he]; exact hk⟩
    · cases h
  | .call g f xs n t, ρ, o, h => by
    simp only [TT.dv] at h
    split at h
    · rename_i he
      split at h
      · rename_i rs hrs
        split at h
        · rename_i hl
          obtain ⟨k1, h1⟩ := val_iff.1 hrs
          obtain ⟨k2, h2⟩ := TT.dv_fin h
          refine ⟨max k1 k2, ?_⟩
          simp only [TT.den]
          rw [if_pos he, fden_mono (Nat.le_max_left k1 k2) _ _ _ h1]
          simp only [hl, if_true]
          exact TT.den_mono (fden_mono (Nat.le_max_right k1 k2)) (Nat.le_max_right k1 k2) h2
        · cases h
      · cases h
    · rename_i he
      obtain ⟨k, hk⟩ := TT.dv_fin h
      exact ⟨k, by simp only [TT.den]; rw [if_neg he]; exact hk⟩
  | .callv x xs n t, ρ, o, h => by
    simp only [TT.dv] at h
    split at h
    · rename_i f caps hx
      split at h
      · rename_i rs hrs
        split at h
        · rename_i hl
          obtain ⟨k1, h1⟩ := val_iff.1 hrs
          obtain ⟨k2, h2⟩ := TT.dv_fin h
          refine ⟨max k1 k2, ?_⟩
          simp only [TT.den, hx]
          rw [fden_mono (Nat.le_max_left k1 k2) _ _ _ h1]
          simp only [hl, if_true]
          exact TT.den_mono (fden_mono (Nat.le_max_right k1 k2)) (Nat.le_max_right k1 k2) h2
        · cases h
      · cases h
    · cases h
  | .ite c a b, ρ, o, h => by
    simp only [TT.dv] at h
    split at h
    · rename_i hc
      obtain ⟨k, hk⟩ := TT.dv_fin h
      exact ⟨k, by simp only [TT.den]; rw [if_pos hc]; exact hk⟩
    · rename_i hc
      obtain ⟨k, hk⟩ := TT.dv_fin h
      exact ⟨k, by simp only [TT.den]; rw [if_neg hc]; exact hk⟩
  | .scope t ks, ρ, o, h => by
    simp only [TT.dv] at h
    split at h
    · rename_i x vs ht
      obtain ⟨k1, h1⟩ := TT.dv_fin ht
      obtain ⟨k2, h2⟩ := KS.dv_fin h
      refine ⟨max k1 k2, ?_⟩
      simp only [TT.den]
      rw [TT.den_mono (fden_mono (Nat.le_max_left k1 k2)) (Nat.le_max_left k1 k2) h1]
      exact KS.den_mono (fden_mono (Nat.le_max_right k1 k2)) (Nat.le_max_right k1 k2) h2
    · cases h
  | .loop i t ks, ρ, o, h => by
    simp only [TT.dv] at h
    split at h
    · rename_i x vs ht
      obtain ⟨n, hn⟩ := rounds_iff.1 ht
      obtain ⟨k1, h1⟩ := iter_fin (fun vs o hh => TT.dv_fin hh) hn
      obtain ⟨k2, h2⟩ := KS.dv_fin h
      refine ⟨max k1 k2, ?_⟩
      simp only [TT.den]
      rw [iter_mono (fun vs o hh => TT.den_mono (fden_mono (Nat.le_max_left k1 k2)) (Nat.le_max_left k1 k2) hh) (Nat.le_max_left k1 k2) h1]
      exact KS.den_mono (fden_mono (Nat.le_max_right k1 k2)) (Nat.le_max_right k1 k2) h2
    · cases h
theorem KS.dv_fin : ∀ {ks : KS Unit} {x : Ex} {vs ρ : List PV} {o : Out Unit}, ks.dv x vs ρ = some o → ∃ k, ks.den (fden tab k) k x vs ρ = some o
  | .nil, _, _, _, _, h => by simp [KS.dv] at h
  | .cons y t ks, x, vs, ρ, o, h => by
    simp only [KS.dv] at h
    split at h
    · rename_i hc
      obtain ⟨k, hk⟩ := TT.dv_fin h
      exact ⟨k, by simp only [KS.den]; rw [if_pos hc]; exact hk⟩
    · rename_i hc
      obtain ⟨k, hk⟩ := KS.dv_fin h
      exact ⟨k, by simp only [KS.den]; rw [if_neg hc]; exact hk⟩
end
/-- A function answers what its tree comes to. -/
theorem val_of {f : Nat} {t : TT Unit} {a vs : List PV} (ht : tab f = some t) (h : t.dv a = some (.y .ret vs)) : val f a = some vs := by
  obtain ⟨k, hk⟩ := TT.dv_fin h
  exact val_iff.2 ⟨k + 1, by simp only [fden, ht, hk]⟩
end Go.Proofs.Ythchhkghjfendab.Dx

namespace Go.Proofs.Ythchhkghjfendab.Dx
open Go

def Vu (n : Nat) : PV := .v (.int .u64 n)
def Vw (n : Nat) : PV := .v (.int .u32 n)
def Vy (n : Nat) : PV := .v (.int .u8 n)
def Vi (x : Int) : PV := .v (.int .i64 x)
def Vb (b : Bool) : PV := .v (.bool b)
def Vf (n : Nat) : PV := .v (.float .f64 n)

@[simp] theorem int_U (n : Nat) : (Vu n).int = n := rfl
@[simp] theorem int_W (n : Nat) : (Vw n).int = n := rfl
@[simp] theorem int_Y (n : Nat) : (Vy n).int = n := rfl
@[simp] theorem int_I (x : Int) : (Vi x).int = x := rfl
@[simp] theorem bool_Bo (b : Bool) : (Vb b).bool = b := rfl
@[simp] theorem flt_Fl (n : Nat) : (Vf n).flt = n := rfl
@[simp] theorem list_l (xs : List PV) : (PV.l xs).list = xs := rfl
@[simp] theorem cells_a (xs : List PV) : (PV.a xs).cells = xs := rfl

theorem Bo_inj {a b : Bool} : Vb a = Vb b ↔ a = b := by simp [Vb]

theorem wf_u64 {a : Int} (h : (Lit.int .u64 a).wf = true) : ∃ n : Nat, a = n ∧ n < 18446744073709551616 := by
  simp [Lit.wf, IntKind.min, IntKind.max, IntKind.signed, IntKind.bits] at h
  exact ⟨a.toNat, by omega, by omega⟩
theorem wf_i64 {a : Int} (h : (Lit.int .i64 a).wf = true) : -9223372036854775808 ≤ a ∧ a < 9223372036854775808 := by
  simp [Lit.wf, IntKind.min, IntKind.max, IntKind.signed, IntKind.bits] at h
  exact ⟨by omega, by omega⟩

section
variable {ρ : List PV}
@[simp] theorem den_var (n : Nat) : (Exp.var n).den ρ = ρ.getD n default := rfl
@[simp] theorem den_i64 (n : Int) : (Exp.int .i64 n).den ρ = Vi n := rfl
@[simp] theorem den_u64_lit (n : Nat) : (Exp.int .u64 (no_index (OfNat.ofNat n))).den ρ = Vu (OfNat.ofNat n) := rfl
@[simp] theorem den_u32_lit (n : Nat) : (Exp.int .u32 (no_index (OfNat.ofNat n))).den ρ = Vw (OfNat.ofNat n) := rfl
@[simp] theorem den_u8_lit (n : Nat) : (Exp.int .u8 (no_index (OfNat.ofNat n))).den ρ = Vy (OfNat.ofNat n) := rfl
@[simp] theorem den_bool (b : Bool) : (Exp.bool b).den ρ = Vb b := rfl
@[simp] theorem den_flt (n : Nat) : (Exp.flt n).den ρ = Vf n := rfl
@[simp] theorem den_nil : (Exp.nil).den ρ = .l [] := rfl
@[simp] theorem den_un (o : U) (x : Exp) : (Exp.un o x).den ρ = o.den (x.den ρ) := rfl
@[simp] theorem den_bi (o : B) (x y : Exp) : (Exp.bi o x y).den ρ = o.den (x.den ρ) (y.den ρ) := rfl
@[simp] theorem den_tri (o : T3) (x y z : Exp) : (Exp.tri o x y z).den ρ = o.den (x.den ρ) (y.den ρ) (z.den ρ) := rfl
@[simp] theorem isTrue_den (e : Exp) : e.isTrue ρ = (e.den ρ).bool := rfl
end

theorem wrap_u64 (n : Int) : IntKind.u64.wrap n = n % 18446744073709551616 := by simp [IntKind.wrap, IntKind.signed, IntKind.bits]
theorem wrap_u32 (n : Int) : IntKind.u32.wrap n = n % 4294967296 := by simp [IntKind.wrap, IntKind.signed, IntKind.bits]
theorem wrap_u8 (n : Int) : IntKind.u8.wrap n = n % 256 := by simp [IntKind.wrap, IntKind.signed, IntKind.bits]
theorem wrap_i64 (n : Int) : IntKind.i64.wrap n = if n % 18446744073709551616 ≥ 9223372036854775808 then n % 18446744073709551616 - 18446744073709551616 else n % 18446744073709551616 := by
  simp [IntKind.wrap, IntKind.signed, IntKind.bits]
theorem wrap_i64_of {n : Int} (h1 : -9223372036854775808 ≤ n) (h2 : n < 9223372036854775808) : IntKind.i64.wrap n = n := by
  rw [wrap_i64]; split <;> omega

section
variable {x y : Int}
theorem add_i (h1 : -9223372036854775808 ≤ x + y) (h2 : x + y < 9223372036854775808) : (B.add .i64).den (Vi x) (Vi y) = Vi (x + y) := by simp [B.den, Vi, wrap_i64_of h1 h2, PV.int]
theorem mul_i (h1 : -9223372036854775808 ≤ x * y) (h2 : x * y < 9223372036854775808) : (B.mul .i64).den (Vi x) (Vi y) = Vi (x * y) := by simp [B.den, Vi, wrap_i64_of h1 h2, PV.int]
@[simp] theorem iadd_i : B.iadd.den (Vi x) (Vi y) = Vi (x + y) := rfl
@[simp] theorem isub_i : B.isub.den (Vi x) (Vi y) = Vi (x - y) := rfl
@[simp] theorem lt_i : B.lt.den (Vi x) (Vi y) = Vb (decide (x < y)) := rfl
@[simp] theorem le_i : B.le.den (Vi x) (Vi y) = Vb (decide (x ≤ y)) := rfl
@[simp] theorem gt_i : B.gt.den (Vi x) (Vi y) = Vb (decide (x > y)) := rfl
@[simp] theorem ge_i : B.ge.den (Vi x) (Vi y) = Vb (decide (x ≥ y)) := rfl
@[simp] theorem eq_i : B.eq.den (Vi x) (Vi y) = Vb (decide (x = y)) := rfl
@[simp] theorem ne_i : B.ne.den (Vi x) (Vi y) = Vb (decide (x ≠ y)) := by simp only [B.den, Vb, int_I, PV.v.injEq, Value.bool.injEq]; by_cases h : x = y <;> simp [h]
@[simp] theorem max_i : (B.max .i64).den (Vi x) (Vi y) = Vi (max x y) := by
  simp only [B.den, Vi, int_I, PV.int, PV.v.injEq, Value.int.injEq, true_and]; by_cases h : x < y <;> simp only [h, if_true, if_false] <;> omega
@[simp] theorem min_i : (B.min .i64).den (Vi x) (Vi y) = Vi (min x y) := by
  simp only [B.den, Vi, int_I, PV.int, PV.v.injEq, Value.int.injEq, true_and]; by_cases h : y < x <;> simp only [h, if_true, if_false] <;> omega
end

section
variable {a b s : Nat}
@[simp] theorem add_u : (B.add .u64).den (Vu a) (Vu b) = Vu ((a + b) % 18446744073709551616) := by
  simp only [B.den, Vu, PV.int, wrap_u64, PV.v.injEq, Value.int.injEq, true_and]; omega
@[simp] theorem mul_u : (B.mul .u64).den (Vu a) (Vu b) = Vu (a * b % 18446744073709551616) := by
  simp only [B.den, Vu, PV.int, wrap_u64, PV.v.injEq, Value.int.injEq, true_and]
  rw [← Int.natCast_mul]; omega
theorem quo_u (ha : a < 18446744073709551616) : (B.quo .u64).den (Vu a) (Vu b) = Vu (a / b) := by
  simp only [B.den, Vu, PV.int, wrap_u64, PV.v.injEq, Value.int.injEq, true_and]
  rw [show ((a : Int).tdiv b) = ((a / b : Nat) : Int) from rfl]
  have : a / b ≤ a := Nat.div_le_self a b
  generalize a / b = q at *
  omega
@[simp] theorem rem_u : (B.rem .u64).den (Vu a) (Vu b) = Vu (a % b) := rfl
@[simp] theorem lt_u : B.lt.den (Vu a) (Vu b) = Vb (decide (a < b)) := by
  show PV.v (.bool (decide ((a : Int) < b))) = _
  rw [decide_eq_decide.2 (by omega : ((a : Int) < b ↔ a < b))]; rfl
@[simp] theorem le_u : B.le.den (Vu a) (Vu b) = Vb (decide (a ≤ b)) := by
  show PV.v (.bool (decide ((a : Int) ≤ b))) = _
  rw [decide_eq_decide.2 (by omega : ((a : Int) ≤ b ↔ a ≤ b))]; rfl
@[simp] theorem gt_u : B.gt.den (Vu a) (Vu b) = Vb (decide (a > b)) := by
  show PV.v (.bool (decide ((a : Int) > b))) = _
  rw [decide_eq_decide.2 (by omega : ((a : Int) > b ↔ a > b))]; rfl
@[simp] theorem ge_u : B.ge.den (Vu a) (Vu b) = Vb (decide (a ≥ b)) := by
  show PV.v (.bool (decide ((a : Int) ≥ b))) = _
  rw [decide_eq_decide.2 (by omega : ((a : Int) ≥ b ↔ a ≥ b))]; rfl
@[simp] theorem eq_u : B.eq.den (Vu a) (Vu b) = Vb (decide (a = b)) := by
  simp only [B.den, Vb, int_U, PV.v.injEq, Value.bool.injEq]; by_cases h : a = b
  · simp [h]
  · simp [h]; omega
@[simp] theorem ne_u : B.ne.den (Vu a) (Vu b) = Vb (decide (a ≠ b)) := by
  simp only [B.den, Vb, int_U, PV.v.injEq, Value.bool.injEq]; by_cases h : a = b
  · simp [h]
  · simp [h]; omega
theorem shl_uU : (B.shl .u64).den (Vu a) (Vu s) = Vu (a * 2 ^ (min s 64) % 18446744073709551616) := by
  simp only [B.den, Vu, PV.int, wrap_u64, PV.v.injEq, Value.int.injEq, true_and, Int.toNat_natCast]
  show (a : Int) * 2 ^ (min s 64) % _ = _
  rw [show ((a : Int) * 2 ^ (min s 64)) = ((a * 2 ^ (min s 64) : Nat) : Int) by simp]; omega
theorem shr_uU : (B.shr .u64).den (Vu a) (Vu s) = Vu (a / 2 ^ (min s 64)) := by
  simp only [B.den, Vu, PV.int, PV.v.injEq, Value.int.injEq, true_and, Int.toNat_natCast]
  show (a : Int).fdiv (2 ^ (min s 64)) = _
  rw [Int.fdiv_eq_ediv_of_nonneg _ (by exact_mod_cast Nat.zero_le _)]
  simp
@[simp] theorem ge_uI0 : B.ge.den (Vu a) (Vi 0) = Vb true := by
  show PV.v (.bool (decide ((a : Int) ≥ 0))) = _
  rw [decide_eq_true (by omega : (a : Int) ≥ 0)]; rfl
theorem conv_ui (h : a < 9223372036854775808) : (U.conv .i64).den (Vu a) = Vi a := by
  simp only [U.den, Vu, Vi, PV.int]; rw [wrap_i64_of (by omega) (by omega)]
@[simp] theorem conv_uw : (U.conv .u32).den (Vu a) = Vw (a % 4294967296) := by
  simp only [U.den, Vu, Vw, PV.int, wrap_u32, PV.v.injEq, Value.int.injEq, true_and]; omega
@[simp] theorem lt_w : B.lt.den (Vw a) (Vw b) = Vb (decide (a < b)) := by
  show PV.v (.bool (decide ((a : Int) < b))) = _
  rw [decide_eq_decide.2 (by omega : ((a : Int) < b ↔ a < b))]; rfl
@[simp] theorem gt_w : B.gt.den (Vw a) (Vw b) = Vb (decide (a > b)) := by
  show PV.v (.bool (decide ((a : Int) > b))) = _
  rw [decide_eq_decide.2 (by omega : ((a : Int) > b ↔ a > b))]; rfl
@[simp] theorem eq_w : B.eq.den (Vw a) (Vw b) = Vb (decide (a = b)) := by
  simp only [B.den, Vb, int_W, PV.v.injEq, Value.bool.injEq]; by_cases h : a = b
  · simp [h]
  · simp [h]; omega
@[simp] theorem ne_w : B.ne.den (Vw a) (Vw b) = Vb (decide (a ≠ b)) := by
  simp only [B.den, Vb, int_W, PV.v.injEq, Value.bool.injEq]; by_cases h : a = b
  · simp [h]
  · simp [h]; omega
@[simp] theorem rem_w : (B.rem .u32).den (Vw a) (Vw b) = Vw (a % b) := rfl
@[simp] theorem eq_y : B.eq.den (Vy a) (Vy b) = Vb (decide (a = b)) := by
  simp only [B.den, Vb, int_Y, PV.v.injEq, Value.bool.injEq]; by_cases h : a = b
  · simp [h]
  · simp [h]; omega
@[simp] theorem ne_y : B.ne.den (Vy a) (Vy b) = Vb (decide (a ≠ b)) := by
  simp only [B.den, Vb, int_Y, PV.v.injEq, Value.bool.injEq]; by_cases h : a = b
  · simp [h]
  · simp [h]; omega
@[simp] theorem add_y : (B.add .u8).den (Vy a) (Vy b) = Vy ((a + b) % 256) := by
  simp only [B.den, Vy, PV.int, wrap_u8, PV.v.injEq, Value.int.injEq, true_and]; omega
end

@[simp] theorem not_b (a : Bool) : U.not.den (Vb a) = Vb (!a) := rfl
@[simp] theorem beq_b (a b : Bool) : B.beq.den (Vb a) (Vb b) = Vb (a == b) := rfl
@[simp] theorem bne_b (a b : Bool) : B.bne.den (Vb a) (Vb b) = Vb (a != b) := rfl
@[simp] theorem ite_and (a b : Bool) : T3.ite.den (Vb a) (Vb b) (Vb false) = Vb (a && b) := by cases a <;> rfl
@[simp] theorem ite_or (a b : Bool) : T3.ite.den (Vb a) (Vb true) (Vb b) = Vb (a || b) := by cases a <;> rfl
@[simp] theorem ite_true (p q : PV) : T3.ite.den (Vb true) p q = p := rfl
@[simp] theorem ite_false (p q : PV) : T3.ite.den (Vb false) p q = q := rfl
@[simp] theorem len_l (xs : List PV) : U.len.den (.l xs) = Vi xs.length := rfl
@[simp] theorem app_l (xs ys : List PV) : B.app.den (.l xs) (.l ys) = .l (xs ++ ys) := rfl
@[simp] theorem cons_l (p : PV) (ys : List PV) : B.cons.den p (.l ys) = .l (p :: ys) := rfl
theorem get_l (xs : List PV) {i : Int} {n : Nat} (h : i = n) : B.get.den (.l xs) (Vi i) = xs.getD n default := by subst h; rfl
end Go.Proofs.Ythchhkghjfendab.Dx

namespace Go.Proofs.Ythchhkghjfendab.Dx
open Go

def wl (L : List Nat) : PV := .l (L.map Vw)
def OKL (L : List Nat) : Prop := ∀ a ∈ L, a < 4294967296
def dig (n : Nat) : List Nat := if n = 0 then [] else n % 4294967296 :: dig (n / 4294967296)
termination_by n
decreasing_by omega
def sg (s : Bool) (n : Nat) : Int := if s then -(n : Int) else n
def bS (x : Int) : PV := Vb (decide (x < 0))
def bL (x : Int) : PV := wl (dig x.natAbs)
def bl (n : Nat) : Nat := if n = 0 then 0 else n.log2 + 1

@[simp] theorem wl_nil : PV.l [] = wl [] := rfl
@[simp] theorem len_wl (L : List Nat) : U.len.den (wl L) = Vi L.length := by simp [wl, len_l]
theorem OKL.cons {a : Nat} {L : List Nat} (h : a < 4294967296) (h' : OKL L) : OKL (a :: L) := fun b hb => by
  rcases List.mem_cons.1 hb with rfl | h1
  · exact h
  · exact h' b h1
theorem OKL.nil : OKL [] := fun _ h => by cases h
theorem OKL.getD {L : List Nat} (h : OKL L) (i : Nat) : L.getD i 0 < 4294967296 := by
  rw [List.getD_eq_getElem?_getD]
  cases hx : L[i]? with
  | none => simp
  | some a => simpa using h a (List.mem_of_getElem? hx)
end Go.Proofs.Ythchhkghjfendab.Dx

namespace Go.Proofs.Ythchhkghjfendab.Dx
open Go

end Go.Proofs.Ythchhkghjfendab.Dx

namespace Go.Proofs.Ythchhkghjfendab.Dx
open Go
end Go.Proofs.Ythchhkghjfendab.Dx

namespace Go.Proofs.Ythchhkghjfendab.Dx
open Go

end Go.Proofs.Ythchhkghjfendab.Dx

namespace Go.Proofs.Ythchhkghjfendab.Dx
open Go

end Go.Proofs.Ythchhkghjfendab.Dx

namespace Go.Proofs.Ythchhkghjfendab.Dx
open Go

/-- How often 2 goes into a number. -/
def tz (n : Nat) : Nat := if h : n = 0 then 0 else if n % 2 = 1 then 0 else tz (n / 2) + 1
termination_by n
decreasing_by omega
def od (x : Int) : Int := sg (decide (x < 0)) (x.natAbs / 2 ^ tz x.natAbs)
def ev (x e : Int) : Int := if x = 0 then 0 else e + tz x.natAbs
def dS (x _e : Int) : PV := bS (od x)
def dL (x _e : Int) : PV := bL (od x)
def dE (x e : Int) : PV := Vi (ev x e)

theorem tz_even {n : Nat} (h0 : n ≠ 0) (h : n % 2 = 0) : tz n = tz (n / 2) + 1 := by rw [tz, dif_neg h0, if_neg (by omega)]
theorem tz_shl {n : Nat} (h : n ≠ 0) (j : Nat) : tz (n * 2 ^ j) = tz n + j := by
  induction j with
  | zero => simp
  | succ j ih =>
    have hp := Nat.two_pow_pos j
    have hne : n * 2 ^ j ≠ 0 := Nat.mul_ne_zero h (by omega)
    rw [Nat.pow_succ, ← Nat.mul_assoc, tz_even (by omega) (by omega), Nat.mul_div_cancel _ (by omega), ih]; omega
theorem mul_neg_iff {x : Int} (j : Nat) : x * 2 ^ j < 0 ↔ x < 0 := by
  have hp : (0 : Int) < 2 ^ j := Int.pow_pos (by omega)
  constructor
  · intro h
    by_cases hx : x < 0
    · exact hx
    · have := Int.mul_nonneg (show 0 ≤ x by omega) (Int.le_of_lt hp); omega
  · intro h; exact Int.mul_neg_of_neg_of_pos h hp
theorem od_shl (x : Int) (j : Nat) : od (x * 2 ^ j) = od x := by
  by_cases h : x = 0
  · subst h; simp
  · unfold od
    have hn : x.natAbs ≠ 0 := by omega
    have e : (x * 2 ^ j).natAbs = x.natAbs * 2 ^ j := by rw [Int.natAbs_mul, Int.natAbs_pow]; rfl
    rw [e, tz_shl hn]
    have : decide (x * 2 ^ j < 0) = decide (x < 0) := by rw [decide_eq_decide]; exact mul_neg_iff j
    rw [this, Nat.pow_add, Nat.mul_comm (2 ^ tz x.natAbs), ← Nat.div_div_eq_div_mul, Nat.mul_div_cancel _ (Nat.two_pow_pos j)]
theorem ev_shl (x e : Int) (j : Nat) : ev (x * 2 ^ j) (e - j) = ev x e := by
  by_cases h : x = 0
  · subst h; simp [ev]
  · have hn : x.natAbs ≠ 0 := by omega
    have e1 : (x * 2 ^ j).natAbs = x.natAbs * 2 ^ j := by rw [Int.natAbs_mul, Int.natAbs_pow]; rfl
    have hp : (0 : Int) < 2 ^ j := Int.pow_pos (by omega)
    unfold ev
    rw [if_neg h, if_neg (Int.mul_ne_zero h (by omega)), e1, tz_shl hn]; omega
/-- How a dyadic number is written does not matter. -/
structure DEq (x e y f : Int) : Prop where
  s : dS x e = dS y f
  l : dL x e = dL y f
  e : dE x e = dE y f
theorem DEq.shl (x e : Int) (j : Nat) : DEq (x * 2 ^ j) (e - j) x e := ⟨by unfold dS; rw [od_shl], by unfold dL; rw [od_shl], by unfold dE; rw [ev_shl]⟩
theorem DEq.symm {x e y f : Int} (h : DEq x e y f) : DEq y f x e := ⟨h.s.symm, h.l.symm, h.e.symm⟩
theorem DEq.trans {x e y f z g : Int} (h : DEq x e y f) (h' : DEq y f z g) : DEq x e z g := ⟨h.s.trans h'.s, h.l.trans h'.l, h.e.trans h'.e⟩
theorem DEq.shl' {x e y l : Int} (j : Nat) (h : y = x * 2 ^ j) (hl : l = e - j) : DEq y l x e := by subst h hl; exact DEq.shl x e j
theorem DEq.at {x e l : Int} (h : l ≤ e) : DEq (x * 2 ^ (e - l).toNat) l x e := DEq.shl' _ rfl (by omega)
theorem DEq.zero (e : Int) : DEq 0 e 0 0 := ⟨rfl, rfl, rfl⟩
end Go.Proofs.Ythchhkghjfendab.Dx

namespace Go.Proofs.Ythchhkghjfendab.Dx
open Go

def DB (x e : Int) : Prop := bl x.natAbs ≤ 100000000 ∧ -100000000 ≤ e ∧ e ≤ 100000000
theorem DB.neg {x e : Int} (h : DB x e) : DB (-x) e := by unfold DB at *; rwa [Int.natAbs_neg]
end Go.Proofs.Ythchhkghjfendab.Dx

namespace Go.Proofs.Ythchhkghjfendab.Dx
open Go

/-- 'n / 2 ^ d', to the nearest, between two to the even one. -/
def RHE (n d : Nat) : Nat := n / 2 ^ d + (if 2 ^ d < 2 * (n % 2 ^ d) ∨ (2 ^ d = 2 * (n % 2 ^ d) ∧ n / 2 ^ d % 2 = 1) then 1 else 0)
def infR : Nat := 9218868437227405312
def two52 : Nat := 4503599627370496
def lastP (n : Nat) (p : Int) : Int := max (p + n.log2 - 52) (-1074)
/-- The rung of 'n * 2 ^ p', not yet cut off at infinity. -/
def rung (n : Nat) (p : Int) : Nat :=
  if n = 0 then 0 else ((lastP n p + 1074).toNat) * two52 + RHE (n * 2 ^ (p - lastP n p).toNat) (lastP n p - p).toNat
def sgn (neg : Bool) (r : Nat) : Nat := if neg then 9223372036854775808 + r else r
end Go.Proofs.Ythchhkghjfendab.Dx

namespace Go.Proofs.Ythchhkghjfendab.Dx
open Go

theorem and_mask (a k : Nat) (hk : k ≤ 64) : (B.and .u64).den (Vu a) (Vu (2 ^ k - 1)) = Vu (a % 2 ^ k) := by
  simp only [B.den, Vu, PV.int, PV.v.injEq, Value.int.injEq, true_and]
  unfold bitsOp
  show IntKind.u64.wrap ((BitVec.ofInt 64 (a : Int) &&& BitVec.ofInt 64 ((2 ^ k - 1 : Nat) : Int)).toNat : Int) = _
  have hp : (2 : Nat) ^ k ≤ 2 ^ 64 := Nat.pow_le_pow_right (by omega) hk
  rw [BitVec.ofInt_natCast, BitVec.ofInt_natCast, BitVec.toNat_and, BitVec.toNat_ofNat, BitVec.toNat_ofNat]
  have hpos := Nat.two_pow_pos k
  rw [Nat.mod_eq_of_lt (show 2 ^ k - 1 < 2 ^ 64 by omega), Nat.and_two_pow_sub_one_eq_mod, Nat.mod_mod_of_dvd _ (Nat.pow_dvd_pow 2 hk), wrap_u64]
  have : a % 2 ^ k < 2 ^ k := Nat.mod_lt _ hpos
  have e64 : (2 : Nat) ^ 64 = 18446744073709551616 := by decide
  omega
@[simp] theorem and_1 (a : Nat) : (B.and .u64).den (Vu a) (Vu 1) = Vu (a % 2) := and_mask a 1 (by omega)
@[simp] theorem and_3 (a : Nat) : (B.and .u64).den (Vu a) (Vu 3) = Vu (a % 4) := and_mask a 2 (by omega)
@[simp] theorem and_2047 (a : Nat) : (B.and .u64).den (Vu a) (Vu 2047) = Vu (a % 2048) := and_mask a 11 (by omega)
@[simp] theorem and_frac (a : Nat) : (B.and .u64).den (Vu a) (Vu 4503599627370495) = Vu (a % 4503599627370496) := and_mask a 52 (by omega)
@[simp] theorem and_32 (a : Nat) : (B.and .u64).den (Vu a) (Vu 4294967295) = Vu (a % 4294967296) := and_mask a 32 (by omega)
@[simp] theorem andNot_63 (a : Nat) : (B.andNot .u64).den (Vu a) (Vu 9223372036854775808) = Vu (a % 9223372036854775808) := by
  have h := and_mask a 63 (by omega)
  have e : (2 : Nat) ^ 63 = 9223372036854775808 := by decide
  rw [e] at h
  rw [← h]
  rfl
@[simp] theorem shl_u_lit (a s : Nat) : (B.shl .u64).den (Vu a) (Vu s) = Vu (a * 2 ^ (min s 64) % 18446744073709551616) := shl_uU
@[simp] theorem shr_u_lit (a s : Nat) : (B.shr .u64).den (Vu a) (Vu s) = Vu (a / 2 ^ (min s 64)) := shr_uU
@[simp] theorem or_y14 : (B.or .u8).den (Vy 1) (Vy 4) = Vy 5 := rfl
@[simp] theorem or_y12 : (B.or .u8).den (Vy 1) (Vy 2) = Vy 3 := rfl

def fNeg (b : Nat) : Bool := decide (b / 9223372036854775808 = 1)
def fPow (b : Nat) : Nat := b / 4503599627370496 % 2048
def fFrac (b : Nat) : Nat := b % 4503599627370496
def fMag (b : Nat) : Nat := if fPow b = 0 then fFrac b else fFrac b + 4503599627370496
def fPl (b : Nat) : Int := if fPow b = 0 then -1074 else (fPow b : Int) - 1075
def fKind (b : Nat) : Int := if fPow b = 2047 then (if fFrac b = 0 then 3 else 4) else if fPow b > 0 then 2 else if fFrac b > 0 then 1 else 0
def Fin64 (b : Nat) : Prop := fPow b ≠ 2047
instance (b : Nat) : Decidable (Fin64 b) := inferInstanceAs (Decidable (_ ≠ _))

theorem split_ok (b : Nat) : val 287 [Vu b] = some [Vb (fNeg b), Vi (fPow b), Vu (fFrac b)] := by
  refine val_of tab287 ?_
  have : b / 4503599627370496 % 2048 < 9223372036854775808 := by omega
  simp [tr287, TT.dv, fNeg, fPow, fFrac, conv_ui this]
theorem kind_ok (b : Nat) : val 281 [Vu b] = some [Vi (fKind b)] := by
  refine val_of tab281 ?_
  have hp : fPow b < 2048 := by unfold fPow; omega
  unfold fKind
  by_cases h1 : fPow b = 2047
  · by_cases h2 : fFrac b = 0
    · simp [tr281, TT.dv, split_ok, h1, h2]
    · simp [tr281, TT.dv, split_ok, h1, h2]
  · have h1' : ¬ (fPow b : Int) = 2047 := by omega
    by_cases h3 : fPow b > 0
    · have h3' : (fPow b : Int) > 0 := by omega
      simp [tr281, TT.dv, split_ok, h1, h1', h3, h3']
    · have h3' : ¬ (fPow b : Int) > 0 := by omega
      by_cases h4 : fFrac b > 0
      · simp [tr281, TT.dv, split_ok, h1, h1', h3, h3', h4]
      · simp [tr281, TT.dv, split_ok, h1, h1', h3, h3', h4]
theorem finite_ok (b : Nat) : val 280 [Vu b] = some [Vb (decide (fPow b ≠ 2047))] := by
  refine val_of tab280 ?_
  unfold tr280
  by_cases h1 : fPow b = 2047
  · by_cases h2 : fFrac b = 0
    · simp [TT.dv, KS.dv, kind_ok, fKind, h1, h2]
    · simp [TT.dv, KS.dv, kind_ok, fKind, h1, h2]
  · by_cases h3 : fPow b > 0
    · simp [TT.dv, KS.dv, kind_ok, fKind, h1, h3]
    · by_cases h4 : fFrac b > 0
      · simp [TT.dv, KS.dv, kind_ok, fKind, h1, h3, h4]
      · simp [TT.dv, KS.dv, kind_ok, fKind, h1, h3, h4]
theorem fPow_lt (b : Nat) : fPow b < 2048 := by unfold fPow; omega
end Go.Proofs.Ythchhkghjfendab.Dx

namespace Go.Proofs.Ythchhkghjfendab.Dx
open Go

def nearR (n : Nat) (p : Int) : Nat := min (rung n p) infR
def nearV (neg : Bool) (n : Nat) (p : Int) : Nat := sgn neg (nearR n p)
end Go.Proofs.Ythchhkghjfendab.Dx

namespace Go.Proofs.Ythchhkghjfendab.Dx
open Go

theorem frac4_ok (b : Nat) : val 121 [Vu b] = some [Vu (fFrac b)] := by
  refine val_of tab121 ?_
  simp [tr121, TT.dv, fFrac]
theorem power4_ok {b : Nat} (h : b < 18446744073709551616) : val 126 [Vu b] = some [Vi (fPow b)] := by
  refine val_of tab126 ?_
  have e1 : (B.quo .u64).den (Vu (b % 9223372036854775808)) (Vu 4503599627370496) = Vu (fPow b) := by rw [quo_u (by omega)]; unfold fPow; congr 1; omega
  have hp := fPow_lt b
  have e2 : (U.conv .i64).den (Vu (fPow b)) = Vi (fPow b) := conv_ui (by omega)
  simp [tr126, TT.dv, e1, e2]
theorem finite4_ok {b : Nat} (h : b < 18446744073709551616) : val 120 [Vu b] = some [Vb (decide (fPow b < 2047))] := by
  refine val_of tab120 ?_
  simp [tr120, TT.dv, power4_ok h]
  rw [Bo_inj, decide_eq_decide]; omega
theorem kind4_ok {b : Nat} (h : b < 18446744073709551616) : val 122 [Vu b] = some [Vi (fKind b)] := by
  refine val_of tab122 ?_
  have hp := power4_ok h
  have hf := frac4_ok b
  unfold fKind
  by_cases h1 : fPow b = 2047
  · by_cases h2 : fFrac b = 0
    · simp [tr122, TT.dv, hp, hf, h1, h2]
    · simp [tr122, TT.dv, hp, hf, h1, h2]
  · have h1' : ¬ (fPow b : Int) = 2047 := by omega
    by_cases h3 : 0 < fPow b
    · simp [tr122, TT.dv, hp, hf, h1, h1', h3]
    · by_cases h4 : 0 < fFrac b
      · simp [tr122, TT.dv, hp, hf, h1, h1', h3, h4]
      · simp [tr122, TT.dv, hp, hf, h1, h1', h3, h4]
end Go.Proofs.Ythchhkghjfendab.Dx

namespace Go.Proofs.Ythchhkghjfendab.Dx
open Go

end Go.Proofs.Ythchhkghjfendab.Dx

namespace Go.Proofs.Ythchhkghjfendab.Dx
open Go

end Go.Proofs.Ythchhkghjfendab.Dx

namespace Go.Proofs.Ythchhkghjfendab.Dx
open Go

end Go.Proofs.Ythchhkghjfendab.Dx

namespace Go.Proofs.Ythchhkghjfendab.Dx
open Go

end Go.Proofs.Ythchhkghjfendab.Dx

namespace Go.Proofs.Ythchhkghjfendab.Dx
open Go

def nanB (b : Nat) : Prop := fPow b = 2047 ∧ fFrac b ≠ 0
instance (b : Nat) : Decidable (nanB b) := inferInstanceAs (Decidable (_ ∧ _))
end Go.Proofs.Ythchhkghjfendab.Dx

namespace Go.Proofs.Ythchhkghjfendab.Dx
open Go

theorem read_ok (b : Nat) : Ieee.double.read b = if fPow b = 2047 then (if fFrac b = 0 then .infinity (decide (b / 9223372036854775808 % 2 = 1)) else .nan (decide (b / 9223372036854775808 % 2 = 1)) (fFrac b)) else .number (decide (b / 9223372036854775808 % 2 = 1)) (fMag b) (fPl b) := by
  have h2 : Ieee.double.signWeight = 9223372036854775808 := by decide
  have h3 : Ieee.double.binade = 4503599627370496 := by decide
  have h4 : Ieee.double.infRung = 9218868437227405312 := by decide
  have h5 : Ieee.double.leastPlace = -1074 := by decide
  unfold Ieee.Format.read
  simp only [h2, h3, h4, h5]
  have hs : (b / 9223372036854775808 % 2 == 1) = decide (b / 9223372036854775808 % 2 = 1) := by rw [Bool.beq_eq_decide_eq]
  rw [hs]
  unfold fPow fFrac fMag fPl
  by_cases c1 : b % 9223372036854775808 < 4503599627370496
  · rw [if_pos c1, if_neg (by omega), if_pos (by unfold fPow; omega), if_pos (by unfold fPow; omega)]
    congr 1
    unfold fFrac; omega
  · rw [if_neg c1]
    by_cases c2 : b % 9223372036854775808 < 9218868437227405312
    · rw [if_pos c2, if_neg (by omega), if_neg (by unfold fPow; omega), if_neg (by unfold fPow; omega)]
      congr 1
      · unfold fFrac; omega
      · unfold fPow; omega
    · rw [if_neg c2]
      by_cases c3 : b % 9223372036854775808 = 9218868437227405312
      · rw [if_pos c3, if_pos (show b / 4503599627370496 % 2048 = 2047 by omega), if_pos (show b % 4503599627370496 = 0 by omega)]
      · rw [if_neg c3, if_pos (show b / 4503599627370496 % 2048 = 2047 by omega), if_neg (show ¬ b % 4503599627370496 = 0 by omega)]
        exact congrArg _ (by omega)
theorem isNaN_iff (b : Nat) : isNaN b = decide (nanB b) := by
  unfold isNaN
  rw [read_ok]
  unfold nanB
  by_cases h : fPow b = 2047
  · rw [if_pos h]
    by_cases h2 : fFrac b = 0
    · rw [if_pos h2]; simp [h2]
    · rw [if_neg h2]; simp [h, h2]
  · rw [if_neg h]; simp [h]
theorem cnF_nanB {b : Nat} (h : nanB b) : cnF b = nan0 := by unfold cnF; rw [isNaN_iff]; simp [h]
theorem cnF_ok {b : Nat} (h : ¬ nanB b) : cnF b = b := by unfold cnF; rw [isNaN_iff]; simp [h]
end Go.Proofs.Ythchhkghjfendab.Dx

namespace Go.Proofs.Ythchhkghjfendab.Dx
open Go

def clamp (k : Int) : Int := max (-2300) (min 2300 k)
def scaleV (b : Nat) (k : Int) : Nat := if nanB b then nan0 else if fPow b = 2047 ∨ fMag b = 0 then b else nearV (fNeg b) (fMag b) (fPl b + clamp k)
end Go.Proofs.Ythchhkghjfendab.Dx

namespace Go.Proofs.Ythchhkghjfendab.Dx
open Go

theorem canon_nan {a : Nat} (h : nanB a) : ∀ k, fden tab k 134 [Vu a] = if k < 3 then none else some [Vu nan0] := by
  have e1 : (B.quo .u64).den (Vu (a % 9223372036854775808)) (Vu 4503599627370496) = Vu (fPow a) := by rw [quo_u (by omega)]; unfold fPow; exact congrArg Vu (by omega)
  have e2 : (U.conv .i64).den (Vu 2047) = Vi 2047 := rfl
  have hf : a % 4503599627370496 ≠ 0 := h.2
  rw [h.1] at e1
  have p : ∀ k, fden tab (k + 1) 126 [Vu a] = some [Vi 2047] := fun k => by
    simp [fden, tab126, tr126, TT.den, e1, e2]
  have f : ∀ k, fden tab (k + 1) 121 [Vu a] = some [Vu (a % 4503599627370496)] := fun k => by
    simp [fden, tab121, tr121, TT.den]
  have q : ∀ k, fden tab (k + 2) 122 [Vu a] = some [Vi 4] := fun k => by
    rw [fden]; simp [tab122, tr122, TT.den, p k, f k, hf]
  intro k
  match k with
  | 0 => simp [fden]
  | 1 => rw [fden]; simp [tab134, tr134, TT.den, fden]
  | 2 =>
    have : fden tab 1 122 [Vu a] = none := by rw [fden]; simp [tab122, tr122, TT.den, fden]
    rw [fden]; simp [tab134, tr134, TT.den, this]
  | k + 3 => rw [fden]; simp [tab134, tr134, TT.den, q k, nan0]
theorem canon_raw (k : Nat) {ps qs : List PV} (h2 : qs.length = 1) (h3 : All2 RawEq ps qs) : fden tab k 134 ps = fden tab k 134 qs := by
  match ps, qs, h2, h3 with
  | [p], [q], _, h3 =>
    rcases h3.1 with h | ⟨n, h, h'⟩
    · rw [h]
    · by_cases hn : nanB n
      · rw [h, h', cnF_nanB hn]
        have hz : nanB nan0 := by decide
        exact (canon_nan hz k).trans (canon_nan hn k).symm
      · rw [h, h', cnF_ok hn]
  | [], [_], _, h3 => exact absurd h3 (by simp [All2])
  | _ :: _ :: _, [_], _, h3 => exact absurd h3 (by simp [All2])
end Go.Proofs.Ythchhkghjfendab.Dx

namespace Go.Proofs.Ythchhkghjfendab.Dx
open Go
end Go.Proofs.Ythchhkghjfendab.Dx

namespace Go.Proofs.Ythchhkghjfendab.Dx
open Go
end Go.Proofs.Ythchhkghjfendab.Dx

namespace Go.Proofs.Ythchhkghjfendab.Dx
open Go

end Go.Proofs.Ythchhkghjfendab.Dx

namespace Go.Proofs.Ythchhkghjfendab.Dx
open Go

end Go.Proofs.Ythchhkghjfendab.Dx

namespace Go.Proofs.Ythchhkghjfendab.Dx
open Go

end Go.Proofs.Ythchhkghjfendab.Dx

namespace Go.Proofs.Ythchhkghjfendab.Dx
open Go

end Go.Proofs.Ythchhkghjfendab.Dx

namespace Go.Proofs.Ythchhkghjfendab.Dx
open Go

end Go.Proofs.Ythchhkghjfendab.Dx

namespace Go.Proofs.Ythchhkghjfendab.Dx
open Go

end Go.Proofs.Ythchhkghjfendab.Dx

namespace Go.Proofs.Ythchhkghjfendab.Dx
open Go

def zeroB (b : Nat) : Prop := fMag b = 0 ∧ fPow b = 0
instance (b : Nat) : Decidable (zeroB b) := inferInstanceAs (Decidable (_ ∧ _))
def infB (b : Nat) : Prop := fPow b = 2047 ∧ fFrac b = 0
instance (b : Nat) : Decidable (infB b) := inferInstanceAs (Decidable (_ ∧ _))
end Go.Proofs.Ythchhkghjfendab.Dx

namespace Go.Proofs.Ythchhkghjfendab.Dx
open Go

end Go.Proofs.Ythchhkghjfendab.Dx

namespace Go.Proofs.Ythchhkghjfendab.Dx
open Go

end Go.Proofs.Ythchhkghjfendab.Dx

namespace Go.Proofs.Ythchhkghjfendab.Dx
open Go

end Go.Proofs.Ythchhkghjfendab.Dx

namespace Go.Proofs.Ythchhkghjfendab.Dx
open Go

end Go.Proofs.Ythchhkghjfendab.Dx

namespace Go.Proofs.Ythchhkghjfendab.Dx
open Go

end Go.Proofs.Ythchhkghjfendab.Dx

namespace Go.Proofs.Ythchhkghjfendab.Dx
open Go

end Go.Proofs.Ythchhkghjfendab.Dx

namespace Go.Proofs.Ythchhkghjfendab.Dx
open Go

end Go.Proofs.Ythchhkghjfendab.Dx

namespace Go.Proofs.Ythchhkghjfendab.Dx
open Go

end Go.Proofs.Ythchhkghjfendab.Dx

namespace Go.Proofs.Ythchhkghjfendab.Dx
open Go

section
variable {a b : Nat} (ha : a < 18446744073709551616) (hb : b < 18446744073709551616)
include ha hb
end
section
variable {b : Nat} (hb : b < 18446744073709551616)
include hb
end
end Go.Proofs.Ythchhkghjfendab.Dx

namespace Go.Proofs.Ythchhkghjfendab.Dx
open Go

def Words (x : List Nat) : Prop := ∀ a ∈ x, a < 18446744073709551616
def el (x : List Nat) (i : Nat) : Nat := x.getD i 0
def Vl (x : List Nat) : PV := .l (x.map Vu)
@[simp] theorem len_V (x : List Nat) : U.len.den (Vl x) = Vi x.length := by simp [Vl]
theorem get_V {x : List Nat} {i : Nat} (h : i < x.length) : B.get.den (Vl x) (Vi i) = Vu (el x i) := by
  rw [Vl, get_l _ rfl]
  simp [el, List.getD_eq_getElem?_getD, h]
@[simp] theorem nil_V : PV.l [] = Vl [] := rfl
@[simp] theorem wl_nil_V : wl [] = Vl [] := rfl
theorem Words.el {x : List Nat} (h : Words x) (i : Nat) : el x i < 18446744073709551616 := by
  rw [Dx.el, List.getD_eq_getElem?_getD]
  cases hx : x[i]? with
  | none => simp
  | some a => exact h a (List.mem_of_getElem? hx)

theorem pv_u64 {p : PV} (h : PvT (.int .u64) p) : ∃ n : Nat, p = Vu n ∧ n < 18446744073709551616 := by
  obtain ⟨a, rfl, hw⟩ := h
  obtain ⟨n, rfl, hn⟩ := wf_u64 hw
  exact ⟨n, rfl, hn⟩
theorem pv_i64 {p : PV} (h : PvT (.int .i64) p) : ∃ x : Int, p = Vi x ∧ -9223372036854775808 ≤ x ∧ x < 9223372036854775808 := by
  obtain ⟨a, rfl, hw⟩ := h
  exact ⟨a, rfl, wf_i64 hw⟩
theorem pv_bool {p : PV} (h : PvT .bool p) : ∃ b : Bool, p = Vb b := h
theorem pv_lu {p : PV} (h : PvT (.sl .u64) p) : ∃ x : List Nat, p = Vl x ∧ Words x ∧ x.length ≤ 17592186043904 := by
  obtain ⟨zs, rfl, hw, hl⟩ := h
  refine ⟨zs.map Int.toNat, ?_, ?_, ?_⟩
  · unfold Vl
    rw [List.map_map]
    refine congrArg PV.l (List.map_congr_left fun z hz => ?_)
    obtain ⟨n, rfl, _⟩ := wf_u64 (hw z hz)
    rfl
  · intro a ha
    obtain ⟨z, hz, rfl⟩ := List.mem_map.1 ha
    obtain ⟨n, rfl, hn⟩ := wf_u64 (hw z hz)
    simpa using hn
  · rw [List.length_map]
    have h1 : zs.length * 8 ≤ reachBytes := hl
    have h2 : reachBytes = 140737488351232 := rfl
    rw [h2] at h1
    omega
section
variable {x y : List Nat} (hx : Words x) (hy : Words y) (hl : x.length = y.length) (h64 : x.length < 9000000000000000000)
include hx hy hl h64
end
end Go.Proofs.Ythchhkghjfendab.Dx

namespace Go.Proofs.Ythchhkghjfendab.Dx
open Go

section
variable {x : List Nat} (hx : Words x) (h64 : x.length < 9000000000000000000)
include hx h64
end
section
variable {x : List Nat} (hx : Words x) (h64 : x.length < 9000000000000000000)
include hx h64
end

def finR (x : List Nat) : Nat → Nat → Bool
  | 0, _ => true
  | n + 1, i => if fPow (el x i) = 2047 then false else finR x n (i + 1)
def finV (x : List Nat) : Bool := finR x x.length 0
section
variable {x : List Nat} (hx : Words x) (h64 : x.length < 9000000000000000000)
include hx h64
theorem fin9_loop {x1 : PV} : ∀ (n : Nat) {i : Nat}, i + n = x.length →
    rounds (fun vs => lo155_1.dv (Vl x :: vs)) [x1, Vi i] = some (if finR x n i then .y (.ext 0) [x1] else .y .ret []) := by
  intro n
  induction n with
  | zero =>
    intro i hi
    refine rounds_exit ?_ (by simp [finR])
    simp [lo155_1, TT.dv, show ¬ i < x.length by omega, finR]
  | succ n ih =>
    intro i hi
    have g1 := get_V (x := x) (i := i) (by omega)
    have f1 := finite4_ok (hx.el i)
    have hp := fPow_lt (el x i)
    unfold finR
    by_cases c : fPow (el x i) = 2047
    · rw [if_pos c]
      refine rounds_exit ?_ (by simp)
      simp [lo155_1, TT.dv, show i < x.length by omega, g1, f1, c]
    · rw [if_neg c]
      have e1 : (B.add .i64).den (Vi i) (Vi 1) = Vi (i + 1) := add_i (by omega) (by omega)
      refine Eq.trans (rounds_cont ?_) (ih (i := i + 1) (by omega))
      simp [lo155_1, TT.dv, show i < x.length by omega, g1, f1, show fPow (el x i) < 2047 by omega, e1]
theorem finite_9_ok : val 155 [Vl x] = some [Vb (finV x)] := by
  refine val_of tab155 ?_
  have h := fin9_loop hx h64 (x1 := Vb false) x.length (i := 0) (by omega)
  rw [show ((0 : Nat) : Int) = 0 from rfl] at h
  unfold finV
  cases hc : finR x x.length 0 <;> rw [hc] at h <;> simp [tr155, TT.dv, KS.dv, h]
end

section
variable {x : List Nat} (hx : Words x) (h64 : x.length < 9000000000000000000) {k : Int} (hk : -1100 ≤ k ∧ k ≤ 1100)
include hx h64 hk
end
end Go.Proofs.Ythchhkghjfendab.Dx

namespace Go.Proofs.Ythchhkghjfendab.Dx
open Go

/-- What a function makes of each place. -/
def mk (g : Nat → Nat) (n : Nat) : List Nat := (List.range n).map g
@[simp] theorem mk_len (g : Nat → Nat) (n : Nat) : (mk g n).length = n := by simp [mk]
/-- Boxes and functions that catch them. -/
@[simp] theorem toA_V (l : List PV) : U.toA.den (.l l) = .a l := rfl
@[simp] theorem fld0_a (p : PV) (l : List PV) : (U.fld 0).den (.a (p :: l)) = p := rfl
section
variable {a : Nat} {x y : List Nat} (ha : a < 18446744073709551616) (hx : Words x) (hy : Words y) (hl : x.length = y.length) (h64 : x.length < 17592186044416)
include ha hx hy hl h64
end
section
variable {a : Nat} {x : List Nat} (ha : a < 18446744073709551616) (hx : Words x) (h64 : x.length < 17592186044416)
include ha hx h64
end
end Go.Proofs.Ythchhkghjfendab.Dx

namespace Go.Proofs.Ythchhkghjfendab.Dx
open Go

section
variable {f g : Nat} (hf : f < 18446744073709551616) (hg : g < 18446744073709551616)
include hf hg
end
end Go.Proofs.Ythchhkghjfendab.Dx

namespace Go.Proofs.Ythchhkghjfendab.Dx
open Go

/-- The place of row i, column k. -/
def ps (i c k : Nat) : Nat := i * c + k
theorem ps_lt {i c k r : Nat} (hi : i < r) (hk : k < c) : ps i c k < r * c := by
  unfold ps
  have h1 : (i + 1) * c ≤ r * c := Nat.mul_le_mul_right c hi
  rw [Nat.add_mul, Nat.one_mul] at h1
  omega
theorem pos_i {i c k : Nat} (hi : i < 100) (hc : c ≤ 100) (hk : k ≤ 100) : (B.add .i64).den ((B.mul .i64).den (Vi i) (Vi c)) (Vi k) = Vi (ps i c k) := by
  have h1 : i * c ≤ 100 * 100 := Nat.mul_le_mul (by omega) hc
  have h2 : (i : Int) * c = ((i * c : Nat) : Int) := by rw [Int.natCast_mul]
  rw [mul_i (by rw [h2]; omega) (by rw [h2]; omega), h2, add_i (by omega) (by omega)]
  unfold ps
  exact congrArg Vi (by omega)
/-- Right matrices. -/
structure Mx (r c : Nat) (x : List Nat) : Prop where
  hr : r ≤ 6
  hc : c ≤ 6
  len : x.length = r * c
  w : Words x
theorem Mx.lt {r c : Nat} {x : List Nat} (h : Mx r c x) {i k : Nat} (hi : i < r) (hk : k < c) : ps i c k < x.length := by rw [h.len]; exact ps_lt hi hk
def rightP (R C : Int) (x : List Nat) : Prop := 0 ≤ R ∧ R ≤ 6 ∧ 0 ≤ C ∧ C ≤ 6 ∧ (x.length : Int) = R * C
instance (R C : Int) (x : List Nat) : Decidable (rightP R C x) := by unfold rightP; exact inferInstance
theorem right_mx {R C : Int} {x : List Nat} (h : rightP R C x) (hw : Words x) : ∃ r c : Nat, R = r ∧ C = c ∧ Mx r c x := by
  obtain ⟨h1, h2, h3, h4, h5⟩ := h
  refine ⟨R.toNat, C.toNat, by omega, by omega, by omega, by omega, ?_, hw⟩
  have e1 : R = R.toNat := by omega
  have e2 : C = C.toNat := by omega
  rw [e1, e2, ← Int.natCast_mul] at h5
  omega
theorem size_ok (n : Int) : val 259 [Vi n] = some [Vb (decide (0 ≤ n ∧ n ≤ 6))] := by
  refine val_of tab259 ?_
  simp [tr259, TT.dv]
theorem small_mul {R C : Int} (h1 : 0 ≤ R ∧ R ≤ 6) (h2 : 0 ≤ C ∧ C ≤ 6) : (B.mul .i64).den (Vi R) (Vi C) = Vi (R * C) := by
  have h3 : R * C ≤ 6 * 6 := Int.mul_le_mul h1.2 h2.2 h2.1 (by omega)
  have h4 : 0 ≤ R * C := Int.mul_nonneg h1.1 h2.1
  exact mul_i (by omega) (by omega)
theorem check_ok (R C : Int) (x : List Nat) : val 246 [Vi R, Vi C, Vl x] = some [Vi (if rightP R C x then 0 else 1)] := by
  refine val_of tab246 ?_
  have s1 := size_ok R
  have s2 := size_ok C
  by_cases h1 : 0 ≤ R ∧ R ≤ 6
  · rw [decide_eq_true h1] at s1
    by_cases h2 : 0 ≤ C ∧ C ≤ 6
    · rw [decide_eq_true h2] at s2
      have hm := small_mul h1 h2
      by_cases h3 : (x.length : Int) = R * C
      · rw [if_pos (show rightP R C x from ⟨h1.1, h1.2, h2.1, h2.2, h3⟩)]
        simp [tr246, TT.dv, s1, s2, hm, h3]
      · rw [if_neg (show ¬ rightP R C x from fun h => h3 h.2.2.2.2)]
        simp [tr246, TT.dv, s1, s2, hm, h3]
    · rw [decide_eq_false h2] at s2
      rw [if_neg (show ¬ rightP R C x from fun h => h2 ⟨h.2.2.1, h.2.2.2.1⟩)]
      simp [tr246, TT.dv, s1, s2]
  · rw [decide_eq_false h1] at s1
    rw [if_neg (show ¬ rightP R C x from fun h => h1 ⟨h.1, h.2.1⟩)]
    simp [tr246, TT.dv, s1]
theorem right_ok10 (R C : Int) (x : List Nat) : val 172 [Vi R, Vi C, Vl x] = some [Vb (decide (rightP R C x))] := by
  refine val_of tab172 ?_
  by_cases h1 : 0 ≤ R ∧ R ≤ 6
  · by_cases h2 : 0 ≤ C ∧ C ≤ 6
    · have hm := small_mul h1 h2
      by_cases h3 : (x.length : Int) = R * C
      · rw [decide_eq_true (show rightP R C x from ⟨h1.1, h1.2, h2.1, h2.2, h3⟩)]
        simp [tr172, TT.dv, hm, h1.1, h1.2, h2.1, h2.2, h3]
      · rw [decide_eq_false (show ¬ rightP R C x from fun h => h3 h.2.2.2.2)]
        simp [tr172, TT.dv, hm, h1.1, h1.2, h2.1, h2.2, h3]
    · rw [decide_eq_false (show ¬ rightP R C x from fun h => h2 ⟨h.2.2.1, h.2.2.2.1⟩)]
      by_cases h3 : 0 ≤ C
      · have h4 : ¬ C ≤ 6 := fun h => h2 ⟨h3, h⟩
        simp [tr172, TT.dv, h1.1, h1.2, h3, h4]
      · simp [tr172, TT.dv, h1.1, h1.2, h3]
  · rw [decide_eq_false (show ¬ rightP R C x from fun h => h1 ⟨h.1, h.2.1⟩)]
    by_cases h3 : 0 ≤ R
    · have h4 : ¬ R ≤ 6 := fun h => h1 ⟨h3, h⟩
      simp [tr172, TT.dv, h3, h4]
    · simp [tr172, TT.dv, h3]
section
variable {r c : Nat} {x : List Nat} (h : Mx r c x)
include h
theorem at_ok {i k : Nat} (hi : i < r) (hk : k < c) : val 166 [Vi r, Vi c, Vl x, Vi i, Vi k] = some [Vu (el x (ps i c k))] := by
  refine val_of tab166 ?_
  have h1 := h.hr
  have h2 := h.hc
  have e1 := pos_i (i := i) (c := c) (k := k) (by omega) (by omega) (by omega)
  have hl := h.lt hi hk
  simp [tr166, TT.dv, e1, hl, get_V hl]
end
section
variable {f r c : Nat} {caps : List PV} {g : Nat → Nat → Nat} (hr : r ≤ 6) (hc : c ≤ 6) (h : ∀ i k : Nat, i < r → k < c → val f (Vi i :: Vi k :: caps) = some [Vu (g i k)])
include hr hc h
end
end Go.Proofs.Ythchhkghjfendab.Dx

namespace Go.Proofs.Ythchhkghjfendab.Dx
open Go

section
variable {r c : Nat} {x : List Nat} (h : Mx r c x)
include h
end

section
variable {r c : Nat} {x : List Nat} (h : Mx r c x) {C S : Nat} (hC : C < 18446744073709551616) (hS : S < 18446744073709551616) {i k : Nat} (hi : i < r) (hk : k < r)
include h hC hS hi hk
end
section
variable {r c : Nat} {x : List Nat} (h : Mx r c x) {C S : Nat} (hC : C < 18446744073709551616) (hS : S < 18446744073709551616) {i k : Nat} (hi : i < c) (hk : k < c)
include h hC hS hi hk
end
end Go.Proofs.Ythchhkghjfendab.Dx

namespace Go.Proofs.Ythchhkghjfendab.Dx
open Go

def colG (x : List Nat) (c k from_ : Nat) (j : Nat) : Nat := el x (ps (from_ + j) c k)
/-- A column from a row on. -/
def colL (r c : Nat) (x : List Nat) (k from_ : Nat) : List Nat := mk (colG x c k from_) (r - from_)
@[simp] theorem colL_len (r c : Nat) (x : List Nat) (k from_ : Nat) : (colL r c x k from_).length = r - from_ := mk_len _ _
section
variable {r c : Nat} {x : List Nat} (h : Mx r c x) {k f : Nat} (hk : k < c) (hf : f ≤ r)
include h hk hf
end
section
variable {r c : Nat} {x : List Nat} (h : Mx r c x) {v : List Nat} (hv : Words v) {tau : Nat} (ht : tau < 18446744073709551616) {i : Nat} (hi : i + v.length ≤ r)
include h hv ht hi
end
end Go.Proofs.Ythchhkghjfendab.Dx

namespace Go.Proofs.Ythchhkghjfendab.Dx
open Go

end Go.Proofs.Ythchhkghjfendab.Dx

namespace Go.Proofs.Ythchhkghjfendab.Dx
open Go

def shG (x : List Nat) (k : Int) (i : Nat) : Nat := scaleV (el x i) k
def shV (x : List Nat) (k : Int) : List Nat := mk (shG x k) x.length
@[simp] theorem shV_len (x : List Nat) (k : Int) : (shV x k).length = x.length := mk_len _ _
section
variable {x : List Nat} (hx : Words x) (h1 : 1 ≤ x.length) (h64 : x.length ≤ 64)
include hx h1 h64
end
end Go.Proofs.Ythchhkghjfendab.Dx

namespace Go.Proofs.Ythchhkghjfendab.Dx
open Go

end Go.Proofs.Ythchhkghjfendab.Dx

namespace Go.Proofs.Ythchhkghjfendab.Dx
open Go

section
variable {r c : Nat} {x : List Nat} (h : Mx r c x) {i : Nat} (hi : i < r)
include h hi
end
section
variable {ra ca rb cb : Nat} {x y : List Nat} (h : Mx ra ca x) (h' : Mx rb cb y) (hcr : ca = rb)
include h h' hcr
end
section
variable {r c : Nat} {x : List Nat} (h : Mx r c x) {i k m n : Nat} (hi : i + m ≤ r) (hk : k + n ≤ c)
include h hi hk
end
end Go.Proofs.Ythchhkghjfendab.Dx

namespace Go.Proofs.Ythchhkghjfendab.Dx
open Go

def chk (R C : Int) (x : List Nat) : Int := if rightP R C x then (if finV x then 0 else 4) else 1
theorem fin2_loop {x : List Nat} {x0 x1 x3 x4 : PV} (h64 : x.length < 9000000000000000000) : ∀ (n : Nat) {i : Nat}, i + n = x.length →
    rounds (fun vs => lo2_1.dv (x0 :: x1 :: Vl x :: x3 :: vs)) [x4, Vi i] = some (if finR x n i then .y (.ext 0) [x4] else .y .ret []) := by
  intro n
  induction n with
  | zero =>
    intro i hi
    refine rounds_exit ?_ (by simp [finR])
    simp [lo2_1, TT.dv, show ¬ i < x.length by omega, finR]
  | succ n ih =>
    intro i hi
    have g1 := get_V (x := x) (i := i) (by omega)
    have f1 := finite_ok (el x i)
    unfold finR
    by_cases c : fPow (el x i) = 2047
    · rw [if_pos c]
      refine rounds_exit ?_ (by simp)
      simp [lo2_1, TT.dv, show i < x.length by omega, g1, f1, c]
    · rw [if_neg c]
      have e1 : (B.add .i64).den (Vi i) (Vi 1) = Vi (i + 1) := add_i (by omega) (by omega)
      refine Eq.trans (rounds_cont ?_) (ih (i := i + 1) (by omega))
      simp [lo2_1, TT.dv, show i < x.length by omega, g1, f1, c, e1]
theorem ccheck_ok (R C : Int) {x : List Nat} (h : x.length ≤ 17592186043904) : val 2 [Vi R, Vi C, Vl x] = some [Vi (chk R C x)] := by
  refine val_of tab2 ?_
  have h1 := check_ok R C x
  unfold chk
  by_cases c : rightP R C x
  · rw [if_pos c] at h1 ⊢
    have hl := fun x0 x1 x3 x4 => fin2_loop (x := x) (x0 := x0) (x1 := x1) (x3 := x3) (x4 := x4) (by omega) x.length (i := 0) (by omega)
    simp only [show ((0 : Nat) : Int) = 0 from rfl] at hl
    unfold finV
    cases hc : finR x x.length 0
    · simp only [hc] at hl
      simp [tr2, TT.dv, KS.dv, h1, hl]
    · simp only [hc] at hl
      simp [tr2, TT.dv, KS.dv, h1, hl]
  · rw [if_neg c] at h1 ⊢
    simp [tr2, TT.dv, h1]
theorem ccheck9_ok (R C : Int) {x : List Nat} (hw : Words x) (h : x.length ≤ 17592186043904) : val 178 [Vi R, Vi C, Vl x] = some [Vi (chk R C x)] := by
  refine val_of tab178 ?_
  have h1 := right_ok10 R C x
  have h2 := finite_9_ok hw (by omega)
  unfold chk
  by_cases c : rightP R C x
  · rw [decide_eq_true c] at h1
    rw [if_pos c]
    cases hc : finV x <;> rw [hc] at h2 <;> simp [tr178, TT.dv, h1, h2]
  · rw [decide_eq_false c] at h1
    rw [if_neg c]
    simp [tr178, TT.dv, h1]
section
variable {r c j : Nat} (hjr : j < r) (hjc : j < c)
include hjr hjc
end
abbrev Mir := List Nat × Nat × Nat
structure MirOK (r j : Nat) (m : Mir) : Prop where
  len : m.1.length = r - j
  w : Words m.1
  t : m.2.1 < 18446744073709551616
  b : m.2.2 < 18446744073709551616
section
variable {r c j : Nat} {x : List Nat} (h : Mx r c x) (hj : j < c) (hjr : j < r)
include h hj hjr
end
def MsOK (r : Nat) (ms : List Mir) : Prop := ∀ j m, ms[j]? = some m → MirOK r j m
theorem MsOK.app {r : Nat} {ms : List Mir} (h : MsOK r ms) {m : Mir} (hm : MirOK r ms.length m) : MsOK r (ms ++ [m]) := by
  intro j m' hj
  rcases Nat.lt_or_ge j ms.length with h1 | h1
  · rw [List.getElem?_append_left h1] at hj; exact h j m' hj
  · rw [List.getElem?_append_right h1] at hj
    have : j = ms.length := by
      rcases Nat.eq_or_lt_of_le h1 with h2 | h2
      · exact h2.symm
      · rw [List.getElem?_eq_none (by simp; omega)] at hj; cases hj
    subst this
    simp at hj; subst hj; exact hm
end Go.Proofs.Ythchhkghjfendab.Dx

namespace Go.Proofs.Ythchhkghjfendab.Dx
open Go

section
variable {r : Nat} {ms : List Mir} (hms : MsOK r ms) (hml : ms.length ≤ r)
include hms hml
end
end Go.Proofs.Ythchhkghjfendab.Dx

namespace Go.Proofs.Ythchhkghjfendab.Dx
open Go

theorem chk_cases (R C : Int) (x : List Nat) : chk R C x ≠ 0 ∨ (chk R C x = 0 ∧ rightP R C x ∧ finV x = true) := by
  unfold chk
  by_cases h : rightP R C x
  · rw [if_pos h]
    cases hf : finV x
    · left; simp
    · right; exact ⟨by simp, h, rfl⟩
  · rw [if_neg h]; left; decide
end Go.Proofs.Ythchhkghjfendab.Dx

namespace Go.Proofs.Ythchhkghjfendab.Dx
open Go

section
variable {r c : Nat} {y : List Nat} (h : Mx r c y) (hu : ∀ a b, b < a → a < r → b < c → el y (ps a c b) = 0)
include h hu
end
end Go.Proofs.Ythchhkghjfendab.Dx

namespace Go.Proofs.Ythchhkghjfendab.Dx
open Go

section
variable {r c : Nat} {x : List Nat} (h : Mx r c x) {up over : Bool}
include h
end
section
variable {r c : Nat} {y : List Nat} (h : Mx r c y)
include h
end
end Go.Proofs.Ythchhkghjfendab.Dx

namespace Go.Proofs.Ythchhkghjfendab.Dx
open Go

theorem awake_18 : val 76 [] = some [Vb true] := val_iff.2 ⟨20000, by kernel_rfl⟩
end Go.Proofs.Ythchhkghjfendab.Dx

namespace Go.Proofs.Ythchhkghjfendab.Dx
open Go

theorem hat_ok {r c : Nat} {x : List Nat} (h : Mx r c x) {i k : Nat} (hi : i < r) (hk : k < c) : val 235 [Vi r, Vi c, Vl x, Vi i, Vi k] = some [Vu (el x (ps i c k))] := by
  refine val_of tab235 ?_
  have h1 := h.hr
  have h2 := h.hc
  have e1 := pos_i (i := i) (c := c) (k := k) (by omega) (by omega) (by omega)
  have hl := h.lt hi hk
  simp [tr235, TT.dv, e1, hl, get_V hl]
def dzR (n : Nat) (x : List Nat) : Nat → Nat → Nat → Nat
  | 0, _, s => s
  | m + 1, i, s => dzR n x m (i + 1) (if fKind (el x (ps i n i)) = 0 then s + 1 else s)
section
variable {n : Nat} {x : List Nat} (h : Mx n n x)
include h
theorem inf_loop {x3 : PV} : ∀ (m : Nat) {i s : Nat}, i + m = n → s ≤ i →
    rounds (fun vs => lo234_1.dv (Vi n :: Vi n :: Vl x :: x3 :: vs)) [Vi s, Vi i] = some (.y (.ext 0) [Vi (dzR n x m i s)]) := by
  intro m
  have hn := h.hr
  induction m with
  | zero =>
    intro i s hi hs
    have : i = n := by omega
    subst this
    refine rounds_exit ?_ (by simp)
    simp [lo234_1, TT.dv, dzR]
  | succ m ih =>
    intro i s hi hs
    have hin : i < n := by omega
    have g1 := hat_ok h hin hin
    have k1 := kind_ok (el x (ps i n i))
    have e1 : (B.add .i64).den (Vi i) (Vi 1) = Vi ((i + 1 : Nat) : Int) := by rw [add_i (by omega) (by omega)]; rfl
    have e2 : (B.add .i64).den (Vi s) (Vi 1) = Vi ((s + 1 : Nat) : Int) := by rw [add_i (by omega) (by omega)]; rfl
    unfold dzR
    by_cases c : fKind (el x (ps i n i)) = 0
    · rw [if_pos c, ← ih (i := i + 1) (s := s + 1) (by omega) (by omega)]
      refine rounds_cont ?_
      generalize ((i + 1 : Nat) : Int) = z at *
      generalize ((s + 1 : Nat) : Int) = w at *
      simp [lo234_1, TT.dv, KS.dv, hin, g1, k1, c, e1, e2]
    · rw [if_neg c, ← ih (i := i + 1) (s := s) (by omega) (by omega)]
      refine rounds_cont ?_
      generalize ((i + 1 : Nat) : Int) = z at *
      simp [lo234_1, TT.dv, KS.dv, hin, g1, k1, c, e1]
theorem inf9_loop {x3 x4 x5 : PV} : ∀ (m : Nat) {i s : Nat}, i + m = n → s ≤ i →
    rounds (fun vs => lo72_1.dv (Vi n :: Vi n :: Vl x :: x3 :: x4 :: x5 :: Vi 0 :: vs)) [Vi s, Vi i] = some (.y (.ext 0) [Vi (dzR n x m i s)]) := by
  intro m
  have hn := h.hr
  induction m with
  | zero =>
    intro i s hi hs
    have : i = n := by omega
    subst this
    refine rounds_exit ?_ (by simp)
    simp [lo72_1, TT.dv, dzR]
  | succ m ih =>
    intro i s hi hs
    have hin : i < n := by omega
    have g1 := at_ok h hin hin
    have k1 := kind4_ok (h.w.el (ps i n i))
    have e1 : (B.add .i64).den (Vi i) (Vi 1) = Vi ((i + 1 : Nat) : Int) := by rw [add_i (by omega) (by omega)]; rfl
    have e2 : (B.add .i64).den (Vi s) (Vi 1) = Vi ((s + 1 : Nat) : Int) := by rw [add_i (by omega) (by omega)]; rfl
    unfold dzR
    by_cases c : fKind (el x (ps i n i)) = 0
    · rw [if_pos c, ← ih (i := i + 1) (s := s + 1) (by omega) (by omega)]
      refine rounds_cont ?_
      generalize ((i + 1 : Nat) : Int) = z at *
      generalize ((s + 1 : Nat) : Int) = w at *
      simp [lo72_1, TT.dv, KS.dv, hin, g1, k1, c, e1, e2]
    · rw [if_neg c, ← ih (i := i + 1) (s := s) (by omega) (by omega)]
      refine rounds_cont ?_
      generalize ((i + 1 : Nat) : Int) = z at *
      simp [lo72_1, TT.dv, KS.dv, hin, g1, k1, c, e1]
end
theorem inf9_none {x0 x1 x2 x3 x4 x5 : PV} {R e : Int} (he : e ≠ 0) : rounds (fun vs => lo72_1.dv (Vi R :: x1 :: x2 :: x3 :: x4 :: x5 :: Vi e :: vs)) [Vi 0, Vi 0] = some (.y (.ext 0) [Vi 0]) := by
  refine rounds_exit ?_ (by simp)
  simp [lo72_1, TT.dv, he]
theorem law_HessInfinite {R C : Int} (_ : -9223372036854775808 ≤ R) (_ : R < 9223372036854775808) (_ : -9223372036854775808 ≤ C) (_ : C < 9223372036854775808) {x : List Nat} (hw : Words x) (hl : x.length ≤ 17592186043904) :
    val 72 [Vi R, Vi C, Vl x] = some [Vb true] := by
  refine val_of tab72 ?_
  have c1 := ccheck_ok R C hl
  have c9 := ccheck9_ok R C hw hl
  rcases chk_cases R C x with hc | ⟨hc, hr, hf⟩
  · have f1 : val 234 [Vi R, Vi C, Vl x] = some [Vi 0, Vi (chk R C x)] := by
      refine val_of tab234 ?_
      simp [tr234, TT.dv, c1, hc]
    have lp := fun x1 x2 x3 x4 x5 => inf9_none (R := R) (x0 := x1) (x1 := x1) (x2 := x2) (x3 := x3) (x4 := x4) (x5 := x5) hc
    generalize chk R C x = e at *
    simp [tr72, TT.dv, KS.dv, f1, c9, hc, lp, awake_18]
  · rw [hc] at c1 c9
    by_cases hRC : R = C
    · subst hRC
      obtain ⟨n, n', e1, e2, h⟩ := right_mx hr hw
      obtain rfl : n = n' := by omega
      subst e1
      have lp := fun x3 => inf_loop h (x3 := x3) n (i := 0) (s := 0) (by omega) (Nat.le_refl _)
      have lp9 := fun x3 x4 x5 => inf9_loop h (x3 := x3) (x4 := x4) (x5 := x5) n (i := 0) (s := 0) (by omega) (Nat.le_refl _)
      simp only [show ((0 : Nat) : Int) = 0 from rfl] at lp lp9
      have f1 : val 234 [Vi n, Vi n, Vl x] = some [Vi (dzR n x n 0 0), Vi 0] := by
        refine val_of tab234 ?_
        simp [tr234, TT.dv, KS.dv, c1, lp]
      simp [tr72, TT.dv, KS.dv, f1, c9, lp9, awake_18]
    · have f1 : val 234 [Vi R, Vi C, Vl x] = some [Vi 0, Vi 3] := by
        refine val_of tab234 ?_
        simp [tr234, TT.dv, c1, hRC]
      have lp := fun x1 x2 x3 x4 x5 => inf9_none (R := R) (x0 := x1) (x1 := x1) (x2 := x2) (x3 := x3) (x4 := x4) (x5 := x5) (e := 3) (by decide)
      simp [tr72, TT.dv, KS.dv, f1, c9, hRC, lp, awake_18]
section
variable {n b : Nat} (hb : b ≤ 1)
include hb
end
end Go.Proofs.Ythchhkghjfendab.Dx
