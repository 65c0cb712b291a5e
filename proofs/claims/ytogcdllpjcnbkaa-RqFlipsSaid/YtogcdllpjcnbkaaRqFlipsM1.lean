/- The pure meaning of the functions that the law reaches, and that the law is true of it. No conditions. -/
import Derived.KernelRfl
import Derived.Test.YtogcdllpjcnbkaaRqFlipsTab
set_option linter.all false
namespace Go.Proofs.Ytogcdllpjcnbkaa.Dx
open Go

def LeF (F G : Nat → List PV → Option (List PV)) : Prop := ∀ f a rs, F f a = some rs → G f a = some rs
section
variable {α : Type} {F G : Nat → List PV → Option (List PV)} {N M : Nat}
theorem iter_mono {f g : List PV → Option (Out α)} (h : ∀ vs o, f vs = some o → g vs = some o) : ∀ {n m : Nat} {vs : List PV} {o : Out α}, n ≤ m → iter f n vs = some o → iter g m vs = some o
  | 0, _, _, _, _, hi => by simp [iter] at hi
  | n + 1, 0, _, _, hl, _ => by omega
  | n + 1, m + 1, vs, o, hl, hi => by
    unfold iter at hi ⊢
    split at hi
    · rename_i vs' hf
      rw [h _ _ hf]
      exact iter_mono h (by omega) hi
    · rename_i o' hne
      rw [h _ _ hi]
      split
      · rename_i vs' heq
        cases heq
        exact absurd hi (hne _)
      · rfl
mutual
theorem TT.den_mono (hF : LeF F G) (hN : N ≤ M) : ∀ {t : TT α} {ρ : List PV} {o : Out α}, t.den F N ρ = some o → t.den G M ρ = some o
  | .leaf _ _, _, _, h => h
  | .yield _ _, _, _, h => h
  | .fail _, _, _, h => by simp [TT.den] at h
  | .assert e t, ρ, o, h => by
    simp only [TT.den] at h ⊢
    split at h
    · rename_i he; rw [if_pos he]; exact TT.den_mono hF hN h
    · cases h
  | .call g f xs n t, ρ, o, h => by
    simp only [TT.den] at h ⊢
    split at h
    · rename_i he
      rw [if_pos he]
      split at h
      · rename_i rs hrs
        rw [hF _ _ _ hrs]
        split at h
        · rename_i hl; simp only [hl, if_true]; exact TT.den_mono hF hN h
        · cases h
      · cases h
    · rename_i he; rw [if_neg he]; exact TT.den_mono hF hN h
  | .callv x xs n t, ρ, o, h => by
    simp only [TT.den] at h ⊢
    split at h
    · rename_i f caps hx
      split at h
      · rename_i rs hrs
        rw [hF _ _ _ hrs]
        split at h
        · rename_i hl; simp only [hl, if_true]; exact TT.den_mono hF hN h
        · cases h
      · cases h
    · cases h
  | .ite c a b, ρ, o, h => by
    simp only [TT.den] at h ⊢
    split at h
    · rename_i hc; rw [if_pos hc]; exact TT.den_mono hF hN h
    · rename_i hc; rw [if_neg hc]; exact TT.den_mono hF hN h
  | .scope t ks, ρ, o, h => by
    simp only [TT.den] at h ⊢
    split at h
    · rename_i x vs ht
      rw [TT.den_mono hF hN ht]
      exact KS.den_mono hF hN h
    · cases h
  | .loop i t ks, ρ, o, h => by
    simp only [TT.den] at h ⊢
    split at h
    · rename_i x vs ht
      rw [iter_mono (fun vs o h => TT.den_mono hF hN h) hN ht]
      exact KS.den_mono hF hN h
    · cases h
theorem KS.den_mono (hF : LeF F G) (hN : N ≤ M) : ∀ {ks : KS α} {x : Ex} {vs ρ : List PV} {o : Out α}, ks.den F N x vs ρ = some o → ks.den G M x vs ρ = some o
  | .nil, _, _, _, _, h => by simp [KS.den] at h
  | .cons y t ks, x, vs, ρ, o, h => by
    simp only [KS.den] at h ⊢
    split at h
    · rename_i hc; rw [if_pos hc]; exact TT.den_mono hF hN h
    · rename_i hc; rw [if_neg hc]; exact KS.den_mono hF hN h
end
end
theorem fden_mono : ∀ {k m : Nat}, k ≤ m → LeF (fden tab k) (fden tab m)
  | 0, _, _, _, _, _, h => by simp [fden] at h
  | k + 1, 0, hl, _, _, _, _ => by omega
  | k + 1, m + 1, hl, f, a, rs, h => by
    simp only [fden] at h ⊢
    split at h
    · cases h
    · split at h
      · rename_i t ht vs hv
        rw [TT.den_mono (fden_mono (by omega : k ≤ m)) (by omega : k ≤ m) hv]; exact h
      · cases h

open Classical in
/-- What a function answers. -/
noncomputable def val (f : Nat) (a : List PV) : Option (List PV) := if h : ∃ rs k, fden tab k f a = some rs then some (Classical.choose h) else none
theorem val_iff {f : Nat} {a rs : List PV} : val f a = some rs ↔ ∃ k, fden tab k f a = some rs := by
  unfold val
  constructor
  · intro h
    split at h
    · rename_i hh
      cases h
      exact Classical.choose_spec hh
    · cases h
  · rintro ⟨k, hk⟩
    have hh : ∃ rs k, fden tab k f a = some rs := ⟨rs, k, hk⟩
    rw [dif_pos hh]
    obtain ⟨k', hk'⟩ := Classical.choose_spec hh
    have h1 := fden_mono (Nat.le_max_left k k') _ _ _ hk
    have h2 := fden_mono (Nat.le_max_right k k') _ _ _ hk'
    rw [h1] at h2
    exact h2.symm

open Classical in
/-- What rounds come to. -/
noncomputable def rounds (f : List PV → Option (Out Unit)) (vs : List PV) : Option (Out Unit) := if h : ∃ o n, iter f n vs = some o then some (Classical.choose h) else none
theorem rounds_iff {f : List PV → Option (Out Unit)} {vs : List PV} {o : Out Unit} : rounds f vs = some o ↔ ∃ n, iter f n vs = some o := by
  unfold rounds
  constructor
  · intro h
    split at h
    · rename_i hh
      cases h
      exact Classical.choose_spec hh
    · cases h
  · rintro ⟨k, hk⟩
    have hh : ∃ o n, iter f n vs = some o := ⟨o, k, hk⟩
    rw [dif_pos hh]
    obtain ⟨k', hk'⟩ := Classical.choose_spec hh
    have h1 := iter_mono (fun _ _ h => h) (Nat.le_max_left k k') hk
    have h2 := iter_mono (fun _ _ h => h) (Nat.le_max_right k k') hk'
    rw [h1] at h2
    exact h2.symm
/-- A loop's first round. -/
theorem rounds_eq (f : List PV → Option (Out Unit)) (vs : List PV) : rounds f vs = match f vs with | some (.y .cont vs') => rounds f vs' | o => o := by
  have key : ∀ o, rounds f vs = some o ↔ (match f vs with | some (.y .cont vs') => rounds f vs' | o => o) = some o := fun o => by
    rw [rounds_iff]
    constructor
    · rintro ⟨n, hn⟩
      cases n with
      | zero => simp [iter] at hn
      | succ n =>
        unfold iter at hn
        split at hn
        · rename_i vs' hf
          rw [hf]
          exact rounds_iff.2 ⟨n, hn⟩
        · rename_i o' hne
          rw [hn]
          split
          · rename_i vs' heq
            cases heq
            exact absurd hn (hne _)
          · rfl
    · intro h
      split at h
      · rename_i vs' hf
        obtain ⟨n, hn⟩ := rounds_iff.1 h
        exact ⟨n + 1, by unfold iter; rw [hf]; exact hn⟩
      · rename_i o' hne
        refine ⟨1, ?_⟩
        unfold iter
        rw [h]
        split
        · rename_i vs' heq
          cases heq
          exact absurd h (hne _)
        · rfl
  cases h1 : rounds f vs with
  | some o => exact ((key o).1 h1).symm
  | none =>
    generalize hr : (match f vs with | some (.y .cont vs') => rounds f vs' | o => o) = r at key
    cases r with
    | none => rfl
    | some o => rw [(key o).2 rfl] at h1; cases h1
theorem rounds_cont {f : List PV → Option (Out Unit)} {vs vs' : List PV} (h : f vs = some (.y .cont vs')) : rounds f vs = rounds f vs' := by
  rw [rounds_eq, h]
theorem rounds_exit {f : List PV → Option (Out Unit)} {vs us : List PV} {x : Ex} (h : f vs = some (.y x us)) (hx : x ≠ .cont) : rounds f vs = some (.y x us) := by
  rw [rounds_eq, h]
  cases x <;> first | rfl | exact absurd rfl hx

mutual
/-- What a tree comes to. -/
noncomputable def TT.dv : TT Unit → List PV → Option (Out Unit)
  | .leaf x s, ρ => some (.lf x s ρ)
  | .yield x xs, ρ => some (.y x (xs.map (Exp.den ρ)))
  | .fail _, _ => none
  | .assert e t, ρ => if e.isTrue ρ then t.dv ρ else none
  | .call g f xs n t, ρ =>
    if g.isTrue ρ then
      match val f (xs.map (Exp.den ρ)) with
      | some rs => if rs.length = n then t.dv (ρ ++ rs) else none
      | none => none
    else t.dv (ρ ++ List.replicate n default)
  | .callv x xs n t, ρ =>
    match x.den ρ with
    | .fn f caps =>
      match val f (xs.map (Exp.den ρ) ++ caps) with
      | some rs => if rs.length = n then t.dv (ρ ++ rs) else none
      | none => none
    | _ => none
  | .ite c a b, ρ => if c.isTrue ρ then a.dv ρ else b.dv ρ
  | .scope t ks, ρ =>
    match t.dv ρ with
    | some (.y x vs) => ks.dv x vs ρ
    | _ => none
  | .loop init t ks, ρ =>
    match rounds (fun vs => t.dv (ρ ++ vs)) (init.map (Exp.den ρ)) with
    | some (.y x vs) => ks.dv x vs ρ
    | _ => none
noncomputable def KS.dv : KS Unit → Ex → List PV → List PV → Option (Out Unit)
  | .nil, _, _, _ => none
  | .cons x t ks, y, vs, ρ => if x = y then t.dv (ρ ++ vs) else ks.dv y vs ρ
end

def Fin (t : TT Unit) (ρ : List PV) (o : Out Unit) : Prop := ∃ k, t.den (fden tab k) k ρ = some o
theorem iter_fin {t : TT Unit} {ρ : List PV} (ht : ∀ vs o, t.dv (ρ ++ vs) = some o → Fin t (ρ ++ vs) o) : ∀ {n : Nat} {vs : List PV} {o : Out Unit}, iter (fun vs => t.dv (ρ ++ vs)) n vs = some o →
    ∃ k, iter (fun vs => t.den (fden tab k) k (ρ ++ vs)) k vs = some o
  | 0, _, _, h => by simp [iter] at h
  | n + 1, vs, o, h => by
    unfold iter at h
    split at h
    · rename_i vs' hf
      obtain ⟨k1, h1⟩ := ht _ _ hf
      obtain ⟨k2, h2⟩ := iter_fin ht h
      refine ⟨max k1 k2 + 1, ?_⟩
      unfold iter
      rw [TT.den_mono (fden_mono (by omega : k1 ≤ max k1 k2 + 1)) (by omega) h1]
      dsimp only
      exact iter_mono (fun vs o hh => TT.den_mono (fden_mono (by omega : k2 ≤ max k1 k2 + 1)) (by omega) hh) (by omega) h2
    · rename_i o' hne
      obtain ⟨k1, h1⟩ := ht _ _ h
      refine ⟨k1 + 1, ?_⟩
      unfold iter
      rw [TT.den_mono (fden_mono (by omega : k1 ≤ k1 + 1)) (by omega) h1]
      split
      · rename_i vs' heq
        cases heq
        exact absurd h (hne _)
      · rfl
mutual
theorem TT.dv_fin : ∀ {t : TT Unit} {ρ : List PV} {o : Out Unit}, t.dv ρ = some o → Fin t ρ o
  | .leaf _ _, _, _, h => ⟨0, h⟩
  | .yield _ _, _, _, h => ⟨0, h⟩
  | .fail _, _, _, h => by simp [TT.dv] at h
  | .assert e t, ρ, o, h => by
    simp only [TT.dv] at h
    split at h
    · rename_i he
      obtain ⟨k, hk⟩ := TT.dv_fin h
      exact ⟨k, by simp only [TT.den]; rw [if_pos he]; exact hk⟩
    · cases h
  | .call g f xs n t, ρ, o, h => by
    simp only [TT.dv] at h
    split at h
    · rename_i he
      split at h
      · rename_i rs hrs
        split at h
        · rename_i hl
          obtain ⟨k1, h1⟩ := val_iff.1 hrs
          obtain ⟨k2, h2⟩ := TT.dv_fin h
          refine ⟨max k1 k2, ?_⟩
          simp only [TT.den]
          rw [if_pos he, fden_mono (Nat.le_max_left k1 k2) _ _ _ h1]
          simp only [hl, if_true]
          exact TT.den_mono (fden_mono (Nat.le_max_right k1 k2)) (Nat.le_max_right k1 k2) h2
        · cases h
      · cases h
    · rename_i he
      obtain ⟨k, hk⟩ := TT.dv_fin h
      exact ⟨k, by simp only [TT.den]; rw [if_neg he]; exact hk⟩
  | .callv x xs n t, ρ, o, h => by
    simp only [TT.dv] at h
    split at h
    · rename_i f caps hx
      split at h
      · rename_i rs hrs
        split at h
        · rename_i hl
          obtain ⟨k1, h1⟩ := val_iff.1 hrs
          obtain ⟨k2, h2⟩ := TT.dv_fin h
          refine ⟨max k1 k2, ?_⟩
          simp only [TT.den, hx]
          rw [fden_mono (Nat.le_max_left k1 k2) _ _ _ h1]
          simp only [hl, if_true]
          exact TT.den_mono (fden_mono (Nat.le_max_right k1 k2)) (Nat.le_max_right k1 k2) h2
        · cases h
      · cases h
    · cases h
  | .ite c a b, ρ, o, h => by
    simp only [TT.dv] at h
    split at h
    · rename_i hc
      obtain ⟨k, hk⟩ := TT.dv_fin h
      exact ⟨k, by simp only [TT.den]; rw [if_pos hc]; exact hk⟩
    · rename_i hc
      obtain ⟨k, hk⟩ := TT.dv_fin h
      exact ⟨k, by simp only [TT.den]; rw [if_neg hc]; exact hk⟩
  | .scope t ks, ρ, o, h => by
    simp only [TT.dv] at h
    split at h
    · rename_i x vs ht
      obtain ⟨k1, h1⟩ := TT.dv_fin ht
      obtain ⟨k2, h2⟩ := KS.dv_fin h
      refine ⟨max k1 k2, ?_⟩
      simp only [TT.den]
      rw [TT.den_mono (fden_mono (Nat.le_max_left k1 k2)) (Nat.le_max_left k1 k2) h1]
      exact KS.den_mono (fden_mono (Nat.le_max_right k1 k2)) (Nat.le_max_right k1 k2) h2
    · cases h
  | .loop i t ks, ρ, o, h => by
    simp only [TT.dv] at h
    split at h
    · rename_i x vs ht
      obtain ⟨n, hn⟩ := rounds_iff.1 ht
      obtain ⟨k1, h1⟩ := iter_fin (fun vs o hh => TT.dv_fin hh) hn
      obtain ⟨k2, h2⟩ := KS.dv_fin h
      refine ⟨max k1 k2, ?_⟩
      simp only [TT.den]
      rw [iter_mono (fun vs o hh => TT.den_mono (fden_mono (Nat.le_max_left k1 k2)) (Nat.le_max_left k1 k2) hh) (Nat.le_max_left k1 k2) h1]
      exact KS.den_mono (fden_mono (Nat.le_max_right k1 k2)) (Nat.le_max_right k1 k2) h2
    · cases h
theorem KS.dv_fin : ∀ {ks : KS Unit} {x : Ex} {vs ρ : List PV} {o : Out Unit}, ks.dv x vs ρ = some o → ∃ k, ks.den (fden tab k) k x vs ρ = some o
  | .nil, _, _, _, _, h => by simp [KS.dv] at h
  | .cons y t ks, x, vs, ρ, o, h => by
    simp only [KS.dv] at h
    split at h
    · rename_i hc
      obtain ⟨k, hk⟩ := TT.dv_fin h
      exact ⟨k, by simp only [KS.den]; rw [if_pos hc]; exact hk⟩
    · rename_i hc
      obtain ⟨k, hk⟩ := KS.dv_fin h
      exact ⟨k, by simp only [KS.den]; rw [if_neg hc]; exact hk⟩
end
/-- A function answers what its tree comes to. -/
theorem val_of {f : Nat} {t : TT Unit} {a vs : List PV} (ht : tab f = some t) (h : t.dv a = some (.y .ret vs)) : val f a = some vs := by
  obtain ⟨k, hk⟩ := TT.dv_fin h
  exact val_iff.2 ⟨k + 1, by simp only [fden, ht, hk]⟩
end Go.Proofs.Ytogcdllpjcnbkaa.Dx

namespace Go.Proofs.Ytogcdllpjcnbkaa.Dx
open Go

def Vu (n : Nat) : PV := .v (.int .u64 n)
def Vw (n : Nat) : PV := .v (.int .u32 n)
def Vy (n : Nat) : PV := .v (.int .u8 n)
def Vi (x : Int) : PV := .v (.int .i64 x)
def Vb (b : Bool) : PV := .v (.bool b)
def Vf (n : Nat) : PV := .v (.float .f64 n)

@[simp] theorem int_U (n : Nat) : (Vu n).int = n := rfl
@[simp] theorem int_W (n : Nat) : (Vw n).int = n := rfl
@[simp] theorem int_Y (n : Nat) : (Vy n).int = n := rfl
@[simp] theorem int_I (x : Int) : (Vi x).int = x := rfl
@[simp] theorem bool_Bo (b : Bool) : (Vb b).bool = b := rfl
@[simp] theorem flt_Fl (n : Nat) : (Vf n).flt = n := rfl
@[simp] theorem list_l (xs : List PV) : (PV.l xs).list = xs := rfl
@[simp] theorem cells_a (xs : List PV) : (PV.a xs).cells = xs := rfl

theorem wf_u64 {a : Int} (h : (Lit.int .u64 a).wf = true) : ∃ n : Nat, a = n ∧ n < 18446744073709551616 := by
  simp [Lit.wf, IntKind.min, IntKind.max, IntKind.signed, IntKind.bits] at h
  exact ⟨a.toNat, by omega, by omega⟩
theorem wf_i64 {a : Int} (h : (Lit.int .i64 a).wf = true) : -9223372036854775808 ≤ a ∧ a < 9223372036854775808 := by
  simp [Lit.wf, IntKind.min, IntKind.max, IntKind.signed, IntKind.bits] at h
  exact ⟨by omega, by omega⟩

section
variable {ρ : List PV}
@[simp] theorem den_var (n : Nat) : (Exp.var n).den ρ = ρ.getD n default := rfl
@[simp] theorem den_i64 (n : Int) : (Exp.int .i64 n).den ρ = Vi n := rfl
@[simp] theorem den_u64_lit (n : Nat) : (Exp.int .u64 (no_index (OfNat.ofNat n))).den ρ = Vu (OfNat.ofNat n) := rfl
@[simp] theorem den_u32_lit (n : Nat) : (Exp.int .u32 (no_index (OfNat.ofNat n))).den ρ = Vw (OfNat.ofNat n) := rfl
@[simp] theorem den_u8_lit (n : Nat) : (Exp.int .u8 (no_index (OfNat.ofNat n))).den ρ = Vy (OfNat.ofNat n) := rfl
@[simp] theorem den_bool (b : Bool) : (Exp.bool b).den ρ = Vb b := rfl
@[simp] theorem den_flt (n : Nat) : (Exp.flt n).den ρ = Vf n := rfl
@[simp] theorem den_nil : (Exp.nil).den ρ = .l [] := rfl
@[simp] theorem den_un (o : U) (x : Exp) : (Exp.un o x).den ρ = o.den (x.den ρ) := rfl
@[simp] theorem den_bi (o : B) (x y : Exp) : (Exp.bi o x y).den ρ = o.den (x.den ρ) (y.den ρ) := rfl
@[simp] theorem den_tri (o : T3) (x y z : Exp) : (Exp.tri o x y z).den ρ = o.den (x.den ρ) (y.den ρ) (z.den ρ) := rfl
@[simp] theorem isTrue_den (e : Exp) : e.isTrue ρ = (e.den ρ).bool := rfl
end

theorem wrap_u64 (n : Int) : IntKind.u64.wrap n = n % 18446744073709551616 := by simp [IntKind.wrap, IntKind.signed, IntKind.bits]
theorem wrap_u32 (n : Int) : IntKind.u32.wrap n = n % 4294967296 := by simp [IntKind.wrap, IntKind.signed, IntKind.bits]
theorem wrap_u8 (n : Int) : IntKind.u8.wrap n = n % 256 := by simp [IntKind.wrap, IntKind.signed, IntKind.bits]
theorem wrap_i64 (n : Int) : IntKind.i64.wrap n = if n % 18446744073709551616 ≥ 9223372036854775808 then n % 18446744073709551616 - 18446744073709551616 else n % 18446744073709551616 := by
  simp [IntKind.wrap, IntKind.signed, IntKind.bits]
theorem wrap_i64_of {n : Int} (h1 : -9223372036854775808 ≤ n) (h2 : n < 9223372036854775808) : IntKind.i64.wrap n = n := by
  rw [wrap_i64]; split <;> omega

section
variable {x y : Int}
theorem add_i (h1 : -9223372036854775808 ≤ x + y) (h2 : x + y < 9223372036854775808) : (B.add .i64).den (Vi x) (Vi y) = Vi (x + y) := by simp [B.den, Vi, wrap_i64_of h1 h2, PV.int]
theorem sub_i (h1 : -9223372036854775808 ≤ x - y) (h2 : x - y < 9223372036854775808) : (B.sub .i64).den (Vi x) (Vi y) = Vi (x - y) := by simp [B.den, Vi, wrap_i64_of h1 h2, PV.int]
theorem mul_i (h1 : -9223372036854775808 ≤ x * y) (h2 : x * y < 9223372036854775808) : (B.mul .i64).den (Vi x) (Vi y) = Vi (x * y) := by simp [B.den, Vi, wrap_i64_of h1 h2, PV.int]
@[simp] theorem iadd_i : B.iadd.den (Vi x) (Vi y) = Vi (x + y) := rfl
@[simp] theorem isub_i : B.isub.den (Vi x) (Vi y) = Vi (x - y) := rfl
@[simp] theorem lt_i : B.lt.den (Vi x) (Vi y) = Vb (decide (x < y)) := rfl
@[simp] theorem le_i : B.le.den (Vi x) (Vi y) = Vb (decide (x ≤ y)) := rfl
@[simp] theorem gt_i : B.gt.den (Vi x) (Vi y) = Vb (decide (x > y)) := rfl
@[simp] theorem ge_i : B.ge.den (Vi x) (Vi y) = Vb (decide (x ≥ y)) := rfl
@[simp] theorem eq_i : B.eq.den (Vi x) (Vi y) = Vb (decide (x = y)) := rfl
@[simp] theorem ne_i : B.ne.den (Vi x) (Vi y) = Vb (decide (x ≠ y)) := by simp only [B.den, Vb, int_I, PV.v.injEq, Value.bool.injEq]; by_cases h : x = y <;> simp [h]
@[simp] theorem max_i : (B.max .i64).den (Vi x) (Vi y) = Vi (max x y) := by
  simp only [B.den, Vi, int_I, PV.int, PV.v.injEq, Value.int.injEq, true_and]; by_cases h : x < y <;> simp only [h, if_true, if_false] <;> omega
@[simp] theorem min_i : (B.min .i64).den (Vi x) (Vi y) = Vi (min x y) := by
  simp only [B.den, Vi, int_I, PV.int, PV.v.injEq, Value.int.injEq, true_and]; by_cases h : y < x <;> simp only [h, if_true, if_false] <;> omega
end

section
variable {a b s : Nat}
@[simp] theorem add_u : (B.add .u64).den (Vu a) (Vu b) = Vu ((a + b) % 18446744073709551616) := by
  simp only [B.den, Vu, PV.int, wrap_u64, PV.v.injEq, Value.int.injEq, true_and]; omega
@[simp] theorem mul_u : (B.mul .u64).den (Vu a) (Vu b) = Vu (a * b % 18446744073709551616) := by
  simp only [B.den, Vu, PV.int, wrap_u64, PV.v.injEq, Value.int.injEq, true_and]
  rw [← Int.natCast_mul]; omega
theorem quo_u (ha : a < 18446744073709551616) : (B.quo .u64).den (Vu a) (Vu b) = Vu (a / b) := by
  simp only [B.den, Vu, PV.int, wrap_u64, PV.v.injEq, Value.int.injEq, true_and]
  rw [show ((a : Int).tdiv b) = ((a / b : Nat) : Int) from rfl]
  have : a / b ≤ a := Nat.div_le_self a b
  generalize a / b = q at *
  omega
@[simp] theorem rem_u : (B.rem .u64).den (Vu a) (Vu b) = Vu (a % b) := rfl
@[simp] theorem lt_u : B.lt.den (Vu a) (Vu b) = Vb (decide (a < b)) := by
  show PV.v (.bool (decide ((a : Int) < b))) = _
  rw [decide_eq_decide.2 (by omega : ((a : Int) < b ↔ a < b))]; rfl
@[simp] theorem le_u : B.le.den (Vu a) (Vu b) = Vb (decide (a ≤ b)) := by
  show PV.v (.bool (decide ((a : Int) ≤ b))) = _
  rw [decide_eq_decide.2 (by omega : ((a : Int) ≤ b ↔ a ≤ b))]; rfl
@[simp] theorem gt_u : B.gt.den (Vu a) (Vu b) = Vb (decide (a > b)) := by
  show PV.v (.bool (decide ((a : Int) > b))) = _
  rw [decide_eq_decide.2 (by omega : ((a : Int) > b ↔ a > b))]; rfl
@[simp] theorem ge_u : B.ge.den (Vu a) (Vu b) = Vb (decide (a ≥ b)) := by
  show PV.v (.bool (decide ((a : Int) ≥ b))) = _
  rw [decide_eq_decide.2 (by omega : ((a : Int) ≥ b ↔ a ≥ b))]; rfl
@[simp] theorem eq_u : B.eq.den (Vu a) (Vu b) = Vb (decide (a = b)) := by
  simp only [B.den, Vb, int_U, PV.v.injEq, Value.bool.injEq]; by_cases h : a = b
  · simp [h]
  · simp [h]; omega
@[simp] theorem ne_u : B.ne.den (Vu a) (Vu b) = Vb (decide (a ≠ b)) := by
  simp only [B.den, Vb, int_U, PV.v.injEq, Value.bool.injEq]; by_cases h : a = b
  · simp [h]
  · simp [h]; omega
theorem bits_u (op : BinOp) (f : Nat → Nat → Nat) (ha : a < 18446744073709551616) (hb : b < 18446744073709551616) (hf : f a b < 18446744073709551616)
    (h : ∀ x y : BitVec 64, (match op with | .and => x &&& y | .or => x ||| y | .xor => x ^^^ y | _ => x &&& ~~~y).toNat = f x.toNat y.toNat) : bitsOp op .u64 a b = f a b := by
  have h1 : (BitVec.ofInt (IntKind.u64.bits) (a : Int)).toNat = a := by
    show (BitVec.ofInt 64 (a : Int)).toNat = a
    rw [BitVec.ofInt_natCast, BitVec.toNat_ofNat]; omega
  have h2 : (BitVec.ofInt (IntKind.u64.bits) (b : Int)).toNat = b := by
    show (BitVec.ofInt 64 (b : Int)).toNat = b
    rw [BitVec.ofInt_natCast, BitVec.toNat_ofNat]; omega
  have h3 := h (BitVec.ofInt 64 (a : Int)) (BitVec.ofInt 64 (b : Int))
  have h1' : (BitVec.ofInt 64 (a : Int)).toNat = a := h1
  have h2' : (BitVec.ofInt 64 (b : Int)).toNat = b := h2
  rw [h1', h2'] at h3
  have gen : ∀ z : BitVec 64, z.toNat = f a b → IntKind.u64.wrap (z.toNat : Int) = f a b := fun z hz => by rw [wrap_u64, hz]; omega
  unfold bitsOp
  cases op <;> exact gen _ h3
theorem xor_u (ha : a < 18446744073709551616) (hb : b < 18446744073709551616) : (B.xor .u64).den (Vu a) (Vu b) = Vu (a ^^^ b) := by
  simp only [B.den, Vu, PV.int, PV.v.injEq, Value.int.injEq, true_and]
  exact bits_u .xor (· ^^^ ·) ha hb (Nat.xor_lt_two_pow (n := 64) ha hb) fun x y => BitVec.toNat_xor x y
theorem shl_uU : (B.shl .u64).den (Vu a) (Vu s) = Vu (a * 2 ^ (min s 64) % 18446744073709551616) := by
  simp only [B.den, Vu, PV.int, wrap_u64, PV.v.injEq, Value.int.injEq, true_and, Int.toNat_natCast]
  show (a : Int) * 2 ^ (min s 64) % _ = _
  rw [show ((a : Int) * 2 ^ (min s 64)) = ((a * 2 ^ (min s 64) : Nat) : Int) by simp]; omega
theorem shr_uU : (B.shr .u64).den (Vu a) (Vu s) = Vu (a / 2 ^ (min s 64)) := by
  simp only [B.den, Vu, PV.int, PV.v.injEq, Value.int.injEq, true_and, Int.toNat_natCast]
  show (a : Int).fdiv (2 ^ (min s 64)) = _
  rw [Int.fdiv_eq_ediv_of_nonneg _ (by exact_mod_cast Nat.zero_le _)]
  simp
@[simp] theorem ge_uI0 : B.ge.den (Vu a) (Vi 0) = Vb true := by
  show PV.v (.bool (decide ((a : Int) ≥ 0))) = _
  rw [decide_eq_true (by omega : (a : Int) ≥ 0)]; rfl
@[simp] theorem conv_uw : (U.conv .u32).den (Vu a) = Vw (a % 4294967296) := by
  simp only [U.den, Vu, Vw, PV.int, wrap_u32, PV.v.injEq, Value.int.injEq, true_and]; omega
@[simp] theorem lt_w : B.lt.den (Vw a) (Vw b) = Vb (decide (a < b)) := by
  show PV.v (.bool (decide ((a : Int) < b))) = _
  rw [decide_eq_decide.2 (by omega : ((a : Int) < b ↔ a < b))]; rfl
@[simp] theorem gt_w : B.gt.den (Vw a) (Vw b) = Vb (decide (a > b)) := by
  show PV.v (.bool (decide ((a : Int) > b))) = _
  rw [decide_eq_decide.2 (by omega : ((a : Int) > b ↔ a > b))]; rfl
@[simp] theorem eq_w : B.eq.den (Vw a) (Vw b) = Vb (decide (a = b)) := by
  simp only [B.den, Vb, int_W, PV.v.injEq, Value.bool.injEq]; by_cases h : a = b
  · simp [h]
  · simp [h]; omega
@[simp] theorem ne_w : B.ne.den (Vw a) (Vw b) = Vb (decide (a ≠ b)) := by
  simp only [B.den, Vb, int_W, PV.v.injEq, Value.bool.injEq]; by_cases h : a = b
  · simp [h]
  · simp [h]; omega
@[simp] theorem rem_w : (B.rem .u32).den (Vw a) (Vw b) = Vw (a % b) := rfl
@[simp] theorem eq_y : B.eq.den (Vy a) (Vy b) = Vb (decide (a = b)) := by
  simp only [B.den, Vb, int_Y, PV.v.injEq, Value.bool.injEq]; by_cases h : a = b
  · simp [h]
  · simp [h]; omega
@[simp] theorem ne_y : B.ne.den (Vy a) (Vy b) = Vb (decide (a ≠ b)) := by
  simp only [B.den, Vb, int_Y, PV.v.injEq, Value.bool.injEq]; by_cases h : a = b
  · simp [h]
  · simp [h]; omega
@[simp] theorem add_y : (B.add .u8).den (Vy a) (Vy b) = Vy ((a + b) % 256) := by
  simp only [B.den, Vy, PV.int, wrap_u8, PV.v.injEq, Value.int.injEq, true_and]; omega
end

@[simp] theorem not_b (a : Bool) : U.not.den (Vb a) = Vb (!a) := rfl
@[simp] theorem beq_b (a b : Bool) : B.beq.den (Vb a) (Vb b) = Vb (a == b) := rfl
@[simp] theorem bne_b (a b : Bool) : B.bne.den (Vb a) (Vb b) = Vb (a != b) := rfl
@[simp] theorem ite_and (a b : Bool) : T3.ite.den (Vb a) (Vb b) (Vb false) = Vb (a && b) := by cases a <;> rfl
@[simp] theorem ite_or (a b : Bool) : T3.ite.den (Vb a) (Vb true) (Vb b) = Vb (a || b) := by cases a <;> rfl
@[simp] theorem ite_true (p q : PV) : T3.ite.den (Vb true) p q = p := rfl
@[simp] theorem ite_false (p q : PV) : T3.ite.den (Vb false) p q = q := rfl
@[simp] theorem len_l (xs : List PV) : U.len.den (.l xs) = Vi xs.length := rfl
@[simp] theorem app_l (xs ys : List PV) : B.app.den (.l xs) (.l ys) = .l (xs ++ ys) := rfl
@[simp] theorem cons_l (p : PV) (ys : List PV) : B.cons.den p (.l ys) = .l (p :: ys) := rfl
theorem get_l (xs : List PV) {i : Int} {n : Nat} (h : i = n) : B.get.den (.l xs) (Vi i) = xs.getD n default := by subst h; rfl
theorem take_l (xs : List PV) {i : Int} {n : Nat} (h : i = n) : B.take.den (.l xs) (Vi i) = .l (xs.take n) := by subst h; rfl
theorem drop_l (xs : List PV) {i : Int} {n : Nat} (h : i = n) : B.drop.den (.l xs) (Vi i) = .l (xs.drop n) := by subst h; rfl
theorem set_l (xs : List PV) {i : Int} {n : Nat} (h : i = n) (p : PV) : T3.set.den (.l xs) (Vi i) p = .l (xs.set n p) := by subst h; rfl
end Go.Proofs.Ytogcdllpjcnbkaa.Dx

namespace Go.Proofs.Ytogcdllpjcnbkaa.Dx
open Go

def wl (L : List Nat) : PV := .l (L.map Vw)
def OKL (L : List Nat) : Prop := ∀ a ∈ L, a < 4294967296
def dig (n : Nat) : List Nat := if n = 0 then [] else n % 4294967296 :: dig (n / 4294967296)
termination_by n
decreasing_by omega
def sg (s : Bool) (n : Nat) : Int := if s then -(n : Int) else n
def bS (x : Int) : PV := Vb (decide (x < 0))
def bL (x : Int) : PV := wl (dig x.natAbs)
def bl (n : Nat) : Nat := if n = 0 then 0 else n.log2 + 1

@[simp] theorem wl_nil : PV.l [] = wl [] := rfl
@[simp] theorem len_wl (L : List Nat) : U.len.den (wl L) = Vi L.length := by simp [wl, len_l]
theorem OKL.take {L : List Nat} (h : OKL L) (i : Nat) : OKL (L.take i) := fun a ha => h a (List.mem_of_mem_take ha)
theorem OKL.drop {L : List Nat} (h : OKL L) (i : Nat) : OKL (L.drop i) := fun a ha => h a (List.mem_of_mem_drop ha)
theorem OKL.cons {a : Nat} {L : List Nat} (h : a < 4294967296) (h' : OKL L) : OKL (a :: L) := fun b hb => by
  rcases List.mem_cons.1 hb with rfl | h1
  · exact h
  · exact h' b h1
theorem OKL.nil : OKL [] := fun _ h => by cases h
theorem OKL.getD {L : List Nat} (h : OKL L) (i : Nat) : L.getD i 0 < 4294967296 := by
  rw [List.getD_eq_getElem?_getD]
  cases hx : L[i]? with
  | none => simp
  | some a => simpa using h a (List.mem_of_getElem? hx)
end Go.Proofs.Ytogcdllpjcnbkaa.Dx

namespace Go.Proofs.Ytogcdllpjcnbkaa.Dx
open Go

end Go.Proofs.Ytogcdllpjcnbkaa.Dx

namespace Go.Proofs.Ytogcdllpjcnbkaa.Dx
open Go
end Go.Proofs.Ytogcdllpjcnbkaa.Dx

namespace Go.Proofs.Ytogcdllpjcnbkaa.Dx
open Go

end Go.Proofs.Ytogcdllpjcnbkaa.Dx

namespace Go.Proofs.Ytogcdllpjcnbkaa.Dx
open Go

end Go.Proofs.Ytogcdllpjcnbkaa.Dx

namespace Go.Proofs.Ytogcdllpjcnbkaa.Dx
open Go

/-- How often 2 goes into a number. -/
def tz (n : Nat) : Nat := if h : n = 0 then 0 else if n % 2 = 1 then 0 else tz (n / 2) + 1
termination_by n
decreasing_by omega
def od (x : Int) : Int := sg (decide (x < 0)) (x.natAbs / 2 ^ tz x.natAbs)
def ev (x e : Int) : Int := if x = 0 then 0 else e + tz x.natAbs
def dS (x _e : Int) : PV := bS (od x)
def dL (x _e : Int) : PV := bL (od x)
def dE (x e : Int) : PV := Vi (ev x e)

theorem tz_even {n : Nat} (h0 : n ≠ 0) (h : n % 2 = 0) : tz n = tz (n / 2) + 1 := by rw [tz, dif_neg h0, if_neg (by omega)]
theorem tz_shl {n : Nat} (h : n ≠ 0) (j : Nat) : tz (n * 2 ^ j) = tz n + j := by
  induction j with
  | zero => simp
  | succ j ih =>
    have hp := Nat.two_pow_pos j
    have hne : n * 2 ^ j ≠ 0 := Nat.mul_ne_zero h (by omega)
    rw [Nat.pow_succ, ← Nat.mul_assoc, tz_even (by omega) (by omega), Nat.mul_div_cancel _ (by omega), ih]; omega
theorem mul_neg_iff {x : Int} (j : Nat) : x * 2 ^ j < 0 ↔ x < 0 := by
  have hp : (0 : Int) < 2 ^ j := Int.pow_pos (by omega)
  constructor
  · intro h
    by_cases hx : x < 0
    · exact hx
    · have := Int.mul_nonneg (show 0 ≤ x by omega) (Int.le_of_lt hp); omega
  · intro h; exact Int.mul_neg_of_neg_of_pos h hp
theorem od_shl (x : Int) (j : Nat) : od (x * 2 ^ j) = od x := by
  by_cases h : x = 0
  · subst h; simp
  · unfold od
    have hn : x.natAbs ≠ 0 := by omega
    have e : (x * 2 ^ j).natAbs = x.natAbs * 2 ^ j := by rw [Int.natAbs_mul, Int.natAbs_pow]; rfl
    rw [e, tz_shl hn]
    have : decide (x * 2 ^ j < 0) = decide (x < 0) := by rw [decide_eq_decide]; exact mul_neg_iff j
    rw [this, Nat.pow_add, Nat.mul_comm (2 ^ tz x.natAbs), ← Nat.div_div_eq_div_mul, Nat.mul_div_cancel _ (Nat.two_pow_pos j)]
theorem ev_shl (x e : Int) (j : Nat) : ev (x * 2 ^ j) (e - j) = ev x e := by
  by_cases h : x = 0
  · subst h; simp [ev]
  · have hn : x.natAbs ≠ 0 := by omega
    have e1 : (x * 2 ^ j).natAbs = x.natAbs * 2 ^ j := by rw [Int.natAbs_mul, Int.natAbs_pow]; rfl
    have hp : (0 : Int) < 2 ^ j := Int.pow_pos (by omega)
    unfold ev
    rw [if_neg h, if_neg (Int.mul_ne_zero h (by omega)), e1, tz_shl hn]; omega
/-- How a dyadic number is written does not matter. -/
structure DEq (x e y f : Int) : Prop where
  s : dS x e = dS y f
  l : dL x e = dL y f
  e : dE x e = dE y f
theorem DEq.shl (x e : Int) (j : Nat) : DEq (x * 2 ^ j) (e - j) x e := ⟨by unfold dS; rw [od_shl], by unfold dL; rw [od_shl], by unfold dE; rw [ev_shl]⟩
theorem DEq.symm {x e y f : Int} (h : DEq x e y f) : DEq y f x e := ⟨h.s.symm, h.l.symm, h.e.symm⟩
theorem DEq.trans {x e y f z g : Int} (h : DEq x e y f) (h' : DEq y f z g) : DEq x e z g := ⟨h.s.trans h'.s, h.l.trans h'.l, h.e.trans h'.e⟩
theorem DEq.shl' {x e y l : Int} (j : Nat) (h : y = x * 2 ^ j) (hl : l = e - j) : DEq y l x e := by subst h hl; exact DEq.shl x e j
theorem DEq.at {x e l : Int} (h : l ≤ e) : DEq (x * 2 ^ (e - l).toNat) l x e := DEq.shl' _ rfl (by omega)
theorem DEq.zero (e : Int) : DEq 0 e 0 0 := ⟨rfl, rfl, rfl⟩
end Go.Proofs.Ytogcdllpjcnbkaa.Dx

namespace Go.Proofs.Ytogcdllpjcnbkaa.Dx
open Go

def DB (x e : Int) : Prop := bl x.natAbs ≤ 100000000 ∧ -100000000 ≤ e ∧ e ≤ 100000000
theorem DB.neg {x e : Int} (h : DB x e) : DB (-x) e := by unfold DB at *; rwa [Int.natAbs_neg]
end Go.Proofs.Ytogcdllpjcnbkaa.Dx

namespace Go.Proofs.Ytogcdllpjcnbkaa.Dx
open Go

/-- 'n / 2 ^ d', to the nearest, between two to the even one. -/
def RHE (n d : Nat) : Nat := n / 2 ^ d + (if 2 ^ d < 2 * (n % 2 ^ d) ∨ (2 ^ d = 2 * (n % 2 ^ d) ∧ n / 2 ^ d % 2 = 1) then 1 else 0)
def infR : Nat := 9218868437227405312
def two52 : Nat := 4503599627370496
def lastP (n : Nat) (p : Int) : Int := max (p + n.log2 - 52) (-1074)
/-- The rung of 'n * 2 ^ p', not yet cut off at infinity. -/
def rung (n : Nat) (p : Int) : Nat :=
  if n = 0 then 0 else ((lastP n p + 1074).toNat) * two52 + RHE (n * 2 ^ (p - lastP n p).toNat) (lastP n p - p).toNat
def sgn (neg : Bool) (r : Nat) : Nat := if neg then 9223372036854775808 + r else r
end Go.Proofs.Ytogcdllpjcnbkaa.Dx

namespace Go.Proofs.Ytogcdllpjcnbkaa.Dx
open Go

theorem and_mask (a k : Nat) (hk : k ≤ 64) : (B.and .u64).den (Vu a) (Vu (2 ^ k - 1)) = Vu (a % 2 ^ k) := by
  simp only [B.den, Vu, PV.int, PV.v.injEq, Value.int.injEq, true_and]
  unfold bitsOp
  show IntKind.u64.wrap ((BitVec.ofInt 64 (a : Int) &&& BitVec.ofInt 64 ((2 ^ k - 1 : Nat) : Int)).toNat : Int) = _
  have hp : (2 : Nat) ^ k ≤ 2 ^ 64 := Nat.pow_le_pow_right (by omega) hk
  rw [BitVec.ofInt_natCast, BitVec.ofInt_natCast, BitVec.toNat_and, BitVec.toNat_ofNat, BitVec.toNat_ofNat]
  have hpos := Nat.two_pow_pos k
  rw [Nat.mod_eq_of_lt (show 2 ^ k - 1 < 2 ^ 64 by omega), Nat.and_two_pow_sub_one_eq_mod, Nat.mod_mod_of_dvd _ (Nat.pow_dvd_pow 2 hk), wrap_u64]
  have : a % 2 ^ k < 2 ^ k := Nat.mod_lt _ hpos
  have e64 : (2 : Nat) ^ 64 = 18446744073709551616 := by decide
  omega
@[simp] theorem and_1 (a : Nat) : (B.and .u64).den (Vu a) (Vu 1) = Vu (a % 2) := and_mask a 1 (by omega)
@[simp] theorem and_3 (a : Nat) : (B.and .u64).den (Vu a) (Vu 3) = Vu (a % 4) := and_mask a 2 (by omega)
@[simp] theorem and_2047 (a : Nat) : (B.and .u64).den (Vu a) (Vu 2047) = Vu (a % 2048) := and_mask a 11 (by omega)
@[simp] theorem and_frac (a : Nat) : (B.and .u64).den (Vu a) (Vu 4503599627370495) = Vu (a % 4503599627370496) := and_mask a 52 (by omega)
@[simp] theorem and_32 (a : Nat) : (B.and .u64).den (Vu a) (Vu 4294967295) = Vu (a % 4294967296) := and_mask a 32 (by omega)
@[simp] theorem andNot_63 (a : Nat) : (B.andNot .u64).den (Vu a) (Vu 9223372036854775808) = Vu (a % 9223372036854775808) := by
  have h := and_mask a 63 (by omega)
  have e : (2 : Nat) ^ 63 = 9223372036854775808 := by decide
  rw [e] at h
  rw [← h]
  rfl
@[simp] theorem shl_u_lit (a s : Nat) : (B.shl .u64).den (Vu a) (Vu s) = Vu (a * 2 ^ (min s 64) % 18446744073709551616) := shl_uU
@[simp] theorem shr_u_lit (a s : Nat) : (B.shr .u64).den (Vu a) (Vu s) = Vu (a / 2 ^ (min s 64)) := shr_uU
@[simp] theorem or_y14 : (B.or .u8).den (Vy 1) (Vy 4) = Vy 5 := rfl
@[simp] theorem or_y12 : (B.or .u8).den (Vy 1) (Vy 2) = Vy 3 := rfl

def fNeg (b : Nat) : Bool := decide (b / 9223372036854775808 = 1)
def fPow (b : Nat) : Nat := b / 4503599627370496 % 2048
def fFrac (b : Nat) : Nat := b % 4503599627370496
def fMag (b : Nat) : Nat := if fPow b = 0 then fFrac b else fFrac b + 4503599627370496
def fPl (b : Nat) : Int := if fPow b = 0 then -1074 else (fPow b : Int) - 1075
def Fin64 (b : Nat) : Prop := fPow b ≠ 2047
instance (b : Nat) : Decidable (Fin64 b) := inferInstanceAs (Decidable (_ ≠ _))

end Go.Proofs.Ytogcdllpjcnbkaa.Dx

namespace Go.Proofs.Ytogcdllpjcnbkaa.Dx
open Go

def nearR (n : Nat) (p : Int) : Nat := min (rung n p) infR
def nearV (neg : Bool) (n : Nat) (p : Int) : Nat := sgn neg (nearR n p)
end Go.Proofs.Ytogcdllpjcnbkaa.Dx

namespace Go.Proofs.Ytogcdllpjcnbkaa.Dx
open Go

end Go.Proofs.Ytogcdllpjcnbkaa.Dx

namespace Go.Proofs.Ytogcdllpjcnbkaa.Dx
open Go

end Go.Proofs.Ytogcdllpjcnbkaa.Dx

namespace Go.Proofs.Ytogcdllpjcnbkaa.Dx
open Go

end Go.Proofs.Ytogcdllpjcnbkaa.Dx

namespace Go.Proofs.Ytogcdllpjcnbkaa.Dx
open Go

end Go.Proofs.Ytogcdllpjcnbkaa.Dx

namespace Go.Proofs.Ytogcdllpjcnbkaa.Dx
open Go

end Go.Proofs.Ytogcdllpjcnbkaa.Dx

namespace Go.Proofs.Ytogcdllpjcnbkaa.Dx
open Go

def nanB (b : Nat) : Prop := fPow b = 2047 ∧ fFrac b ≠ 0
instance (b : Nat) : Decidable (nanB b) := inferInstanceAs (Decidable (_ ∧ _))
end Go.Proofs.Ytogcdllpjcnbkaa.Dx

namespace Go.Proofs.Ytogcdllpjcnbkaa.Dx
open Go

theorem read_ok (b : Nat) : Ieee.double.read b = if fPow b = 2047 then (if fFrac b = 0 then .infinity (decide (b / 9223372036854775808 % 2 = 1)) else .nan (decide (b / 9223372036854775808 % 2 = 1)) (fFrac b)) else .number (decide (b / 9223372036854775808 % 2 = 1)) (fMag b) (fPl b) := by
  have h2 : Ieee.double.signWeight = 9223372036854775808 := by decide
  have h3 : Ieee.double.binade = 4503599627370496 := by decide
  have h4 : Ieee.double.infRung = 9218868437227405312 := by decide
  have h5 : Ieee.double.leastPlace = -1074 := by decide
  unfold Ieee.Format.read
  simp only [h2, h3, h4, h5]
  have hs : (b / 9223372036854775808 % 2 == 1) = decide (b / 9223372036854775808 % 2 = 1) := by rw [Bool.beq_eq_decide_eq]
  rw [hs]
  unfold fPow fFrac fMag fPl
  by_cases c1 : b % 9223372036854775808 < 4503599627370496
  · rw [if_pos c1, if_neg (by omega), if_pos (by unfold fPow; omega), if_pos (by unfold fPow; omega)]
    congr 1
    unfold fFrac; omega
  · rw [if_neg c1]
    by_cases c2 : b % 9223372036854775808 < 9218868437227405312
    · rw [if_pos c2, if_neg (by omega), if_neg (by unfold fPow; omega), if_neg (by unfold fPow; omega)]
      congr 1
      · unfold fFrac; omega
      · unfold fPow; omega
    · rw [if_neg c2]
      by_cases c3 : b % 9223372036854775808 = 9218868437227405312
      · rw [if_pos c3, if_pos (show b / 4503599627370496 % 2048 = 2047 by omega), if_pos (show b % 4503599627370496 = 0 by omega)]
      · rw [if_neg c3, if_pos (show b / 4503599627370496 % 2048 = 2047 by omega), if_neg (show ¬ b % 4503599627370496 = 0 by omega)]
        exact congrArg _ (by omega)
theorem isNaN_iff (b : Nat) : isNaN b = decide (nanB b) := by
  unfold isNaN
  rw [read_ok]
  unfold nanB
  by_cases h : fPow b = 2047
  · rw [if_pos h]
    by_cases h2 : fFrac b = 0
    · rw [if_pos h2]; simp [h2]
    · rw [if_neg h2]; simp [h, h2]
  · rw [if_neg h]; simp [h]
theorem cnF_nanB {b : Nat} (h : nanB b) : cnF b = nan0 := by unfold cnF; rw [isNaN_iff]; simp [h]
theorem cnF_ok {b : Nat} (h : ¬ nanB b) : cnF b = b := by unfold cnF; rw [isNaN_iff]; simp [h]
end Go.Proofs.Ytogcdllpjcnbkaa.Dx

namespace Go.Proofs.Ytogcdllpjcnbkaa.Dx
open Go

def clamp (k : Int) : Int := max (-2300) (min 2300 k)
def scaleV (b : Nat) (k : Int) : Nat := if nanB b then nan0 else if fPow b = 2047 ∨ fMag b = 0 then b else nearV (fNeg b) (fMag b) (fPl b + clamp k)
end Go.Proofs.Ytogcdllpjcnbkaa.Dx

namespace Go.Proofs.Ytogcdllpjcnbkaa.Dx
open Go

theorem canon_nan {a : Nat} (h : nanB a) : ∀ k, fden tab k 134 [Vu a] = if k < 3 then none else some [Vu nan0] := by
  have e1 : (B.quo .u64).den (Vu (a % 9223372036854775808)) (Vu 4503599627370496) = Vu (fPow a) := by rw [quo_u (by omega)]; unfold fPow; exact congrArg Vu (by omega)
  have e2 : (U.conv .i64).den (Vu 2047) = Vi 2047 := rfl
  have hf : a % 4503599627370496 ≠ 0 := h.2
  rw [h.1] at e1
  have p : ∀ k, fden tab (k + 1) 126 [Vu a] = some [Vi 2047] := fun k => by
    simp [fden, tab126, tr126, TT.den, e1, e2]
  have f : ∀ k, fden tab (k + 1) 121 [Vu a] = some [Vu (a % 4503599627370496)] := fun k => by
    simp [fden, tab121, tr121, TT.den]
  have q : ∀ k, fden tab (k + 2) 122 [Vu a] = some [Vi 4] := fun k => by
    rw [fden]; simp [tab122, tr122, TT.den, p k, f k, hf]
  intro k
  match k with
  | 0 => simp [fden]
  | 1 => rw [fden]; simp [tab134, tr134, TT.den, fden]
  | 2 =>
    have : fden tab 1 122 [Vu a] = none := by rw [fden]; simp [tab122, tr122, TT.den, fden]
    rw [fden]; simp [tab134, tr134, TT.den, this]
  | k + 3 => rw [fden]; simp [tab134, tr134, TT.den, q k, nan0]
theorem canon_raw (k : Nat) {ps qs : List PV} (h2 : qs.length = 1) (h3 : All2 RawEq ps qs) : fden tab k 134 ps = fden tab k 134 qs := by
  match ps, qs, h2, h3 with
  | [p], [q], _, h3 =>
    rcases h3.1 with h | ⟨n, h, h'⟩
    · rw [h]
    · by_cases hn : nanB n
      · rw [h, h', cnF_nanB hn]
        have hz : nanB nan0 := by decide
        exact (canon_nan hz k).trans (canon_nan hn k).symm
      · rw [h, h', cnF_ok hn]
  | [], [_], _, h3 => exact absurd h3 (by simp [All2])
  | _ :: _ :: _, [_], _, h3 => exact absurd h3 (by simp [All2])
end Go.Proofs.Ytogcdllpjcnbkaa.Dx

namespace Go.Proofs.Ytogcdllpjcnbkaa.Dx
open Go
end Go.Proofs.Ytogcdllpjcnbkaa.Dx

namespace Go.Proofs.Ytogcdllpjcnbkaa.Dx
open Go
end Go.Proofs.Ytogcdllpjcnbkaa.Dx

namespace Go.Proofs.Ytogcdllpjcnbkaa.Dx
open Go

end Go.Proofs.Ytogcdllpjcnbkaa.Dx

namespace Go.Proofs.Ytogcdllpjcnbkaa.Dx
open Go

end Go.Proofs.Ytogcdllpjcnbkaa.Dx

namespace Go.Proofs.Ytogcdllpjcnbkaa.Dx
open Go

end Go.Proofs.Ytogcdllpjcnbkaa.Dx

namespace Go.Proofs.Ytogcdllpjcnbkaa.Dx
open Go

end Go.Proofs.Ytogcdllpjcnbkaa.Dx

namespace Go.Proofs.Ytogcdllpjcnbkaa.Dx
open Go

end Go.Proofs.Ytogcdllpjcnbkaa.Dx

namespace Go.Proofs.Ytogcdllpjcnbkaa.Dx
open Go

end Go.Proofs.Ytogcdllpjcnbkaa.Dx

namespace Go.Proofs.Ytogcdllpjcnbkaa.Dx
open Go

def zeroB (b : Nat) : Prop := fMag b = 0 ∧ fPow b = 0
instance (b : Nat) : Decidable (zeroB b) := inferInstanceAs (Decidable (_ ∧ _))
def infB (b : Nat) : Prop := fPow b = 2047 ∧ fFrac b = 0
instance (b : Nat) : Decidable (infB b) := inferInstanceAs (Decidable (_ ∧ _))
end Go.Proofs.Ytogcdllpjcnbkaa.Dx

namespace Go.Proofs.Ytogcdllpjcnbkaa.Dx
open Go

end Go.Proofs.Ytogcdllpjcnbkaa.Dx

namespace Go.Proofs.Ytogcdllpjcnbkaa.Dx
open Go

end Go.Proofs.Ytogcdllpjcnbkaa.Dx

namespace Go.Proofs.Ytogcdllpjcnbkaa.Dx
open Go

end Go.Proofs.Ytogcdllpjcnbkaa.Dx

namespace Go.Proofs.Ytogcdllpjcnbkaa.Dx
open Go

end Go.Proofs.Ytogcdllpjcnbkaa.Dx

namespace Go.Proofs.Ytogcdllpjcnbkaa.Dx
open Go

end Go.Proofs.Ytogcdllpjcnbkaa.Dx

namespace Go.Proofs.Ytogcdllpjcnbkaa.Dx
open Go

end Go.Proofs.Ytogcdllpjcnbkaa.Dx

namespace Go.Proofs.Ytogcdllpjcnbkaa.Dx
open Go

end Go.Proofs.Ytogcdllpjcnbkaa.Dx

namespace Go.Proofs.Ytogcdllpjcnbkaa.Dx
open Go

end Go.Proofs.Ytogcdllpjcnbkaa.Dx

namespace Go.Proofs.Ytogcdllpjcnbkaa.Dx
open Go

section
variable {a b : Nat} (ha : a < 18446744073709551616) (hb : b < 18446744073709551616)
include ha hb
end
section
variable {b : Nat} (hb : b < 18446744073709551616)
include hb
end
end Go.Proofs.Ytogcdllpjcnbkaa.Dx

namespace Go.Proofs.Ytogcdllpjcnbkaa.Dx
open Go

def Words (x : List Nat) : Prop := ∀ a ∈ x, a < 18446744073709551616
def el (x : List Nat) (i : Nat) : Nat := x.getD i 0
def Vl (x : List Nat) : PV := .l (x.map Vu)
@[simp] theorem len_V (x : List Nat) : U.len.den (Vl x) = Vi x.length := by simp [Vl]
theorem get_V {x : List Nat} {i : Nat} (h : i < x.length) : B.get.den (Vl x) (Vi i) = Vu (el x i) := by
  rw [Vl, get_l _ rfl]
  simp [el, List.getD_eq_getElem?_getD, h]
@[simp] theorem nil_V : PV.l [] = Vl [] := rfl
@[simp] theorem wl_nil_V : wl [] = Vl [] := rfl
theorem app_V (x : List Nat) (a : Nat) : B.app.den (Vl x) (B.cons.den (Vu a) (Vl [])) = Vl (x ++ [a]) := by
  rw [Vl, Vl, List.map_nil, cons_l, app_l]; simp [Vl]
theorem Words.el {x : List Nat} (h : Words x) (i : Nat) : el x i < 18446744073709551616 := by
  rw [Dx.el, List.getD_eq_getElem?_getD]
  cases hx : x[i]? with
  | none => simp
  | some a => exact h a (List.mem_of_getElem? hx)

theorem pv_u64 {p : PV} (h : PvT (.int .u64) p) : ∃ n : Nat, p = Vu n ∧ n < 18446744073709551616 := by
  obtain ⟨a, rfl, hw⟩ := h
  obtain ⟨n, rfl, hn⟩ := wf_u64 hw
  exact ⟨n, rfl, hn⟩
theorem pv_i64 {p : PV} (h : PvT (.int .i64) p) : ∃ x : Int, p = Vi x ∧ -9223372036854775808 ≤ x ∧ x < 9223372036854775808 := by
  obtain ⟨a, rfl, hw⟩ := h
  exact ⟨a, rfl, wf_i64 hw⟩
theorem pv_bool {p : PV} (h : PvT .bool p) : ∃ b : Bool, p = Vb b := h
theorem pv_lu {p : PV} (h : PvT (.sl .u64) p) : ∃ x : List Nat, p = Vl x ∧ Words x ∧ x.length ≤ 17592186043904 := by
  obtain ⟨zs, rfl, hw, hl⟩ := h
  refine ⟨zs.map Int.toNat, ?_, ?_, ?_⟩
  · unfold Vl
    rw [List.map_map]
    refine congrArg PV.l (List.map_congr_left fun z hz => ?_)
    obtain ⟨n, rfl, _⟩ := wf_u64 (hw z hz)
    rfl
  · intro a ha
    obtain ⟨z, hz, rfl⟩ := List.mem_map.1 ha
    obtain ⟨n, rfl, hn⟩ := wf_u64 (hw z hz)
    simpa using hn
  · rw [List.length_map]
    have h1 : zs.length * 8 ≤ reachBytes := hl
    have h2 : reachBytes = 140737488351232 := rfl
    rw [h2] at h1
    omega
section
variable {x y : List Nat} (hx : Words x) (hy : Words y) (hl : x.length = y.length) (h64 : x.length < 9000000000000000000)
include hx hy hl h64
end
end Go.Proofs.Ytogcdllpjcnbkaa.Dx

namespace Go.Proofs.Ytogcdllpjcnbkaa.Dx
open Go

section
variable {x : List Nat} (hx : Words x) (h64 : x.length < 9000000000000000000)
include hx h64
end
section
variable {x : List Nat} (hx : Words x) (h64 : x.length < 9000000000000000000)
include hx h64
end

section
variable {x : List Nat} (hx : Words x) (h64 : x.length < 9000000000000000000)
include hx h64
end

section
variable {x : List Nat} (hx : Words x) (h64 : x.length < 9000000000000000000) {k : Int} (hk : -1100 ≤ k ∧ k ≤ 1100)
include hx h64 hk
end
end Go.Proofs.Ytogcdllpjcnbkaa.Dx

namespace Go.Proofs.Ytogcdllpjcnbkaa.Dx
open Go

theorem set_V (x : List Nat) (i v : Nat) : T3.set.den (Vl x) (Vi i) (Vu v) = Vl (x.set i v) := by
  rw [Vl, set_l _ rfl, Vl, List.map_set]
theorem cpl_u {a : Nat} (h : a < 18446744073709551616) : (U.cpl .u64).den (Vu a) = Vu (18446744073709551615 ^^^ a) ∧ 18446744073709551615 ^^^ a < 18446744073709551616 :=
  ⟨(show (U.cpl .u64).den (Vu a) = (B.xor .u64).den (Vu 18446744073709551615) (Vu a) from rfl).trans (xor_u (by omega) h), Nat.xor_lt_two_pow (n := 64) (by omega) h⟩
theorem Words.set {x : List Nat} (h : Words x) {i v : Nat} (hv : v < 18446744073709551616) : Words (x.set i v) := by
  intro a ha
  rcases List.mem_or_eq_of_mem_set ha with h1 | h1
  · exact h a h1
  · rw [h1]; exact hv
/-- What a function makes of each place. -/
def mk (g : Nat → Nat) (n : Nat) : List Nat := (List.range n).map g
@[simp] theorem mk_len (g : Nat → Nat) (n : Nat) : (mk g n).length = n := by simp [mk]
theorem mk_succ (g : Nat → Nat) (n : Nat) : mk g n ++ [g n] = mk g (n + 1) := by simp [mk, List.range_succ]
theorem mk_congr {g g' : Nat → Nat} {n : Nat} (h : ∀ i, i < n → g i = g' i) : mk g n = mk g' n := List.map_congr_left fun i hi => h i (by simpa using hi)
/-- Boxes and functions that catch them. -/
@[simp] theorem toA_V (l : List PV) : U.toA.den (.l l) = .a l := rfl
@[simp] theorem fld0_a (p : PV) (l : List PV) : (U.fld 0).den (.a (p :: l)) = p := rfl
section
variable {a : Nat} {x y : List Nat} (ha : a < 18446744073709551616) (hx : Words x) (hy : Words y) (hl : x.length = y.length) (h64 : x.length < 17592186044416)
include ha hx hy hl h64
end
section
variable {a : Nat} {x : List Nat} (ha : a < 18446744073709551616) (hx : Words x) (h64 : x.length < 17592186044416)
include ha hx h64
end
theorem same_loop {x : List Nat} {x2 : PV} (h64 : x.length < 9000000000000000000) : ∀ (n : Nat) {i : Nat}, i + n = x.length →
    rounds (fun vs => lo159_1.dv (Vl x :: Vl x :: vs)) [x2, Vi i] = some (.y (.ext 0) [x2]) := by
  intro n
  induction n with
  | zero =>
    intro i hi
    refine rounds_exit ?_ (by simp)
    simp [lo159_1, TT.dv, show ¬ i < x.length by omega]
  | succ n ih =>
    intro i hi
    refine Eq.trans (rounds_cont ?_) (ih (i := i + 1) (by omega))
    have e1 : (B.add .i64).den (Vi i) (Vi 1) = Vi (i + 1) := add_i (by omega) (by omega)
    have g1 := get_V (x := x) (i := i) (by omega)
    simp [lo159_1, TT.dv, show i < x.length by omega, e1, g1]
theorem same_self {x : List Nat} (h64 : x.length < 9000000000000000000) : val 159 [Vl x, Vl x] = some [Vb true] := by
  refine val_of tab159 ?_
  have hlp := same_loop (x2 := Vb false) h64 x.length (i := 0) (by omega)
  rw [show ((0 : Nat) : Int) = 0 from rfl] at hlp
  simp [tr159, TT.dv, KS.dv, hlp]
end Go.Proofs.Ytogcdllpjcnbkaa.Dx

namespace Go.Proofs.Ytogcdllpjcnbkaa.Dx
open Go

section
variable {f g : Nat} (hf : f < 18446744073709551616) (hg : g < 18446744073709551616)
include hf hg
end
end Go.Proofs.Ytogcdllpjcnbkaa.Dx

namespace Go.Proofs.Ytogcdllpjcnbkaa.Dx
open Go

/-- The place of row i, column k. -/
def ps (i c k : Nat) : Nat := i * c + k
theorem ps_lt {i c k r : Nat} (hi : i < r) (hk : k < c) : ps i c k < r * c := by
  unfold ps
  have h1 : (i + 1) * c ≤ r * c := Nat.mul_le_mul_right c hi
  rw [Nat.add_mul, Nat.one_mul] at h1
  omega
theorem ps_inj {i c k i' k' : Nat} (hk : k < c) (hk' : k' < c) (h : ps i c k = ps i' c k') : i = i' ∧ k = k' := by
  unfold ps at h
  have h1 : (i * c + k) / c = i := by rw [Nat.mul_comm, Nat.mul_add_div (by omega), Nat.div_eq_of_lt hk, Nat.add_zero]
  have h2 : (i' * c + k') / c = i' := by rw [Nat.mul_comm, Nat.mul_add_div (by omega), Nat.div_eq_of_lt hk', Nat.add_zero]
  have h3 : i = i' := by rw [← h1, ← h2, h]
  subst h3
  exact ⟨rfl, by omega⟩
theorem pos_i {i c k : Nat} (hi : i < 100) (hc : c ≤ 100) (hk : k ≤ 100) : (B.add .i64).den ((B.mul .i64).den (Vi i) (Vi c)) (Vi k) = Vi (ps i c k) := by
  have h1 : i * c ≤ 100 * 100 := Nat.mul_le_mul (by omega) hc
  have h2 : (i : Int) * c = ((i * c : Nat) : Int) := by rw [Int.natCast_mul]
  rw [mul_i (by rw [h2]; omega) (by rw [h2]; omega), h2, add_i (by omega) (by omega)]
  unfold ps
  exact congrArg Vi (by omega)
/-- Right matrices. -/
structure Mx (r c : Nat) (x : List Nat) : Prop where
  hr : r ≤ 6
  hc : c ≤ 6
  len : x.length = r * c
  w : Words x
theorem Mx.lt {r c : Nat} {x : List Nat} (h : Mx r c x) {i k : Nat} (hi : i < r) (hk : k < c) : ps i c k < x.length := by rw [h.len]; exact ps_lt hi hk
theorem Mx.small {r c : Nat} {x : List Nat} (h : Mx r c x) : x.length ≤ 36 := by
  rw [h.len]; exact Nat.mul_le_mul h.hr h.hc
theorem Mx.set {r c : Nat} {x : List Nat} (h : Mx r c x) {p v : Nat} (hv : v < 18446744073709551616) : Mx r c (x.set p v) := ⟨h.hr, h.hc, by rw [List.length_set, h.len], h.w.set hv⟩
def rightP (R C : Int) (x : List Nat) : Prop := 0 ≤ R ∧ R ≤ 6 ∧ 0 ≤ C ∧ C ≤ 6 ∧ (x.length : Int) = R * C
instance (R C : Int) (x : List Nat) : Decidable (rightP R C x) := by unfold rightP; exact inferInstance
theorem right_mx {R C : Int} {x : List Nat} (h : rightP R C x) (hw : Words x) : ∃ r c : Nat, R = r ∧ C = c ∧ Mx r c x := by
  obtain ⟨h1, h2, h3, h4, h5⟩ := h
  refine ⟨R.toNat, C.toNat, by omega, by omega, by omega, by omega, ?_, hw⟩
  have e1 : R = R.toNat := by omega
  have e2 : C = C.toNat := by omega
  rw [e1, e2, ← Int.natCast_mul] at h5
  omega
theorem mx_right {r c : Nat} {x : List Nat} (h : Mx r c x) : rightP r c x :=
  ⟨by omega, by have := h.hr; omega, by omega, by have := h.hc; omega, by rw [h.len, Int.natCast_mul]⟩
theorem size_ok (n : Int) : val 259 [Vi n] = some [Vb (decide (0 ≤ n ∧ n ≤ 6))] := by
  refine val_of tab259 ?_
  simp [tr259, TT.dv]
theorem small_mul {R C : Int} (h1 : 0 ≤ R ∧ R ≤ 6) (h2 : 0 ≤ C ∧ C ≤ 6) : (B.mul .i64).den (Vi R) (Vi C) = Vi (R * C) := by
  have h3 : R * C ≤ 6 * 6 := Int.mul_le_mul h1.2 h2.2 h2.1 (by omega)
  have h4 : 0 ≤ R * C := Int.mul_nonneg h1.1 h2.1
  exact mul_i (by omega) (by omega)
theorem check_ok (R C : Int) (x : List Nat) : val 246 [Vi R, Vi C, Vl x] = some [Vi (if rightP R C x then 0 else 1)] := by
  refine val_of tab246 ?_
  have s1 := size_ok R
  have s2 := size_ok C
  by_cases h1 : 0 ≤ R ∧ R ≤ 6
  · rw [decide_eq_true h1] at s1
    by_cases h2 : 0 ≤ C ∧ C ≤ 6
    · rw [decide_eq_true h2] at s2
      have hm := small_mul h1 h2
      by_cases h3 : (x.length : Int) = R * C
      · rw [if_pos (show rightP R C x from ⟨h1.1, h1.2, h2.1, h2.2, h3⟩)]
        simp [tr246, TT.dv, s1, s2, hm, h3]
      · rw [if_neg (show ¬ rightP R C x from fun h => h3 h.2.2.2.2)]
        simp [tr246, TT.dv, s1, s2, hm, h3]
    · rw [decide_eq_false h2] at s2
      rw [if_neg (show ¬ rightP R C x from fun h => h2 ⟨h.2.2.1, h.2.2.2.1⟩)]
      simp [tr246, TT.dv, s1, s2]
  · rw [decide_eq_false h1] at s1
    rw [if_neg (show ¬ rightP R C x from fun h => h1 ⟨h.1, h.2.1⟩)]
    simp [tr246, TT.dv, s1]
theorem right_ok10 (R C : Int) (x : List Nat) : val 172 [Vi R, Vi C, Vl x] = some [Vb (decide (rightP R C x))] := by
  refine val_of tab172 ?_
  by_cases h1 : 0 ≤ R ∧ R ≤ 6
  · by_cases h2 : 0 ≤ C ∧ C ≤ 6
    · have hm := small_mul h1 h2
      by_cases h3 : (x.length : Int) = R * C
      · rw [decide_eq_true (show rightP R C x from ⟨h1.1, h1.2, h2.1, h2.2, h3⟩)]
        simp [tr172, TT.dv, hm, h1.1, h1.2, h2.1, h2.2, h3]
      · rw [decide_eq_false (show ¬ rightP R C x from fun h => h3 h.2.2.2.2)]
        simp [tr172, TT.dv, hm, h1.1, h1.2, h2.1, h2.2, h3]
    · rw [decide_eq_false (show ¬ rightP R C x from fun h => h2 ⟨h.2.2.1, h.2.2.2.1⟩)]
      by_cases h3 : 0 ≤ C
      · have h4 : ¬ C ≤ 6 := fun h => h2 ⟨h3, h⟩
        simp [tr172, TT.dv, h1.1, h1.2, h3, h4]
      · simp [tr172, TT.dv, h1.1, h1.2, h3]
  · rw [decide_eq_false (show ¬ rightP R C x from fun h => h1 ⟨h.1, h.2.1⟩)]
    by_cases h3 : 0 ≤ R
    · have h4 : ¬ R ≤ 6 := fun h => h1 ⟨h3, h⟩
      simp [tr172, TT.dv, h3, h4]
    · simp [tr172, TT.dv, h3]
section
variable {r c : Nat} {x : List Nat} (h : Mx r c x)
include h
theorem at_ok {i k : Nat} (hi : i < r) (hk : k < c) : val 166 [Vi r, Vi c, Vl x, Vi i, Vi k] = some [Vu (el x (ps i c k))] := by
  refine val_of tab166 ?_
  have h1 := h.hr
  have h2 := h.hc
  have e1 := pos_i (i := i) (c := c) (k := k) (by omega) (by omega) (by omega)
  have hl := h.lt hi hk
  simp [tr166, TT.dv, e1, hl, get_V hl]
theorem with_ok {i k b : Nat} (hi : i < r) (hk : k < c) : val 176 [Vi r, Vi c, Vl x, Vi i, Vi k, Vu b] = some [Vi r, Vi c, Vl (x.set (ps i c k) b)] := by
  refine val_of tab176 ?_
  have h1 := h.hr
  have h2 := h.hc
  have e1 := pos_i (i := i) (c := c) (k := k) (by omega) (by omega) (by omega)
  have hl := h.lt hi hk
  have hs := h.small
  simp [tr176, TT.dv, e1, hl, set_V, show (x.length : Int) ≤ 17592186044416 by omega]
end
theorem rep_V (n a : Nat) : B.rep.den (Vi n) (Vu a) = Vl (List.replicate n a) := by
  show PV.l (List.replicate (Vi n).int.toNat (Vu a)) = _
  rw [int_I, Int.toNat_natCast, Vl, List.map_replicate]
theorem zeros_ok {r c : Nat} (hr : r ≤ 6) (hc : c ≤ 6) : val 177 [Vi r, Vi c] = some [Vi r, Vi c, Vl (List.replicate (r * c) 0)] := by
  refine val_of tab177 ?_
  have h1 := small_mul (R := r) (C := c) (by omega) (by omega)
  have h2 : r * c ≤ 36 := Nat.mul_le_mul hr hc
  rw [← Int.natCast_mul] at h1
  generalize r * c = n at *
  simp [tr177, TT.dv, h1, rep_V, show (n : Int) ≤ 17592186044416 by omega]
theorem zeros_mx {r c : Nat} (hr : r ≤ 6) (hc : c ≤ 6) : Mx r c (List.replicate (r * c) 0) := ⟨hr, hc, by simp, fun a ha => by rw [(List.mem_replicate.1 ha).2]; decide⟩
theorem copy_ok (R C : Int) {x : List Nat} (h : x.length ≤ 17592186044416) : val 168 [Vi R, Vi C, Vl x] = some [Vi R, Vi C, Vl x] := by
  refine val_of tab168 ?_
  simp [tr168, TT.dv, show (x.length : Int) ≤ 17592186044416 by omega]
theorem same_m (R C : Int) {x : List Nat} (h : x.length < 9000000000000000000) : val 174 [Vi R, Vi C, Vl x, Vi R, Vi C, Vl x] = some [Vb true] := by
  refine val_of tab174 ?_
  simp [tr174, TT.dv, same_self h]
def matL (g : Nat → Nat → Nat) (r c : Nat) : List Nat := (List.range r).flatMap fun i => mk (g i) c
theorem matL_succ (g : Nat → Nat → Nat) (r c : Nat) : matL g r c ++ mk (g r) c = matL g (r + 1) c := by
  unfold matL; rw [List.range_succ, List.flatMap_append]; simp
theorem matL_len (g : Nat → Nat → Nat) (r c : Nat) : (matL g r c).length = r * c := by
  induction r with
  | zero => simp [matL]
  | succ r ih => rw [← matL_succ, List.length_append, ih, mk_len, Nat.add_mul, Nat.one_mul]
theorem el_app {x y : List Nat} (i : Nat) : el (x ++ y) i = if i < x.length then el x i else el y (i - x.length) := by
  unfold el
  rw [List.getD_eq_getElem?_getD, List.getD_eq_getElem?_getD, List.getD_eq_getElem?_getD]
  by_cases h : i < x.length
  · rw [if_pos h, List.getElem?_append_left h]
  · rw [if_neg h, List.getElem?_append_right (by omega)]
theorem el_matL (g : Nat → Nat → Nat) {c : Nat} : ∀ {r i k : Nat}, i < r → k < c → el (matL g r c) (ps i c k) = g i k := by
  intro r
  induction r with
  | zero => intro i k hi; omega
  | succ r ih =>
    intro i k hi hk
    rw [← matL_succ, el_app, matL_len]
    by_cases h : i < r
    · rw [if_pos (ps_lt h hk)]; exact ih h hk
    · have : i = r := by omega
      subst this
      unfold ps
      rw [if_neg (by omega), Nat.add_sub_cancel_left]
      unfold el mk
      rw [List.getD_eq_getElem?_getD, List.getElem?_map, List.getElem?_range hk]; rfl
theorem mat_ext {x y : List Nat} {r c : Nat} (hx : x.length = r * c) (hy : y.length = r * c) (h : ∀ i k, i < r → k < c → el x (ps i c k) = el y (ps i c k)) : x = y := by
  refine List.ext_getElem (by omega) fun t h1 h2 => ?_
  have hc : 0 < c := by
    rcases Nat.eq_zero_or_pos c with h0 | h0
    · subst h0; omega
    · exact h0
  have ht : t = ps (t / c) c (t % c) := by unfold ps; rw [Nat.mul_comm]; exact (Nat.div_add_mod t c).symm
  have := h (t / c) (t % c) (by rw [Nat.div_lt_iff_lt_mul hc]; omega) (Nat.mod_lt _ hc)
  rw [← ht] at this
  unfold el at this
  rw [List.getD_eq_getElem?_getD, List.getD_eq_getElem?_getD, List.getElem?_eq_getElem h1, List.getElem?_eq_getElem h2] at this
  exact this
theorem matL_mx {g : Nat → Nat → Nat} {r c : Nat} (hr : r ≤ 6) (hc : c ≤ 6) (h : ∀ i k, i < r → k < c → g i k < 18446744073709551616) : Mx r c (matL g r c) := by
  refine ⟨hr, hc, matL_len g r c, fun a ha => ?_⟩
  unfold matL at ha
  obtain ⟨i, hi, h1⟩ := List.mem_flatMap.1 ha
  obtain ⟨k, hk, rfl⟩ := List.mem_map.1 h1
  exact h i k (by simpa using hi) (by simpa using hk)
section
variable {f r c : Nat} {caps : List PV} {g : Nat → Nat → Nat} (hr : r ≤ 6) (hc : c ≤ 6) (h : ∀ i k : Nat, i < r → k < c → val f (Vi i :: Vi k :: caps) = some [Vu (g i k)])
include hr hc h
end
theorem el_set (x : List Nat) (p v q : Nat) : el (x.set p v) q = if p = q ∧ p < x.length then v else el x q := by
  unfold el
  rw [List.getD_eq_getElem?_getD, List.getD_eq_getElem?_getD, List.getElem?_set]
  by_cases h : p = q
  · subst h
    by_cases h2 : p < x.length
    · simp [h2]
    · simp [h2, List.getElem?_eq_none (show x.length ≤ p by omega)]
  · simp [h]
def fin1 (pos v : Nat → Nat) : Nat → Nat → List Nat → List Nat
  | 0, _, m => m
  | n + 1, k, m => fin1 pos v n (k + 1) (m.set (pos k) (v k))
def fin2 (pos v : Nat → Nat → Nat) (C : Nat) : Nat → Nat → List Nat → List Nat
  | 0, _, m => m
  | n + 1, i, m => fin2 pos v C n (i + 1) (fin1 (pos i) (v i) C 0 m)
theorem fin1_len (pos v : Nat → Nat) : ∀ (n k : Nat) (m : List Nat), (fin1 pos v n k m).length = m.length
  | 0, _, _ => rfl
  | n + 1, k, m => by unfold fin1; rw [fin1_len pos v n, List.length_set]
theorem fin2_len (pos v : Nat → Nat → Nat) (C : Nat) : ∀ (n i : Nat) (m : List Nat), (fin2 pos v C n i m).length = m.length
  | 0, _, _ => rfl
  | n + 1, k, m => by unfold fin2; rw [fin2_len pos v C n, fin1_len]
theorem fin1_other {pos v : Nat → Nat} {q : Nat} : ∀ (n k : Nat) (m : List Nat), (∀ j, k ≤ j → j < k + n → pos j ≠ q) → el (fin1 pos v n k m) q = el m q
  | 0, _, _, _ => rfl
  | n + 1, k, m, h => by
    unfold fin1
    rw [fin1_other n (k + 1) _ (fun j h1 h2 => h j (by omega) (by omega)), el_set, if_neg (fun hh => h k (Nat.le_refl _) (by omega) hh.1)]
theorem fin1_at {pos v : Nat → Nat} : ∀ (n k : Nat) (m : List Nat), (∀ j, k ≤ j → j < k + n → pos j < m.length) → (∀ j j', k ≤ j → j < k + n → k ≤ j' → j' < k + n → pos j = pos j' → j = j') → ∀ j, k ≤ j → j < k + n → el (fin1 pos v n k m) (pos j) = v j
  | 0, _, _, _, _, j, h1, h2 => by omega
  | n + 1, k, m, hl, hi, j, h1, h2 => by
    unfold fin1
    rcases Nat.eq_or_lt_of_le h1 with he | he
    · subst he
      rw [fin1_other n (k + 1) _ (fun j' a b hh => by have := hi j' k (by omega) (by omega) (Nat.le_refl _) (by omega) hh; omega), el_set, if_pos ⟨rfl, hl k (Nat.le_refl _) (by omega)⟩]
    · exact fin1_at n (k + 1) _ (fun j a b => by rw [List.length_set]; exact hl j (by omega) (by omega)) (fun j j' a b a' b' => hi j j' (by omega) (by omega) (by omega) (by omega)) j (by omega) (by omega)
theorem fin2_other {pos v : Nat → Nat → Nat} {C q : Nat} : ∀ (n i : Nat) (m : List Nat), (∀ j k, i ≤ j → j < i + n → k < C → pos j k ≠ q) → el (fin2 pos v C n i m) q = el m q
  | 0, _, _, _ => rfl
  | n + 1, i, m, h => by
    unfold fin2
    rw [fin2_other n (i + 1) _ (fun j k h1 h2 => h j k (by omega) (by omega)), fin1_other C 0 m (fun k _ h2 => h i k (Nat.le_refl _) (by omega) (by omega))]
theorem fin2_at {pos v : Nat → Nat → Nat} {C : Nat} : ∀ (n i : Nat) (m : List Nat), (∀ j k, i ≤ j → j < i + n → k < C → pos j k < m.length) → (∀ j k j' k', i ≤ j → j < i + n → k < C → i ≤ j' → j' < i + n → k' < C → pos j k = pos j' k' → j = j' ∧ k = k') →
    ∀ j k, i ≤ j → j < i + n → k < C → el (fin2 pos v C n i m) (pos j k) = v j k
  | 0, _, _, _, _, j, k, h1, h2, _ => by omega
  | n + 1, i, m, hl, hi, j, k, h1, h2, hk => by
    unfold fin2
    rcases Nat.eq_or_lt_of_le h1 with he | he
    · subst he
      rw [fin2_other n (i + 1) _ (fun j' k' a b c hh => by have := (hi j' k' i k (by omega) (by omega) c (Nat.le_refl _) (by omega) hk hh).1; omega)]
      exact fin1_at C 0 m (fun k' _ b => hl i k' (Nat.le_refl _) (by omega) (by omega)) (fun k1 k2 _ b _ b' hh => (hi i k1 i k2 (Nat.le_refl _) (by omega) (by omega) (Nat.le_refl _) (by omega) (by omega) hh).2) k (Nat.zero_le _) (by omega)
    · exact fin2_at n (i + 1) _ (fun j k a b c => by rw [fin1_len]; exact hl j k (by omega) (by omega) c) (fun j k j' k' a b c a' b' c' => hi j k j' k' (by omega) (by omega) c (by omega) (by omega) c') j k (by omega) (by omega) hk
end Go.Proofs.Ytogcdllpjcnbkaa.Dx

namespace Go.Proofs.Ytogcdllpjcnbkaa.Dx
open Go

def tpG (x : List Nat) (c : Nat) (i k : Nat) : Nat := el x (ps k c i)
/-- A matrix turned. -/
def tpV (r c : Nat) (x : List Nat) : List Nat := matL (tpG x c) c r
section
variable {r c : Nat} {x : List Nat} (h : Mx r c x)
include h
theorem tpV_mx : Mx c r (tpV r c x) := matL_mx h.hc h.hr fun i k _ _ => h.w.el _
theorem tp9_inner {i : Nat} (hi : i < r) {x3 x4 x5 x7 x8 x9 : PV} : ∀ (n : Nat) {k : Nat} {m : List Nat}, k + n = c → Mx c r m →
    rounds (fun vs => lo175_2.dv (Vi r :: Vi c :: Vl x :: x3 :: x4 :: x5 :: Vi i :: x7 :: x8 :: x9 :: vs)) [Vi k, Vi c, Vi r, Vl m] = some (.y (.ext 2) [Vi c, Vi r, Vl (fin1 (fun k => ps k r i) (fun k => el x (ps i c k)) n k m)]) := by
  intro n
  induction n with
  | zero =>
    intro k m hk hm
    have : k = c := by omega
    subst this
    refine rounds_exit ?_ (by simp)
    simp [lo175_2, TT.dv, fin1]
  | succ n ih =>
    intro k m hk hm
    refine Eq.trans (rounds_cont ?_) (ih (k := k + 1) (by omega) (hm.set (p := ps k r i) (h.w.el (ps i c k))))
    have h1 := h.hc
    have e1 : (B.add .i64).den (Vi k) (Vi 1) = Vi (k + 1) := add_i (by omega) (by omega)
    have a1 := at_ok h hi (show k < c by omega)
    have w1 := with_ok hm (i := k) (k := i) (b := el x (ps i c k)) (by omega) hi
    simp [lo175_2, TT.dv, show k < c by omega, e1, a1, w1]
theorem tp9_outer {x3 x4 x5 : PV} : ∀ (n : Nat) {i : Nat} {m : List Nat}, i + n = r → Mx c r m →
    rounds (fun vs => lo175_1.dv (Vi r :: Vi c :: Vl x :: x3 :: x4 :: x5 :: vs)) [Vi i, Vi c, Vi r, Vl m] = some (.y (.ext 0) [Vi c, Vi r, Vl (fin2 (fun i k => ps k r i) (fun i k => el x (ps i c k)) c n i m)]) := by
  intro n
  induction n with
  | zero =>
    intro i m hi hm
    have : i = r := by omega
    subst this
    refine rounds_exit ?_ (by simp)
    simp [lo175_1, TT.dv, fin2]
  | succ n ih =>
    intro i m hi hm
    have h1 := h.hr
    have hin := tp9_inner h (i := i) (by omega) (x3 := x3) (x4 := x4) (x5 := x5) (x7 := Vi c) (x8 := Vi r) (x9 := Vl m) c (k := 0) (m := m) (by omega) hm
    rw [show ((0 : Nat) : Int) = 0 from rfl] at hin
    have hm' : Mx c r (fin1 (fun k => ps k r i) (fun k => el x (ps i c k)) c 0 m) := by
      have key : ∀ (n k : Nat) (m : List Nat), Mx c r m → Mx c r (fin1 (fun k => ps k r i) (fun k => el x (ps i c k)) n k m) := by
        intro n
        induction n with
        | zero => intro k m hm; exact hm
        | succ n ih => intro k m hm; exact ih _ _ (hm.set (h.w.el _))
      exact key c 0 m hm
    refine Eq.trans (rounds_cont ?_) (ih (i := i + 1) (by omega) hm')
    have e1 : (B.add .i64).den (Vi i) (Vi 1) = Vi (i + 1) := add_i (by omega) (by omega)
    simp [lo175_1, TT.dv, KS.dv, show i < r by omega, hin, e1]
theorem tp9_ok : val 175 [Vi r, Vi c, Vl x] = some [Vi c, Vi r, Vl (tpV r c x)] := by
  refine val_of tab175 ?_
  have hz := zeros_ok h.hc h.hr
  have hlp := tp9_outer h (x3 := Vi c) (x4 := Vi r) (x5 := Vl (List.replicate (c * r) 0)) r (i := 0) (by omega) (zeros_mx h.hc h.hr)
  rw [show ((0 : Nat) : Int) = 0 from rfl] at hlp
  have he : fin2 (fun i k => ps k r i) (fun i k => el x (ps i c k)) c r 0 (List.replicate (c * r) 0) = tpV r c x := by
    refine mat_ext (r := c) (c := r) (by rw [fin2_len]; simp) (matL_len _ _ _) fun i k hi hk => ?_
    unfold tpV
    rw [el_matL _ hi hk]
    exact fin2_at (pos := fun i k => ps k r i) (v := fun i k => el x (ps i c k)) r 0 _ (fun j k _ h2 h3 => by rw [List.length_replicate]; exact ps_lt h3 (by omega))
      (fun j k j' k' _ a b _ a' b' hh => by have := ps_inj (by omega) (by omega) hh; exact ⟨this.2, this.1⟩) k i (Nat.zero_le _) (by omega) hi
  rw [he] at hlp
  simp [tr175, TT.dv, KS.dv, hz, hlp]
end

section
variable {r c : Nat} {x : List Nat} (h : Mx r c x) {C S : Nat} (hC : C < 18446744073709551616) (hS : S < 18446744073709551616) {i k : Nat} (hi : i < r) (hk : k < r)
include h hC hS hi hk
end
section
variable {r c : Nat} {x : List Nat} (h : Mx r c x) {C S : Nat} (hC : C < 18446744073709551616) (hS : S < 18446744073709551616) {i k : Nat} (hi : i < c) (hk : k < c)
include h hC hS hi hk
end
end Go.Proofs.Ytogcdllpjcnbkaa.Dx

namespace Go.Proofs.Ytogcdllpjcnbkaa.Dx
open Go

theorem st_call {g : Exp} {f : Nat} {xs : List Exp} {n : Nat} {t : TT Unit} {ρ rs : List PV} (hg : g.isTrue ρ = true) (hv : val f (xs.map (Exp.den ρ)) = some rs) (hl : rs.length = n) : (TT.call g f xs n t).dv ρ = t.dv (ρ ++ rs) := by
  simp only [TT.dv, hg, hv, hl, if_true]
theorem st_loop {init : List Exp} {t : TT Unit} {ks : KS Unit} {ρ vs : List PV} {x : Ex} (h : rounds (fun vs => t.dv (ρ ++ vs)) (init.map (Exp.den ρ)) = some (.y x vs)) : (TT.loop init t ks).dv ρ = ks.dv x vs ρ := by
  simp only [TT.dv, h]
theorem st_hit {t : TT Unit} {ks : KS Unit} {ρ vs : List PV} {x : Ex} : (KS.cons x t ks).dv x vs ρ = t.dv (ρ ++ vs) := by
  simp only [KS.dv, if_true]
/-- A loop that turns all bits of a row. -/
def cplT (p e : Nat) : TT Unit := .ite (.bi .lt (.var p) (.un .len (.var (p + 1)))) (.assert (.bi .le (.int .i64 0) (.var p)) (.assert (.bi .lt (.var p) (.un .len (.var (p + 1)))) (.assert (.bi .le (.int .i64 0) (.var p)) (.assert (.bi .lt (.var p) (.un .len (.var (p + 1)))) (.yield .cont [(.bi (.add .i64) (.var p) (.int .i64 1)), (.tri .set (.var (p + 1)) (.var p) (.un (.cpl .u64) (.bi .get (.var (p + 1)) (.var p))))]))))) (.yield (.ext e) [])
theorem cpl_any {e : Nat} {ρ : List PV} : ∀ (n : Nat) {i : Nat} {y : List Nat}, Words y → y.length < 9000000000000000000 → i + n = y.length →
    rounds (fun vs => (cplT ρ.length e).dv (ρ ++ vs)) [Vi i, Vl y] = some (.y (.ext e) []) := by
  intro n
  induction n with
  | zero =>
    intro i y hy hl hi
    refine rounds_exit ?_ (by simp)
    simp [cplT, TT.dv, show ¬ i < y.length by omega]
  | succ n ih =>
    intro i y hy hl hi
    have e1 : (B.add .i64).den (Vi i) (Vi 1) = Vi (i + 1) := add_i (by omega) (by omega)
    have g1 := get_V (x := y) (i := i) (by omega)
    obtain ⟨c1, c2⟩ := cpl_u (hy.el i)
    refine Eq.trans (rounds_cont ?_) (ih (i := i + 1) (hy.set (i := i) c2) (by simpa using hl) (by rw [List.length_set]; omega))
    simp [cplT, TT.dv, show i < y.length by omega, e1, g1, c1, set_V]
theorem cpl_at {e p : Nat} {x : List Nat} (hw : Words x) (hl : x.length ≤ 17592186043904) : ∀ ρ : List PV, ρ.length = p → rounds (fun vs => (cplT p e).dv (ρ ++ vs)) [Vi 0, Vl x] = some (.y (.ext e) []) := by
  intro ρ hp
  subst hp
  exact cpl_any x.length (i := 0) hw (by omega) (by omega)

def colG (x : List Nat) (c k from_ : Nat) (j : Nat) : Nat := el x (ps (from_ + j) c k)
/-- A column from a row on. -/
def colL (r c : Nat) (x : List Nat) (k from_ : Nat) : List Nat := mk (colG x c k from_) (r - from_)
@[simp] theorem colL_len (r c : Nat) (x : List Nat) (k from_ : Nat) : (colL r c x k from_).length = r - from_ := mk_len _ _
section
variable {r c : Nat} {x : List Nat} (h : Mx r c x) {k f : Nat} (hk : k < c) (hf : f ≤ r)
include h hk hf
end
theorem take_V (x : List Nat) (n : Nat) : B.take.den (Vl x) (Vi n) = Vl (x.take n) := by
  rw [Vl, take_l _ rfl, Vl, List.map_take]
theorem Words.take {x : List Nat} (h : Words x) (n : Nat) : Words (x.take n) := fun a ha => h a (List.mem_of_mem_take ha)
section
variable {r c : Nat} {x : List Nat} (h : Mx r c x) {v : List Nat} (hv : Words v) {tau : Nat} (ht : tau < 18446744073709551616) {i : Nat} (hi : i + v.length ≤ r)
include h hv ht hi
end
end Go.Proofs.Ytogcdllpjcnbkaa.Dx

namespace Go.Proofs.Ytogcdllpjcnbkaa.Dx
open Go

end Go.Proofs.Ytogcdllpjcnbkaa.Dx

namespace Go.Proofs.Ytogcdllpjcnbkaa.Dx
open Go

theorem drop_V (x : List Nat) (n : Nat) : B.drop.den (Vl x) (Vi n) = Vl (x.drop n) := by
  rw [Vl, drop_l _ rfl, Vl, List.map_drop]
def shG (x : List Nat) (k : Int) (i : Nat) : Nat := scaleV (el x i) k
def shV (x : List Nat) (k : Int) : List Nat := mk (shG x k) x.length
@[simp] theorem shV_len (x : List Nat) (k : Int) : (shV x k).length = x.length := mk_len _ _
section
variable {x : List Nat} (hx : Words x) (h1 : 1 ≤ x.length) (h64 : x.length ≤ 64)
include hx h1 h64
end
end Go.Proofs.Ytogcdllpjcnbkaa.Dx

namespace Go.Proofs.Ytogcdllpjcnbkaa.Dx
open Go

end Go.Proofs.Ytogcdllpjcnbkaa.Dx

namespace Go.Proofs.Ytogcdllpjcnbkaa.Dx
open Go

def rowL (c : Nat) (x : List Nat) (i : Nat) : List Nat := (x.take ((i + 1) * c)).drop (i * c)
section
variable {r c : Nat} {x : List Nat} (h : Mx r c x) {i : Nat} (hi : i < r)
include h hi
theorem row_end : (i + 1) * c ≤ x.length := by rw [h.len]; exact Nat.mul_le_mul_right c hi
theorem rowL_len : (rowL c x i).length = c := by
  have := row_end h hi
  unfold rowL
  rw [List.length_drop, List.length_take, Nat.min_eq_left this, Nat.add_mul, Nat.one_mul]; omega
theorem row_ints : (B.mul .i64).den (Vi i) (Vi c) = Vi ((i * c : Nat) : Int) ∧ (B.mul .i64).den ((B.add .i64).den (Vi i) (Vi 1)) (Vi c) = Vi (((i + 1) * c : Nat) : Int) := by
  have h1 := h.hr
  have h2 := h.hc
  have h3 : i * c ≤ 6 * 6 := Nat.mul_le_mul (by omega) h2
  have h4 : (i + 1) * c ≤ 6 * 6 := Nat.mul_le_mul (by omega) h2
  have e1 : (i : Int) * c = ((i * c : Nat) : Int) := by rw [Int.natCast_mul]
  have e2 : ((i : Int) + 1) * c = (((i + 1) * c : Nat) : Int) := by rw [Int.natCast_mul]; rfl
  rw [add_i (by omega) (by omega), mul_i (by rw [e1]; omega) (by rw [e1]; omega), mul_i (by rw [e2]; omega) (by rw [e2]; omega), e1, e2]
  exact ⟨rfl, rfl⟩
theorem mrow9_ok : val 173 [Vi r, Vi c, Vl x, Vi i] = some [Vl (rowL c x i)] := by
  refine val_of tab173 ?_
  obtain ⟨e1, e2⟩ := row_ints h hi
  have hend := row_end h hi
  have hic : i * c ≤ (i + 1) * c := Nat.mul_le_mul_right c (by omega)
  unfold rowL
  have t1 := take_V x ((i + 1) * c)
  have d1 := drop_V (x.take ((i + 1) * c)) (i * c)
  generalize (i + 1) * c = z at *
  generalize i * c = y at *
  simp [tr173, TT.dv, e1, e2, t1, d1, show y ≤ z from hic, show z ≤ x.length from hend]
end
section
variable {ra ca rb cb : Nat} {x y : List Nat} (h : Mx ra ca x) (h' : Mx rb cb y) (hcr : ca = rb)
include h h' hcr
end
section
variable {r c : Nat} {x : List Nat} (h : Mx r c x) {i k m n : Nat} (hi : i + m ≤ r) (hk : k + n ≤ c)
include h hi hk
end
end Go.Proofs.Ytogcdllpjcnbkaa.Dx

namespace Go.Proofs.Ytogcdllpjcnbkaa.Dx
open Go

section
variable {r c j : Nat} (hjr : j < r) (hjc : j < c)
include hjr hjc
end
abbrev Mir := List Nat × Nat × Nat
structure MirOK (r j : Nat) (m : Mir) : Prop where
  len : m.1.length = r - j
  w : Words m.1
  t : m.2.1 < 18446744073709551616
  b : m.2.2 < 18446744073709551616
section
variable {r c j : Nat} {x : List Nat} (h : Mx r c x) (hj : j < c) (hjr : j < r)
include h hj hjr
end
def MsOK (r : Nat) (ms : List Mir) : Prop := ∀ j m, ms[j]? = some m → MirOK r j m
theorem MsOK.app {r : Nat} {ms : List Mir} (h : MsOK r ms) {m : Mir} (hm : MirOK r ms.length m) : MsOK r (ms ++ [m]) := by
  intro j m' hj
  rcases Nat.lt_or_ge j ms.length with h1 | h1
  · rw [List.getElem?_append_left h1] at hj; exact h j m' hj
  · rw [List.getElem?_append_right h1] at hj
    have : j = ms.length := by
      rcases Nat.eq_or_lt_of_le h1 with h2 | h2
      · exact h2.symm
      · rw [List.getElem?_eq_none (by simp; omega)] at hj; cases hj
    subst this
    simp at hj; subst hj; exact hm
end Go.Proofs.Ytogcdllpjcnbkaa.Dx

namespace Go.Proofs.Ytogcdllpjcnbkaa.Dx
open Go

section
variable {r : Nat} {ms : List Mir} (hms : MsOK r ms) (hml : ms.length ≤ r)
include hms hml
end
end Go.Proofs.Ytogcdllpjcnbkaa.Dx

namespace Go.Proofs.Ytogcdllpjcnbkaa.Dx
open Go

theorem same_nil : val 174 [Vi 0, Vi 0, Vl [], Vi 0, Vi 0, Vl []] = some [Vb true] := same_m 0 0 (x := []) (by decide)
end Go.Proofs.Ytogcdllpjcnbkaa.Dx

namespace Go.Proofs.Ytogcdllpjcnbkaa.Dx
open Go

section
variable {r c : Nat} {y : List Nat} (h : Mx r c y) (hu : ∀ a b, b < a → a < r → b < c → el y (ps a c b) = 0)
include h hu
end
end Go.Proofs.Ytogcdllpjcnbkaa.Dx

namespace Go.Proofs.Ytogcdllpjcnbkaa.Dx
open Go

theorem awake_15 : val 62 [] = some [Vb true] := val_iff.2 ⟨4000, by kernel_rfl⟩
theorem el_tpV {r c : Nat} {x : List Nat} {i k : Nat} (hi : i < r) (hk : k < c) : el (tpV r c x) (ps k r i) = el x (ps i c k) := by
  unfold tpV; rw [el_matL _ hk hi]; rfl
def flN (b : Bool) (n i : Nat) : Nat := if b then n - 1 - i else i
theorem flN_lt {b : Bool} {n i : Nat} (h : i < n) : flN b n i < n := by unfold flN; split <;> omega
def flG (r c : Nat) (x : List Nat) (up over : Bool) (i k : Nat) : Nat := el x (ps (flN up r i) c (flN over c k))
def flV (r c : Nat) (x : List Nat) (up over : Bool) : List Nat := matL (flG r c x up over) r c
theorem el_flV {r c : Nat} {x : List Nat} {up over : Bool} {i k : Nat} (hi : i < r) (hk : k < c) : el (flV r c x up over) (ps i c k) = el x (ps (flN up r i) c (flN over c k)) := by
  unfold flV; rw [el_matL _ hi hk]; rfl
theorem flV_mx {r c : Nat} {x : List Nat} (h : Mx r c x) (up over : Bool) : Mx r c (flV r c x up over) := matL_mx h.hr h.hc fun _ _ _ _ => h.w.el _
theorem flV_comp {r c : Nat} {x : List Nat} (h : Mx r c x) : flV r c (flV r c x true false) false true = flV r c x true true := by
  refine mat_ext (r := r) (c := c) (matL_len _ _ _) (matL_len _ _ _) fun i k hi hk => ?_
  rw [el_flV hi hk, el_flV hi hk, el_flV (flN_lt hi) (flN_lt hk)]
  rfl
theorem flV_same {r c : Nat} {x : List Nat} (h : Mx r c x) : flV r c x false false = x := by
  refine mat_ext (r := r) (c := c) (matL_len _ _ _) h.len fun i k hi hk => ?_
  rw [el_flV hi hk]; rfl
theorem fli_ok {n i : Nat} (hi : i < n) (hn : n ≤ 6) (b : Bool) : val 276 [Vi i, Vi n, Vb b] = some [Vi (flN b n i)] := by
  refine val_of tab276 ?_
  have s1 : (B.sub .i64).den (Vi n) (Vi 1) = Vi ((n : Int) - 1) := sub_i (by omega) (by omega)
  have s2 : (B.sub .i64).den (Vi ((n : Int) - 1)) (Vi i) = Vi ((n - 1 - i : Nat) : Int) := by rw [sub_i (by omega) (by omega)]; exact congrArg Vi (by omega)
  cases b
  · simp [tr276, TT.dv, flN]
  · rw [show flN true n i = n - 1 - i from rfl]
    generalize ((n - 1 - i : Nat) : Int) = z at *
    simp [tr276, TT.dv, s1, s2]
section
variable {r c : Nat} {x : List Nat} (h : Mx r c x) {up over : Bool}
include h
theorem fl_inner {x5 x7 : PV} {acc : List Nat} (ha : acc.length ≤ 1000) {i : Nat} (hi : i < r) : ∀ (n : Nat) {k : Nat}, k + n = c →
    rounds (fun vs => lo275_2.dv (Vi r :: Vi c :: Vl x :: Vb up :: Vb over :: x5 :: Vi i :: x7 :: vs)) [Vi k, Vl (acc ++ mk (flG r c x up over i) k)] = some (.y (.ext 2) [Vl (acc ++ mk (flG r c x up over i) c)]) := by
  intro n
  have hr := h.hr
  have hc := h.hc
  induction n with
  | zero =>
    intro k hk
    have : k = c := by omega
    subst this
    refine rounds_exit ?_ (by simp)
    simp [lo275_2, TT.dv]
  | succ n ih =>
    intro k hk
    have hkc : k < c := by omega
    refine Eq.trans (rounds_cont ?_) (ih (k := k + 1) (by omega))
    have e1 : (B.add .i64).den (Vi k) (Vi 1) = Vi (k + 1) := add_i (by omega) (by omega)
    have h1 := fli_ok hi hr up
    have h2 := fli_ok hkc hc over
    have f1 := flN_lt (b := up) hi
    have f2 := flN_lt (b := over) hkc
    have p1 := pos_i (i := flN up r i) (c := c) (k := flN over c k) (by omega) (by omega) (by omega)
    have l1 := h.lt f1 f2
    have g1 := get_V l1
    have a1 := app_V (acc ++ mk (flG r c x up over i) k) (flG r c x up over i k)
    rw [List.append_assoc, mk_succ] at a1
    have l2 : ((acc.length : Int) + (k + 1)) ≤ 17592186044416 := by omega
    unfold flG at a1 ⊢
    simp [lo275_2, TT.dv, hkc, h1, h2, e1, p1, l1, g1, a1, l2]
theorem fl_outer {x5 : PV} : ∀ (n : Nat) {i : Nat}, i + n = r →
    rounds (fun vs => lo275_1.dv (Vi r :: Vi c :: Vl x :: Vb up :: Vb over :: x5 :: vs)) [Vi i, Vl (matL (flG r c x up over) i c)] = some (.y (.ext 0) [Vl (matL (flG r c x up over) r c)]) := by
  intro n
  have hr := h.hr
  have hc := h.hc
  induction n with
  | zero =>
    intro i hi
    have : i = r := by omega
    subst this
    refine rounds_exit ?_ (by simp)
    simp [lo275_1, TT.dv]
  | succ n ih =>
    intro i hi
    refine Eq.trans (rounds_cont ?_) (ih (i := i + 1) (by omega))
    have e1 : (B.add .i64).den (Vi i) (Vi 1) = Vi (i + 1) := add_i (by omega) (by omega)
    have hl : (matL (flG r c x up over) i c).length ≤ 1000 := by
      rw [matL_len]
      have : i * c ≤ 6 * 6 := Nat.mul_le_mul (by omega) hc
      omega
    have hin := fl_inner h (up := up) (over := over) (x5 := x5) (x7 := Vl (matL (flG r c x up over) i c)) hl (i := i) (by omega) c (k := 0) (by omega)
    rw [show ((0 : Nat) : Int) = 0 from rfl, show mk (flG r c x up over i) 0 = [] from rfl, List.append_nil, matL_succ] at hin
    simp [lo275_1, TT.dv, KS.dv, show i < r by omega, hin, e1]
theorem fl_ok (up over : Bool) : val 275 [Vi r, Vi c, Vl x, Vb up, Vb over] = some [Vi r, Vi c, Vl (flV r c x up over), Vi 0] := by
  refine val_of tab275 ?_
  have h1 := check_ok r c x
  rw [if_pos (mx_right h)] at h1
  have hlp := fl_outer h (up := up) (over := over) (x5 := Vi 0) r (i := 0) (by omega)
  rw [show ((0 : Nat) : Int) = 0 from rfl, show matL (flG r c x up over) 0 c = [] from rfl] at hlp
  simp [tr275, TT.dv, KS.dv, h1, hlp, flV]
theorem rowL_mk {i : Nat} (hi : i < r) : rowL c x i = mk (fun k => el x (ps i c k)) c := by
  have hl := rowL_len h hi
  refine List.ext_getElem (by rw [hl, mk_len]) fun t h1 h2 => ?_
  have e1 : (rowL c x i)[t]? = x[i * c + t]? := by
    have := row_end h hi
    unfold rowL
    rw [List.getElem?_drop, List.getElem?_take, if_pos (by rw [Nat.add_mul, Nat.one_mul]; rw [hl] at h1; omega)]
  rw [List.getElem?_eq_getElem h1] at e1
  have e2 : (mk (fun k => el x (ps i c k)) c)[t] = el x (ps i c t) := by simp [mk]
  rw [e2]
  unfold el ps
  rw [List.getD_eq_getElem?_getD, ← e1]; rfl
theorem dn9_loop : ∀ (n : Nat), n ≤ r →
    rounds (fun vs => lo198_1.dv (Vi r :: Vi c :: Vl x :: vs)) [Vi ((n : Int) - 1), Vl (matL (flG r c x true false) (r - n) c)] = some (.y (.ext 0) [Vl (matL (flG r c x true false) r c)]) := by
  intro n
  have hr := h.hr
  have hc := h.hc
  induction n with
  | zero =>
    intro hn
    refine rounds_exit ?_ (by simp)
    simp [lo198_1, TT.dv]
  | succ n ih =>
    intro hn
    refine Eq.trans (rounds_cont ?_) (ih (by omega))
    have e0 : ((n + 1 : Nat) : Int) - 1 = (n : Int) := by omega
    have e1 : (B.sub .i64).den (Vi n) (Vi 1) = Vi ((n : Int) - 1) := sub_i (by omega) (by omega)
    have r1 := mrow9_ok h (i := n) (by omega)
    have e2 : rowL c x n = mk (flG r c x true false (r - (n + 1))) c := by
      rw [rowL_mk h (by omega)]
      refine mk_congr fun k hk => ?_
      unfold flG flN
      rw [if_pos rfl, if_neg (by decide), show r - 1 - (r - (n + 1)) = n by omega]
    have e3 := matL_succ (flG r c x true false) (r - (n + 1)) c
    rw [show r - (n + 1) + 1 = r - n by omega, ← e2] at e3
    have hl : (matL (flG r c x true false) (r - n) c).length ≤ 1000 := by
      rw [matL_len]
      have : (r - n) * c ≤ 6 * 6 := Nat.mul_le_mul (by omega) hc
      omega
    have a1 : B.app.den (Vl (matL (flG r c x true false) (r - (n + 1)) c)) (Vl (rowL c x n)) = Vl (matL (flG r c x true false) (r - n) c) := by
      rw [← e3]
      show _ = PV.l (List.map Vu (_ ++ _))
      rw [List.map_append]
      rfl
    rw [e0]
    generalize matL (flG r c x true false) (r - n) c = A at *
    generalize matL (flG r c x true false) (r - (n + 1)) c = A' at *
    simp [lo198_1, TT.dv, r1, e1, a1, show (A.length : Int) ≤ 17592186044416 by omega]
theorem dn9_ok : val 198 [Vi r, Vi c, Vl x] = some [Vi r, Vi c, Vl (flV r c x true false)] := by
  refine val_of tab198 ?_
  have hr := h.hr
  have hlp := dn9_loop h r (Nat.le_refl _)
  rw [Nat.sub_self, show matL (flG r c x true false) 0 c = [] from rfl] at hlp
  have e1 : (B.sub .i64).den (Vi r) (Vi 1) = Vi ((r : Int) - 1) := sub_i (by omega) (by omega)
  simp [tr198, TT.dv, KS.dv, e1, hlp, flV]
theorem left9_ok : val 200 [Vi r, Vi c, Vl x] = some [Vi r, Vi c, Vl (flV r c x false true)] := by
  refine val_of tab200 ?_
  have h1 := tp9_ok h
  have m1 := tpV_mx h
  have h2 := dn9_ok m1
  have m2 := flV_mx m1 true false
  have h3 := tp9_ok m2
  have e : tpV c r (flV c r (tpV r c x) true false) = flV r c x false true := by
    refine mat_ext (r := r) (c := c) (matL_len _ _ _) (matL_len _ _ _) fun i k hi hk => ?_
    rw [el_tpV hk hi, el_flV hk hi, el_flV hi hk, el_tpV (flN_lt hi) (flN_lt hk)]
  rw [e] at h3
  simp [tr200, TT.dv, h1, h2, h3]
theorem flip9_ok (up over : Bool) : val 199 [Vi r, Vi c, Vl x, Vb up, Vb over] = some [Vi r, Vi c, Vl (flV r c x up over)] := by
  refine val_of tab199 ?_
  have h1 := dn9_ok h
  have h2 := left9_ok h
  have h3 := left9_ok (flV_mx h true false)
  rw [flV_comp h] at h3
  cases up <;> cases over
  · rw [flV_same h]; simp [tr199, TT.dv, KS.dv]
  · simp [tr199, TT.dv, KS.dv, h2]
  · simp [tr199, TT.dv, KS.dv, h1]
  · simp [tr199, TT.dv, KS.dv, h1, h3]
end
theorem fl_no {R C : Int} {x : List Nat} (hn : ¬ rightP R C x) (p q : PV) : val 275 [Vi R, Vi C, Vl x, p, q] = some [Vi 0, Vi 0, Vl [], Vi 1] := by
  refine val_of tab275 ?_
  have h1 := check_ok R C x
  rw [if_neg hn] at h1
  simp [tr275, TT.dv, h1]
theorem cpl60 : lo60_1 = cplT 12 0 := rfl
theorem law_RqFlips {R C : Int} (_ : -9223372036854775808 ≤ R) (_ : R < 9223372036854775808) (_ : -9223372036854775808 ≤ C) (_ : C < 9223372036854775808) {x : List Nat} (hw : Words x) (hl : x.length ≤ 17592186043904) {up over : Bool} :
    val 60 [Vi R, Vi C, Vl x, Vb up, Vb over] = some [Vb true] := by
  refine val_of tab60 ?_
  have cp := copy_ok R C (x := x) (by omega)
  have lp := cpl_at (p := 12) (e := 0) hw hl
  rw [← cpl60] at lp
  have ri := right_ok10 R C x
  by_cases hr : rightP R C x
  · rw [decide_eq_true hr] at ri
    obtain ⟨r, c, rfl, rfl, h⟩ := right_mx hr hw
    have f1 := fl_ok h up over
    have f9 := flip9_ok h up over
    have sm := same_m r c (x := flV r c x up over) (by have := (flV_mx h up over).small; omega)
    refine Eq.trans (st_call rfl cp rfl) ?_
    refine Eq.trans (st_call rfl f1 rfl) ?_
    refine Eq.trans (st_loop (lp _ rfl)) ?_
    refine Eq.trans st_hit ?_
    simp only [List.cons_append, List.nil_append, List.append_nil]
    simp [TT.dv, KS.dv, ri, f9, sm, awake_15]
  · rw [decide_eq_false hr] at ri
    have f1 := fl_no hr (Vb up) (Vb over)
    refine Eq.trans (st_call rfl cp rfl) ?_
    refine Eq.trans (st_call rfl f1 rfl) ?_
    refine Eq.trans (st_loop (lp _ rfl)) ?_
    refine Eq.trans st_hit ?_
    simp only [List.cons_append, List.nil_append, List.append_nil]
    simp [TT.dv, KS.dv, ri, same_nil, awake_15]
section
variable {r c : Nat} {y : List Nat} (h : Mx r c y)
include h
end
end Go.Proofs.Ytogcdllpjcnbkaa.Dx
