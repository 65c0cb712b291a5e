/- The pure meaning of the functions that the law reaches, and that the law is true of it. No conditions. -/
import Derived.KernelRfl
import Derived.Test.YtflhhhijegoheaaRootWholesTab
set_option linter.all false
/- The pure meaning of functions without rounds counted: values of functions and of trees, equations for them. -/
namespace Go.Proofs.Ytflhhhijegoheaa.Dx
open Go

def LeF (F G : Nat → List PV → Option (List PV)) : Prop := ∀ f a rs, F f a = some rs → G f a = some rs
section
variable {α : Type} {F G : Nat → List PV → Option (List PV)} {N M : Nat}
theorem iter_mono {f g : List PV → Option (Out α)} (h : ∀ vs o, f vs = some o → g vs = some o) : ∀ {n m : Nat} {vs : List PV} {o : Out α}, n ≤ m → iter f n vs = some o → iter g m vs = some o
  | 0, _, _, _, _, hi => by simp [iter] at hi
  | n + 1, 0, _, _, hl, _ => by omega
  | n + 1, m + 1, vs, o, hl, hi => by
    unfold iter at hi ⊢
    split at hi
    · rename_i vs' hf
      rw [h _ _ hf]
      exact iter_mono h (by omega) hi
    · rename_i o' hne
      rw [h _ _ hi]
      split
      · rename_i vs' heq
        cases heq
        exact absurd hi (hne _)
      · rfl
mutual
theorem TT.den_mono (hF : LeF F G) (hN : N ≤ M) : ∀ {t : TT α} {ρ : List PV} {o : Out α}, t.den F N ρ = some o → t.den G M ρ = some o
  | .leaf _ _, _, _, h => h
  | .yield _ _, _, _, h => h
  | .fail _, _, _, h => by simp [TT.den] at h
  | .assert e t, ρ, o, h => by
    simp only [TT.den] at h ⊢
    split at h
    · rename_i he; rw [if_pos he]; exact TT.den_mono hF hN h
    · cases h
  | .call g f xs n t, ρ, o, h => by
    simp only [TT.den] at h ⊢
    split at h
    · rename_i he
      rw [if_pos he]
      split at h
      · rename_i rs hrs
        rw [hF _ _ _ hrs]
        split at h
        · rename_i hl; simp only [hl, if_true]; exact TT.den_mono hF hN h
        · cases h
      · cases h
    · rename_i he; rw [if_neg he]; exact TT.den_mono hF hN h
  | .callv x xs n t, ρ, o, h => by
    simp only [TT.den] at h ⊢
    split at h
    · rename_i f caps hx
      split at h
      · rename_i rs hrs
        rw [hF _ _ _ hrs]
        split at h
        · rename_i hl; simp only [hl, if_true]; exact TT.den_mono hF hN h
        · cases h
      · cases h
    · cases h
  | .ite c a b, ρ, o, h => by
    simp only [TT.den] at h ⊢
    split at h
    · rename_i hc; rw [if_pos hc]; exact TT.den_mono hF hN h
    · rename_i hc; rw [if_neg hc]; exact TT.den_mono hF hN h
  | .scope t ks, ρ, o, h => by
    simp only [TT.den] at h ⊢
    split at h
    · rename_i x vs ht
      rw [TT.den_mono hF hN ht]
      exact KS.den_mono hF hN h
    · cases h
  | .loop i t ks, ρ, o, h => by
    simp only [TT.den] at h ⊢
    split at h
    · rename_i x vs ht
      rw [iter_mono (fun vs o h => TT.den_mono hF hN h) hN ht]
      exact KS.den_mono hF hN h
    · cases h
theorem KS.den_mono (hF : LeF F G) (hN : N ≤ M) : ∀ {ks : KS α} {x : Ex} {vs ρ : List PV} {o : Out α}, ks.den F N x vs ρ = some o → ks.den G M x vs ρ = some o
  | .nil, _, _, _, _, h => by simp [KS.den] at h
  | .cons y t ks, x, vs, ρ, o, h => by
    simp only [KS.den] at h ⊢
    split at h
    · rename_i hc; rw [if_pos hc]; exact TT.den_mono hF hN h
    · rename_i hc; rw [if_neg hc]; exact KS.den_mono hF hN h
end
end
theorem fden_mono : ∀ {k m : Nat}, k ≤ m → LeF (fden tab k) (fden tab m)
  | 0, _, _, _, _, _, h => by simp [fden] at h
  | k + 1, 0, hl, _, _, _, _ => by omega
  | k + 1, m + 1, hl, f, a, rs, h => by
    simp only [fden] at h ⊢
    split at h
    · cases h
    · split at h
      · rename_i t ht vs hv
        rw [TT.den_mono (fden_mono (by omega : k ≤ m)) (by omega : k ≤ m) hv]; exact h
      · cases h

open Classical in
/-- What a function answers. -/
noncomputable def val (f : Nat) (a : List PV) : Option (List PV) := if h : ∃ rs k, fden tab k f a = some rs then some (Classical.choose h) else none
theorem val_iff {f : Nat} {a rs : List PV} : val f a = some rs ↔ ∃ k, fden tab k f a = some rs := by
  unfold val
  constructor
  · intro h
    split at h
    · rename_i hh
      cases h
      exact Classical.choose_spec hh
    · cases h
  · rintro ⟨k, hk⟩
    have hh : ∃ rs k, fden tab k f a = some rs := ⟨rs, k, hk⟩
    rw [dif_pos hh]
    obtain ⟨k', hk'⟩ := Classical.choose_spec hh
    have h1 := fden_mono (Nat.le_max_left k k') _ _ _ hk
    have h2 := fden_mono (Nat.le_max_right k k') _ _ _ hk'
    rw [h1] at h2
    exact h2.symm

open Classical in
/-- What rounds come to. -/
noncomputable def rounds (f : List PV → Option (Out Unit)) (vs : List PV) : Option (Out Unit) := if h : ∃ o n, iter f n vs = some o then some (Classical.choose h) else none
theorem rounds_iff {f : List PV → Option (Out Unit)} {vs : List PV} {o : Out Unit} : rounds f vs = some o ↔ ∃ n, iter f n vs = some o := by
  unfold rounds
  constructor
  · intro h
    split at h
    · rename_i hh
      cases h
      exact Classical.choose_spec hh
    · cases h
  · rintro ⟨k, hk⟩
    have hh : ∃ o n, iter f n vs = some o := ⟨o, k, hk⟩
    rw [dif_pos hh]
    obtain ⟨k', hk'⟩ := Classical.choose_spec hh
    have h1 := iter_mono (fun _ _ h => h) (Nat.le_max_left k k') hk
    have h2 := iter_mono (fun _ _ h => h) (Nat.le_max_right k k') hk'
    rw [h1] at h2
    exact h2.symm
/-- A loop's first round. -/
theorem rounds_eq (f : List PV → Option (Out Unit)) (vs : List PV) : rounds f vs = match f vs with | some (.y .cont vs') => rounds f vs' | o => o := by
  have key : ∀ o, rounds f vs = some o ↔ (match f vs with | some (.y .cont vs') => rounds f vs' | o => o) = some o := fun o => by
    rw [rounds_iff]
    constructor
    · rintro ⟨n, hn⟩
      cases n with
      | zero => simp [iter] at hn
      | succ n =>
        unfold iter at hn
        split at hn
        · rename_i vs' hf
          rw [hf]
          exact rounds_iff.2 ⟨n, hn⟩
        · rename_i o' hne
          rw [hn]
          split
          · rename_i vs' heq
            cases heq
            exact absurd hn (hne _)
          · rfl
    · intro h
      split at h
      · rename_i vs' hf
        obtain ⟨n, hn⟩ := rounds_iff.1 h
        exact ⟨n + 1, by unfold iter; rw [hf]; exact hn⟩
      · rename_i o' hne
        refine ⟨1, ?_⟩
        unfold iter
        rw [h]
        split
        · rename_i vs' heq
          cases heq
          exact absurd h (hne _)
        · rfl
  cases h1 : rounds f vs with
  | some o => exact ((key o).1 h1).symm
  | none =>
    generalize hr : (match f vs with | some (.y .cont vs') => rounds f vs' | o => o) = r at key
    cases r with
    | none => rfl
    | some o => rw [(key o).2 rfl] at h1; cases h1
theorem rounds_cont {f : List PV → Option (Out Unit)} {vs vs' : List PV} (h : f vs = some (.y .cont vs')) : rounds f vs = rounds f vs' := by
  rw [rounds_eq, h]
theorem rounds_exit {f : List PV → Option (Out Unit)} {vs us : List PV} {x : Ex} (h : f vs = some (.y x us)) (hx : x ≠ .cont) : rounds f vs = some (.y x us) := by
  rw [rounds_eq, h]
  cases x <;> first | rfl | exact absurd rfl hx

mutual
/-- What a tree comes to. -/
noncomputable def TT.dv : TT Unit → List PV → Option (Out Unit)
  | .leaf x s, ρ => some (.lf x s ρ)
  | .yield x xs, ρ => some (.y x (xs.map (Exp.den ρ)))
  | .fail _, _ => none
  | .assert e t, ρ => if e.isTrue ρ then t.dv ρ else none
  | .call g f xs n t, ρ =>
    if g.isTrue ρ then
      match val f (xs.map (Exp.den ρ)) with
      | some rs => if rs.length = n then t.dv (ρ ++ rs) else none
      | none => none
    else t.dv (ρ ++ List.replicate n default)
  | .callv x xs n t, ρ =>
    match x.den ρ with
    | .fn f caps =>
      match val f (xs.map (Exp.den ρ) ++ caps) with
      | some rs => if rs.length = n then t.dv (ρ ++ rs) else none
      | none => none
    | _ => none
  | .ite c a b, ρ => if c.isTrue ρ then a.dv ρ else b.dv ρ
  | .scope t ks, ρ =>
    match t.dv ρ with
    | some (.y x vs) => ks.dv x vs ρ
    | _ => none
  | .loop init t ks, ρ =>
    match rounds (fun vs => t.dv (ρ ++ vs)) (init.map (Exp.den ρ)) with
    | some (.y x vs) => ks.dv x vs ρ
    | _ => none
noncomputable def KS.dv : KS Unit → Ex → List PV → List PV → Option (Out Unit)
  | .nil, _, _, _ => none
  | .cons x t ks, y, vs, ρ => if x = y then t.dv (ρ ++ vs) else ks.dv y vs ρ
end

def Fin (t : TT Unit) (ρ : List PV) (o : Out Unit) : Prop := ∃ k, t.den (fden tab k) k ρ = some o
theorem iter_fin {t : TT Unit} {ρ : List PV} (ht : ∀ vs o, t.dv (ρ ++ vs) = some o → Fin t (ρ ++ vs) o) : ∀ {n : Nat} {vs : List PV} {o : Out Unit}, iter (fun vs => t.dv (ρ ++ vs)) n vs = some o →
    ∃ k, iter (fun vs => t.den (fden tab k) k (ρ ++ vs)) k vs = some o
  | 0, _, _, h => by simp [iter] at h
  | n + 1, vs, o, h => by
    unfold iter at h
    split at h
    · rename_i vs' hf
      obtain ⟨k1, h1⟩ := ht _ _ hf
      obtain ⟨k2, h2⟩ := iter_fin ht h
      refine ⟨max k1 k2 + 1, ?_⟩
      unfold iter
      rw [TT.den_mono (fden_mono (by omega : k1 ≤ max k1 k2 + 1)) (by omega) h1]
      dsimp only
      exact iter_mono (fun vs o hh => TT.den_mono (fden_mono (by omega : k2 ≤ max k1 k2 + 1)) (by omega) hh) (by omega) h2
    · rename_i o' hne
      obtain ⟨k1, h1⟩ := ht _ _ h
      refine ⟨k1 + 1, ?_⟩
      unfold iter
      rw [TT.den_mono (fden_mono (by omega : k1 ≤ k1 + 1)) (by omega) h1]
      split
      · rename_i vs' heq
        cases heq
        exact absurd h (hne _)
      · rfl
mutual
theorem TT.dv_fin : ∀ {t : TT Unit} {ρ : List PV} {o : Out Unit}, t.dv ρ = some o → Fin t ρ o
  | .leaf _ _, _, _, h => ⟨0, h⟩
  | .yield _ _, _, _, h => ⟨0, h⟩
  | .fail _, _, _, h => by simp [TT.dv] at h
  | .assert e t, ρ, o, h => by
    simp only [TT.dv] at h
    split at h
    · rename_i he
      obtain ⟨k, hk⟩ := TT.dv_fin h
      exact ⟨k, by simp only [TT.den]; rw [if_pos he]; exact hk⟩
    · cases h
  | .call g f xs n t, ρ, o, h => by
    simp only [TT.dv] at h
    split at h
    · rename_i he
      split at h
      · rename_i rs hrs
        split at h
        · rename_i hl
          obtain ⟨k1, h1⟩ := val_iff.1 hrs
          obtain ⟨k2, h2⟩ := TT.dv_fin h
          refine ⟨max k1 k2, ?_⟩
          simp only [TT.den]
          rw [if_pos he, fden_mono (Nat.le_max_left k1 k2) _ _ _ h1]
          simp only [hl, if_true]
          exact TT.den_mono (fden_mono (Nat.le_max_right k1 k2)) (Nat.le_max_right k1 k2) h2
        · cases h
      · cases h
    · rename_i he
      obtain ⟨k, hk⟩ := TT.dv_fin h
      exact ⟨k, by simp only [TT.den]; rw [if_neg he]; exact hk⟩
  | .callv x xs n t, ρ, o, h => by
    simp only [TT.dv] at h
    split at h
    · rename_i f caps hx
      split at h
      · rename_i rs hrs
        split at h
        · rename_i hl
          obtain ⟨k1, h1⟩ := val_iff.1 hrs
          obtain ⟨k2, h2⟩ := TT.dv_fin h
          refine ⟨max k1 k2, ?_⟩
          simp only [TT.den, hx]
          rw [fden_mono (Nat.le_max_left k1 k2) _ _ _ h1]
          simp only [hl, if_true]
          exact TT.den_mono (fden_mono (Nat.le_max_right k1 k2)) (Nat.le_max_right k1 k2) h2
        · cases h
      · cases h
    · cases h
  | .ite c a b, ρ, o, h => by
    simp only [TT.dv] at h
    split at h
    · rename_i hc
      obtain ⟨k, hk⟩ := TT.dv_fin h
      exact ⟨k, by simp only [TT.den]; rw [if_pos hc]; exact hk⟩
    · rename_i hc
      obtain ⟨k, hk⟩ := TT.dv_fin h
      exact ⟨k, by simp only [TT.den]; rw [if_neg hc]; exact hk⟩
  | .scope t ks, ρ, o, h => by
    simp only [TT.dv] at h
    split at h
    · rename_i x vs ht
      obtain ⟨k1, h1⟩ := TT.dv_fin ht
      obtain ⟨k2, h2⟩ := KS.dv_fin h
      refine ⟨max k1 k2, ?_⟩
      simp only [TT.den]
      rw [TT.den_mono (fden_mono (Nat.le_max_left k1 k2)) (Nat.le_max_left k1 k2) h1]
      exact KS.den_mono (fden_mono (Nat.le_max_right k1 k2)) (Nat.le_max_right k1 k2) h2
    · cases h
  | .loop i t ks, ρ, o, h => by
    simp only [TT.dv] at h
    split at h
    · rename_i x vs ht
      obtain ⟨n, hn⟩ := rounds_iff.1 ht
      obtain ⟨k1, h1⟩ := iter_fin (fun vs o hh => TT.dv_fin hh) hn
      obtain ⟨k2, h2⟩ := KS.dv_fin h
      refine ⟨max k1 k2, ?_⟩
      simp only [TT.den]
      rw [iter_mono (fun vs o hh => TT.den_mono (fden_mono (Nat.le_max_left k1 k2)) (Nat.le_max_left k1 k2) hh) (Nat.le_max_left k1 k2) h1]
      exact KS.den_mono (fden_mono (Nat.le_max_right k1 k2)) (Nat.le_max_right k1 k2) h2
    · cases h
theorem KS.dv_fin : ∀ {ks : KS Unit} {x : Ex} {vs ρ : List PV} {o : Out Unit}, ks.dv x vs ρ = some o → ∃ k, ks.den (fden tab k) k x vs ρ = some o
  | .nil, _, _, _, _, h => by simp [KS.dv] at h
  | .cons y t ks, x, vs, ρ, o, h => by
    simp only [KS.dv] at h
    split at h
    · rename_i hc
      obtain ⟨k, hk⟩ := TT.dv_fin h
      exact ⟨k, by simp only [KS.den]; rw [if_pos hc]; exact hk⟩
    · rename_i hc
      obtain ⟨k, hk⟩ := KS.dv_fin h
      exact ⟨k, by simp only [KS.den]; rw [if_neg hc]; exact hk⟩
end
/-- A function answers what its tree comes to. -/
theorem val_of {f : Nat} {t : TT Unit} {a vs : List PV} (ht : tab f = some t) (h : t.dv a = some (.y .ret vs)) : val f a = some vs := by
  obtain ⟨k, hk⟩ := TT.dv_fin h
  exact val_iff.2 ⟨k + 1, by simp only [fden, ht, hk]⟩
end Go.Proofs.Ytflhhhijegoheaa.Dx

/- Plain numbers as pure values, and what the operations make of them. -/
namespace Go.Proofs.Ytflhhhijegoheaa.Dx
open Go

def Vu (n : Nat) : PV := .v (.int .u64 n)
def Vw (n : Nat) : PV := .v (.int .u32 n)
def Vy (n : Nat) : PV := .v (.int .u8 n)
def Vi (x : Int) : PV := .v (.int .i64 x)
def Vb (b : Bool) : PV := .v (.bool b)
def Vf (n : Nat) : PV := .v (.float .f64 n)

@[simp] theorem int_U (n : Nat) : (Vu n).int = n := rfl
@[simp] theorem int_W (n : Nat) : (Vw n).int = n := rfl
@[simp] theorem int_Y (n : Nat) : (Vy n).int = n := rfl
@[simp] theorem int_I (x : Int) : (Vi x).int = x := rfl
@[simp] theorem bool_Bo (b : Bool) : (Vb b).bool = b := rfl
@[simp] theorem flt_Fl (n : Nat) : (Vf n).flt = n := rfl
@[simp] theorem list_l (xs : List PV) : (PV.l xs).list = xs := rfl
@[simp] theorem cells_a (xs : List PV) : (PV.a xs).cells = xs := rfl

theorem U_inj {a b : Nat} : Vu a = Vu b ↔ a = b := by simp only [Vu, PV.v.injEq, Value.int.injEq, true_and]; omega
theorem W_inj {a b : Nat} : Vw a = Vw b ↔ a = b := by simp only [Vw, PV.v.injEq, Value.int.injEq, true_and]; omega
theorem I_inj {a b : Int} : Vi a = Vi b ↔ a = b := by simp [Vi]
theorem Bo_inj {a b : Bool} : Vb a = Vb b ↔ a = b := by simp [Vb]

theorem wf_u64 {a : Int} (h : (Lit.int .u64 a).wf = true) : ∃ n : Nat, a = n ∧ n < 18446744073709551616 := by
  simp [Lit.wf, IntKind.min, IntKind.max, IntKind.signed, IntKind.bits] at h
  exact ⟨a.toNat, by omega, by omega⟩
theorem wf_i64 {a : Int} (h : (Lit.int .i64 a).wf = true) : -9223372036854775808 ≤ a ∧ a < 9223372036854775808 := by
  simp [Lit.wf, IntKind.min, IntKind.max, IntKind.signed, IntKind.bits] at h
  exact ⟨by omega, by omega⟩

/-! ### expressions -/
section
variable {ρ : List PV}
@[simp] theorem den_var (n : Nat) : (Exp.var n).den ρ = ρ.getD n default := rfl
@[simp] theorem den_i64 (n : Int) : (Exp.int .i64 n).den ρ = Vi n := rfl
theorem den_u64 {n : Int} (h : 0 ≤ n) : (Exp.int .u64 n).den ρ = Vu n.toNat := by simp [Exp.den, Vu, Int.toNat_of_nonneg h]
theorem den_u32 {n : Int} (h : 0 ≤ n) : (Exp.int .u32 n).den ρ = Vw n.toNat := by simp [Exp.den, Vw, Int.toNat_of_nonneg h]
theorem den_u8 {n : Int} (h : 0 ≤ n) : (Exp.int .u8 n).den ρ = Vy n.toNat := by simp [Exp.den, Vy, Int.toNat_of_nonneg h]
@[simp] theorem den_u64_lit (n : Nat) : (Exp.int .u64 (no_index (OfNat.ofNat n))).den ρ = Vu (OfNat.ofNat n) := rfl
@[simp] theorem den_u32_lit (n : Nat) : (Exp.int .u32 (no_index (OfNat.ofNat n))).den ρ = Vw (OfNat.ofNat n) := rfl
@[simp] theorem den_u8_lit (n : Nat) : (Exp.int .u8 (no_index (OfNat.ofNat n))).den ρ = Vy (OfNat.ofNat n) := rfl
@[simp] theorem den_bool (b : Bool) : (Exp.bool b).den ρ = Vb b := rfl
@[simp] theorem den_flt (n : Nat) : (Exp.flt n).den ρ = Vf n := rfl
@[simp] theorem den_nil : (Exp.nil).den ρ = .l [] := rfl
@[simp] theorem den_un (o : U) (x : Exp) : (Exp.un o x).den ρ = o.den (x.den ρ) := rfl
@[simp] theorem den_bi (o : B) (x y : Exp) : (Exp.bi o x y).den ρ = o.den (x.den ρ) (y.den ρ) := rfl
@[simp] theorem den_tri (o : T3) (x y z : Exp) : (Exp.tri o x y z).den ρ = o.den (x.den ρ) (y.den ρ) (z.den ρ) := rfl
@[simp] theorem isTrue_den (e : Exp) : e.isTrue ρ = (e.den ρ).bool := rfl
end

/-! ### wraps -/
theorem wrap_u64 (n : Int) : IntKind.u64.wrap n = n % 18446744073709551616 := by simp [IntKind.wrap, IntKind.signed, IntKind.bits]
theorem wrap_u32 (n : Int) : IntKind.u32.wrap n = n % 4294967296 := by simp [IntKind.wrap, IntKind.signed, IntKind.bits]
theorem wrap_u8 (n : Int) : IntKind.u8.wrap n = n % 256 := by simp [IntKind.wrap, IntKind.signed, IntKind.bits]
theorem wrap_i64 (n : Int) : IntKind.i64.wrap n = if n % 18446744073709551616 ≥ 9223372036854775808 then n % 18446744073709551616 - 18446744073709551616 else n % 18446744073709551616 := by
  simp [IntKind.wrap, IntKind.signed, IntKind.bits]
theorem wrap_i64_of {n : Int} (h1 : -9223372036854775808 ≤ n) (h2 : n < 9223372036854775808) : IntKind.i64.wrap n = n := by
  rw [wrap_i64]; split <;> omega

/-! ### whole numbers with a sign -/
section
variable {x y : Int}
theorem add_i (h1 : -9223372036854775808 ≤ x + y) (h2 : x + y < 9223372036854775808) : (B.add .i64).den (Vi x) (Vi y) = Vi (x + y) := by simp [B.den, Vi, wrap_i64_of h1 h2, PV.int]
theorem sub_i (h1 : -9223372036854775808 ≤ x - y) (h2 : x - y < 9223372036854775808) : (B.sub .i64).den (Vi x) (Vi y) = Vi (x - y) := by simp [B.den, Vi, wrap_i64_of h1 h2, PV.int]
theorem mul_i (h1 : -9223372036854775808 ≤ x * y) (h2 : x * y < 9223372036854775808) : (B.mul .i64).den (Vi x) (Vi y) = Vi (x * y) := by simp [B.den, Vi, wrap_i64_of h1 h2, PV.int]
theorem neg_i (h1 : -9223372036854775808 < x) (h2 : x < 9223372036854775808) : (U.neg .i64).den (Vi x) = Vi (-x) := by
  simp only [U.den, Vi, PV.int]; rw [wrap_i64_of (by omega) (by omega)]; simp
@[simp] theorem iadd_i : B.iadd.den (Vi x) (Vi y) = Vi (x + y) := rfl
@[simp] theorem isub_i : B.isub.den (Vi x) (Vi y) = Vi (x - y) := rfl
@[simp] theorem lt_i : B.lt.den (Vi x) (Vi y) = Vb (decide (x < y)) := rfl
@[simp] theorem le_i : B.le.den (Vi x) (Vi y) = Vb (decide (x ≤ y)) := rfl
@[simp] theorem gt_i : B.gt.den (Vi x) (Vi y) = Vb (decide (x > y)) := rfl
@[simp] theorem ge_i : B.ge.den (Vi x) (Vi y) = Vb (decide (x ≥ y)) := rfl
@[simp] theorem eq_i : B.eq.den (Vi x) (Vi y) = Vb (decide (x = y)) := rfl
@[simp] theorem ne_i : B.ne.den (Vi x) (Vi y) = Vb (decide (x ≠ y)) := by simp only [B.den, Vb, int_I, PV.v.injEq, Value.bool.injEq]; by_cases h : x = y <;> simp [h]
@[simp] theorem max_i : (B.max .i64).den (Vi x) (Vi y) = Vi (max x y) := by
  simp only [B.den, Vi, int_I, PV.int, PV.v.injEq, Value.int.injEq, true_and]; by_cases h : x < y <;> simp only [h, if_true, if_false] <;> omega
@[simp] theorem min_i : (B.min .i64).den (Vi x) (Vi y) = Vi (min x y) := by
  simp only [B.den, Vi, int_I, PV.int, PV.v.injEq, Value.int.injEq, true_and]; by_cases h : y < x <;> simp only [h, if_true, if_false] <;> omega
end

/-! ### of 64 bits, without a sign -/
section
variable {a b s : Nat}
@[simp] theorem add_u : (B.add .u64).den (Vu a) (Vu b) = Vu ((a + b) % 18446744073709551616) := by
  simp only [B.den, Vu, PV.int, wrap_u64, PV.v.injEq, Value.int.injEq, true_and]; omega
theorem sub_u (h : b ≤ a) (ha : a < 18446744073709551616) : (B.sub .u64).den (Vu a) (Vu b) = Vu (a - b) := by
  simp only [B.den, Vu, PV.int, wrap_u64, PV.v.injEq, Value.int.injEq, true_and]; omega
theorem sub_u_wrap (h : a < b) (hb : b ≤ 18446744073709551616) : (B.sub .u64).den (Vu a) (Vu b) = Vu (18446744073709551616 + a - b) := by
  simp only [B.den, Vu, PV.int, wrap_u64, PV.v.injEq, Value.int.injEq, true_and]; omega
@[simp] theorem mul_u : (B.mul .u64).den (Vu a) (Vu b) = Vu (a * b % 18446744073709551616) := by
  simp only [B.den, Vu, PV.int, wrap_u64, PV.v.injEq, Value.int.injEq, true_and]
  rw [← Int.natCast_mul]; omega
theorem quo_u (ha : a < 18446744073709551616) : (B.quo .u64).den (Vu a) (Vu b) = Vu (a / b) := by
  simp only [B.den, Vu, PV.int, wrap_u64, PV.v.injEq, Value.int.injEq, true_and]
  rw [show ((a : Int).tdiv b) = ((a / b : Nat) : Int) from rfl]
  have : a / b ≤ a := Nat.div_le_self a b
  generalize a / b = q at *
  omega
@[simp] theorem rem_u : (B.rem .u64).den (Vu a) (Vu b) = Vu (a % b) := rfl
@[simp] theorem lt_u : B.lt.den (Vu a) (Vu b) = Vb (decide (a < b)) := by
  show PV.v (.bool (decide ((a : Int) < b))) = _
  rw [decide_eq_decide.2 (by omega : ((a : Int) < b ↔ a < b))]; rfl
@[simp] theorem le_u : B.le.den (Vu a) (Vu b) = Vb (decide (a ≤ b)) := by
  show PV.v (.bool (decide ((a : Int) ≤ b))) = _
  rw [decide_eq_decide.2 (by omega : ((a : Int) ≤ b ↔ a ≤ b))]; rfl
@[simp] theorem gt_u : B.gt.den (Vu a) (Vu b) = Vb (decide (a > b)) := by
  show PV.v (.bool (decide ((a : Int) > b))) = _
  rw [decide_eq_decide.2 (by omega : ((a : Int) > b ↔ a > b))]; rfl
@[simp] theorem ge_u : B.ge.den (Vu a) (Vu b) = Vb (decide (a ≥ b)) := by
  show PV.v (.bool (decide ((a : Int) ≥ b))) = _
  rw [decide_eq_decide.2 (by omega : ((a : Int) ≥ b ↔ a ≥ b))]; rfl
@[simp] theorem eq_u : B.eq.den (Vu a) (Vu b) = Vb (decide (a = b)) := by
  simp only [B.den, Vb, int_U, PV.v.injEq, Value.bool.injEq]; by_cases h : a = b
  · simp [h]
  · simp [h]; omega
@[simp] theorem ne_u : B.ne.den (Vu a) (Vu b) = Vb (decide (a ≠ b)) := by
  simp only [B.den, Vb, int_U, PV.v.injEq, Value.bool.injEq]; by_cases h : a = b
  · simp [h]
  · simp [h]; omega
theorem bits_u (op : BinOp) (f : Nat → Nat → Nat) (ha : a < 18446744073709551616) (hb : b < 18446744073709551616) (hf : f a b < 18446744073709551616)
    (h : ∀ x y : BitVec 64, (match op with | .and => x &&& y | .or => x ||| y | .xor => x ^^^ y | _ => x &&& ~~~y).toNat = f x.toNat y.toNat) : bitsOp op .u64 a b = f a b := by
  have h1 : (BitVec.ofInt (IntKind.u64.bits) (a : Int)).toNat = a := by
    show (BitVec.ofInt 64 (a : Int)).toNat = a
    rw [BitVec.ofInt_natCast, BitVec.toNat_ofNat]; omega
  have h2 : (BitVec.ofInt (IntKind.u64.bits) (b : Int)).toNat = b := by
    show (BitVec.ofInt 64 (b : Int)).toNat = b
    rw [BitVec.ofInt_natCast, BitVec.toNat_ofNat]; omega
  have h3 := h (BitVec.ofInt 64 (a : Int)) (BitVec.ofInt 64 (b : Int))
  have h1' : (BitVec.ofInt 64 (a : Int)).toNat = a := h1
  have h2' : (BitVec.ofInt 64 (b : Int)).toNat = b := h2
  rw [h1', h2'] at h3
  have gen : ∀ z : BitVec 64, z.toNat = f a b → IntKind.u64.wrap (z.toNat : Int) = f a b := fun z hz => by rw [wrap_u64, hz]; omega
  unfold bitsOp
  cases op <;> exact gen _ h3
theorem and_u (ha : a < 18446744073709551616) (hb : b < 18446744073709551616) : (B.and .u64).den (Vu a) (Vu b) = Vu (a &&& b) := by
  simp only [B.den, Vu, PV.int, PV.v.injEq, Value.int.injEq, true_and]
  exact bits_u .and (· &&& ·) ha hb (Nat.lt_of_le_of_lt Nat.and_le_left ha) fun x y => BitVec.toNat_and x y
theorem or_u (ha : a < 18446744073709551616) (hb : b < 18446744073709551616) : (B.or .u64).den (Vu a) (Vu b) = Vu (a ||| b) := by
  simp only [B.den, Vu, PV.int, PV.v.injEq, Value.int.injEq, true_and]
  exact bits_u .or (· ||| ·) ha hb (Nat.or_lt_two_pow (n := 64) ha hb) fun x y => BitVec.toNat_or x y
theorem xor_u (ha : a < 18446744073709551616) (hb : b < 18446744073709551616) : (B.xor .u64).den (Vu a) (Vu b) = Vu (a ^^^ b) := by
  simp only [B.den, Vu, PV.int, PV.v.injEq, Value.int.injEq, true_and]
  exact bits_u .xor (· ^^^ ·) ha hb (Nat.xor_lt_two_pow (n := 64) ha hb) fun x y => BitVec.toNat_xor x y
theorem shl_uU : (B.shl .u64).den (Vu a) (Vu s) = Vu (a * 2 ^ (min s 64) % 18446744073709551616) := by
  simp only [B.den, Vu, PV.int, wrap_u64, PV.v.injEq, Value.int.injEq, true_and, Int.toNat_natCast]
  show (a : Int) * 2 ^ (min s 64) % _ = _
  rw [show ((a : Int) * 2 ^ (min s 64)) = ((a * 2 ^ (min s 64) : Nat) : Int) by simp]; omega
theorem shr_uU : (B.shr .u64).den (Vu a) (Vu s) = Vu (a / 2 ^ (min s 64)) := by
  simp only [B.den, Vu, PV.int, PV.v.injEq, Value.int.injEq, true_and, Int.toNat_natCast]
  show (a : Int).fdiv (2 ^ (min s 64)) = _
  rw [Int.fdiv_eq_ediv_of_nonneg _ (by exact_mod_cast Nat.zero_le _)]
  simp
@[simp] theorem ge_uI0 : B.ge.den (Vu a) (Vi 0) = Vb true := by
  show PV.v (.bool (decide ((a : Int) ≥ 0))) = _
  rw [decide_eq_true (by omega : (a : Int) ≥ 0)]; rfl
theorem shl_uI {t : Int} (h : t = s) : (B.shl .u64).den (Vu a) (Vi t) = Vu (a * 2 ^ (min s 64) % 18446744073709551616) := by subst h; exact shl_uU
theorem shr_uI {t : Int} (h : t = s) : (B.shr .u64).den (Vu a) (Vi t) = Vu (a / 2 ^ (min s 64)) := by subst h; exact shr_uU
theorem conv_ui (h : a < 9223372036854775808) : (U.conv .i64).den (Vu a) = Vi a := by
  simp only [U.den, Vu, Vi, PV.int]; rw [wrap_i64_of (by omega) (by omega)]
theorem conv_iu {t : Int} (h : 0 ≤ t) (h2 : t < 18446744073709551616) : (U.conv .u64).den (Vi t) = Vu t.toNat := by
  simp only [U.den, Vu, Vi, PV.int, wrap_u64, PV.v.injEq, Value.int.injEq, true_and]; omega
@[simp] theorem conv_uw : (U.conv .u32).den (Vu a) = Vw (a % 4294967296) := by
  simp only [U.den, Vu, Vw, PV.int, wrap_u32, PV.v.injEq, Value.int.injEq, true_and]; omega
theorem conv_wu (h : a < 4294967296) : (U.conv .u64).den (Vw a) = Vu a := by
  simp only [U.den, Vu, Vw, PV.int, wrap_u64, PV.v.injEq, Value.int.injEq, true_and]; omega
@[simp] theorem lt_w : B.lt.den (Vw a) (Vw b) = Vb (decide (a < b)) := by
  show PV.v (.bool (decide ((a : Int) < b))) = _
  rw [decide_eq_decide.2 (by omega : ((a : Int) < b ↔ a < b))]; rfl
@[simp] theorem gt_w : B.gt.den (Vw a) (Vw b) = Vb (decide (a > b)) := by
  show PV.v (.bool (decide ((a : Int) > b))) = _
  rw [decide_eq_decide.2 (by omega : ((a : Int) > b ↔ a > b))]; rfl
@[simp] theorem eq_w : B.eq.den (Vw a) (Vw b) = Vb (decide (a = b)) := by
  simp only [B.den, Vb, int_W, PV.v.injEq, Value.bool.injEq]; by_cases h : a = b
  · simp [h]
  · simp [h]; omega
@[simp] theorem ne_w : B.ne.den (Vw a) (Vw b) = Vb (decide (a ≠ b)) := by
  simp only [B.den, Vb, int_W, PV.v.injEq, Value.bool.injEq]; by_cases h : a = b
  · simp [h]
  · simp [h]; omega
@[simp] theorem rem_w : (B.rem .u32).den (Vw a) (Vw b) = Vw (a % b) := rfl
theorem quo_w (ha : a < 4294967296) : (B.quo .u32).den (Vw a) (Vw b) = Vw (a / b) := by
  simp only [B.den, Vw, PV.int, wrap_u32, PV.v.injEq, Value.int.injEq, true_and]
  rw [show ((a : Int).tdiv b) = ((a / b : Nat) : Int) from rfl]
  have : a / b ≤ a := Nat.div_le_self a b
  generalize a / b = q at *
  omega
@[simp] theorem eq_y : B.eq.den (Vy a) (Vy b) = Vb (decide (a = b)) := by
  simp only [B.den, Vb, int_Y, PV.v.injEq, Value.bool.injEq]; by_cases h : a = b
  · simp [h]
  · simp [h]; omega
@[simp] theorem ne_y : B.ne.den (Vy a) (Vy b) = Vb (decide (a ≠ b)) := by
  simp only [B.den, Vb, int_Y, PV.v.injEq, Value.bool.injEq]; by_cases h : a = b
  · simp [h]
  · simp [h]; omega
@[simp] theorem add_y : (B.add .u8).den (Vy a) (Vy b) = Vy ((a + b) % 256) := by
  simp only [B.den, Vy, PV.int, wrap_u8, PV.v.injEq, Value.int.injEq, true_and]; omega
end

/-! ### bools, choices, lists -/
@[simp] theorem not_b (a : Bool) : U.not.den (Vb a) = Vb (!a) := rfl
@[simp] theorem beq_b (a b : Bool) : B.beq.den (Vb a) (Vb b) = Vb (a == b) := rfl
@[simp] theorem bne_b (a b : Bool) : B.bne.den (Vb a) (Vb b) = Vb (a != b) := rfl
@[simp] theorem ite_and (a b : Bool) : T3.ite.den (Vb a) (Vb b) (Vb false) = Vb (a && b) := by cases a <;> rfl
@[simp] theorem ite_or (a b : Bool) : T3.ite.den (Vb a) (Vb true) (Vb b) = Vb (a || b) := by cases a <;> rfl
@[simp] theorem ite_true (p q : PV) : T3.ite.den (Vb true) p q = p := rfl
@[simp] theorem ite_false (p q : PV) : T3.ite.den (Vb false) p q = q := rfl
theorem ite_gen (a : Bool) (p q : PV) : T3.ite.den (Vb a) p q = if a then p else q := rfl
@[simp] theorem len_l (xs : List PV) : U.len.den (.l xs) = Vi xs.length := rfl
@[simp] theorem app_l (xs ys : List PV) : B.app.den (.l xs) (.l ys) = .l (xs ++ ys) := rfl
@[simp] theorem cons_l (p : PV) (ys : List PV) : B.cons.den p (.l ys) = .l (p :: ys) := rfl
theorem get_l (xs : List PV) {i : Int} {n : Nat} (h : i = n) : B.get.den (.l xs) (Vi i) = xs.getD n default := by subst h; rfl
theorem take_l (xs : List PV) {i : Int} {n : Nat} (h : i = n) : B.take.den (.l xs) (Vi i) = .l (xs.take n) := by subst h; rfl
theorem drop_l (xs : List PV) {i : Int} {n : Nat} (h : i = n) : B.drop.den (.l xs) (Vi i) = .l (xs.drop n) := by subst h; rfl
theorem set_l (xs : List PV) {i : Int} {n : Nat} (h : i = n) (p : PV) : T3.set.den (.l xs) (Vi i) p = .l (xs.set n p) := by subst h; rfl
end Go.Proofs.Ytflhhhijegoheaa.Dx

namespace Go.Proofs.Ytflhhhijegoheaa.Dx
open Go
def IsRoot (n r : Nat) : Prop := r * r ≤ n ∧ n < (r + 1) * (r + 1)
theorem IsRoot.uniq {n r s : Nat} (h : IsRoot n r) (h' : IsRoot n s) : r = s := by
  obtain ⟨h1, h2⟩ := h
  obtain ⟨h3, h4⟩ := h'
  rcases Nat.lt_trichotomy r s with h | h | h
  · have := Nat.mul_le_mul (show r + 1 ≤ s from h) (show r + 1 ≤ s from h); omega
  · exact h
  · have := Nat.mul_le_mul (show s + 1 ≤ r from h) (show s + 1 ≤ r from h); omega

theorem and3 (n : Nat) : n &&& 3 = n % 4 := Nat.and_two_pow_sub_one_eq_mod n 2
theorem or1 (n : Nat) : n * 4 % 18446744073709551616 ||| 1 = n * 4 % 18446744073709551616 + 1 := by
  have := Nat.two_pow_add_eq_or_of_lt (i := 2) (b := 1) (by omega) (n % 4611686018427387904)
  rw [show n * 4 % 18446744073709551616 = 2 ^ 2 * (n % 4611686018427387904) by omega, this]

def body273 : TT Unit := match tr273 with | .loop _ t _ => t | t => t
theorem whole_round {n root rest : Nat} {i : Int} (hi : 0 ≤ i) (h : i < 32) (hn : n < 18446744073709551616) (hr : root < 4294967296) (hs : rest ≤ 2 * root) : 
    body273.dv [Vu n, Vu root, Vu rest, Vi i] = some (.y .cont (if root * 4 + 1 ≤ rest * 4 + n / 2 ^ (62 - 2 * i.toNat) % 4 then [Vu (2 * root + 1), Vu (rest * 4 + n / 2 ^ (62 - 2 * i.toNat) % 4 - (root * 4 + 1)), Vi (i + 1)] else [Vu (2 * root), Vu (rest * 4 + n / 2 ^ (62 - 2 * i.toNat) % 4), Vi (i + 1)])) := by
  have e1 : (B.sub .i64).den (Vi 62) ((B.mul .i64).den (Vi 2) (Vi i)) = Vi (62 - 2 * i) := by
    rw [mul_i (by omega) (by omega), sub_i (by omega) (by omega)]
  have e2 : (B.shr .u64).den (Vu n) (Vi (62 - 2 * i)) = Vu (n / 2 ^ (62 - 2 * i.toNat)) := by
    rw [shr_uI (s := 62 - 2 * i.toNat) (by omega), show min (62 - 2 * i.toNat) 64 = 62 - 2 * i.toNat by omega]
  have h2 : n / 2 ^ (62 - 2 * i.toNat) < 18446744073709551616 := Nat.lt_of_le_of_lt (Nat.div_le_self _ _) hn
  have e3 : (B.and .u64).den (Vu (n / 2 ^ (62 - 2 * i.toNat))) (Vu 3) = Vu (n / 2 ^ (62 - 2 * i.toNat) % 4) := by
    rw [and_u h2 (by omega), and3]
  have e4 : (B.shl .u64).den (Vu rest) (Vu 2) = Vu (rest * 4) := by rw [shl_uU]; congr 1; simp; omega
  generalize hb : n / 2 ^ (62 - 2 * i.toNat) % 4 = b at *
  have hb4 : b < 4 := by omega
  have e5 : (B.or .u64).den (Vu (rest * 4)) (Vu b) = Vu (rest * 4 + b) := by
    rw [or_u (by omega) (by omega), show rest * 4 = 2 ^ 2 * rest by omega, Nat.two_pow_add_eq_or_of_lt (by omega)]
  have e6 : (B.shl .u64).den (Vu root) (Vu 2) = Vu (root * 4) := by rw [shl_uU]; congr 1; simp; omega
  have e7 : (B.or .u64).den (Vu (root * 4)) (Vu 1) = Vu (root * 4 + 1) := by
    rw [or_u (by omega) (by omega), show root * 4 = 2 ^ 2 * root by omega, Nat.two_pow_add_eq_or_of_lt (by omega)]
  have e8 : (B.shl .u64).den (Vu root) (Vu 1) = Vu (2 * root) := by rw [shl_uU]; congr 1; simp; omega
  have e9 : (B.or .u64).den (Vu (2 * root)) (Vu 1) = Vu (2 * root + 1) := by
    rw [or_u (by omega) (by omega), show 2 * root = 2 ^ 1 * root by omega, Nat.two_pow_add_eq_or_of_lt (by omega)]
  have e10 : (B.add .i64).den (Vi i) (Vi 1) = Vi (i + 1) := add_i (by omega) (by omega)
  by_cases hc : root * 4 + 1 ≤ rest * 4 + b
  · have e11 : (B.sub .u64).den (Vu (rest * 4 + b)) (Vu (root * 4 + 1)) = Vu (rest * 4 + b - (root * 4 + 1)) := sub_u hc (by omega)
    simp [body273, tr273, TT.dv, KS.dv, h, e1, e2, e3, e4, e5, e6, e7, e8, e9, e10, e11, hc, show 2 * i ≤ 62 by omega]
  · simp [body273, tr273, TT.dv, KS.dv, h, e1, e2, e3, e4, e5, e6, e7, e8, e9, e10, hc, show 2 * i ≤ 62 by omega]
end Go.Proofs.Ytflhhhijegoheaa.Dx

namespace Go.Proofs.Ytflhhhijegoheaa.Dx
open Go
theorem awake_07 : val 19 [] = some [Vb true] := val_iff.2 ⟨100, by kernel_rfl⟩
theorem whole_loop {n : Nat} (hn : n < 18446744073709551616) : ∀ (k : Nat) {i : Nat} {root rest : Nat}, i + k = 32 → root < 2 ^ i → rest = n / 2 ^ (64 - 2 * i) - root * root → IsRoot (n / 2 ^ (64 - 2 * i)) root →
    ∃ r, IsRoot n r ∧ rounds (fun vs => body273.dv ([Vu n] ++ vs)) [Vu root, Vu rest, Vi i] = some (.y (.ext 0) [Vu r, Vu (n - r * r)])
  | 0, i, root, rest, hk, hr, hs, hroot => by
    obtain rfl : i = 32 := by omega
    simp at hs hroot
    refine ⟨root, hroot, rounds_exit ?_ (by simp)⟩
    subst hs
    simp [body273, tr273, TT.dv]
  | k + 1, i, root, rest, hk, hr, hs, hroot => by
    have hi : i < 32 := by omega
    have hr32 : root < 4294967296 := Nat.lt_of_lt_of_le hr (Nat.pow_le_pow_right (by omega) (by omega : i ≤ 32))
    obtain ⟨h1, h2⟩ := hroot
    have hx : (root + 1) * (root + 1) = root * root + 2 * root + 1 := by rw [Nat.add_mul, Nat.mul_add]; omega
    have hle : rest ≤ 2 * root := by omega
    have hrd := whole_round (n := n) (root := root) (rest := rest) (i := (i : Int)) (by omega) (by omega) hn hr32 hle
    simp only [Int.toNat_natCast] at hrd
    have hstep : n / 2 ^ (64 - 2 * (i + 1)) = 4 * (n / 2 ^ (64 - 2 * i)) + n / 2 ^ (62 - 2 * i) % 4 := by
      rw [show 64 - 2 * i = (62 - 2 * i) + 2 by omega, Nat.pow_add, ← Nat.div_div_eq_div_mul, show 64 - 2 * (i + 1) = 62 - 2 * i by omega]
      generalize n / 2 ^ (62 - 2 * i) = q; omega
    generalize hb : n / 2 ^ (62 - 2 * i) % 4 = b at *
    have hp : 2 ^ (i + 1) = 2 * 2 ^ i := by rw [Nat.pow_succ]; omega
    by_cases hc : root * 4 + 1 ≤ rest * 4 + b
    · rw [if_pos hc] at hrd
      have hd : (2 * root + 1) * (2 * root + 1) = 4 * (root * root) + 4 * root + 1 := by
        rw [Nat.add_mul, Nat.mul_add, Nat.mul_mul_mul_comm]; omega
      have hd2 : (2 * root + 1 + 1) * (2 * root + 1 + 1) = 4 * (root * root) + 8 * root + 4 := by
        rw [show 2 * root + 1 + 1 = 2 * (root + 1) by omega, Nat.mul_mul_mul_comm, hx]; omega
      obtain ⟨r, hr1, hr2⟩ := whole_loop hn k (i := i + 1) (root := 2 * root + 1) (rest := rest * 4 + b - (root * 4 + 1)) (by omega) (by omega) (by rw [hstep, hd]; omega) ⟨by rw [hstep, hd]; omega, by rw [hstep, hd2]; omega⟩
      refine ⟨r, hr1, ?_⟩
      exact (rounds_cont (f := fun vs => body273.dv ([Vu n] ++ vs)) hrd).trans hr2
    · rw [if_neg hc] at hrd
      have hd : (2 * root) * (2 * root) = 4 * (root * root) := by
        rw [Nat.mul_mul_mul_comm]
      have hd2 : (2 * root + 1) * (2 * root + 1) = 4 * (root * root) + 4 * root + 1 := by
        rw [Nat.add_mul, Nat.mul_add, Nat.mul_mul_mul_comm]; omega
      obtain ⟨r, hr1, hr2⟩ := whole_loop hn k (i := i + 1) (root := 2 * root) (rest := rest * 4 + b) (by omega) (by omega) (by rw [hstep, hd]; omega) ⟨by rw [hstep, hd]; omega, by rw [hstep, hd2]; omega⟩
      refine ⟨r, hr1, ?_⟩
      exact (rounds_cont (f := fun vs => body273.dv ([Vu n] ++ vs)) hrd).trans hr2
theorem whole_ok {n : Nat} (hn : n < 18446744073709551616) : ∃ r, IsRoot n r ∧ val 273 [Vu n] = some [Vu r, Vb (decide (n - r * r = 0))] := by
  obtain ⟨r, h1, h2⟩ := whole_loop hn 32 (i := 0) (root := 0) (rest := 0) (by omega) (by omega) (by simp; omega) ⟨by simp, by simp; omega⟩
  refine ⟨r, h1, val_of tab273 ?_⟩
  have h3 : rounds (fun vs => body273.dv ([Vu n] ++ vs)) [Vu 0, Vu 0, Vi 0] = some (.y (.ext 0) [Vu r, Vu (n - r * r)]) := h2
  unfold tr273
  simp only [TT.dv, List.map, den_u64_lit, den_i64]
  show (match rounds (fun vs => body273.dv ([Vu n] ++ vs)) [Vu 0, Vu 0, Vi 0] with | some (.y x vs) => _ | _ => none) = _
  rw [h3]
  simp [KS.dv, TT.dv]

def body137 : TT Unit := match tr137 with | .loop _ t _ => t | t => t
theorem small_round {n r s : Nat} (h : r + s < 4294967296) : body137.dv [Vu n, Vu r, Vu s] =
    if s = 0 then some (.y (.ext 0) [Vu r]) else some (.y .cont [Vu (if (r + s) * (r + s) ≤ n then r + s else r), Vu (s / 2)]) := by
  have e1 : (B.quo .u64).den (Vu s) (Vu 2) = Vu (s / 2) := quo_u (by omega)
  have h1 : (r + s) % 18446744073709551616 = r + s := by omega
  have h2 : (r + s) * (r + s) % 18446744073709551616 = (r + s) * (r + s) := Nat.mod_eq_of_lt (Nat.lt_of_le_of_lt (Nat.mul_le_mul (Nat.le_of_lt_succ h) (Nat.le_of_lt_succ h)) (by omega))
  by_cases h0 : s = 0
  · subst h0; simp [body137, tr137, TT.dv]
  · by_cases hc : (r + s) * (r + s) ≤ n
    · simp [body137, tr137, TT.dv, KS.dv, h0, h1, h2, e1, hc, Nat.pos_of_ne_zero h0]
    · simp [body137, tr137, TT.dv, KS.dv, h0, h1, h2, e1, hc, Nat.pos_of_ne_zero h0]
theorem small_loop {n : Nat} (hn : n < 18446744073709551616) : ∀ (k : Nat) {r : Nat}, k ≤ 32 → r % 2 ^ k = 0 → r + 2 ^ k ≤ 4294967296 → r * r ≤ n → n < (r + 2 ^ k) * (r + 2 ^ k) →
    ∃ r', IsRoot n r' ∧ rounds (fun vs => body137.dv ([Vu n] ++ vs)) [Vu r, Vu (2 ^ k / 2)] = some (.y (.ext 0) [Vu r'])
  | 0, r, _, _, hb, h1, h2 => by
    refine ⟨r, ⟨h1, by simpa using h2⟩, rounds_exit ?_ (by simp)⟩
    show body137.dv [Vu n, Vu r, Vu 0] = _
    rw [small_round (by omega), if_pos rfl]
  | k + 1, r, hk, hm, hb, h1, h2 => by
    have hp : 2 ^ (k + 1) = 2 * 2 ^ k := by rw [Nat.pow_succ]; omega
    have hpos : 0 < 2 ^ k := Nat.two_pow_pos k
    have hdiv : 2 ^ (k + 1) / 2 = 2 ^ k := by omega
    rw [hdiv]
    have hrd := small_round (n := n) (r := r) (s := 2 ^ k) (by omega)
    rw [if_neg (by omega)] at hrd
    have hm' : r % 2 ^ k = 0 := by
      rw [hp] at hm
      have := Nat.mod_mul_left_mod r 2 (2 ^ k)
      rw [hm] at this; simpa using this.symm
    by_cases hc : (r + 2 ^ k) * (r + 2 ^ k) ≤ n
    · rw [if_pos hc] at hrd
      obtain ⟨r', h3, h4⟩ := small_loop hn k (r := r + 2 ^ k) (by omega) (by rw [Nat.add_mod_right]; exact hm') (by omega) hc (by rw [Nat.add_assoc, ← Nat.two_mul, ← hp]; exact h2)
      refine ⟨r', h3, ?_⟩
      exact (rounds_cont (f := fun vs => body137.dv ([Vu n] ++ vs)) hrd).trans h4
    · rw [if_neg hc] at hrd
      obtain ⟨r', h3, h4⟩ := small_loop hn k (r := r) (by omega) hm' (by omega) h1 (by omega)
      refine ⟨r', h3, ?_⟩
      exact (rounds_cont (f := fun vs => body137.dv ([Vu n] ++ vs)) hrd).trans h4
theorem small_ok {n : Nat} (hn : n < 18446744073709551616) : ∃ r, IsRoot n r ∧ val 137 [Vu n] = some [Vu r] := by
  obtain ⟨r, h1, h2⟩ := small_loop hn 32 (r := 0) (by omega) (by simp) (by simp) (by simp) (by simpa using hn)
  refine ⟨r, h1, val_of tab137 ?_⟩
  have h3 : rounds (fun vs => body137.dv ([Vu n] ++ vs)) [Vu 0, Vu 2147483648] = some (.y (.ext 0) [Vu r]) := h2
  unfold tr137
  simp only [TT.dv, List.map, den_u64_lit]
  show (match rounds (fun vs => body137.dv ([Vu n] ++ vs)) [Vu 0, Vu 2147483648] with | some (.y x vs) => _ | _ => none) = _
  rw [h3]
  simp [KS.dv, TT.dv]
theorem law_RootWholes {n : Nat} (hn : n < 18446744073709551616) : val 18 [Vu n] = some [Vb true] := by
  obtain ⟨r, h1, h2⟩ := whole_ok hn
  obtain ⟨s, h3, h4⟩ := small_ok hn
  obtain rfl := h1.uniq h3
  have hsq : r * r % 18446744073709551616 = r * r := Nat.mod_eq_of_lt (Nat.lt_of_le_of_lt h1.1 hn)
  have hx : decide (n - r * r = 0) = decide (r * r = n) := by
    rw [decide_eq_decide]; have := h1.1; omega
  refine val_of tab18 ?_
  simp [tr18, TT.dv, h2, h4, awake_07, hsq, hx]
end Go.Proofs.Ytflhhhijegoheaa.Dx
