/- RankShown holds: the law returns true for all bytes, whether the second type is an instance of the first one or not, and they read afterwards as they read before (theorem shown_holds, at the end; before it contracts of the given program's functions and plain laws). Conditions: none but those that the given row itself bears. -/
import Derived.Test.YtjgnhhgigickaaaE6
set_option linter.all false

/- When a type can be used as another one, as a derivation with its witness: reflexive, transitive, stable under substitution; plain types only if they are the same. No program. Conditions: each theorem's own. -/

namespace Go.Proofs.Ytjgnhhgigickaaa.Sv

/-- a type at work: its fresh variables by level -/
inductive Ty where
  | var (n : Nat)
  | nat
  | fn (a b : Ty)
  | all (a : Ty)
  | fr (n : Nat)
  | ho (n : Nat)
deriving DecidableEq
namespace Ty
def put (u : Ty) : Nat → Ty → Ty
  | n, var m => if m = n then u else var m
  | _, nat => nat
  | n, fn a b => fn (put u n a) (put u n b)
  | n, all a => all (put u (n + 1) a)
  | _, fr i => fr i
  | _, ho h => ho h
def lc : Nat → Ty → Prop
  | n, var m => m < n
  | _, nat => True
  | n, fn a b => lc n a ∧ lc n b
  | n, all a => lc (n + 1) a
  | _, fr _ => True
  | _, ho _ => True
def plain : Ty → Prop
  | fn a b => plain a ∧ plain b
  | all _ => False
  | _ => True
def isAll : Ty → Bool
  | all _ => true
  | _ => false
def allF (P : Nat → Prop) : Ty → Prop
  | fn a b => allF P a ∧ allF P b
  | all a => allF P a
  | fr i => P i
  | _ => True
def allH (P : Nat → Prop) : Ty → Prop
  | fn a b => allH P a ∧ allH P b
  | all a => allH P a
  | ho i => P i
  | _ => True
def sz : Ty → Nat
  | fn a b => sz a + sz b + 1
  | all a => sz a + 1
  | _ => 1
def nq : Ty → Nat
  | fn a b => nq a + nq b
  | all a => nq a + 1
  | _ => 0
def inst (φ θ : Nat → Ty) : Ty → Ty
  | fn a b => fn (inst φ θ a) (inst φ θ b)
  | all a => all (inst φ θ a)
  | fr i => φ i
  | ho i => θ i
  | var n => var n
  | nat => nat

theorem allF.mono {P Q : Nat → Prop} (h : ∀ i, P i → Q i) : ∀ {t : Ty}, allF P t → allF Q t
  | fn _ _, ⟨x, y⟩ => ⟨x.mono h, y.mono h⟩
  | all a, x => allF.mono (t := a) h x
  | fr i, x => h i x
  | var _, _ => trivial
  | nat, _ => trivial
  | ho _, _ => trivial
theorem allH.mono {P Q : Nat → Prop} (h : ∀ i, P i → Q i) : ∀ {t : Ty}, allH P t → allH Q t
  | fn _ _, ⟨x, y⟩ => ⟨x.mono h, y.mono h⟩
  | all a, x => allH.mono (t := a) h x
  | ho i, x => h i x
  | var _, _ => trivial
  | nat, _ => trivial
  | fr _, _ => trivial
theorem lc.mono : ∀ {t : Ty} {n m : Nat}, n ≤ m → lc n t → lc m t
  | fn _ _, _, _, h, ⟨x, y⟩ => ⟨x.mono h, y.mono h⟩
  | all a, _, _, h, x => lc.mono (t := a) (Nat.succ_le_succ h) x
  | var _, _, _, h, x => Nat.lt_of_lt_of_le x h
  | nat, _, _, _, _ => trivial
  | fr _, _, _, _, _ => trivial
  | ho _, _, _, _, _ => trivial
theorem put_lc {u : Ty} : ∀ {t : Ty} {n k : Nat}, lc n t → n ≤ k → put u k t = t
  | fn _ _, _, _, ⟨x, y⟩, h => by unfold put; rw [put_lc x h, put_lc y h]
  | all a, _, _, x, h => by unfold put; rw [put_lc (t := a) x (Nat.succ_le_succ h)]
  | var m, n, k, x, h => by unfold put; unfold lc at x; rw [if_neg (by omega)]
  | nat, _, _, _, _ => rfl
  | fr _, _, _, _, _ => rfl
  | ho _, _, _, _, _ => rfl
theorem lc_put {u : Ty} (hu : lc 0 u) : ∀ {t : Ty} {n : Nat}, lc (n + 1) t → lc n (put u n t)
  | fn _ _, _, ⟨x, y⟩ => ⟨lc_put hu x, lc_put hu y⟩
  | all a, _, x => lc_put (t := a) hu x
  | var m, n, x => by
    unfold put; split
    · exact hu.mono (Nat.zero_le _)
    · unfold lc at x ⊢; omega
  | nat, _, _ => trivial
  | fr _, _, _ => trivial
  | ho _, _, _ => trivial
theorem nq_plain : ∀ {t : Ty}, plain t → nq t = 0
  | fn _ _, ⟨x, y⟩ => by unfold nq; rw [nq_plain x, nq_plain y]
  | all _, x => x.elim
  | var _, _ => rfl
  | nat, _ => rfl
  | fr _, _ => rfl
  | ho _, _ => rfl
theorem nq_put {u : Ty} (hu : plain u) : ∀ {t : Ty} {n : Nat}, nq (put u n t) = nq t
  | fn _ _, _ => by unfold put nq; rw [nq_put hu, nq_put hu]
  | all _, _ => by unfold put nq; rw [nq_put hu]
  | var m, n => by
    unfold put; split
    · rw [nq_plain hu]; rfl
    · rfl
  | nat, _ => rfl
  | fr _, _ => rfl
  | ho _, _ => rfl
theorem sz_put {u : Ty} (hu : sz u = 1) : ∀ {t : Ty} {n : Nat}, sz (put u n t) = sz t
  | fn _ _, _ => by unfold put sz; rw [sz_put hu, sz_put hu]
  | all _, _ => by unfold put sz; rw [sz_put hu]
  | var m, n => by
    unfold put; split
    · rw [hu]; rfl
    · rfl
  | nat, _ => rfl
  | fr _, _ => rfl
  | ho _, _ => rfl
theorem allF_put {P : Nat → Prop} {u : Ty} (hu : allF P u) : ∀ {t : Ty} {n : Nat}, allF P t → allF P (put u n t)
  | fn _ _, _, ⟨x, y⟩ => ⟨allF_put hu x, allF_put hu y⟩
  | all a, _, x => allF_put (t := a) hu x
  | var m, n, x => by unfold put; split; exact hu; trivial
  | nat, _, _ => trivial
  | fr _, _, x => x
  | ho _, _, _ => trivial
theorem allH_put {P : Nat → Prop} {u : Ty} (hu : allH P u) : ∀ {t : Ty} {n : Nat}, allH P t → allH P (put u n t)
  | fn _ _, _, ⟨x, y⟩ => ⟨allH_put hu x, allH_put hu y⟩
  | all a, _, x => allH_put (t := a) hu x
  | var m, n, x => by unfold put; split; exact hu; trivial
  | nat, _, _ => trivial
  | fr _, _, _ => trivial
  | ho _, _, x => x
theorem plain_isAll {t : Ty} (h : plain t) : isAll t = false := by cases t <;> first | rfl | exact h.elim
theorem inst_put {φ θ : Nat → Ty} {u : Ty} : ∀ {t : Ty} {n : Nat}, allF (fun i => lc 0 (φ i)) t → allH (fun i => lc 0 (θ i)) t → inst φ θ (put u n t) = put (inst φ θ u) n (inst φ θ t)
  | fn _ _, _, ⟨x, y⟩, ⟨z, w⟩ => by simp only [put, inst]; rw [inst_put x z, inst_put y w]
  | all a, _, x, z => by simp only [put, inst]; rw [inst_put (t := a) x z]
  | var m, n, x, z => by
    simp only [put, inst]
    by_cases h : m = n
    · rw [if_pos h, if_pos h]
    · rw [if_neg h, if_neg h]; rfl
  | nat, _, _, _ => rfl
  | fr _, _, x, _ => by simp only [put, inst]; rw [put_lc x (Nat.zero_le _)]
  | ho _, _, _, x => by simp only [put, inst]; rw [put_lc x (Nat.zero_le _)]
theorem inst_congr {φ θ φ' θ' : Nat → Ty} : ∀ {t : Ty}, allF (fun i => φ i = φ' i) t → allH (fun i => θ i = θ' i) t → inst φ θ t = inst φ' θ' t
  | fn _ _, ⟨x, y⟩, ⟨z, w⟩ => by unfold inst; rw [inst_congr x z, inst_congr y w]
  | all a, x, z => by unfold inst; rw [inst_congr (t := a) x z]
  | var _, _, _ => rfl
  | nat, _, _ => rfl
  | fr _, x, _ => x
  | ho _, _, x => x
theorem inst_inst {φ θ φ' θ' : Nat → Ty} : ∀ {t : Ty}, inst φ' θ' (inst φ θ t) = inst (fun i => inst φ' θ' (φ i)) (fun i => inst φ' θ' (θ i)) t
  | fn _ _ => by simp only [inst]; rw [inst_inst, inst_inst]
  | all _ => by simp only [inst]; rw [inst_inst]
  | var _ => rfl
  | nat => rfl
  | fr _ => rfl
  | ho _ => rfl
theorem inst_id : ∀ {t : Ty}, inst fr ho t = t
  | fn _ _ => by unfold inst; rw [inst_id, inst_id]
  | all _ => by unfold inst; rw [inst_id]
  | var _ => rfl
  | nat => rfl
  | fr _ => rfl
  | ho _ => rfl
theorem allF_inst {P : Nat → Prop} {φ θ : Nat → Ty} : ∀ {t : Ty}, allF (fun i => allF P (φ i)) t → allH (fun i => allF P (θ i)) t → allF P (inst φ θ t)
  | fn _ _, ⟨x, y⟩, ⟨z, w⟩ => ⟨allF_inst x z, allF_inst y w⟩
  | all a, x, z => allF_inst (t := a) x z
  | var _, _, _ => trivial
  | nat, _, _ => trivial
  | fr _, x, _ => x
  | ho _, _, x => x
theorem allH_inst {P : Nat → Prop} {φ θ : Nat → Ty} : ∀ {t : Ty}, allF (fun i => allH P (φ i)) t → allH (fun i => allH P (θ i)) t → allH P (inst φ θ t)
  | fn _ _, ⟨x, y⟩, ⟨z, w⟩ => ⟨allH_inst x z, allH_inst y w⟩
  | all a, x, z => allH_inst (t := a) x z
  | var _, _, _ => trivial
  | nat, _, _ => trivial
  | fr _, x, _ => x
  | ho _, _, x => x
theorem lc_inst {φ θ : Nat → Ty} : ∀ {t : Ty} {n : Nat}, lc n t → allF (fun i => lc 0 (φ i)) t → allH (fun i => lc 0 (θ i)) t → lc n (inst φ θ t)
  | fn _ _, _, ⟨a, b⟩, ⟨x, y⟩, ⟨z, w⟩ => ⟨lc_inst a x z, lc_inst b y w⟩
  | all a, _, a1, x, z => lc_inst (t := a) a1 x z
  | var _, _, a, _, _ => a
  | nat, _, _, _, _ => trivial
  | fr _, _, _, x, _ => lc.mono (Nat.zero_le _) x
  | ho _, _, _, _, x => lc.mono (Nat.zero_le _) x
theorem plain_inst {φ θ : Nat → Ty} : ∀ {t : Ty}, plain t → allF (fun i => plain (φ i)) t → allH (fun i => plain (θ i)) t → plain (inst φ θ t)
  | fn _ _, ⟨a, b⟩, ⟨x, y⟩, ⟨z, w⟩ => ⟨plain_inst a x z, plain_inst b y w⟩
  | all _, a, _, _ => a.elim
  | var _, _, _, _ => trivial
  | nat, _, _, _ => trivial
  | fr _, _, x, _ => x
  | ho _, _, _, x => x
theorem nq_inst {φ θ : Nat → Ty} : ∀ {t : Ty}, allF (fun i => plain (φ i)) t → allH (fun i => plain (θ i)) t → nq (inst φ θ t) = nq t
  | fn _ _, ⟨x, y⟩, ⟨z, w⟩ => by unfold inst nq; rw [nq_inst x z, nq_inst y w]
  | all a, x, z => by unfold inst nq; rw [nq_inst (t := a) x z]
  | var _, _, _ => rfl
  | nat, _, _ => rfl
  | fr _, x, _ => nq_plain x
  | ho _, _, x => nq_plain x
theorem isAll_inst {φ θ : Nat → Ty} {t : Ty} (h : isAll t = false) (x : allF (fun i => plain (φ i)) t) (z : allH (fun i => plain (θ i)) t) : isAll (inst φ θ t) = false := by
  cases t with
  | fr i => exact plain_isAll x
  | ho i => exact plain_isAll z
  | all a => cases h
  | _ => rfl
end Ty
open Ty

/-- a plain type over n levels, without holes -/
structure Gnd (n : Nat) (t : Ty) : Prop where
  p : plain t
  c : lc 0 t
  l : allF (· < n) t
  h : allH (fun _ => False) t
theorem Gnd.mono {n m : Nat} {t : Ty} (h : Gnd n t) (hm : n ≤ m) : Gnd m t := ⟨h.p, h.c, h.l.mono fun _ x => Nat.lt_of_lt_of_le x hm, h.h⟩
theorem Gnd.fr {n i : Nat} (h : i < n) : Gnd n (.fr i) := ⟨trivial, trivial, h, trivial⟩
theorem Gnd.nat {n : Nat} : Gnd n .nat := ⟨trivial, trivial, trivial, trivial⟩
theorem Gnd.fn {n : Nat} {a b : Ty} (ha : Gnd n a) (hb : Gnd n b) : Gnd n (.fn a b) := ⟨⟨ha.p, hb.p⟩, ⟨ha.c, hb.c⟩, ⟨ha.l, hb.l⟩, ⟨ha.h, hb.h⟩⟩
theorem Gnd.fn1 {n : Nat} {a b : Ty} (h : Gnd n (.fn a b)) : Gnd n a := ⟨h.p.1, h.c.1, h.l.1, h.h.1⟩
theorem Gnd.fn2 {n : Nat} {a b : Ty} (h : Gnd n (.fn a b)) : Gnd n b := ⟨h.p.2, h.c.2, h.l.2, h.h.2⟩
/-- a closed type over n levels, without holes -/
structure WF (n : Nat) (t : Ty) : Prop where
  c : lc 0 t
  l : allF (· < n) t
  h : allH (fun _ => False) t
theorem Gnd.wf {n : Nat} {t : Ty} (h : Gnd n t) : WF n t := ⟨h.c, h.l, h.h⟩
theorem WF.mono {n m : Nat} {t : Ty} (h : WF n t) (hm : n ≤ m) : WF m t := ⟨h.c, h.l.mono fun _ x => Nat.lt_of_lt_of_le x hm, h.h⟩
theorem WF.fn1 {n : Nat} {a b : Ty} (h : WF n (.fn a b)) : WF n a := ⟨h.c.1, h.l.1, h.h.1⟩
theorem WF.fn2 {n : Nat} {a b : Ty} (h : WF n (.fn a b)) : WF n b := ⟨h.c.2, h.l.2, h.h.2⟩
theorem WF.put {n : Nat} {a u : Ty} (h : WF n (.all a)) (hu : WF n u) : WF n (put u 0 a) := ⟨lc_put hu.c h.c, allF_put hu.l h.l, allH_put hu.h h.h⟩
theorem WF.gen {n : Nat} {a : Ty} (h : WF n (.all a)) : WF (n + 1) (Ty.put (.fr n) 0 a) := (h.mono (Nat.le_succ n)).put (Gnd.fr (Nat.lt_succ_self n)).wf

/-- a derivation that the first type, over n levels, can be used as the second one; with what rule (4) takes, and where -/
inductive Sub : Nat → Ty → Ty → List (Ty × Nat) → Prop
  | nat {n : Nat} : Sub n .nat .nat []
  | fr {n i : Nat} : Sub n (.fr i) (.fr i) []
  | fn {n : Nat} {a0 a1 b0 b1 : Ty} {l1 l2 : List (Ty × Nat)} : Sub n b0 a0 l1 → Sub n a1 b1 l2 → Sub n (.fn a0 a1) (.fn b0 b1) (l1 ++ l2)
  | gen {n : Nat} {a b : Ty} {l : List (Ty × Nat)} : Sub (n + 1) a (Ty.put (.fr n) 0 b) l → Sub n a (.all b) l
  | ins {n : Nat} {a b τ : Ty} {l : List (Ty × Nat)} : isAll b = false → Gnd n τ → Sub n (Ty.put τ 0 a) b l → Sub n (.all a) b ((τ, n) :: l)
def SubE (n : Nat) (a b : Ty) : Prop := ∃ l, Sub n a b l

theorem Sub.inv_gen {n : Nat} {a b : Ty} {l : List (Ty × Nat)} (h : Sub n a (.all b) l) : Sub (n + 1) a (Ty.put (.fr n) 0 b) l := by
  cases h with
  | gen h => exact h
  | ins h _ _ => cases h
theorem Sub.inv_ins {n : Nat} {a b : Ty} {l : List (Ty × Nat)} (h : Sub n (.all a) b l) (hb : isAll b = false) : ∃ τ l', l = (τ, n) :: l' ∧ Gnd n τ ∧ Sub n (Ty.put τ 0 a) b l' := by
  cases h with
  | gen h => cases hb
  | ins _ h1 h2 => exact ⟨_, _, rfl, h1, h2⟩
theorem Sub.inv_fn {n : Nat} {a0 a1 b : Ty} {l : List (Ty × Nat)} (h : Sub n (.fn a0 a1) b l) (hb : isAll b = false) : ∃ b0 b1 l1 l2, b = .fn b0 b1 ∧ l = l1 ++ l2 ∧ Sub n b0 a0 l1 ∧ Sub n a1 b1 l2 := by
  cases h with
  | gen h => cases hb
  | fn h1 h2 => exact ⟨_, _, _, _, rfl, rfl, h1, h2⟩
theorem Sub.inv_fn' {n : Nat} {b0 b1 a : Ty} {l : List (Ty × Nat)} (h : Sub n a (.fn b0 b1) l) (ha : isAll a = false) : ∃ a0 a1 l1 l2, a = .fn a0 a1 ∧ l = l1 ++ l2 ∧ Sub n b0 a0 l1 ∧ Sub n a1 b1 l2 := by
  cases h with
  | ins h _ _ => cases ha
  | fn h1 h2 => exact ⟨_, _, _, _, rfl, rfl, h1, h2⟩
theorem Sub.plain_eq {n : Nat} {a b : Ty} {l : List (Ty × Nat)} (h : Sub n a b l) : plain a → plain b → a = b ∧ l = [] := by
  induction h with
  | nat => exact fun _ _ => ⟨rfl, rfl⟩
  | fr => exact fun _ _ => ⟨rfl, rfl⟩
  | fn _ _ ih1 ih2 =>
    intro ha hb
    obtain ⟨h1, rfl⟩ := ih1 hb.1 ha.1
    obtain ⟨h2, rfl⟩ := ih2 ha.2 hb.2
    exact ⟨by rw [h1, h2], rfl⟩
  | gen _ _ => exact fun _ hb => hb.elim
  | ins _ _ _ _ => exact fun ha _ => ha.elim
theorem Sub.plain_refl {n : Nat} : ∀ {a : Ty}, plain a → lc 0 a → allH (fun _ => False) a → Sub n a a []
  | .fn _ _, ⟨x, y⟩, ⟨z, w⟩, ⟨u, v⟩ => .fn (Sub.plain_refl x z u) (Sub.plain_refl y w v)
  | .all _, h, _, _ => h.elim
  | .var _, _, h, _ => absurd h (Nat.not_lt_zero _)
  | .nat, _, _, _ => .nat
  | .fr _, _, _, _ => .fr
  | .ho _, _, _, h => h.elim

theorem Sub.subst {n : Nat} {a b : Ty} {l : List (Ty × Nat)} (h : Sub n a b l) : ∀ {m : Nat} {φ θ : Nat → Ty}, WF n a → WF n b → (∀ i, i < n → Gnd m (φ i)) → ∃ l', Sub m (inst φ θ a) (inst φ θ b) l' := by
  induction h with
  | nat => exact fun _ _ _ => ⟨[], .nat⟩
  | @fr n i =>
    intro m φ θ ha _ hφ
    have hi := hφ i ha.l
    exact ⟨[], Sub.plain_refl hi.p hi.c hi.h⟩
  | fn _ _ ih1 ih2 =>
    intro m φ θ ha hb hφ
    obtain ⟨l1, h1⟩ := ih1 (θ := θ) hb.fn1 ha.fn1 hφ
    obtain ⟨l2, h2⟩ := ih2 (θ := θ) ha.fn2 hb.fn2 hφ
    exact ⟨_, .fn h1 h2⟩
  | @gen n a b l _ ih =>
    intro m φ θ ha hb hφ
    obtain ⟨l', h'⟩ := ih (m := m + 1) (φ := fun i => if i = n then .fr m else φ i) (θ := θ) (ha.mono (Nat.le_succ _)) hb.gen (fun i hi => by
      split
      · exact Gnd.fr (Nat.lt_succ_self m)
      · exact (hφ i (by omega)).mono (Nat.le_succ _))
    have hc : ∀ {t : Ty}, allF (· < n) t → allH (fun _ => False) t → inst (fun i => if i = n then .fr m else φ i) θ t = inst φ θ t := fun hl hh =>
      inst_congr (hl.mono fun i hi => if_neg (Nat.ne_of_lt hi)) (hh.mono fun _ x => x.elim)
    rw [inst_put (φ := fun i => if i = n then .fr m else φ i) (t := b) (allF.mono (t := b) (fun i hi => by rw [if_neg (Nat.ne_of_lt hi)]; exact (hφ i hi).c) hb.l) (allH.mono (t := b) (fun _ x => x.elim) hb.h), hc ha.l ha.h, hc (t := b) hb.l hb.h] at h'
    refine ⟨l', .gen ?_⟩
    have e : inst (fun i => if i = n then .fr m else φ i) θ (.fr n) = .fr m := by unfold inst; rw [if_pos rfl]
    rwa [e] at h'
  | @ins n a b τ l hb0 hτ _ ih =>
    intro m φ θ ha hb hφ
    obtain ⟨l', h'⟩ := ih (θ := θ) (ha.put hτ.wf) hb hφ
    have h0 : ∀ {t : Ty}, allF (· < n) t → allF (fun i => lc 0 (φ i)) t := fun h => h.mono fun i hi => (hφ i hi).c
    rw [inst_put (h0 (t := a) ha.l) (ha.h.mono fun _ x => x.elim)] at h'
    refine ⟨_, .ins (isAll_inst hb0 (hb.l.mono fun i hi => (hφ i hi).p) (hb.h.mono fun _ x => x.elim)) ⟨?_, ?_, ?_, ?_⟩ h'⟩
    · exact plain_inst hτ.p (hτ.l.mono fun i hi => (hφ i hi).p) (hτ.h.mono fun _ x => x.elim)
    · exact lc_inst hτ.c (h0 hτ.l) (hτ.h.mono fun _ x => x.elim)
    · exact allF_inst (hτ.l.mono fun i hi => (hφ i hi).l) (hτ.h.mono fun _ x => x.elim)
    · exact allH_inst (hτ.l.mono fun i hi => (hφ i hi).h) (hτ.h.mono fun _ x => x.elim)

theorem WF.inst_id' {n : Nat} {t : Ty} {φ θ : Nat → Ty} (h : WF n t) (hφ : ∀ i, i < n → φ i = .fr i) : inst φ θ t = t := by
  have := inst_congr (φ := φ) (θ := θ) (φ' := Ty.fr) (θ' := Ty.ho) (h.l.mono fun i hi => hφ i hi) (h.h.mono fun _ x => x.elim)
  rw [this, inst_id]
theorem SubE.weak {n m : Nat} {a b : Ty} (h : SubE n a b) (ha : WF n a) (hb : WF n b) (hm : n ≤ m) : SubE m a b := by
  obtain ⟨l, h⟩ := h
  obtain ⟨l', h'⟩ := h.subst (m := m) (φ := Ty.fr) (θ := Ty.ho) ha hb (fun i hi => Gnd.fr (by omega))
  rw [inst_id, inst_id] at h'
  exact ⟨l', h'⟩
/-- the left rule goes with each second type -/
theorem SubE.left {n : Nat} {a τ : Ty} (hτ : Gnd n τ) : ∀ (k : Nat) {b : Ty}, nq b ≤ k → SubE n (Ty.put τ 0 a) b → SubE n (.all a) b := by
  intro k
  induction k generalizing n with
  | zero =>
    intro b hb ⟨l, h⟩
    have : isAll b = false := by cases b <;> first | rfl | (unfold nq at hb; omega)
    exact ⟨_, .ins this hτ h⟩
  | succ k ih =>
    intro b hb ⟨l, h⟩
    cases e : isAll b with
    | false => exact ⟨_, .ins e hτ h⟩
    | true =>
      cases b with
      | all b =>
        obtain ⟨l', h'⟩ := ih (n := n + 1) (hτ.mono (Nat.le_succ n)) (b := Ty.put (.fr n) 0 b) (by rw [nq_put (by trivial)]; unfold nq at hb; omega) ⟨l, h.inv_gen⟩
        exact ⟨l', .gen h'⟩
      | _ => cases e
theorem SubE.refl : ∀ (k : Nat) {n : Nat} {a : Ty}, sz a ≤ k → WF n a → SubE n a a
  | 0, _, a, h, _ => by cases a <;> (unfold sz at h; omega)
  | k + 1, n, .fn a b, h, hw => by
    unfold sz at h
    obtain ⟨l1, h1⟩ := SubE.refl k (by omega) hw.fn1
    obtain ⟨l2, h2⟩ := SubE.refl k (by omega) hw.fn2
    exact ⟨_, .fn h1 h2⟩
  | k + 1, n, .all a, h, hw => by
    unfold sz at h
    have h1 := SubE.refl k (a := Ty.put (.fr n) 0 a) (by rw [sz_put rfl]; omega) hw.gen
    obtain ⟨l, h2⟩ := SubE.left (Gnd.fr (Nat.lt_succ_self n)) _ (Nat.le_refl _) h1
    exact ⟨l, .gen h2⟩
  | _ + 1, _, .var _, _, hw => absurd hw.c (Nat.not_lt_zero _)
  | _ + 1, _, .nat, _, _ => ⟨_, .nat⟩
  | _ + 1, _, .fr _, _, _ => ⟨_, .fr⟩
  | _ + 1, _, .ho _, _, hw => hw.h.elim
/-- a fresh variable of the last level becomes a plain type -/
theorem SubE.put {n : Nat} {a b τ : Ty} (h : SubE (n + 1) a (Ty.put (.fr n) 0 b)) (ha : WF n a) (hb : WF n (.all b)) (hτ : Gnd n τ) : SubE n a (Ty.put τ 0 b) := by
  obtain ⟨l, h⟩ := h
  obtain ⟨l', h'⟩ := h.subst (m := n) (φ := fun i => if i = n then τ else .fr i) (θ := Ty.ho) (ha.mono (Nat.le_succ n)) hb.gen (fun i hi => by
    split
    · exact hτ
    · exact Gnd.fr (by omega))
  have hc : ∀ {t : Ty}, allF (· < n) t → allH (fun _ => False) t → inst (fun i => if i = n then τ else .fr i) Ty.ho t = t := fun hl hh => by
    rw [inst_congr (φ' := Ty.fr) (θ' := Ty.ho) (hl.mono fun i hi => if_neg (Nat.ne_of_lt hi)) (hh.mono fun _ x => x.elim), inst_id]
  rw [inst_put (φ := fun i => if i = n then τ else .fr i) (t := b) (allF.mono (t := b) (fun i hi => by rw [if_neg (Nat.ne_of_lt hi)]; trivial) hb.l) (allH.mono (t := b) (fun _ x => x.elim) hb.h), hc ha.l ha.h, hc (t := b) hb.l hb.h] at h'
  have e : inst (fun i => if i = n then τ else .fr i) Ty.ho (.fr n) = τ := by unfold inst; rw [if_pos rfl]
  rw [e] at h'
  exact ⟨l', h'⟩
theorem SubE.trans : ∀ (q z : Nat) {n : Nat} {a b c : Ty}, nq a + nq b + nq c = q → sz a + sz b + sz c = z → WF n a → WF n b → WF n c → SubE n a b → SubE n b c → SubE n a c := by
  intro q
  induction q using Nat.strongRecOn with
  | _ q ihq =>
  intro z
  induction z using Nat.strongRecOn with
  | _ z ihz =>
  intro n a b c hq hz ha hb hc h1 h2
  cases ec : isAll c with
  | true =>
    cases c with
    | all c =>
      obtain ⟨l2, h2⟩ := h2
      have h3 := ihq (nq a + nq b + nq (Ty.put (.fr n) 0 c)) (by rw [nq_put (by trivial)]; simp only [nq] at hq; omega) _ rfl rfl (ha.mono (Nat.le_succ n)) (hb.mono (Nat.le_succ n)) hc.gen (h1.weak ha hb (Nat.le_succ n)) ⟨l2, h2.inv_gen⟩
      obtain ⟨l, h3⟩ := h3
      exact ⟨l, .gen h3⟩
    | _ => cases ec
  | false =>
    cases eb : isAll b with
    | true =>
      cases b with
      | all b =>
        obtain ⟨l2, h2⟩ := h2
        obtain ⟨τ, l', _, hτ, h2⟩ := h2.inv_ins ec
        obtain ⟨l1, h1⟩ := h1
        have h1 := SubE.put ⟨l1, h1.inv_gen⟩ ha hb hτ
        exact ihq (nq a + nq (Ty.put τ 0 b) + nq c) (by rw [nq_put hτ.p]; simp only [nq] at hq; omega) _ rfl rfl ha (hb.put hτ.wf) hc h1 ⟨_, h2⟩
      | _ => cases eb
    | false =>
      cases ea : isAll a with
      | true =>
        cases a with
        | all a =>
          obtain ⟨l1, h1⟩ := h1
          obtain ⟨τ, l', _, hτ, h1⟩ := h1.inv_ins eb
          obtain ⟨l, h⟩ := ihq (nq (Ty.put τ 0 a) + nq b + nq c) (by rw [nq_put hτ.p]; simp only [nq] at hq; omega) _ rfl rfl (ha.put hτ.wf) hb hc ⟨_, h1⟩ h2
          exact ⟨_, .ins ec hτ h⟩
        | _ => cases ea
      | false =>
        obtain ⟨l1, h1⟩ := h1
        obtain ⟨l2, h2⟩ := h2
        cases h1 with
        | nat => exact ⟨_, h2⟩
        | fr => exact ⟨_, h2⟩
        | gen _ => cases eb
        | ins _ _ _ => cases ea
        | @fn _ a0 a1 b0 b1 _ _ g1 g2 =>
          obtain ⟨c0, c1, _, _, rfl, _, k1, k2⟩ := h2.inv_fn ec
          have hle : ∀ {x y z : Nat}, x + y + z ≤ q → x + y + z < q ∨ x + y + z = q := fun h => by omega
          simp only [nq] at hq; simp only [sz] at hz
          have r0 : SubE n c0 a0 := by
            rcases hle (x := nq c0) (y := nq b0) (z := nq a0) (by omega) with hl | hl
            · exact ihq _ hl _ rfl rfl hc.fn1 hb.fn1 ha.fn1 ⟨_, k1⟩ ⟨_, g1⟩
            · exact ihz _ (by omega : sz c0 + sz b0 + sz a0 < z) hl rfl hc.fn1 hb.fn1 ha.fn1 ⟨_, k1⟩ ⟨_, g1⟩
          have r1 : SubE n a1 c1 := by
            rcases hle (x := nq a1) (y := nq b1) (z := nq c1) (by omega) with hl | hl
            · exact ihq _ hl _ rfl rfl ha.fn2 hb.fn2 hc.fn2 ⟨_, g2⟩ ⟨_, k2⟩
            · exact ihz _ (by omega : sz a1 + sz b1 + sz c1 < z) hl rfl ha.fn2 hb.fn2 hc.fn2 ⟨_, g2⟩ ⟨_, k2⟩
          obtain ⟨_, r0⟩ := r0
          obtain ⟨_, r1⟩ := r1
          exact ⟨_, .fn r0 r1⟩
end Go.Proofs.Ytjgnhhgigickaaa.Sv
/- A solver's state: what holes are by now, the levels of holes and of fresh variables, and which types are in play on a way. No program. Conditions: each theorem's own. -/

namespace Go.Proofs.Ytjgnhhgigickaaa.Sv
open Ty

/-! ### enough fuel -/
def Ev {α : Type} (F : Nat → Option α) (x : α) : Prop := ∃ n, ∀ f, n ≤ f → F f = some x
section
variable {α β : Type} {F G : Nat → Option α} {x : α}
theorem Ev.succ (e : ∀ f, F (f + 1) = G f) (h : Ev G x) : Ev F x := by
  obtain ⟨n, h⟩ := h
  refine ⟨n + 1, fun f hf => ?_⟩
  obtain ⟨k, rfl⟩ : ∃ k, f = k + 1 := ⟨f - 1, by omega⟩
  rw [e]; exact h k (by omega)
theorem Ev.pred (e : ∀ f, F (f + 1) = G f) (h : Ev F x) : Ev G x := by
  obtain ⟨n, h⟩ := h
  exact ⟨n, fun f hf => by rw [← e]; exact h (f + 1) (by omega)⟩
theorem Ev.bind {H : Nat → α → Option β} {y : β} (h : Ev F x) (g : Ev (fun f => H f x) y) : Ev (fun f => (F f).bind (H f)) y := by
  obtain ⟨n, h⟩ := h
  obtain ⟨m, g⟩ := g
  refine ⟨max n m, fun f hf => ?_⟩
  show (F f).bind (H f) = some y
  rw [h f (by omega)]; exact g f (by omega)
theorem Ev.unbind {H : Nat → α → Option β} {y : β} (h : Ev F x) (g : Ev (fun f => (F f).bind (H f)) y) : Ev (fun f => H f x) y := by
  obtain ⟨n, h⟩ := h
  obtain ⟨m, g⟩ := g
  refine ⟨max n m, fun f hf => ?_⟩
  have g2 : (F f).bind (H f) = some y := g f (by omega)
  rw [h f (by omega)] at g2; exact g2
theorem Ev.pure {x : α} : Ev (fun _ => some x) x := ⟨0, fun _ _ => rfl⟩
theorem Ev.congr (e : ∀ f, F f = G f) (h : Ev G x) : Ev F x := by
  obtain ⟨n, h⟩ := h
  exact ⟨n, fun f hf => by rw [e]; exact h f hf⟩
theorem Ev.inj {y : α} (h : Ev F x) (g : Ev F y) : x = y := by
  obtain ⟨n, h⟩ := h
  obtain ⟨m, g⟩ := g
  have := (h (max n m) (by omega)).symm.trans (g (max n m) (by omega))
  exact Option.some.inj this
theorem Ev.get (h : Ev F x) : ∃ f, F f = some x := by
  obtain ⟨n, h⟩ := h
  exact ⟨n, h n (Nat.le_refl _)⟩
end

namespace Ty
theorem allF.triv {P : Nat → Prop} (h : ∀ i, P i) : ∀ {t : Ty}, allF P t
  | fn _ _ => ⟨allF.triv h, allF.triv h⟩
  | all a => allF.triv (t := a) h
  | fr i => h i
  | var _ => trivial
  | nat => trivial
  | ho _ => trivial
theorem allH.triv {P : Nat → Prop} (h : ∀ i, P i) : ∀ {t : Ty}, allH P t
  | fn _ _ => ⟨allH.triv h, allH.triv h⟩
  | all a => allH.triv (t := a) h
  | ho i => h i
  | var _ => trivial
  | nat => trivial
  | fr _ => trivial
theorem allH.and {P Q : Nat → Prop} : ∀ {t : Ty}, allH P t → allH Q t → allH (fun i => P i ∧ Q i) t
  | fn _ _, ⟨x, y⟩, ⟨z, w⟩ => ⟨allH.and x z, allH.and y w⟩
  | all a, x, z => allH.and (t := a) x z
  | ho _, x, z => ⟨x, z⟩
  | var _, _, _ => trivial
  | nat, _, _ => trivial
  | fr _, _, _ => trivial
theorem allF.and {P Q : Nat → Prop} : ∀ {t : Ty}, allF P t → allF Q t → allF (fun i => P i ∧ Q i) t
  | fn _ _, ⟨x, y⟩, ⟨z, w⟩ => ⟨allF.and x z, allF.and y w⟩
  | all a, x, z => allF.and (t := a) x z
  | fr _, x, z => ⟨x, z⟩
  | var _, _, _ => trivial
  | nat, _, _ => trivial
  | ho _, _, _ => trivial
theorem allF.uninst {P : Nat → Prop} {θ : Nat → Ty} : ∀ {t : Ty}, allF P (inst fr θ t) → allF P t
  | fn _ _, ⟨x, y⟩ => ⟨allF.uninst x, allF.uninst y⟩
  | all a, x => allF.uninst (t := a) x
  | fr _, x => x
  | var _, _ => trivial
  | nat, _ => trivial
  | ho _, _ => trivial
theorem lc.uninst {θ : Nat → Ty} : ∀ {t : Ty} {n : Nat}, lc n (inst fr θ t) → lc n t
  | fn _ _, _, ⟨x, y⟩ => ⟨lc.uninst x, lc.uninst y⟩
  | all a, _, x => lc.uninst (t := a) x
  | fr _, _, _ => trivial
  | var _, _, x => x
  | nat, _, _ => trivial
  | ho _, _, _ => trivial
end Ty

/-! ### what holes are -/
def one (h : Nat) (u : Ty) : Ty → Ty := inst .fr (fun i => if i = h then u else .ho i)
/-- the solved holes, the last one first -/
def R : List (Nat × Ty) → Ty → Ty
  | [], t => t
  | (h, u) :: sv, t => one h (R sv u) (R sv t)
theorem R_eq : ∀ (sv : List (Nat × Ty)) (t : Ty), R sv t = inst .fr (fun i => R sv (.ho i)) t
  | [], t => inst_id.symm
  | (h, u) :: sv, t => by
    show one h (R sv u) (R sv t) = _
    rw [R_eq sv t]; unfold one; rw [inst_inst]; rfl
theorem R_fn {sv : List (Nat × Ty)} {a b : Ty} : R sv (.fn a b) = .fn (R sv a) (R sv b) := by
  rw [R_eq sv (.fn a b), R_eq sv a, R_eq sv b, inst]
theorem R_all {sv : List (Nat × Ty)} {a : Ty} : R sv (.all a) = .all (R sv a) := by
  rw [R_eq sv (.all a), R_eq sv a, inst]
theorem R_fr {sv : List (Nat × Ty)} {i : Nat} : R sv (.fr i) = .fr i := by rw [R_eq, inst]
theorem R_var {sv : List (Nat × Ty)} {i : Nat} : R sv (.var i) = .var i := by rw [R_eq, inst]
theorem R_nat {sv : List (Nat × Ty)} : R sv .nat = .nat := by rw [R_eq, inst]
def dom (sv : List (Nat × Ty)) : List Nat := sv.map (·.1)
def Ok : List (Nat × Ty) → Prop
  | [] => True
  | (h, u) :: sv => Ok sv ∧ h ∉ dom sv ∧ allH (· ≠ h) (R sv u) ∧ plain (R sv u) ∧ lc 0 (R sv u)
theorem one_plain {h : Nat} {u t : Ty} (hu : plain u) (ht : plain t) : plain (one h u t) :=
  plain_inst ht (allF.triv fun _ => trivial) (allH.triv fun i => by split; exact hu; trivial)
theorem one_lc {h : Nat} {u t : Ty} {n : Nat} (hu : lc 0 u) (ht : lc n t) : lc n (one h u t) :=
  lc_inst ht (allF.triv fun _ => trivial) (allH.triv fun i => by split; exact hu; trivial)
theorem one_id {h : Nat} {u t : Ty} (ht : allH (· ≠ h) t) : one h u t = t := by
  unfold one
  rw [inst_congr (φ' := Ty.fr) (θ' := Ty.ho) (allF.triv fun _ => rfl) (ht.mono fun i hi => if_neg hi), inst_id]
theorem Ok.plain : ∀ {sv : List (Nat × Ty)}, Ok sv → ∀ i, Ty.plain (R sv (.ho i))
  | [], _, _ => trivial
  | (_, _) :: _, ⟨h1, _, _, h4, _⟩, i => one_plain h4 (h1.plain i)
theorem Ok.lc : ∀ {sv : List (Nat × Ty)}, Ok sv → ∀ i, Ty.lc 0 (R sv (.ho i))
  | [], _, _ => trivial
  | (_, _) :: _, ⟨h1, _, _, _, h5⟩, i => one_lc h5 (h1.lc i)
theorem R_free : ∀ {sv : List (Nat × Ty)} {i : Nat}, i ∉ dom sv → R sv (.ho i) = .ho i
  | [], _, _ => rfl
  | (h, u) :: sv, i, hi => by
    have h1 : i ≠ h ∧ i ∉ dom sv := by simpa [dom] using hi
    show one h (R sv u) (R sv (.ho i)) = _
    rw [R_free h1.2]; show (if i = h then _ else _) = _
    rw [if_neg h1.1]
theorem Ok.free : ∀ {sv : List (Nat × Ty)}, Ok sv → ∀ t, allH (fun i => i ∉ dom sv) (R sv t)
  | [], _, _ => allH.triv fun _ => by simp [dom]
  | (h, u) :: sv, ⟨h1, _, h3, _, _⟩, t => by
    have hm : ∀ {i : Nat}, (i ≠ h ∧ i ∉ dom sv) → i ∉ dom ((h, u) :: sv) := fun hi => by simpa [dom] using hi
    refine allH_inst (allF.triv fun _ => trivial) ((h1.free t).mono fun i hi => ?_)
    split
    · exact (h3.and (h1.free u)).mono fun _ x => hm x
    · rename_i hn; exact hm ⟨hn, hi⟩
theorem R_id {sv : List (Nat × Ty)} {t : Ty} (h : allH (fun i => i ∉ dom sv) t) : R sv t = t := by
  rw [R_eq, inst_congr (φ' := Ty.fr) (θ' := Ty.ho) (allF.triv fun _ => rfl) (h.mono fun i hi => R_free hi), inst_id]
theorem Ok.idem {sv : List (Nat × Ty)} (h : Ok sv) (t : Ty) : R sv (R sv t) = R sv t := R_id (h.free t)
theorem R_app {sv : List (Nat × Ty)} (h : Ok sv) : ∀ (new : List (Nat × Ty)) (t : Ty), R (new ++ sv) (R sv t) = R (new ++ sv) t
  | [], t => h.idem t
  | (x, u) :: new, t => by
    show one x (R (new ++ sv) u) (R (new ++ sv) (R sv t)) = one x (R (new ++ sv) u) (R (new ++ sv) t)
    rw [R_app h new t]
theorem R_mem : ∀ {sv : List (Nat × Ty)}, Ok sv → ∀ {h : Nat} {u : Ty}, (h, u) ∈ sv → R sv (.ho h) = R sv u
  | (x, y) :: sv, ⟨h1, h2, h3, _, _⟩, h, u, hm => by
    show one x (R sv y) (R sv (.ho h)) = one x (R sv y) (R sv u)
    rcases List.mem_cons.1 hm with e | hm
    · obtain ⟨rfl, rfl⟩ : h = x ∧ u = y := by simpa using e
      rw [R_free h2, one_id h3]
      show (if h = h then _ else _) = _
      rw [if_pos rfl]
    · rw [R_mem h1 hm]
theorem R_put {sv : List (Nat × Ty)} (h : Ok sv) {u t : Ty} {n : Nat} : R sv (put u n t) = put (R sv u) n (R sv t) := by
  rw [R_eq sv (put u n t), R_eq sv u, R_eq sv t]
  exact inst_put (allF.triv fun _ => trivial) (allH.triv fun i => h.lc i)

/-- the head -/
def nowA : List (Nat × Ty) → Ty → Ty
  | [], t => t
  | (h, u) :: sv, t => if nowA sv t = .ho h then nowA sv u else nowA sv t
theorem R_now : ∀ {sv : List (Nat × Ty)}, Ok sv → ∀ t, R sv (nowA sv t) = R sv t
  | [], _, _ => rfl
  | (h, u) :: sv, ⟨h1, h2, h3, _, _⟩, t => by
    show one h (R sv u) (R sv (nowA ((h, u) :: sv) t)) = one h (R sv u) (R sv t)
    unfold nowA
    split
    · rename_i e
      have := R_now h1 t
      rw [e, R_free h2] at this
      rw [R_now h1 u, one_id h3, ← this]
      show _ = (if h = h then _ else _)
      rw [if_pos rfl]
    · rw [R_now h1 t]
theorem now_free : ∀ {sv : List (Nat × Ty)}, Ok sv → ∀ {t : Ty} {i : Nat}, nowA sv t = .ho i → i ∉ dom sv
  | [], _, _, _, _ => by simp [dom]
  | (h, u) :: sv, ⟨h1, h2, h3, _, _⟩, t, i, e => by
    unfold nowA at e
    have hm : (i ≠ h ∧ i ∉ dom sv) → i ∉ dom ((h, u) :: sv) := fun hi => by simpa [dom] using hi
    split at e
    · have hf := now_free h1 e
      have := R_now h1 u
      rw [e, R_free hf] at this
      rw [← this] at h3
      exact hm ⟨h3, hf⟩
    · rename_i hn
      exact hm ⟨fun e2 => hn (by rw [e, e2]), now_free h1 e⟩
theorem now_now {sv : List (Nat × Ty)} {t : Ty} (h : ∀ i, t = .ho i → i ∉ dom sv) : nowA sv t = t := by
  induction sv with
  | nil => rfl
  | cons p sv ih =>
    obtain ⟨x, u⟩ := p
    have h1 : nowA sv t = t := ih fun i e => by have := h i e; simp [dom] at this; simpa [dom] using this.2
    unfold nowA
    rw [h1, if_neg]
    intro e
    have := h x e
    simp [dom] at this

/-! ### the state -/
structure AS where
  sv : List (Nat × Ty)
  dp : List Nat
  G : List (Option (List Nat))
  way : List Nat
  tk : List (Nat × Nat)
def AS.lev (S : AS) (x : Nat) : Nat := S.dp.getD x 0
def PF (S : AS) (w : List Nat) (x : Nat) : Prop := S.G[x]? = some none ∧ w[S.lev x]? = some x
def PH (S : AS) (w : List Nat) (h : Nat) : Prop := ∃ v, S.G[h]? = some (some v) ∧ S.lev h ≤ w.length ∧ v.take (S.lev h) = w.take (S.lev h)
/-- a type on a way -/
structure ip (S : AS) (w : List Nat) (t : Ty) : Prop where
  c : lc 0 t
  f : allF (PF S w) t
  h : allH (PH S w) t
theorem ip.take {S : AS} {w : List Nat} {k : Nat} {t : Ty} (h : ip S (w.take k) t) : ip S w t :=
  ⟨h.c, h.f.mono fun x ⟨a, b⟩ => ⟨a, by
    rw [List.getElem?_take] at b; split at b
    · exact b
    · cases b⟩, h.h.mono fun x ⟨v, a, b, c⟩ => ⟨v, a, by rw [List.length_take] at b; omega, by
    rw [c, List.take_take]; congr 1; rw [List.length_take] at b; omega⟩⟩
theorem ip.app {S : AS} {w v : List Nat} {t : Ty} (h : ip S w t) : ip S (w ++ v) t := by
  have : w = (w ++ v).take w.length := by simp
  rw [this] at h; exact h.take
structure Inv (S : AS) : Prop where
  ok : Ok S.sv
  len : S.dp.length = S.G.length
  frs : ∀ p ∈ S.sv, allF (fun x => S.G[x]? = some none) p.2
  hos : ∀ p ∈ S.sv, allH (fun x => ∃ v, S.G[x]? = some (some v)) p.2
  lv : ∀ h, h ∈ dom S.sv → ∃ v, S.G[h]? = some (some v) ∧ S.lev h ≤ v.length ∧ ip S (v.take (S.lev h)) (R S.sv (.ho h))
theorem PH.ip {S : AS} {w : List Nat} {h : Nat} (hI : Inv S) (hp : PH S w h) : ip S w (R S.sv (.ho h)) := by
  by_cases hd : h ∈ dom S.sv
  · obtain ⟨v, h1, h2, h3⟩ := hI.lv h hd
    obtain ⟨v', g1, g2, g3⟩ := hp
    rw [h1] at g1; cases g1
    rw [g3] at h3; exact h3.take
  · rw [R_free hd]; exact ⟨trivial, trivial, hp⟩
def IP (S : AS) (w : List Nat) (t : Ty) : Prop := ip S w (R S.sv t)
structure Ext (S S' : AS) : Prop where
  sv : ∃ new, S'.sv = new ++ S.sv
  g : ∃ m, S'.G = S.G ++ m
  fr : ∀ x, S.G[x]? = some none → S'.lev x = S.lev x
  ho : ∀ h v, S.G[h]? = some (some v) → S'.lev h ≤ S.lev h
theorem Ext.refl (S : AS) : Ext S S := ⟨⟨[], rfl⟩, ⟨[], by simp⟩, fun _ _ => rfl, fun _ _ _ => Nat.le_refl _⟩
theorem Ext.get {S S' : AS} (h : Ext S S') {x : Nat} {o : Option (List Nat)} (hx : S.G[x]? = some o) : S'.G[x]? = some o := by
  obtain ⟨m, hm⟩ := h.g
  rw [hm, List.getElem?_append_left (List.getElem?_eq_some_iff.1 hx).1]; exact hx
theorem Ext.trans {S S' S'' : AS} (h : Ext S S') (g : Ext S' S'') : Ext S S'' := by
  obtain ⟨n1, e1⟩ := h.sv
  obtain ⟨n2, e2⟩ := g.sv
  obtain ⟨m1, f1⟩ := h.g
  obtain ⟨m2, f2⟩ := g.g
  exact ⟨⟨n2 ++ n1, by rw [e2, e1, List.append_assoc]⟩, ⟨m1 ++ m2, by rw [f2, f1, List.append_assoc]⟩,
    fun x hx => (g.fr x (h.get hx)).trans (h.fr x hx), fun x v hx => Nat.le_trans (g.ho x v (h.get hx)) (h.ho x v hx)⟩
theorem PF.ext {S S' : AS} (h : Ext S S') {w : List Nat} {x : Nat} (hp : PF S w x) : PF S' w x := ⟨h.get hp.1, by rw [h.fr x hp.1]; exact hp.2⟩
theorem PH.ext {S S' : AS} (h : Ext S S') {w : List Nat} {x : Nat} (hp : PH S w x) : PH S' w x := by
  obtain ⟨v, h1, h2, h3⟩ := hp
  have hl := h.ho x v h1
  refine ⟨v, h.get h1, by omega, ?_⟩
  have : ∀ l : List Nat, l.take (S'.lev x) = (l.take (S.lev x)).take (S'.lev x) := fun l => by rw [List.take_take]; congr 1; omega
  rw [this v, this w, h3]
theorem ip.ext {S S' : AS} (h : Ext S S') {w : List Nat} {t : Ty} (hp : ip S w t) : ip S' w t :=
  ⟨hp.c, hp.f.mono fun _ x => x.ext h, hp.h.mono fun _ x => x.ext h⟩
theorem ip.R {S : AS} (hI : Inv S) {w : List Nat} {t : Ty} (hp : ip S w t) : ip S w (R S.sv t) := by
  rw [R_eq]
  exact ⟨lc_inst hp.c (allF.triv fun _ => trivial) (allH.triv fun i => hI.ok.lc i), allF_inst (hp.f.mono fun _ x => x) (hp.h.mono fun i x => (x.ip hI).f),
    allH_inst (allF.triv fun _ => trivial) (hp.h.mono fun i x => (x.ip hI).h)⟩
theorem IP.ext {S S' : AS} (hI : Inv S) (hI' : Inv S') (h : Ext S S') {w : List Nat} {t : Ty} (hp : IP S w t) : IP S' w t := by
  obtain ⟨new, e⟩ := h.sv
  have := (ip.ext h hp).R hI'
  unfold IP
  rw [e] at this ⊢
  rwa [R_app hI.ok] at this
theorem IP.app {S : AS} {w v : List Nat} {t : Ty} (h : IP S w t) : IP S (w ++ v) t := ip.app h
theorem IP.fn1 {S : AS} {w : List Nat} {a b : Ty} (h : IP S w (.fn a b)) : IP S w a := by
  unfold IP at h; rw [R_fn] at h; exact ⟨h.c.1, h.f.1, h.h.1⟩
theorem IP.fn2 {S : AS} {w : List Nat} {a b : Ty} (h : IP S w (.fn a b)) : IP S w b := by
  unfold IP at h; rw [R_fn] at h; exact ⟨h.c.2, h.f.2, h.h.2⟩
theorem IP.put {S : AS} (hI : Inv S) {w : List Nat} {a u : Ty} (h : IP S w (.all a)) (hu : IP S w u) : IP S w (put u 0 a) := by
  unfold IP at h ⊢
  rw [R_all] at h; rw [R_put hI.ok]
  exact ⟨lc_put hu.c h.c, allF_put hu.f h.f, allH_put hu.h h.h⟩
theorem IP.now {S : AS} (hI : Inv S) {w : List Nat} {t : Ty} (h : IP S w t) : IP S w (nowA S.sv t) := by
  unfold IP; rw [R_now hI.ok]; exact h
theorem IP.lcl {S : AS} {w : List Nat} {t : Ty} (h : IP S w t) : lc 0 t := by
  have := h.c; rw [R_eq] at this; exact this.uninst
theorem IP.hos' {S : AS} (hI : Inv S) {w : List Nat} : ∀ {t : Ty}, allH (PH S w) (Sv.R S.sv t) → allH (fun x => ∃ v, S.G[x]? = some (some v)) t
  | .fn a b, h => by rw [R_fn] at h; exact ⟨IP.hos' hI h.1, IP.hos' hI h.2⟩
  | .all a, h => by rw [R_all] at h; exact IP.hos' (t := a) hI h
  | .ho i, h => by
    by_cases hd : i ∈ dom S.sv
    · obtain ⟨v, h1, _⟩ := hI.lv i hd
      exact ⟨v, h1⟩
    · rw [R_free hd] at h
      obtain ⟨v, h1, _⟩ := h
      exact ⟨v, h1⟩
  | .var _, _ => trivial
  | .nat, _ => trivial
  | .fr _, _ => trivial
theorem IP.hos {S : AS} (hI : Inv S) {w : List Nat} {t : Ty} (h : IP S w t) : allH (fun x => ∃ v, S.G[x]? = some (some v)) t := IP.hos' hI h.h
theorem IP.frs {S : AS} {w : List Nat} {t : Ty} (h : IP S w t) : allF (fun x => S.G[x]? = some none) t := by
  have := h.f; rw [R_eq] at this; exact this.uninst.mono fun _ x => x.1

/-! ### ground instances -/
/-- behind κ levels of the world around -/
def gi (κ : Nat) (S : AS) (θ : Nat → Ty) : Ty → Ty := inst (fun x => .fr (κ + S.lev x)) θ
structure Mod (κ : Nat) (S : AS) (θ : Nat → Ty) : Prop where
  gnd : ∀ h v, S.G[h]? = some (some v) → Gnd (κ + S.lev h) (θ h)
  eq : ∀ p ∈ S.sv, θ p.1 = gi κ S θ p.2
theorem gi_R' {φ θ : Nat → Ty} : ∀ {sv : List (Nat × Ty)}, (∀ p ∈ sv, θ p.1 = inst φ θ p.2) → ∀ t, inst φ θ (R sv t) = inst φ θ t
  | [], _, _ => rfl
  | (h, u) :: sv, hs, t => by
    have hs' : ∀ p ∈ sv, θ p.1 = inst φ θ p.2 := fun p hp => hs p (List.mem_cons_of_mem _ hp)
    show inst φ θ (one h (R sv u) (R sv t)) = _
    unfold one
    rw [inst_inst, ← gi_R' hs' t]
    refine inst_congr (allF.triv fun _ => rfl) (allH.triv fun i => ?_)
    split
    · rename_i e; subst e
      rw [gi_R' hs' u]; exact (hs _ (List.mem_cons_self ..)).symm
    · rfl
theorem Mod.R {κ : Nat} {S : AS} {θ : Nat → Ty} (h : Mod κ S θ) (t : Ty) : gi κ S θ (R S.sv t) = gi κ S θ t := gi_R' h.eq t
theorem Mod.now {κ : Nat} {S : AS} (hI : Inv S) {θ : Nat → Ty} (h : Mod κ S θ) (t : Ty) : gi κ S θ (nowA S.sv t) = gi κ S θ t := by
  rw [← h.R, R_now hI.ok, h.R]
theorem gi_ext {κ : Nat} {S S' : AS} (h : Ext S S') {θ : Nat → Ty} {t : Ty} (ht : allF (fun x => S.G[x]? = some none) t) : gi κ S' θ t = gi κ S θ t :=
  inst_congr (ht.mono fun x hx => by rw [h.fr x hx]) (allH.triv fun _ => rfl)
theorem Mod.back {κ : Nat} {S S' : AS} (hI : Inv S) (h : Ext S S') {θ : Nat → Ty} (hm : Mod κ S' θ) : Mod κ S θ := by
  obtain ⟨new, e⟩ := h.sv
  refine ⟨fun x v hx => (hm.gnd x v (h.get hx)).mono (Nat.add_le_add_left (h.ho x v hx) κ), fun p hp => ?_⟩
  rw [hm.eq p (by rw [e]; exact List.mem_append_right _ hp), gi_ext h (hI.frs p hp)]
theorem IP.wf {κ : Nat} {S : AS} {w : List Nat} {θ : Nat → Ty} {t : Ty} (hm : Mod κ S θ) (h : IP S w t) : WF (κ + w.length) (gi κ S θ t) := by
  rw [← hm.R]
  have hl : ∀ x, PF S w x → κ + S.lev x < κ + w.length := fun x hx => Nat.add_lt_add_left (List.getElem?_eq_some_iff.1 hx.2).1 κ
  refine ⟨lc_inst h.c (allF.triv fun _ => trivial) (h.h.mono fun i hi => ?_), allF_inst (h.f.mono fun x hx => hl x hx) (h.h.mono fun i hi => ?_), allH_inst (allF.triv fun _ => trivial) (h.h.mono fun i hi => ?_)⟩
  · obtain ⟨v, h1, _⟩ := hi; exact (hm.gnd i v h1).c
  · obtain ⟨v, h1, h2, _⟩ := hi; exact (hm.gnd i v h1).l.mono fun _ x => Nat.lt_of_lt_of_le x (Nat.add_le_add_left h2 κ)
  · obtain ⟨v, h1, _⟩ := hi; exact (hm.gnd i v h1).h
/-- the same holes, the same instance -/
theorem IP.agree {κ : Nat} {S S' : AS} (hI : Inv S) (he : Ext S S') {w : List Nat} {θ θ' : Nat → Ty} {t : Ty} (h : IP S w t) (hm : Mod κ S θ) (hm' : Mod κ S' θ') (ha : ∀ i, i < S.dp.length → θ' i = θ i) : gi κ S' θ' t = gi κ S θ t := by
  rw [gi_ext he h.frs, ← hm.R, ← (hm'.back hI he).R]
  refine inst_congr (allF.triv fun _ => rfl) (h.h.mono fun i ⟨v, h1, _⟩ => ha i ?_)
  rw [hI.len]; exact (List.getElem?_eq_some_iff.1 h1).1
/-- there is an instance -/
def dflt (κ : Nat) (S : AS) (i : Nat) : Ty := inst (fun x => .fr (κ + S.lev x)) (fun _ => .nat) (R S.sv (.ho i))
theorem Mod.dflt {κ : Nat} {S : AS} (hI : Inv S) : Mod κ S (dflt κ S) := by
  refine ⟨fun h v hv => ?_, fun p hp => ?_⟩
  · unfold Sv.dflt
    by_cases hd : h ∈ dom S.sv
    · obtain ⟨v', h1, h2, h3⟩ := hI.lv h hd
      have hl : ∀ x, PF S (v'.take (S.lev h)) x → κ + S.lev x < κ + S.lev h := fun x hx => by
        have := (List.getElem?_eq_some_iff.1 hx.2).1
        rw [List.length_take] at this; omega
      exact ⟨plain_inst (hI.ok.plain h) (allF.triv fun _ => trivial) (allH.triv fun _ => trivial), lc_inst h3.c (allF.triv fun _ => trivial) (allH.triv fun _ => trivial),
        allF_inst (h3.f.mono fun x hx => hl x hx) (allH.triv fun _ => trivial), allH_inst (allF.triv fun _ => trivial) (allH.triv fun _ => trivial)⟩
    · rw [R_free hd]; exact Gnd.nat
  · obtain ⟨h, u⟩ := p
    show Sv.dflt κ S h = gi κ S (Sv.dflt κ S) u
    unfold Sv.dflt gi
    rw [R_mem hI.ok hp, R_eq S.sv u, inst_inst]
    rfl
end Go.Proofs.Ytjgnhhgigickaaa.Sv
/- What the solver's smaller functions compute on a state: the head of a type, opening, whether a hole or a quantifier is in a type, levels, new variables. Conditions: each theorem's own; numbers below lim. -/

namespace Go.Proofs.Ytjgnhhgigickaaa.Sv
open Ty Go Wk Md

@[reducible] def toT : Ty → T
  | .var n => .mk 1 n []
  | .nat => .mk 2 0 []
  | .fn a b => .mk 3 0 [toT a, toT b]
  | .all a => .mk 4 0 [toT a]
  | .fr n => .mk 5 n []
  | .ho n => .mk 6 n []
def csv (sv : List (Nat × Ty)) : List (Int × T) := (sv.map fun p => ((p.1 : Int), toT p.2)).reverse
def cSol (wt : Bool) (S : AS) : Sol where
  solved := csv S.sv
  deep := S.dp.map fun (n : Nat) => (n : Int)
  way := S.way.map fun (x : Nat) => .mk 5 (x : Int) []
  md := if wt then .wit (S.tk.map fun p => (.mk 6 (p.1 : Int) [], (p.2 : Int))) else .unk

theorem w64_id {x : Int} (h1 : -9223372036854775808 ≤ x) (h2 : x ≤ 9223372036854775807) : w64 x = x := wrap_id h1 h2
theorem lkp_app {α : Type} : ∀ (l m : List (Int × α)) (x : Int), lkp (l ++ m) x = (lkp l x).or (lkp m x)
  | [], _, _ => rfl
  | (k, v) :: l, m, x => by
    show (bif x == k then some v else lkp (l ++ m) x) = (bif x == k then some v else lkp l x).or _
    cases x == k
    · exact lkp_app l m x
    · rfl
theorem csv_cons (h : Nat) (u : Ty) (sv : List (Nat × Ty)) : csv ((h, u) :: sv) = csv sv ++ [((h : Int), toT u)] := by simp [csv]
theorem lkp_free : ∀ {sv : List (Nat × Ty)} {h : Nat}, h ∉ dom sv → lkp (csv sv) (h : Int) = none
  | [], _, _ => rfl
  | (x, u) :: sv, h, hd => by
    have h1 : h ≠ x ∧ h ∉ dom sv := by simpa [dom] using hd
    rw [csv_cons, lkp_app, lkp_free h1.2]
    show (bif (h : Int) == (x : Int) then some (toT u) else none) = none
    rw [show ((h : Int) == (x : Int)) = false by simpa using fun e : (h : Int) = (x : Int) => h1.1 (by omega)]; rfl
theorem lkp_mem : ∀ {sv : List (Nat × Ty)}, Ok sv → ∀ {h : Nat} {u : Ty}, (h, u) ∈ sv → lkp (csv sv) (h : Int) = some (toT u)
  | (x, y) :: sv, ⟨h1, h2, _, _, _⟩, h, u, hm => by
    rw [csv_cons, lkp_app]
    rcases List.mem_cons.1 hm with e | hm
    · obtain ⟨rfl, rfl⟩ : h = x ∧ u = y := by simpa using e
      rw [lkp_free h2]
      show (bif (h : Int) == (h : Int) then some (toT u) else none) = _
      simp
    · rw [lkp_mem h1 hm]; rfl

inductive Ch (sv : List (Nat × Ty)) : Ty → Ty → Prop
  | refl {t : Ty} : Ch sv t t
  | step {h : Nat} {u t : Ty} : (h, u) ∈ sv → Ch sv u t → Ch sv (.ho h) t
theorem Ch.trans {sv : List (Nat × Ty)} {a b c : Ty} (h : Ch sv a b) (g : Ch sv b c) : Ch sv a c := by
  induction h with
  | refl => exact g
  | step m _ ih => exact .step m (ih g)
theorem Ch.cons {sv : List (Nat × Ty)} {p : Nat × Ty} {a b : Ty} (h : Ch sv a b) : Ch (p :: sv) a b := by
  induction h with
  | refl => exact .refl
  | step m _ ih => exact .step (List.mem_cons_of_mem _ m) ih
theorem ch_now : ∀ (sv : List (Nat × Ty)) (t : Ty), Ch sv t (nowA sv t)
  | [], _ => .refl
  | (h, u) :: sv, t => by
    unfold nowA
    split
    · rename_i e
      have := (ch_now sv t).cons (p := (h, u))
      rw [e] at this
      exact this.trans (.step (List.mem_cons_self ..) (ch_now sv u).cons)
    · exact (ch_now sv t).cons
theorem Ch.ev {sv : List (Nat × Ty)} (hok : Ok sv) {t t' : Ty} (h : Ch sv t t') (hf : ∀ i, t' = .ho i → i ∉ dom sv) : Ev (fun f => Md.now f (csv sv) (toT t)) (toT t') := by
  induction h with
  | @refl t =>
    refine Ev.succ (G := fun _ => some (toT t)) (fun f => ?_) Ev.pure
    cases t with
    | ho i =>
      show (if (6 : Int) = 6 then (match lkp (csv sv) (i : Int) with | some u => Md.now f (csv sv) u | none => some (toT (.ho i))) else _) = _
      rw [if_pos rfl, lkp_free (hf i rfl)]
    | _ => rfl
  | @step h u t m _ ih =>
    refine Ev.succ (G := fun f => Md.now f (csv sv) (toT u)) (fun f => ?_) (ih hf)
    show (if (6 : Int) = 6 then (match lkp (csv sv) (h : Int) with | some u => Md.now f (csv sv) u | none => some (toT (.ho h))) else _) = _
    rw [if_pos rfl, lkp_mem hok m]
theorem now_ev {sv : List (Nat × Ty)} (hok : Ok sv) (t : Ty) : Ev (fun f => Md.now f (csv sv) (toT t)) (toT (nowA sv t)) :=
  (ch_now sv t).ev hok fun _ e => now_free hok e

/-! ### opening -/
theorem put_eq {u : Ty} : ∀ {t : Ty} {n : Nat}, n + nq t < lim → Md.put (toT u) (n : Int) (toT t) = toT (Ty.put u n t)
  | .fn a b, n, h => by
    simp only [nq] at h
    show T.mk 3 0 (Md.puts (toT u) (n : Int) [toT a, toT b]) = _
    unfold Md.puts; rw [put_eq (by omega)]
    unfold Md.puts; rw [put_eq (by omega)]
    unfold Md.puts; rfl
  | .all a, n, h => by
    simp only [nq] at h
    have hlim : lim = 1099511627776 := rfl
    show T.mk 4 0 (Md.puts (toT u) (w64 ((n : Int) + 1)) [toT a]) = _
    unfold Md.puts
    rw [w64_id (by omega) (by omega), show ((n : Int) + 1) = ((n + 1 : Nat) : Int) by omega, put_eq (by omega)]
    unfold Md.puts; rfl
  | .var m, n, _ => by
    show (if (1 : Int) = 1 ∧ (m : Int) = (n : Int) then toT u else if ([] : List T).length = 0 then T.mk 1 m [] else _) = toT (if m = n then u else .var m)
    by_cases e : m = n
    · rw [if_pos ⟨rfl, by omega⟩, if_pos e]
    · rw [if_neg (by omega), if_neg e]; rfl
  | .nat, _, _ => rfl
  | .fr _, _, _ => rfl
  | .ho _, _, _ => rfl
theorem opn_eq {u a : Ty} (h : nq a < lim) : opn (toT (.all a)) (toT u) = some (toT (Ty.put u 0 a)) := by
  show some (Md.put (toT u) ((0 : Nat) : Int) (toT a)) = _
  rw [put_eq (by omega)]

/-! ### is a hole, is a quantifier in a type? -/
def hasH (h : Nat) : Ty → Bool
  | .fn a b => hasH h a || hasH h b
  | .all a => hasH h a
  | .ho i => i == h
  | _ => false
def hasQ : Ty → Bool
  | .fn a b => hasQ a || hasQ b
  | .all _ => true
  | _ => false
theorem hasH_false {h : Nat} : ∀ {t : Ty}, hasH h t = false ↔ allH (· ≠ h) t
  | .fn a b => by simp only [hasH, allH, Bool.or_eq_false_iff, hasH_false (t := a), hasH_false (t := b)]
  | .all a => by simp only [hasH, allH, hasH_false (t := a)]
  | .ho i => by simp [hasH, allH]
  | .var _ => by simp [hasH, allH]
  | .nat => by simp [hasH, allH]
  | .fr _ => by simp [hasH, allH]
theorem hasQ_false : ∀ {t : Ty}, hasQ t = false ↔ plain t
  | .fn a b => by simp only [hasQ, Ty.plain, Bool.or_eq_false_iff, hasQ_false (t := a), hasQ_false (t := b)]
  | .all a => by simp [hasQ, Ty.plain]
  | .ho i => by simp [hasQ, Ty.plain]
  | .var _ => by simp [hasQ, Ty.plain]
  | .nat => by simp [hasQ, Ty.plain]
  | .fr _ => by simp [hasQ, Ty.plain]
theorem R_head {sv : List (Nat × Ty)} (hok : Ok sv) (t : Ty) : R sv t = R sv (nowA sv t) := (R_now hok t).symm
theorem insideL_nil {sv : List (Int × T)} {h : Int} {a b : Bool} : Ev (fun f => Md.insideL f sv h a b []) (a, b) := Ev.succ (fun f => rfl) Ev.pure
theorem insideL_cons {sv : List (Int × T)} {h : Int} {a b x y : Bool} {k : T} {ks : List T} {r : Bool × Bool} (h1 : Ev (fun f => Md.inside f sv h k) (x, y)) (h2 : Ev (fun f => Md.insideL f sv h (a || x) (b || y) ks) r) : Ev (fun f => Md.insideL f sv h a b (k :: ks)) r :=
  Ev.succ (fun f => rfl) (Ev.bind h1 h2)
theorem inside_ev {sv : List (Nat × Ty)} (hok : Ok sv) (h : Nat) : ∀ (z : Nat) (t : Ty), Ty.sz (R sv t) ≤ z → Ev (fun f => Md.inside f (csv sv) (h : Int) (toT t)) (hasH h (R sv t), hasQ (R sv t)) := by
  intro z
  induction z with
  | zero => intro t hz; exfalso; revert hz; cases R sv t <;> simp [Ty.sz]
  | succ z ih =>
    intro t hz
    refine Ev.succ (fun f => rfl) (Ev.bind (now_ev hok t) ?_)
    rw [R_head hok t] at hz ⊢
    have hfree : ∀ i, nowA sv t = .ho i → i ∉ dom sv := fun i e => now_free hok e
    cases e : nowA sv t with
    | fn a b =>
      rw [e, R_fn] at hz; simp only [Ty.sz] at hz
      rw [R_fn]
      have h1 := ih a (by omega)
      have h2 := ih b (by omega)
      refine Ev.congr (G := fun f => Md.insideL f (csv sv) (h : Int) false false [toT a, toT b]) (fun f => rfl) ?_
      refine insideL_cons h1 (insideL_cons h2 ?_)
      exact insideL_nil
    | all a =>
      rw [e, R_all] at hz; simp only [Ty.sz] at hz
      rw [R_all]
      have h1 := ih a (by omega)
      refine Ev.congr (G := fun f => Md.insideL f (csv sv) (h : Int) false true [toT a]) (fun f => rfl) ?_
      refine insideL_cons h1 ?_
      exact insideL_nil
    | ho i =>
      rw [R_free (hfree i e)]
      refine Ev.congr (G := fun f => Md.insideL f (csv sv) (h : Int) (i == h) false []) (fun f => ?_) insideL_nil
      show Md.insideL f (csv sv) (h : Int) (decide ((6 : Int) = 6 ∧ (i : Int) = (h : Int))) false [] = _
      congr 1
      by_cases e : i = h
      · subst e; simp
      · rw [decide_eq_false (fun x => e (by omega))]; simp [e]
    | nat => rw [R_nat]; exact Ev.congr (G := fun f => Md.insideL f (csv sv) (h : Int) false false []) (fun f => rfl) insideL_nil
    | fr i => rw [R_fr]; exact Ev.congr (G := fun f => Md.insideL f (csv sv) (h : Int) false false []) (fun f => rfl) insideL_nil
    | var i => rw [R_var]; exact Ev.congr (G := fun f => Md.insideL f (csv sv) (h : Int) false false []) (fun f => rfl) insideL_nil

/-! ### levels -/
theorem nth_dp {l : List Nat} {i : Nat} (h : i < l.length) : nth (l.map fun (n : Nat) => (n : Int)) (i : Int) = some ((l.getD i 0 : Nat) : Int) := by
  unfold nth
  rw [if_pos (by omega), Int.toNat_natCast, List.getElem?_map, List.getElem?_eq_getElem h, List.getD_eq_getElem?_getD, List.getElem?_eq_getElem h]; rfl
theorem set_dp {l : List Nat} {i v : Nat} : setAt (l.map fun (n : Nat) => (n : Int)) (i : Int) (v : Int) = (l.set i v).map fun (n : Nat) => (n : Int) := by
  unfold setAt
  rw [Int.toNat_natCast, List.map_set]
theorem getD_set {l : List Nat} {i j v : Nat} : (l.set i v).getD j 0 = if i = j ∧ i < l.length then v else l.getD j 0 := by
  simp only [List.getD_eq_getElem?_getD, List.getElem?_set]
  by_cases h : i = j
  · subst h
    by_cases h2 : i < l.length
    · simp [h2]
    · simp [h2]
  · simp [h]
structure Fit (S : AS) (h : Nat) (t : Ty) (r : Bool) (dp' : List Nat) : Prop where
  len : dp'.length = S.dp.length
  old : ∀ i, hasH i t = false → dp'.getD i 0 = S.dp.getD i 0
  fresh : r = true → allF (fun x => S.lev x < S.lev h) t
  min : r = true → ∀ i, hasH i t = true → dp'.getD i 0 = Min.min (S.lev i) (S.lev h)
  all : allF (fun x => S.lev x < S.lev h) t → r = true
theorem fits_ev {wt : Bool} {h : Nat} : ∀ (z : Nat) {S : AS} (t : Ty), Ok S.sv → Ty.sz (R S.sv t) ≤ z → plain (R S.sv t) → S.dp.length = S.G.length → h < S.dp.length → hasH h (R S.sv t) = false → (∃ v, S.G[h]? = some (some v)) → allF (fun x => S.G[x]? = some none) (R S.sv t) → allH (fun i => ∃ v, S.G[i]? = some (some v)) (R S.sv t) →
    ∃ r dp', Ev (fun f => Md.fits f (cSol wt S) (h : Int) (toT t)) (r, cSol wt { S with dp := dp' }) ∧ Fit S h (R S.sv t) r dp' := by
  intro z
  induction z with
  | zero => intro S t _ hz; exfalso; revert hz; cases R S.sv t <;> simp [Ty.sz]
  | succ z ih =>
    intro S t hok hz hp hlen hh hno hG hF hH
    have hnow := now_ev hok t
    rw [R_head hok t] at hz hp hno hF hH ⊢
    have hfree : ∀ i, nowA S.sv t = .ho i → i ∉ dom S.sv := fun i e => now_free hok e
    cases e : nowA S.sv t with
    | fn a b =>
      rw [e] at hz hp hno hF hH hnow
      rw [R_fn] at hz hp hno hF hH ⊢; simp only [Ty.sz] at hz
      simp only [hasH, Bool.or_eq_false_iff] at hno
      obtain ⟨r1, dp1, h1, f1⟩ := ih (S := S) a hok (by omega) hp.1 hlen hh hno.1 hG hF.1 hH.1
      cases r1 with
      | false =>
        refine ⟨false, dp1, Ev.succ (fun f => rfl) (Ev.bind hnow ?_), ⟨f1.len, fun i hi => f1.old i (by simp only [hasH, Bool.or_eq_false_iff] at hi; exact hi.1), (fun hr => by cases hr), (fun hr => by cases hr), fun hr => f1.all hr.1⟩⟩
        refine Ev.congr (G := fun f => Md.fitsL f (cSol wt S) (h : Int) [toT a, toT b]) (fun f => rfl) ?_
        exact Ev.succ (fun f => rfl) (Ev.bind h1 Ev.pure)
      | true =>
        have hl1 : ∀ x, S.G[x]? = some none → ({ S with dp := dp1 } : AS).lev x = S.lev x := fun x hx => f1.old x (by
          rw [hasH_false]; exact hH.1.mono fun i ⟨v, hv⟩ e => by subst e; rw [hv] at hx; cases hx)
        have hlh : ({ S with dp := dp1 } : AS).lev h = S.lev h := f1.old h hno.1
        obtain ⟨r2, dp2, h2, f2⟩ := ih (S := { S with dp := dp1 }) b hok (by show Ty.sz (R S.sv b) ≤ z; omega) hp.2 (f1.len.trans hlen) (by show h < dp1.length; rw [f1.len]; exact hh) hno.2 hG hF.2 hH.2
        have hFb : allF (fun x => S.lev x < S.lev h) (R S.sv b) ↔ allF (fun x => ({ S with dp := dp1 } : AS).lev x < ({ S with dp := dp1 } : AS).lev h) (R S.sv b) :=
          ⟨fun g => (hF.2.and g).mono fun x ⟨g1, g2⟩ => by rw [hl1 x g1, hlh]; exact g2, fun g => (hF.2.and g).mono fun x ⟨g1, g2⟩ => by rw [hl1 x g1, hlh] at g2; exact g2⟩
        refine ⟨r2, dp2, Ev.succ (fun f => rfl) (Ev.bind hnow ?_), ⟨f2.len.trans f1.len, fun i hi => ?_, fun hr => ⟨f1.fresh rfl, hFb.2 (f2.fresh hr)⟩, fun hr i hi => ?_, fun hr => f2.all (hFb.1 hr.2)⟩⟩
        · refine Ev.congr (G := fun f => Md.fitsL f (cSol wt S) (h : Int) [toT a, toT b]) (fun f => rfl) ?_
          refine Ev.succ (fun f => rfl) (Ev.bind h1 ?_)
          refine Ev.congr (G := fun f => Md.fitsL f (cSol wt { S with dp := dp1 }) (h : Int) [toT b]) (fun f => rfl) ?_
          refine Ev.succ (fun f => rfl) (Ev.bind h2 ?_)
          cases r2 with
          | true => exact Ev.succ (fun f => rfl) Ev.pure
          | false => exact Ev.pure
        · simp only [hasH, Bool.or_eq_false_iff] at hi
          exact (f2.old i hi.2).trans (f1.old i hi.1)
        · cases hb : hasH i (R S.sv b) with
          | true =>
            rw [f2.min hr i hb, hlh]
            cases ha : hasH i (R S.sv a) with
            | true =>
              have : ({ S with dp := dp1 } : AS).lev i = Min.min (S.lev i) (S.lev h) := f1.min rfl i ha
              rw [this]; omega
            | false =>
              have : ({ S with dp := dp1 } : AS).lev i = S.lev i := f1.old i ha
              rw [this]
          | false =>
            rw [f2.old i hb]
            simp only [hasH, hb, Bool.or_false] at hi
            exact f1.min rfl i hi
    | all a => rw [e, R_all] at hp; exact hp.elim
    | ho i =>
      rw [e] at hno hH hnow
      rw [R_free (hfree i e)] at hno hH ⊢
      obtain ⟨v, hv⟩ : ∃ v, S.G[i]? = some (some v) := hH
      have hi : i < S.dp.length := by rw [hlen]; exact (List.getElem?_eq_some_iff.1 hv).1
      refine ⟨true, S.dp.set i (Min.min (S.lev i) (S.lev h)), Ev.succ (fun f => rfl) (Ev.bind hnow ?_), ⟨List.length_set .., fun j hj => ?_, fun _ => trivial, fun _ j hj => ?_, fun _ => rfl⟩⟩
      · refine Ev.congr (G := fun f => Md.fitsL f (cSol wt { S with dp := S.dp.set i (Min.min (S.lev i) (S.lev h)) }) (h : Int) []) (fun f => ?_) (Ev.succ (fun f => rfl) Ev.pure)
        show (nth (S.dp.map fun (n : Nat) => (n : Int)) (i : Int)).bind (fun x => (nth (S.dp.map fun (n : Nat) => (n : Int)) (h : Int)).bind fun y => Md.fitsL f { cSol wt S with deep := setAt (S.dp.map fun (n : Nat) => (n : Int)) (i : Int) (Min.min x y) } (h : Int) []) = _
        rw [nth_dp hi, Option.bind_some, nth_dp hh, Option.bind_some, show Min.min ((S.dp.getD i 0 : Nat) : Int) ((S.dp.getD h 0 : Nat) : Int) = ((Min.min (S.dp.getD i 0) (S.dp.getD h 0) : Nat) : Int) by omega, set_dp]
        rfl
      · rw [getD_set, if_neg]
        rintro ⟨rfl, _⟩
        simp [hasH] at hj
      · have : i = j := by simpa [hasH] using hj
        subst this
        rw [getD_set, if_pos ⟨rfl, hi⟩]
    | fr i =>
      rw [e] at hF hnow
      rw [R_fr] at hF ⊢
      have hi : i < S.dp.length := by rw [hlen]; exact (List.getElem?_eq_some_iff.1 (show S.G[i]? = some none from hF)).1
      refine ⟨decide (S.lev i < S.lev h), S.dp, Ev.succ (fun f => rfl) (Ev.bind hnow ?_), ⟨rfl, fun _ _ => rfl, fun hr => (show S.lev i < S.lev h from of_decide_eq_true hr), (fun _ j hj => by cases hj), fun hr => decide_eq_true (show S.lev i < S.lev h from hr)⟩⟩
      refine Ev.congr (G := fun _ => some (decide (S.lev i < S.lev h), cSol wt S)) (fun f => ?_) Ev.pure
      show (nth (S.dp.map fun (n : Nat) => (n : Int)) (i : Int)).bind (fun x => (nth (S.dp.map fun (n : Nat) => (n : Int)) (h : Int)).bind fun y => some (decide (x < y), cSol wt S)) = _
      rw [nth_dp hi, Option.bind_some, nth_dp hh, Option.bind_some]
      congr 2
      rw [decide_eq_decide]
      exact Int.ofNat_lt
    | nat =>
      rw [e] at hnow; rw [R_nat]
      exact ⟨true, S.dp, Ev.succ (fun f => rfl) (Ev.bind hnow (Ev.congr (G := fun f => Md.fitsL f (cSol wt S) (h : Int) []) (fun f => rfl) (Ev.succ (fun f => rfl) Ev.pure))), ⟨rfl, fun _ _ => rfl, fun _ => trivial, (fun _ j hj => by cases hj), fun _ => rfl⟩⟩
    | var i =>
      rw [e] at hnow; rw [R_var]
      exact ⟨true, S.dp, Ev.succ (fun f => rfl) (Ev.bind hnow (Ev.congr (G := fun f => Md.fitsL f (cSol wt S) (h : Int) []) (fun f => rfl) (Ev.succ (fun f => rfl) Ev.pure))), ⟨rfl, fun _ _ => rfl, fun _ => trivial, (fun _ j hj => by cases hj), fun _ => rfl⟩⟩

/-! ### new variables -/
theorem newer_fr {wt : Bool} {S : AS} {d : Nat} (h1 : S.dp.length < lim) (h2 : S.way.length < lim) :
    Md.newer (cSol wt S) 5 (d : Int) = some (toT (.fr S.dp.length), cSol wt { S with dp := S.dp ++ [d], G := S.G ++ [none] }) := by
  unfold Md.newer
  rw [if_pos (by simpa [cSol] using ⟨h1, h2⟩)]
  simp [cSol, toT]
theorem newer_ho {wt : Bool} {S : AS} {d : Nat} {v : List Nat} (h1 : S.dp.length < lim) (h2 : S.way.length < lim) :
    Md.newer (cSol wt S) 6 (d : Int) = some (toT (.ho S.dp.length), cSol wt { S with dp := S.dp ++ [d], G := S.G ++ [some v] }) := by
  unfold Md.newer
  rw [if_pos (by simpa [cSol] using ⟨h1, h2⟩)]
  simp [cSol, toT]
/-- a hole made a function -/
def AS.spl (S : AS) (h : Nat) (v : List Nat) : AS :=
  { S with sv := (h, .fn (.ho S.dp.length) (.ho (S.dp.length + 1))) :: S.sv, dp := S.dp ++ [S.lev h] ++ [S.lev h], G := S.G ++ [some v] ++ [some v] }
theorem split_eq {wt : Bool} {S : AS} {h : Nat} {v : List Nat} (hh : h < S.dp.length) (hd : h ∉ dom S.sv) (h1 : S.dp.length + 1 < lim) (h2 : S.way.length < lim) :
    Md.split (cSol wt S) (toT (.ho h)) = some (toT (.fn (.ho S.dp.length) (.ho (S.dp.length + 1))), cSol wt (S.spl h v)) := by
  unfold Md.split
  show (nth (S.dp.map fun (n : Nat) => (n : Int)) (h : Int)).bind _ = _
  rw [nth_dp hh, Option.bind_some, newer_ho (v := v) (by omega) h2, Option.bind_some]
  show (nth ((S.dp ++ [S.dp.getD h 0]).map fun (n : Nat) => (n : Int)) (h : Int)).bind _ = _
  rw [nth_dp (by simp; omega), Option.bind_some]
  have e : (S.dp ++ [S.dp.getD h 0]).getD h 0 = S.dp.getD h 0 := by
    rw [List.getD_eq_getElem?_getD, List.getElem?_append_left hh, ← List.getD_eq_getElem?_getD]
  dsimp only
  rw [e, newer_ho (S := { sv := S.sv, dp := S.dp ++ [S.dp.getD h 0], G := S.G ++ [some v], way := S.way, tk := S.tk }) (v := v) (by simpa using h1) h2, Option.bind_some]
  show (match lkp (csv S.sv) (h : Int) with | some _ => none | none => _) = _
  rw [lkp_free hd]
  simp [AS.spl, cSol, csv, toT, AS.lev]
/-- a plain type is taken: a new hole -/
def AS.tak (S : AS) : AS := { S with dp := S.dp ++ [S.way.length], G := S.G ++ [some S.way], tk := S.tk ++ [(S.dp.length, S.way.length)] }
theorem take_ev {wt : Bool} {S : AS} (h1 : S.dp.length < lim) (h2 : S.way.length < lim) (h3 : S.tk.length < lim) :
    Ev (fun f => Md.take f (cSol wt S) (S.way.length : Int)) ((toT (.ho S.dp.length), true), cSol wt S.tak) := by
  refine Ev.congr (G := fun _ => some ((toT (.ho S.dp.length), true), cSol wt S.tak)) (fun f => ?_) Ev.pure
  unfold Md.take
  cases wt with
  | false =>
    show (Md.newer (cSol false S) 6 (S.way.length : Int)).bind _ = _
    rw [newer_ho (v := S.way) h1 h2]; rfl
  | true =>
    show (Md.newer (cSol true S) 6 (S.way.length : Int)).bind (fun r => if (S.tk.map fun p => ((.mk 6 (p.1 : Int) [] : T), (p.2 : Int))).length < lim then _ else _) = _
    rw [newer_ho (v := S.way) h1 h2, Option.bind_some, if_pos (by simpa using h3)]
    simp [AS.tak, cSol, toT]
end Go.Proofs.Ytjgnhhgigickaaa.Sv
/- How a state changes: a new variable, a hole that is made a type, levels that fall; and what is claimed of 'uses'. Conditions: each theorem's own. -/

namespace Go.Proofs.Ytjgnhhgigickaaa.Sv
open Ty Go Wk Md

theorem Inv.congr {S S' : AS} (h : Inv S) (h1 : S'.sv = S.sv) (h2 : S'.dp = S.dp) (h3 : S'.G = S.G) : Inv S' := by
  cases S; cases S'
  simp only at h1 h2 h3
  subst h1; subst h2; subst h3
  refine ⟨h.ok, h.len, h.frs, h.hos, fun x hx => ?_⟩
  obtain ⟨v, a, b, c⟩ := h.lv x hx
  exact ⟨v, a, b, c.c, c.f, c.h⟩
theorem Ext.congr {S S' : AS} (h1 : S'.sv = S.sv) (h2 : S'.dp = S.dp) (h3 : S'.G = S.G) : Ext S S' := by
  cases S; cases S'
  simp only at h1 h2 h3
  subst h1; subst h2; subst h3
  exact ⟨⟨[], rfl⟩, ⟨[], by simp⟩, fun _ _ => rfl, fun _ _ _ => Nat.le_refl _⟩
theorem Mod.congr {κ : Nat} {S S' : AS} {θ : Nat → Ty} (h : Mod κ S θ) (h1 : S'.sv = S.sv) (h2 : S'.dp = S.dp) (h3 : S'.G = S.G) : Mod κ S' θ := by
  cases S; cases S'
  simp only at h1 h2 h3
  subst h1; subst h2; subst h3
  exact ⟨h.gnd, h.eq⟩
def AS.push (S : AS) (d : Nat) (o : Option (List Nat)) : AS := { S with dp := S.dp ++ [d], G := S.G ++ [o] }
theorem lev_push {S : AS} {d i : Nat} {o : Option (List Nat)} (h : i < S.dp.length) : (S.push d o).lev i = S.lev i := by
  unfold AS.lev AS.push
  simp only [List.getD_eq_getElem?_getD]
  rw [List.getElem?_append_left h]
theorem lev_push' {S : AS} {d : Nat} {o : Option (List Nat)} : (S.push d o).lev S.dp.length = d := by
  unfold AS.lev AS.push
  simp [List.getD_eq_getElem?_getD]
theorem Inv.lt {S : AS} (h : Inv S) {x : Nat} {o : Option (List Nat)} (hx : S.G[x]? = some o) : x < S.dp.length := by
  rw [h.len]; exact (List.getElem?_eq_some_iff.1 hx).1
theorem Ext.push {S : AS} (h : Inv S) (d : Nat) (o : Option (List Nat)) : Ext S (S.push d o) :=
  ⟨⟨[], rfl⟩, ⟨[o], rfl⟩, fun _ hx => lev_push (h.lt hx), fun _ _ hx => Nat.le_of_eq (lev_push (h.lt hx))⟩
theorem Inv.push {S : AS} (h : Inv S) (d : Nat) (o : Option (List Nat)) : Inv (S.push d o) := by
  have he := Ext.push h d o
  refine ⟨h.ok, ?_, fun p hp => (h.frs p hp).mono fun x hx => he.get hx, fun p hp => (h.hos p hp).mono fun x ⟨v, hx⟩ => ⟨v, he.get hx⟩, fun x hx => ?_⟩
  · show (S.dp ++ [d]).length = (S.G ++ [o]).length
    rw [List.length_append, List.length_append, h.len]; rfl
  · obtain ⟨v, a, b, c⟩ := h.lv x hx
    have hl := lev_push (d := d) (o := o) (h.lt a)
    exact ⟨v, he.get a, by rw [hl]; exact b, by rw [hl]; exact c.ext he⟩
theorem get_push {S : AS} (h : Inv S) (d : Nat) (o : Option (List Nat)) : (S.push d o).G[S.dp.length]? = some o := by
  show (S.G ++ [o])[S.dp.length]? = _
  rw [h.len]; simp
/-- levels fall -/
theorem Ext.lower {S : AS} {dp' : List Nat} (hf : ∀ x, S.G[x]? = some none → dp'.getD x 0 = S.lev x) (hh : ∀ x, dp'.getD x 0 ≤ S.lev x) : Ext S { S with dp := dp' } :=
  ⟨⟨[], rfl⟩, ⟨[], by simp⟩, hf, fun x _ _ => hh x⟩
theorem Inv.lower {S : AS} (h : Inv S) {dp' : List Nat} (hl : dp'.length = S.dp.length) (hf : ∀ x, S.G[x]? = some none → dp'.getD x 0 = S.lev x) (hh : ∀ x, dp'.getD x 0 ≤ S.lev x) (hd : ∀ x, x ∈ dom S.sv → dp'.getD x 0 = S.lev x) : Inv { S with dp := dp' } := by
  have he := Ext.lower hf hh
  refine ⟨h.ok, hl.trans h.len, h.frs, h.hos, fun x hx => ?_⟩
  obtain ⟨v, a, b, c⟩ := h.lv x hx
  have e : ({ S with dp := dp' } : AS).lev x = S.lev x := hd x hx
  exact ⟨v, a, by rw [e]; exact b, by rw [e]; exact c.ext he⟩
/-- a hole is made a type -/
def AS.sol (S : AS) (h : Nat) (t : Ty) : AS := { S with sv := (h, t) :: S.sv }
theorem Ext.sol (S : AS) (h : Nat) (t : Ty) : Ext S (S.sol h t) := ⟨⟨[(h, t)], rfl⟩, ⟨[], by simp [AS.sol]⟩, fun _ _ => rfl, fun _ _ _ => Nat.le_refl _⟩
theorem Inv.sol {S : AS} (hI : Inv S) {h : Nat} {t : Ty} {v : List Nat} (hd : h ∉ dom S.sv) (hG : S.G[h]? = some (some v)) (hv : S.lev h ≤ v.length) (hno : allH (· ≠ h) (R S.sv t)) (hp : plain (R S.sv t))
    (hi : IP S (v.take (S.lev h)) t) : Inv (S.sol h t) := by
  have he := Ext.sol S h t
  have hf := hi.frs
  have hh := hi.hos hI
  refine ⟨⟨hI.ok, hd, hno, hp, hi.c⟩, hI.len, fun p hp => ?_, fun p hp => ?_, fun x hx => ?_⟩
  · rcases List.mem_cons.1 hp with rfl | hp
    · exact hf
    · exact hI.frs p hp
  · rcases List.mem_cons.1 hp with rfl | hp
    · exact hh
    · exact hI.hos p hp
  · have hx' : x = h ∨ x ∈ dom S.sv := by simpa [dom, AS.sol] using hx
    rcases hx' with rfl | hx'
    · refine ⟨v, hG, hv, ?_⟩
      show ip (S.sol x t) (v.take (S.lev x)) (one x (R S.sv t) (R S.sv (.ho x)))
      rw [R_free hd]
      have e : one x (R S.sv t) (.ho x) = R S.sv t := by show (if x = x then _ else _) = _; rw [if_pos rfl]
      rw [e]; exact ip.ext he hi
    · obtain ⟨v', a, b, c⟩ := hI.lv x hx'
      refine ⟨v', a, b, ?_⟩
      show ip (S.sol h t) (v'.take (S.lev x)) (one h (R S.sv t) (R S.sv (.ho x)))
      have c' := ip.ext he c
      have hi' := ip.ext he hi
      have key : ∀ i, PH (S.sol h t) (v'.take (S.lev x)) i → ip (S.sol h t) (v'.take (S.lev x)) (if i = h then R S.sv t else .ho i) := by
        intro i hp
        split
        · rename_i e; subst e
          obtain ⟨v2, g1, g2, g3⟩ := hp
          have g1' : S.G[i]? = some (some v2) := g1
          rw [hG] at g1'; cases g1'
          have : (S.sol i t).lev i = S.lev i := rfl
          rw [this] at g3
          rw [g3] at hi'
          exact ip.take hi'
        · exact ⟨trivial, trivial, hp⟩
      exact ⟨lc_inst c'.c (allF.triv fun _ => trivial) (c'.h.mono fun i hp => (key i hp).c), allF_inst (c'.f.mono fun _ x => x) (c'.h.mono fun i hp => (key i hp).f), allH_inst (allF.triv fun _ => trivial) (c'.h.mono fun i hp => (key i hp).h)⟩
theorem spl_eq (S : AS) (h : Nat) (v : List Nat) : S.spl h v = (((S.push (S.lev h) (some v)).push (S.lev h) (some v)).sol h (.fn (.ho S.dp.length) (.ho (S.dp.length + 1)))) := rfl
theorem PH.hole {S : AS} {h : Nat} {v w : List Nat} (hG : S.G[h]? = some (some v)) (hl : S.lev h ≤ w.length) (he : v.take (S.lev h) = w.take (S.lev h)) (hd : h ∉ dom S.sv) : IP S w (.ho h) := by
  unfold IP; rw [R_free hd]; exact ⟨trivial, trivial, v, hG, hl, he⟩
theorem Inv.dom_lt {S : AS} (hI : Inv S) {h : Nat} (hd : h ∈ dom S.sv) : h < S.dp.length := let ⟨_, a, _⟩ := hI.lv h hd; hI.lt a
theorem Inv.spl {S : AS} (hI : Inv S) {h : Nat} {v : List Nat} (hd : h ∉ dom S.sv) (hG : S.G[h]? = some (some v)) (hv : S.lev h ≤ v.length) :
    Inv (S.spl h v) ∧ Ext S (S.spl h v) ∧ (∀ w, PH S w h → IP (S.spl h v) w (.ho S.dp.length) ∧ IP (S.spl h v) w (.ho (S.dp.length + 1))) := by
  have hlt := hI.lt hG
  have i1 := hI.push (S.lev h) (some v)
  have e1 := Ext.push hI (S.lev h) (some v)
  have i2 := i1.push (S.lev h) (some v)
  have e2 := Ext.push i1 (S.lev h) (some v)
  have hlen1 : (S.push (S.lev h) (some v)).dp.length = S.dp.length + 1 := by simp [AS.push]
  have l1 : ((S.push (S.lev h) (some v)).push (S.lev h) (some v)).lev h = S.lev h := by rw [lev_push (by rw [hlen1]; omega), lev_push hlt]
  have l2 : ((S.push (S.lev h) (some v)).push (S.lev h) (some v)).lev S.dp.length = S.lev h := by rw [lev_push (by rw [hlen1]; omega), lev_push']
  have l3 : ((S.push (S.lev h) (some v)).push (S.lev h) (some v)).lev (S.dp.length + 1) = S.lev h := by rw [← hlen1, lev_push']
  have g2 : ((S.push (S.lev h) (some v)).push (S.lev h) (some v)).G[S.dp.length]? = some (some v) := e2.get (get_push hI _ _)
  have g3 : ((S.push (S.lev h) (some v)).push (S.lev h) (some v)).G[S.dp.length + 1]? = some (some v) := by rw [← hlen1]; exact get_push i1 _ _
  have d2 : S.dp.length ∉ dom S.sv := fun hx => Nat.lt_irrefl _ (hI.dom_lt hx)
  have d3 : S.dp.length + 1 ∉ dom S.sv := fun hx => by have := hI.dom_lt hx; omega
  have r2 : R S.sv (.fn (.ho S.dp.length) (.ho (S.dp.length + 1))) = .fn (.ho S.dp.length) (.ho (S.dp.length + 1)) := by rw [R_fn, R_free d2, R_free d3]
  have hE := (e1.trans e2).trans (Ext.sol _ h (.fn (.ho S.dp.length) (.ho (S.dp.length + 1))))
  refine ⟨?_, hE, fun w hp => ?_⟩
  · rw [spl_eq]
    refine Inv.sol (v := v) i2 hd (e2.get (e1.get hG)) (by rw [l1]; exact hv) ?_ ?_ ?_
    · show allH (· ≠ h) (R S.sv _)
      rw [r2]; exact ⟨by show S.dp.length ≠ h; omega, by show S.dp.length + 1 ≠ h; omega⟩
    · show plain (R S.sv _)
      rw [r2]; exact ⟨trivial, trivial⟩
    · show ip _ _ (R S.sv _)
      rw [r2, l1]
      have hk : (v.take (S.lev h)).length = S.lev h := by rw [List.length_take]; omega
      refine ⟨⟨trivial, trivial⟩, ⟨trivial, trivial⟩, ⟨⟨v, g2, by rw [l2, hk]; exact Nat.le_refl _, by rw [l2, List.take_take, Nat.min_self]⟩, ⟨v, g3, by rw [l3, hk]; exact Nat.le_refl _, by rw [l3, List.take_take, Nat.min_self]⟩⟩⟩
  · obtain ⟨v', a, b, c⟩ := hp
    rw [hG] at a; cases a
    have n2 : S.dp.length ∉ dom (S.spl h v).sv := by
      have : S.dp.length ≠ h := by omega
      simpa [dom, AS.spl, this] using d2
    have n3 : S.dp.length + 1 ∉ dom (S.spl h v).sv := by
      have : S.dp.length + 1 ≠ h := by omega
      simpa [dom, AS.spl, this] using d3
    refine ⟨PH.hole (v := v) g2 ?_ ?_ n2, PH.hole (v := v) g3 ?_ ?_ n3⟩
    · rw [show (S.spl h v).lev S.dp.length = S.lev h from l2]; exact b
    · rw [show (S.spl h v).lev S.dp.length = S.lev h from l2]; exact c
    · rw [show (S.spl h v).lev (S.dp.length + 1) = S.lev h from l3]; exact b
    · rw [show (S.spl h v).lev (S.dp.length + 1) = S.lev h from l3]; exact c
/-- one more hole, and what it is -/
theorem Mod.push {κ : Nat} {S : AS} (hI : Inv S) {θ θ' : Nat → Ty} (hm : Mod κ S θ) (d : Nat) (o : Option (List Nat)) (ha : ∀ i, i < S.dp.length → θ' i = θ i) (hn : ∀ v, o = some v → Gnd (κ + d) (θ' S.dp.length)) : Mod κ (S.push d o) θ' := by
  refine ⟨fun h v hv => ?_, fun p hp => ?_⟩
  · by_cases hlt : h < S.dp.length
    · have : S.G[h]? = some (some v) := by
        have h2 : (S.G ++ [o])[h]? = some (some v) := hv
        rwa [List.getElem?_append_left (by rw [← hI.len]; exact hlt)] at h2
      rw [ha h hlt, lev_push hlt]; exact hm.gnd h v this
    · have h2 : (S.G ++ [o])[h]? = some (some v) := hv
      have h3 := (List.getElem?_eq_some_iff.1 h2).1
      rw [List.length_append, ← hI.len] at h3
      have : h = S.dp.length := by simp at h3; omega
      subst this
      have h4 : (S.push d o).G[S.dp.length]? = some (some v) := hv
      rw [get_push hI] at h4
      rw [lev_push']; exact hn v (Option.some.inj h4)
  · have h1 : p.1 ∈ dom S.sv := List.mem_map_of_mem hp
    rw [ha _ (hI.dom_lt h1), hm.eq p hp]
    refine inst_congr ((hI.frs p hp).mono fun x hx => by rw [lev_push (hI.lt hx)]) ((hI.hos p hp).mono fun x ⟨v, hx⟩ => (ha x (hI.lt hx)).symm)
theorem Mod.sol {κ : Nat} {S : AS} {θ : Nat → Ty} (hm : Mod κ S θ) {h : Nat} {t : Ty} (he : θ h = gi κ S θ t) : Mod κ (S.sol h t) θ :=
  ⟨hm.gnd, fun p hp => by
    rcases List.mem_cons.1 hp with rfl | hp
    · exact he
    · exact hm.eq p hp⟩

/-! ### weights -/
def qw : Ty → Nat
  | .fn a b => if nq a + nq b = 0 then 0 else qw a + qw b + 1
  | .all a => qw a + 1
  | _ => 0
theorem plain_nq : ∀ {t : Ty}, nq t = 0 → plain t
  | .fn a b, h => by simp only [nq] at h; exact ⟨plain_nq (by omega), plain_nq (by omega)⟩
  | .all a, h => by simp [nq] at h
  | .var _, _ => trivial
  | .nat, _ => trivial
  | .fr _, _ => trivial
  | .ho _, _ => trivial
theorem nq_qw : ∀ (t : Ty), nq t ≤ qw t
  | .fn a b => by
    have h1 := nq_qw a
    have h2 := nq_qw b
    simp only [nq, qw]; split <;> omega
  | .all a => by have := nq_qw a; simp only [nq, qw]; omega
  | .var _ => Nat.le_refl _
  | .nat => Nat.le_refl _
  | .fr _ => Nat.le_refl _
  | .ho _ => Nat.le_refl _
theorem qw_plain : ∀ {t : Ty}, plain t → qw t = 0
  | .fn a b, h => by simp only [qw]; rw [nq_plain h.1, nq_plain h.2]; rfl
  | .all a, h => h.elim
  | .var _, _ => rfl
  | .nat, _ => rfl
  | .fr _, _ => rfl
  | .ho _, _ => rfl
theorem plain_qw {t : Ty} (h : qw t = 0) : plain t := plain_nq (by have := nq_qw t; omega)
theorem qw_fn (a b : Ty) : (qw (.fn a b) = 0 → qw a = 0 ∧ qw b = 0) ∧ (qw (.fn a b) ≠ 0 → qw a + qw b + 1 ≤ qw (.fn a b)) := by
  constructor
  · intro h
    have := plain_qw h
    exact ⟨qw_plain this.1, qw_plain this.2⟩
  · intro h
    simp only [qw] at h ⊢
    split
    · rename_i h0; rw [if_pos h0] at h; exact absurd rfl h
    · exact Nat.le_refl _
theorem qw_put {u : Ty} (hu : plain u) : ∀ {t : Ty} {n : Nat}, qw (Ty.put u n t) = qw t
  | .fn a b, n => by simp only [Ty.put, qw]; rw [nq_put hu, nq_put hu, qw_put hu, qw_put hu]
  | .all a, n => by simp only [Ty.put, qw]; rw [qw_put hu]
  | .var m, n => by
    unfold Ty.put; split
    · rw [qw_plain hu]; rfl
    · rfl
  | .nat, _ => rfl
  | .fr _, _ => rfl
  | .ho _, _ => rfl
theorem qw_inst {φ θ : Nat → Ty} : ∀ {t : Ty}, allF (fun i => plain (φ i)) t → allH (fun i => plain (θ i)) t → qw (inst φ θ t) = qw t
  | .fn a b, x, z => by simp only [inst, qw]; rw [nq_inst x.1 z.1, nq_inst x.2 z.2, qw_inst x.1 z.1, qw_inst x.2 z.2]
  | .all a, x, z => by simp only [inst, qw]; rw [qw_inst (t := a) x z]
  | .var _, _, _ => rfl
  | .nat, _, _ => rfl
  | .fr _, x, _ => qw_plain x
  | .ho _, _, x => qw_plain x
/-- what is found does not change the weight -/
theorem qw_R {S S' : AS} (hI : Inv S) (hI' : Inv S') (he : Ext S S') (t : Ty) : qw (R S'.sv t) = qw (R S.sv t) := by
  obtain ⟨new, e⟩ := he.sv
  have h1 : R S'.sv (R S.sv t) = R S'.sv t := by rw [e]; exact R_app hI.ok new t
  rw [← h1, R_eq S'.sv (R S.sv t)]
  exact qw_inst (allF.triv fun _ => trivial) (allH.triv fun i => hI'.ok.plain i)
theorem nq_R {S : AS} (hI : Inv S) (t : Ty) : nq (R S.sv t) = nq t := by
  rw [R_eq]; exact nq_inst (allF.triv fun _ => trivial) (allH.triv fun i => hI.ok.plain i)

/-! ### which functions there are -/
def fsI (W : List Ty) : Ty → Prop
  | .fn a b => .fn a b ∈ W ∧ fsI W a ∧ fsI W b
  | _ => True
def tops : Ty → List Ty
  | .fn a b => .fn a b :: (tops a ++ tops b)
  | _ => []
def pot : Ty → Nat
  | .fn a b => (if hasQ (.fn a b) then 1 else 0) + (pot a + pot b)
  | .all a => (tops a).length + pot a
  | _ => 0
theorem fsI.mono {W W' : List Ty} (h : ∀ x, x ∈ W → x ∈ W') : ∀ {t : Ty}, fsI W t → fsI W' t
  | .fn _ _, ⟨x, y, z⟩ => ⟨h _ x, y.mono h, z.mono h⟩
  | .all _, _ => trivial
  | .var _, _ => trivial
  | .nat, _ => trivial
  | .fr _, _ => trivial
  | .ho _, _ => trivial
theorem fsI_tops {W : List Ty} : ∀ {t : Ty}, (∀ x, x ∈ tops t → x ∈ W) → fsI W t
  | .fn a b, h => ⟨h _ (List.mem_cons_self ..), fsI_tops fun x hx => h x (List.mem_cons_of_mem _ (List.mem_append_left _ hx)), fsI_tops fun x hx => h x (List.mem_cons_of_mem _ (List.mem_append_right _ hx))⟩
  | .all _, _ => trivial
  | .var _, _ => trivial
  | .nat, _ => trivial
  | .fr _, _ => trivial
  | .ho _, _ => trivial
theorem hasQ_put {u : Ty} (hu : hasQ u = false) : ∀ {t : Ty} {n : Nat}, hasQ (Ty.put u n t) = hasQ t
  | .fn _ _, _ => by unfold Ty.put hasQ; rw [hasQ_put hu, hasQ_put hu]
  | .all _, _ => rfl
  | .var m, n => by
    unfold Ty.put; split
    · rw [hu]; rfl
    · rfl
  | .nat, _ => rfl
  | .fr _, _ => rfl
  | .ho _, _ => rfl
theorem tops_put {u : Ty} (hu : tops u = []) : ∀ {t : Ty} {n : Nat}, (tops (Ty.put u n t)).length = (tops t).length
  | .fn _ _, _ => by unfold Ty.put tops; rw [List.length_cons, List.length_append, tops_put hu, tops_put hu, List.length_cons, List.length_append]
  | .all _, _ => rfl
  | .var m, n => by
    unfold Ty.put; split
    · rw [hu]; rfl
    · rfl
  | .nat, _ => rfl
  | .fr _, _ => rfl
  | .ho _, _ => rfl
theorem pot_put {u : Ty} (hu : tops u = []) (hq : hasQ u = false) (hp : pot u = 0) : ∀ {t : Ty} {n : Nat}, pot (Ty.put u n t) = pot t
  | .fn a b, n => by
    have h := hasQ_put hq (t := .fn a b) (n := n)
    unfold Ty.put at h
    unfold Ty.put pot
    rw [pot_put hu hq hp, pot_put hu hq hp, h]
  | .all _, _ => by unfold Ty.put pot; rw [pot_put hu hq hp, tops_put hu]
  | .var m, n => by
    unfold Ty.put; split
    · rw [hp]; rfl
    · rfl
  | .nat, _ => rfl
  | .fr _, _ => rfl
  | .ho _, _ => rfl
theorem pot_plain : ∀ {t : Ty}, plain t → pot t = 0
  | .fn _ _, h => by unfold pot; rw [pot_plain h.1, pot_plain h.2, hasQ_false.2 h]; rfl
  | .all _, h => h.elim
  | .var _, _ => rfl
  | .nat, _ => rfl
  | .fr _, _ => rfl
  | .ho _, _ => rfl
theorem plain_uninst {φ θ : Nat → Ty} : ∀ {t : Ty}, plain (inst φ θ t) → plain t
  | .fn _ _, h => ⟨plain_uninst h.1, plain_uninst h.2⟩
  | .all _, h => h.elim
  | .var _, _ => trivial
  | .nat, _ => trivial
  | .fr _, _ => trivial
  | .ho _, _ => trivial
theorem Ok.plain_mem {sv : List (Nat × Ty)} (h : Ok sv) {p : Nat × Ty} (hp : p ∈ sv) : Ty.plain p.2 := by
  have h1 := h.plain p.1
  rw [R_mem h (u := p.2) hp, R_eq] at h1
  exact plain_uninst h1
theorem now_mem {sv : List (Nat × Ty)} (t : Ty) : nowA sv t = t ∨ ∃ p ∈ sv, nowA sv t = p.2 := by
  have h := ch_now sv t
  generalize nowA sv t = u at h
  induction h with
  | refl => exact .inl rfl
  | @step h u t m _ ih =>
    rcases ih with ih | ih
    · exact .inr ⟨_, m, ih⟩
    · exact .inr ih
theorem fsI.now {sv : List (Nat × Ty)} {W : List Ty} {t : Ty} (hs : ∀ p ∈ sv, fsI W p.2) (h : fsI W t) : fsI W (nowA sv t) := by
  rcases now_mem (sv := sv) t with e | ⟨p, hp, e⟩
  · rw [e]; exact h
  · rw [e]; exact hs p hp
theorem pot_now {sv : List (Nat × Ty)} (hok : Ok sv) (t : Ty) : pot (nowA sv t) ≤ pot t := by
  rcases now_mem (sv := sv) t with e | ⟨p, hp, e⟩
  · rw [e]; exact Nat.le_refl _
  · rw [e, pot_plain (hok.plain_mem hp)]; exact Nat.zero_le _
def Siz (S S' : AS) (a b : Ty) (n : Nat) : Prop := ∀ W : List Ty, (∀ p ∈ S.sv, fsI W p.2) → fsI W a → fsI W b → ∃ W' : List Ty, (∀ x, x ∈ W → x ∈ W') ∧ W'.length ≤ W.length + n ∧ ∀ p ∈ S'.sv, fsI W' p.2
theorem Siz.mono {S S' : AS} {a b : Ty} {n n' : Nat} (h : Siz S S' a b n) (hn : n ≤ n') : Siz S S' a b n' := fun W h1 h2 h3 => by
  obtain ⟨W', k1, k2, k3⟩ := h W h1 h2 h3
  exact ⟨W', k1, by omega, k3⟩

/-! ### the claim -/
def Bnd (S : AS) (q : Nat) : Prop := S.dp.length + 2 * q < lim ∧ S.way.length + q < lim ∧ S.tk.length + q < lim
def cover (S : AS) (F : List Nat) : Prop := ∀ h, h < S.dp.length → h ∉ dom S.sv → h ∈ F
structure Post (S : AS) (a b : Ty) (q : Nat) (r : Bool) (S' : AS) : Prop where
  inv : r = true → Inv S'
  ext : r = true → Ext S S'
  way : r = true → S'.way = S.way
  dpl : r = true → S'.dp.length ≤ S.dp.length + 2 * q
  tkl : r = true → S'.tk.length ≤ S.tk.length + q
  zero : r = true → q = 0 → S'.dp.length = S.dp.length ∧ (S'.sv = S.sv ∨ ∀ F, cover S F → ∃ F', F'.length < F.length ∧ cover S' F')
  snd : r = true → ∃ new, S'.tk = S.tk ++ new ∧ ∀ κ θ, Mod κ S' θ → Sub (κ + S.way.length) (gi κ S' θ a) (gi κ S' θ b) (new.map fun p => (θ p.1, κ + p.2))
  cmp : ∀ κ θ, Mod κ S θ → SubE (κ + S.way.length) (gi κ S θ a) (gi κ S θ b) → r = true ∧ ∃ θ', Mod κ S' θ' ∧ ∀ h, h < S.dp.length → θ' h = θ h
  siz : r = true → Siz S S' a b (pot a + pot b)
def Claim (wt : Bool) (q u z : Nat) : Prop := ∀ (S : AS) (a b : Ty) (F : List Nat), Inv S → IP S S.way a → IP S S.way b → qw (R S.sv a) + qw (R S.sv b) = q → cover S F → F.length = u → sz (R S.sv a) + sz (R S.sv b) = z → Bnd S q →
  ∃ r S', Ev (fun f => Md.uses f (cSol wt S) (toT a) (toT b) (S.way.length : Int)) (r, cSol wt S') ∧ Post S a b q r S'
theorem Post.fls {S : AS} {a b : Ty} {q : Nat} {S' : AS} (h : ∀ κ θ, Mod κ S θ → SubE (κ + S.way.length) (gi κ S θ a) (gi κ S θ b) → False) : Post S a b q false S' :=
  have e : ∀ {p : Prop}, false = true → p := fun h => Bool.noConfusion h
  ⟨e, e, e, e, e, e, e, fun κ θ hm hs => (h κ θ hm hs).elim, e⟩
theorem Post.mono {S : AS} {a b : Ty} {q q' : Nat} {r : Bool} {S' : AS} (h : Post S a b q r S') (hq : q ≤ q') : Post S a b q' r S' :=
  ⟨h.inv, h.ext, h.way, fun x => by have := h.dpl x; omega, fun x => by have := h.tkl x; omega, fun x e => h.zero x (by omega), h.snd, h.cmp, h.siz⟩
/-- other types with the same instances -/
theorem Post.same {S : AS} {a b a' b' : Ty} {q : Nat} {r : Bool} {S' : AS} (hI : Inv S) (h : Post S a b q r S') (ha : allF (fun x => S.G[x]? = some none) a) (hb : allF (fun x => S.G[x]? = some none) b) (ha' : allF (fun x => S.G[x]? = some none) a') (hb' : allF (fun x => S.G[x]? = some none) b')
    (ea : ∀ κ θ, Mod κ S θ → gi κ S θ a' = gi κ S θ a) (eb : ∀ κ θ, Mod κ S θ → gi κ S θ b' = gi κ S θ b)
    (hs : r = true → Siz S S' a' b' (pot a' + pot b')) : Post S a' b' q r S' :=
  ⟨h.inv, h.ext, h.way, h.dpl, h.tkl, h.zero, fun hr => by
    obtain ⟨new, h1, h2⟩ := h.snd hr
    refine ⟨new, h1, fun κ θ hm => ?_⟩
    have hm0 := hm.back hI (h.ext hr)
    have he := h.ext hr
    rw [gi_ext he ha', gi_ext he hb', ea κ θ hm0, eb κ θ hm0, ← gi_ext he ha, ← gi_ext he hb]
    exact h2 κ θ hm, fun κ θ hm hs => h.cmp κ θ hm (by rw [ea κ θ hm, eb κ θ hm] at hs; exact hs), hs⟩
theorem Post.now {S : AS} {a b : Ty} {q : Nat} {r : Bool} {S' : AS} (hI : Inv S) (ha : IP S S.way a) (hb : IP S S.way b) (h : Post S (nowA S.sv a) (nowA S.sv b) q r S') : Post S a b q r S' :=
  h.same hI (ha.now hI).frs (hb.now hI).frs ha.frs hb.frs (fun κ θ hm => (hm.now hI a).symm) (fun κ θ hm => (hm.now hI b).symm)
    fun hr W h1 h2 h3 => ((h.siz hr).mono (Nat.add_le_add (pot_now hI.ok a) (pot_now hI.ok b))) W h1 (h2.now h1) (h3.now h1)

/-- functions: from what they lead first, then to what -/
theorem step_fn {wt : Bool} {q u z : Nat} (ihq : ∀ q', q' < q → ∀ u z, Claim wt q' u z) (ihz : q = 0 → ∀ u' z', (u' < u ∨ u' = u ∧ z' < z) → Claim wt 0 u' z')
    {S : AS} {a0 a1 b0 b1 : Ty} {F : List Nat} (hI : Inv S) (ha : IP S S.way (.fn a0 a1)) (hb : IP S S.way (.fn b0 b1)) (hq : (q = 0 ∧ qw (R S.sv b0) + qw (R S.sv a0) = 0 ∧ qw (R S.sv a1) + qw (R S.sv b1) = 0) ∨ (qw (R S.sv b0) + qw (R S.sv a0)) + (qw (R S.sv a1) + qw (R S.sv b1)) + 1 ≤ q)
    (hF : cover S F) (hu : q = 0 → F.length = u) (hz : q = 0 → sz (R S.sv (.fn a0 a1)) + sz (R S.sv (.fn b0 b1)) = z) (hB : Bnd S (q - 1)) :
    ∃ r S', Ev (fun f => (Md.uses f (cSol wt S) (toT b0) (toT a0) (S.way.length : Int)).bind fun r => if r.1 then Md.uses f r.2 (toT a1) (toT b1) (S.way.length : Int) else some (false, r.2)) (r, cSol wt S') ∧ Post S (.fn a0 a1) (.fn b0 b1) (q - 1) r S' ∧ (r = true → Siz S S' (.fn a0 a1) (.fn b0 b1) ((pot b0 + pot a0) + (pot a1 + pot b1))) := by
  generalize hq0 : qw (R S.sv b0) + qw (R S.sv a0) = q0 at hq
  generalize hq1 : qw (R S.sv a1) + qw (R S.sv b1) = q1 at hq
  have hz' : q = 0 → sz (R S.sv a0) + sz (R S.sv a1) + 1 + (sz (R S.sv b0) + sz (R S.sv b1) + 1) = z := fun e => by have := hz e; rw [R_fn, R_fn] at this; exact this
  have hBd : Bnd S (q0 + q1) := by obtain ⟨x, y, w⟩ := hB; exact ⟨by omega, by omega, by omega⟩
  have hfirst : ∃ r S', Ev (fun f => Md.uses f (cSol wt S) (toT b0) (toT a0) (S.way.length : Int)) (r, cSol wt S') ∧ Post S b0 a0 q0 r S' := by
    have hB0 : Bnd S q0 := by obtain ⟨x, y, w⟩ := hBd; exact ⟨by omega, by omega, by omega⟩
    rcases Nat.eq_zero_or_pos q with e | e
    · have h0 : q0 = 0 := by omega
      subst h0
      exact ihz e u _ (.inr ⟨rfl, by have := hz' e; omega⟩) S b0 a0 F hI hb.fn1 ha.fn1 hq0 hF (hu e) rfl hB0
    · exact ihq q0 (by omega) _ _ S b0 a0 F hI hb.fn1 ha.fn1 hq0 hF rfl rfl hB0
  obtain ⟨r1, S1, he1, p1⟩ := hfirst
  cases r1 with
  | false =>
    refine ⟨false, S1, Ev.bind he1 Ev.pure, Post.fls fun κ θ hm hs => ?_, fun e => by cases e⟩
    obtain ⟨l, hs⟩ := hs
    obtain ⟨_, _, _, _, e, _, h1, _⟩ := hs.inv_fn rfl
    cases e
    have := (p1.cmp κ θ hm ⟨_, h1⟩).1
    cases this
  | true =>
    have hI1 := p1.inv rfl
    have hx1 := p1.ext rfl
    have hw1 := p1.way rfl
    have hB1 : Bnd S1 q1 := by
      have d1 := p1.dpl rfl
      have d2 := p1.tkl rfl
      obtain ⟨x, y, w⟩ := hBd
      exact ⟨by omega, by rw [hw1]; omega, by omega⟩
    have hqq : qw (R S1.sv a1) + qw (R S1.sv b1) = q1 := by rw [qw_R hI hI1 hx1, qw_R hI hI1 hx1]; exact hq1
    have ha1 : IP S1 S1.way a1 := by rw [hw1]; exact ha.fn2.ext hI hI1 hx1
    have hb1 : IP S1 S1.way b1 := by rw [hw1]; exact hb.fn2.ext hI hI1 hx1
    have hsecond : ∃ r S', Ev (fun f => Md.uses f (cSol wt S1) (toT a1) (toT b1) (S1.way.length : Int)) (r, cSol wt S') ∧ Post S1 a1 b1 q1 r S' := by
      rcases Nat.eq_zero_or_pos q with e | e
      · have h0 : q1 = 0 := by omega
        subst h0
        obtain ⟨hl, hs⟩ := p1.zero rfl (by omega)
        rcases hs with hs | hs
        · have hF1 : cover S1 F := fun h x y => hF h (by omega) (by rw [hs] at y; exact y)
          exact ihz e u _ (.inr ⟨rfl, by rw [hs]; have := hz' e; omega⟩) S1 a1 b1 F hI1 ha1 hb1 hqq hF1 (hu e) rfl hB1
        · obtain ⟨F', hlt, hF'⟩ := hs F hF
          exact ihz e F'.length _ (.inl (by have := hu e; omega)) S1 a1 b1 F' hI1 ha1 hb1 hqq hF' rfl rfl hB1
      · exact ihq q1 (by omega) _ _ S1 a1 b1 (List.range S1.dp.length) hI1 ha1 hb1 hqq (fun h x _ => List.mem_range.2 x) rfl rfl hB1
    obtain ⟨r2, S2, he2, p2⟩ := hsecond
    rw [hw1] at he2
    have hE : Ev (fun f => (Md.uses f (cSol wt S) (toT b0) (toT a0) (S.way.length : Int)).bind fun r => if r.1 then Md.uses f r.2 (toT a1) (toT b1) (S.way.length : Int) else some (false, r.2)) (r2, cSol wt S2) := Ev.bind he1 he2
    have hsz : r2 = true → Siz S S2 (.fn a0 a1) (.fn b0 b1) ((pot b0 + pot a0) + (pot a1 + pot b1)) := fun hr W h1 h2 h3 => by
      obtain ⟨W1, k1, k2, k3⟩ := p1.siz rfl W h1 h3.2.1 h2.2.1
      obtain ⟨W2, l1, l2, l3⟩ := p2.siz hr W1 k3 (h2.2.2.mono k1) (h3.2.2.mono k1)
      exact ⟨W2, fun x hx => l1 x (k1 x hx), by omega, l3⟩
    refine ⟨r2, S2, hE, ?_, hsz⟩
    have key : ∀ κ θ, Mod κ S θ → SubE (κ + S.way.length) (gi κ S θ (.fn a0 a1)) (gi κ S θ (.fn b0 b1)) → r2 = true ∧ ∃ θ', Mod κ S2 θ' ∧ ∀ h, h < S.dp.length → θ' h = θ h := by
      intro κ θ hm hs
      obtain ⟨l, hs⟩ := hs
      obtain ⟨_, _, _, _, e, _, h1, h2⟩ := hs.inv_fn rfl
      cases e
      obtain ⟨_, θ1, hm1, hag⟩ := p1.cmp κ θ hm ⟨_, h1⟩
      have h2' : SubE (κ + S1.way.length) (gi κ S1 θ1 a1) (gi κ S1 θ1 b1) := by
        rw [hw1, ha.fn2.agree hI hx1 hm hm1 hag, hb.fn2.agree hI hx1 hm hm1 hag]; exact ⟨_, h2⟩
      obtain ⟨hr, θ2, hm2, hag2⟩ := p2.cmp κ θ1 hm1 h2'
      refine ⟨hr, θ2, hm2, fun h hh => ?_⟩
      have : h < S1.dp.length := by
        obtain ⟨m, hm'⟩ := hx1.g
        rw [hI1.len, hm', List.length_append, ← hI.len]; omega
      rw [hag2 h this, hag h hh]
    cases r2 with
    | false => exact Post.fls fun κ θ hm hs => by have := (key κ θ hm hs).1; cases this
    | true =>
      have hI2 := p2.inv rfl
      have hx2 := p2.ext rfl
      refine ⟨fun _ => hI2, fun _ => hx1.trans hx2, fun _ => (p2.way rfl).trans hw1, fun _ => ?_, fun _ => ?_, fun _ e => ?_, fun _ => ?_, key, fun _ => (hsz rfl).mono (by simp only [pot]; omega)⟩
      · have := p1.dpl rfl
        have := p2.dpl rfl
        omega
      · have := p1.tkl rfl
        have := p2.tkl rfl
        omega
      · have e0 : q0 = 0 := by omega
        have e1 : q1 = 0 := by omega
        obtain ⟨l1, s1⟩ := p1.zero rfl e0
        obtain ⟨l2, s2⟩ := p2.zero rfl e1
        refine ⟨l2.trans l1, ?_⟩
        rcases s1 with s1 | s1
        · rcases s2 with s2 | s2
          · exact .inl (s2.trans s1)
          · exact .inr fun F hF => s2 F fun h x y => hF h (by omega) (by rw [s1] at y; exact y)
        · refine .inr fun F hF => ?_
          obtain ⟨F1, k1, hF1⟩ := s1 F hF
          rcases s2 with s2 | s2
          · exact ⟨F1, k1, fun h x y => hF1 h (by omega) (by rw [s2] at y; exact y)⟩
          · obtain ⟨F2, k2, hF2⟩ := s2 F1 hF1
            exact ⟨F2, by omega, hF2⟩
      · obtain ⟨n1, t1, s1⟩ := p1.snd rfl
        obtain ⟨n2, t2, s2⟩ := p2.snd rfl
        refine ⟨n1 ++ n2, by rw [t2, t1, List.append_assoc], fun κ θ hm => ?_⟩
        have hm1 := hm.back hI1 hx2
        have g1 := s1 κ θ hm1
        have g2 := s2 κ θ hm
        rw [hw1] at g2
        rw [List.map_append]
        have fa := (ha.fn1.ext hI hI1 hx1).frs
        have fb := (hb.fn1.ext hI hI1 hx1).frs
        rw [← gi_ext hx2 fa, ← gi_ext hx2 fb] at g1
        exact Sub.fn g1 g2
end Go.Proofs.Ytjgnhhgigickaaa.Sv
/- 'uses' ends, and says just whether the one type can be used as the other one; with the witness that it took. Conditions: each theorem's own. -/

namespace Go.Proofs.Ytjgnhhgigickaaa.Sv
open Ty Go Wk Md

/-! ### a plain type is as large as what it is used as -/
def lo : Ty → Nat
  | .fn a b => lo a + lo b + 1
  | .all a => lo a
  | _ => 1
theorem lo_pos : ∀ (t : Ty), 1 ≤ lo t
  | .fn a b => by simp only [lo]; omega
  | .all a => by simp only [lo]; exact lo_pos a
  | .var _ => Nat.le_refl _
  | .nat => Nat.le_refl _
  | .fr _ => Nat.le_refl _
  | .ho _ => Nat.le_refl _
theorem lo_put {u : Ty} : ∀ {t : Ty} {n : Nat}, lo t ≤ lo (Ty.put u n t)
  | .fn a b, n => by
    have h1 := lo_put (u := u) (t := a) (n := n)
    have h2 := lo_put (u := u) (t := b) (n := n)
    simp only [Ty.put, lo]; omega
  | .all a, n => by simp only [Ty.put, lo]; exact lo_put (t := a)
  | .var m, n => by unfold Ty.put; split; exact lo_pos u; exact Nat.le_refl _
  | .nat, _ => Nat.le_refl _
  | .fr _, _ => Nat.le_refl _
  | .ho _, _ => Nat.le_refl _
theorem Sub.lo {n : Nat} {a b : Ty} {l : List (Ty × Nat)} (h : Sub n a b l) : (plain a → Sv.lo b ≤ Sv.lo a) ∧ (plain b → Sv.lo a ≤ Sv.lo b) := by
  induction h with
  | nat => exact ⟨fun _ => Nat.le_refl _, fun _ => Nat.le_refl _⟩
  | fr => exact ⟨fun _ => Nat.le_refl _, fun _ => Nat.le_refl _⟩
  | fn _ _ ih1 ih2 =>
    refine ⟨fun h => ?_, fun h => ?_⟩
    · have := ih1.2 h.1
      have := ih2.1 h.2
      simp only [Sv.lo]; omega
    · have := ih1.1 h.1
      have := ih2.2 h.2
      simp only [Sv.lo]; omega
  | @gen n a b l _ ih =>
    refine ⟨fun h => ?_, fun h => h.elim⟩
    have := ih.1 h
    have := lo_put (u := .fr n) (t := b) (n := 0)
    simp only [Sv.lo]; omega
  | @ins n a b τ l _ _ _ ih =>
    refine ⟨fun h => h.elim, fun h => ?_⟩
    have := ih.2 h
    have := lo_put (u := τ) (t := a) (n := 0)
    simp only [Sv.lo]; omega
theorem lo_occ {φ θ : Nat → Ty} {h : Nat} : ∀ {t : Ty}, hasH h t = true → lo (θ h) ≤ lo (inst φ θ t)
  | .fn a b, e => by
    simp only [hasH, Bool.or_eq_true] at e
    simp only [inst, lo]
    rcases e with e | e
    · have := lo_occ (φ := φ) (θ := θ) e; omega
    · have := lo_occ (φ := φ) (θ := θ) e; omega
  | .all a, e => by simp only [inst, lo]; exact lo_occ (t := a) e
  | .ho i, e => by
    have : i = h := by simpa [hasH] using e
    subst this; exact Nat.le_refl _
  | .var _, e => by cases e
  | .nat, e => by cases e
  | .fr _, e => by cases e
theorem lo_occ' {φ θ : Nat → Ty} {h : Nat} {a b : Ty} (e : hasH h (.fn a b) = true) : lo (θ h) < lo (inst φ θ (.fn a b)) := by
  simp only [hasH, Bool.or_eq_true] at e
  simp only [inst, lo]
  rcases e with e | e
  · have := lo_occ (φ := φ) (θ := θ) e; omega
  · have := lo_occ (φ := φ) (θ := θ) e; omega
theorem allF_uninst {P : Nat → Prop} {φ θ : Nat → Ty} : ∀ {t : Ty}, allF P (inst φ θ t) → allF (fun i => allF P (φ i)) t ∧ allH (fun i => allF P (θ i)) t
  | .fn a b, h => ⟨⟨(allF_uninst h.1).1, (allF_uninst h.2).1⟩, ⟨(allF_uninst h.1).2, (allF_uninst h.2).2⟩⟩
  | .all a, h => allF_uninst (t := a) h
  | .fr _, h => ⟨h, trivial⟩
  | .ho _, h => ⟨trivial, h⟩
  | .var _, _ => ⟨trivial, trivial⟩
  | .nat, _ => ⟨trivial, trivial⟩
theorem allH_self' {P : Nat → Prop} : ∀ {t : Ty}, (∀ i, hasH i t = true → P i) → allH P t
  | .fn a b, h => ⟨allH_self' fun i e => h i (by simp [hasH, e]), allH_self' fun i e => h i (by simp [hasH, e])⟩
  | .all a, h => allH_self' (t := a) h
  | .ho i, h => h i (by simp [hasH])
  | .var _, _ => trivial
  | .nat, _ => trivial
  | .fr _, _ => trivial
theorem allH_get {P : Nat → Prop} : ∀ {t : Ty}, allH P t → ∀ i, hasH i t = true → P i
  | .fn a b, h, i, e => by
    simp only [hasH, Bool.or_eq_true] at e
    rcases e with e | e
    · exact allH_get h.1 i e
    · exact allH_get h.2 i e
  | .all a, h, i, e => allH_get (t := a) h i e
  | .ho j, h, i, e => by
    have : j = i := by simpa [hasH] using e
    subst this; exact h
  | .var _, _, _, e => by cases e
  | .nat, _, _, e => by cases e
  | .fr _, _, _, e => by cases e

/-- nothing changes -/
theorem Post.tru {S : AS} {a b : Ty} {q : Nat} (hI : Inv S) (h : ∀ κ θ, Mod κ S θ → Sub (κ + S.way.length) (gi κ S θ a) (gi κ S θ b) []) : Post S a b q true S :=
  ⟨fun _ => hI, fun _ => Ext.refl S, fun _ => rfl, fun _ => by omega, fun _ => by omega, fun _ _ => ⟨rfl, .inl rfl⟩, fun _ => ⟨[], by simp, fun κ θ hm => h κ θ hm⟩, fun κ θ hm _ => ⟨rfl, θ, hm, fun _ _ => rfl⟩, fun _ W h _ _ => ⟨W, fun _ x => x, by omega, h⟩⟩
/-- the pair in its order -/
@[reducible] def fstp (c : Bool) (x y : Ty) : Ty := if c then x else y

/-- a hole becomes a plain type -/
theorem solve_ev {wt c : Bool} {q : Nat} {S : AS} {h : Nat} {t : Ty} (hI : Inv S) (hh : IP S S.way (.ho h)) (ht : IP S S.way t) (hd : h ∉ dom S.sv) (hno : hasH h (R S.sv t) = false) (hp : plain (R S.sv t)) :
    ∃ r S', Ev (fun f => Md.fits f (cSol wt (S.sol h t)) (h : Int) (toT t)) (r, cSol wt S') ∧ Post S (fstp c (.ho h) t) (fstp c t (.ho h)) q r S' := by
  have hh' := hh.h
  rw [R_free hd] at hh'
  obtain ⟨v, hG, hl, htk⟩ : PH S S.way h := hh'
  have hlt := hI.lt hG
  have hno' := hasH_false.1 hno
  have hok' : Ok (S.sol h t).sv := ⟨hI.ok, hd, hno', hp, ht.c⟩
  have hR : R (S.sol h t).sv t = R S.sv t := one_id hno'
  have hFr : allF (fun x => S.G[x]? = some none) (R S.sv t) := ht.f.mono fun _ x => x.1
  have hHo : allH (fun x => ∃ v, S.G[x]? = some (some v)) (R S.sv t) := ht.h.mono fun _ ⟨v, x, _⟩ => ⟨v, x⟩
  obtain ⟨r, dp', hev, hfit⟩ := fits_ev (wt := wt) (h := h) _ (S := S.sol h t) t hok' (Nat.le_refl _) (by rw [hR]; exact hp) hI.len hlt (by rw [hR]; exact hno) ⟨v, hG⟩ (by rw [hR]; exact hFr) (by rw [hR]; exact hHo)
  rw [hR] at hfit
  have hlv : ∀ x, (S.sol h t).lev x = S.lev x := fun _ => rfl
  have hnf : ∀ x, S.G[x]? = some none → hasH x (R S.sv t) = false := fun x hx => by
    rw [hasH_false]; exact hHo.mono fun i ⟨v, hv⟩ e => by subst e; rw [hv] at hx; cases hx
  have hnd : ∀ x, x ∈ dom S.sv → hasH x (R S.sv t) = false := fun x hx => by
    rw [hasH_false]; exact (hI.ok.free t).mono fun i hi e => by subst e; exact hi hx
  have hf : ∀ x, S.G[x]? = some none → dp'.getD x 0 = S.lev x := fun x hx => hfit.old x (hnf x hx)
  have hdm : ∀ x, x ∈ dom S.sv → dp'.getD x 0 = S.lev x := fun x hx => hfit.old x (hnd x hx)
  have hle : r = true → ∀ x, dp'.getD x 0 ≤ S.lev x := fun hr x => by
    cases e : hasH x (R S.sv t) with
    | true => rw [hfit.min hr x e, hlv]; exact Nat.min_le_left _ _
    | false => exact Nat.le_of_eq (hfit.old x e)
  have hlh : dp'.getD h 0 = S.lev h := hfit.old h hno
  have hlv2 : S.lev h ≤ v.length := by
    have := congrArg List.length htk
    rw [List.length_take, List.length_take] at this; omega
  have hInv0 : r = true → Inv { S with dp := dp' } := fun hr => hI.lower hfit.len hf (hle hr) hdm
  have hExt0 : r = true → Ext S { S with dp := dp' } := fun hr => Ext.lower hf (hle hr)
  refine ⟨r, ({ S with dp := dp' } : AS).sol h t, hev, ?_⟩
  have hExt : r = true → Ext S (({ S with dp := dp' } : AS).sol h t) := fun hr => (hExt0 hr).trans (Ext.sol _ _ _)
  refine ⟨fun hr => ?_, hExt, fun _ => rfl, fun _ => ?_, fun _ => ?_, fun hr _ => ⟨hfit.len, .inr fun F hF => ?_⟩, fun hr => ⟨[], by simp [AS.sol], fun κ θ hm => ?_⟩, fun κ θ hm hs => ?_, fun _ W h1 h2 h3 => ⟨W, fun _ x => x, by omega, fun p hp => by
    rcases List.mem_cons.1 hp with rfl | hp
    · cases c
      · exact h2
      · exact h3
    · exact h1 p hp⟩⟩
  · have hl0 : ({ S with dp := dp' } : AS).lev h = S.lev h := hlh
    refine Inv.sol (v := v) (hInv0 hr) hd hG (by rw [hl0]; exact hlv2) hno' hp ?_
    rw [hl0]
    have hfr := hfit.fresh hr
    have k1 : ∀ x, (PF S S.way x ∧ (S.sol h t).lev x < (S.sol h t).lev h) → PF { S with dp := dp' } (v.take (S.lev h)) x := by
      rintro x ⟨⟨g1, g2⟩, g3⟩
      refine ⟨g1, ?_⟩
      have e : ({ S with dp := dp' } : AS).lev x = S.lev x := hf x g1
      rw [e, htk, List.getElem?_take, if_pos (by rw [hlv, hlv] at g3; exact g3)]; exact g2
    have k2 : ∀ i, hasH i (R S.sv t) = true → PH { S with dp := dp' } (v.take (S.lev h)) i := by
      intro i hi
      obtain ⟨v', g1, g2, g3⟩ := allH_get ht.h i hi
      have e : ({ S with dp := dp' } : AS).lev i = Min.min (S.lev i) (S.lev h) := hfit.min hr i hi
      have hk : (v.take (S.lev h)).length = S.lev h := by rw [List.length_take]; omega
      refine ⟨v', g1, by rw [e, hk]; exact Nat.min_le_right _ _, ?_⟩
      rw [e, htk, List.take_take, show Min.min (Min.min (S.lev i) (S.lev h)) (S.lev h) = Min.min (S.lev i) (S.lev h) by omega]
      have : ∀ l : List Nat, l.take (Min.min (S.lev i) (S.lev h)) = (l.take (S.lev i)).take (S.lev h) := fun l => by rw [List.take_take, Nat.min_comm]
      rw [this v', this S.way, g3]
    exact ⟨ht.c, (ht.f.and hfr).mono k1, allH_self' k2⟩
  · show dp'.length ≤ _
    rw [hfit.len]; exact Nat.le_add_right _ _
  · exact Nat.le_add_right _ _
  · have hm : h ∈ F := hF h hlt hd
    refine ⟨F.erase h, ?_, fun x hx hxd => ?_⟩
    · rw [List.length_erase_of_mem hm]
      have : 0 < F.length := List.length_pos_of_mem hm
      omega
    · have hx' : x ≠ h ∧ x ∉ dom S.sv := by simpa [dom, AS.sol] using hxd
      have hx2 : x < dp'.length := hx
      rw [hfit.len] at hx2
      exact (List.mem_erase_of_ne hx'.1).2 (hF x hx2 hx'.2)
  · have he : θ h = gi κ (({ S with dp := dp' } : AS).sol h t) θ t := hm.eq (h, t) (List.mem_cons_self ..)
    have hg := hm.gnd h v hG
    have hsub : Sub (κ + S.way.length) (θ h) (θ h) [] := Sub.plain_refl hg.p hg.c hg.h
    have e2 : gi κ (({ S with dp := dp' } : AS).sol h t) θ (.ho h) = θ h := rfl
    cases c
    · show Sub _ (gi κ _ θ t) (gi κ _ θ (.ho h)) []
      rw [← he, e2]; exact hsub
    · show Sub _ (gi κ _ θ (.ho h)) (gi κ _ θ t) []
      rw [← he, e2]; exact hsub
  · have hg := hm.gnd h v hG
    have hpl : plain (gi κ S θ t) := by
      rw [← hm.R]
      exact plain_inst hp (allF.triv fun _ => trivial) (hHo.mono fun i ⟨v, hv⟩ => (hm.gnd i v hv).p)
    have heq : θ h = gi κ S θ t := by
      obtain ⟨l, hs⟩ := hs
      cases c
      · exact (hs.plain_eq hpl hg.p).1.symm
      · exact (hs.plain_eq hg.p hpl).1
    have hun : allF (fun x => κ + S.lev x < κ + S.lev h) (R S.sv t) ∧ allH (fun i => allF (· < κ + S.lev h) (θ i)) (R S.sv t) := by
      have := hg.l
      rw [heq, ← hm.R] at this
      exact allF_uninst this
    have hr : r = true := hfit.all (hun.1.mono fun x hx => by rw [hlv, hlv]; omega)
    refine ⟨hr, θ, Mod.sol ⟨fun i w hw => ?_, fun p hp' => ?_⟩ ?_, fun _ _ => rfl⟩
    · have hgi := hm.gnd i w hw
      cases e : hasH i (R S.sv t) with
      | true =>
        have e2 : ({ S with dp := dp' } : AS).lev i = Min.min (S.lev i) (S.lev h) := hfit.min hr i e
        rw [e2]
        exact ⟨hgi.p, hgi.c, (hgi.l.and (allH_get hun.2 i e)).mono fun x ⟨k1, k2⟩ => by omega, hgi.h⟩
      | false =>
        have e2 : ({ S with dp := dp' } : AS).lev i = S.lev i := hfit.old i e
        rw [e2]; exact hgi
    · rw [gi_ext (hExt0 hr) (hI.frs p hp')]; exact hm.eq p hp'
    · rw [gi_ext (hExt0 hr) ht.frs]; exact heq
end Go.Proofs.Ytjgnhhgigickaaa.Sv
/- 'uses': a hole and a type; functions; quantifiers. It ends, is sound with its witness, and complete. Conditions: each theorem's own. -/

namespace Go.Proofs.Ytjgnhhgigickaaa.Sv
open Ty Go Wk Md

theorem usesT_fn {wt : Bool} {S : AS} {a0 a1 b0 b1 : Ty} {d : Int} {x : Bool × Sol} (hok : Ok S.sv)
    (h : Ev (fun f => (Md.uses f (cSol wt S) (toT b0) (toT a0) d).bind fun r => if r.1 then Md.uses f r.2 (toT a1) (toT b1) d else some (false, r.2)) x) :
    Ev (fun f => Md.usesT f (cSol wt S) (toT (.fn a0 a1)) (toT (.fn b0 b1)) d) x := by
  have hb : nowA S.sv (.fn b0 b1) = .fn b0 b1 := now_now fun i e => by cases e
  have hn := now_ev hok (.fn b0 b1)
  rw [hb] at hn
  refine Ev.succ (fun f => rfl) ?_
  refine Ev.congr (G := fun f => (Md.now f (csv S.sv) (toT (.fn b0 b1))).bind fun b => if (3 : Int) = 6 then _ else _) (fun f => rfl) ?_
  refine Ev.bind hn ?_
  exact Ev.congr (fun f => rfl) h
theorem uses_fn {wt : Bool} {S : AS} {a0 a1 b0 b1 : Ty} {d : Int} {x : Bool × Sol} (hok : Ok S.sv)
    (h : Ev (fun f => (Md.uses f (cSol wt S) (toT b0) (toT a0) d).bind fun r => if r.1 then Md.uses f r.2 (toT a1) (toT b1) d else some (false, r.2)) x) :
    Ev (fun f => Md.uses f (cSol wt S) (toT (.fn a0 a1)) (toT (.fn b0 b1)) d) x := by
  have hb : nowA S.sv (.fn b0 b1) = .fn b0 b1 := now_now fun i e => by cases e
  have ha : nowA S.sv (.fn a0 a1) = .fn a0 a1 := now_now fun i e => by cases e
  have hn := now_ev hok (.fn b0 b1)
  have hn' := now_ev hok (.fn a0 a1)
  rw [hb] at hn; rw [ha] at hn'
  refine Ev.succ (fun f => rfl) ?_
  refine Ev.bind hn ?_
  refine Ev.congr (G := fun f => (Md.now f (csv S.sv) (toT (.fn a0 a1))).bind fun a => Md.usesT f (cSol wt S) a (toT (.fn b0 b1)) d) (fun f => rfl) ?_
  exact Ev.bind hn' (usesT_fn hok h)
theorem R_plain {sv : List (Nat × Ty)} (hok : Ok sv) {t : Ty} (h : plain t) : plain (R sv t) := by
  rw [R_eq]; exact plain_inst h (allF.triv fun _ => trivial) (allH.triv fun i => hok.plain i)
theorem filled_eq {f : Nat} {s : Sol} {h t : T} {c : Bool} {d : Int} : Md.filled (f + 1) s h t c d = (if t.kind = 6 ∧ t.num = h.num then some (true, s)
    else (inside f s.solved h.num t).bind fun io =>
      if io.1 then some (false, s)
      else if io.2 = false then
        match lkp s.solved h.num with
        | some _ => none
        | none => fits f { s with solved := s.solved ++ [(h.num, t)] } h.num t
      else if c then (split s h).bind fun r => uses f r.2 r.1 t d
      else (split s h).bind fun r => uses f r.2 t r.1 d) := rfl

/-- the hole's part of 'uses' -/
theorem filled_ev {wt c : Bool} {q : Nat} (ihq : ∀ q', q' < q → ∀ u z, Claim wt q' u z)
    {S : AS} {h : Nat} {t : Ty} (hI : Inv S) (hh : IP S S.way (.ho h)) (ht : IP S S.way t) (hd : h ∉ dom S.sv) (hn : nowA S.sv t = t) (hall : isAll t = false) (hq : qw (R S.sv t) ≤ q) (hB : Bnd S q) :
    ∃ r S', Ev (fun f => Md.filled f (cSol wt S) (toT (.ho h)) (toT t) c (S.way.length : Int)) (r, cSol wt S') ∧ Post S (fstp c (.ho h) t) (fstp c t (.ho h)) q r S' := by
  have hh' := hh.h
  rw [R_free hd] at hh'
  obtain ⟨v, hG, hl, htk⟩ : PH S S.way h := hh'
  have hlt := hI.lt hG
  by_cases e0 : t = .ho h
  · subst e0
    refine ⟨true, S, Ev.succ (fun f => filled_eq) (Ev.congr (G := fun _ => some (true, cSol wt S)) (fun f => if_pos ⟨rfl, rfl⟩) Ev.pure), ?_⟩
    have hs : ∀ κ θ, Mod κ S θ → Sub (κ + S.way.length) (gi κ S θ (.ho h)) (gi κ S θ (.ho h)) [] := fun κ θ hm => by
      have hg := hm.gnd h v hG
      exact Sub.plain_refl (a := θ h) hg.p hg.c hg.h
    cases c
    · exact Post.tru hI hs
    · exact Post.tru hI hs
  have hne : ¬ ((toT t).kind = 6 ∧ (toT t).num = (h : Int)) := by
    rintro ⟨k1, k2⟩
    cases t with
    | ho i => exact e0 (by rw [show i = h from Int.ofNat.inj k2])
    | var n => have : (1 : Int) = 6 := k1
               exact absurd this (by decide)
    | nat => have : (2 : Int) = 6 := k1
             exact absurd this (by decide)
    | fn a b => have : (3 : Int) = 6 := k1
                exact absurd this (by decide)
    | all a => have : (4 : Int) = 6 := k1
               exact absurd this (by decide)
    | fr n => have : (5 : Int) = 6 := k1
              exact absurd this (by decide)
  have hin := inside_ev hI.ok h _ t (Nat.le_refl _)
  cases ein : hasH h (R S.sv t) with
  | true =>
    have hfn : ∃ a b, t = .fn a b := by
      cases t with
      | fn a b => exact ⟨a, b, rfl⟩
      | all a => cases hall
      | ho i =>
        have hi := now_free hI.ok hn
        rw [R_free hi] at ein
        exact absurd (by rw [show i = h by simpa [hasH] using ein]) e0
      | nat => rw [R_nat] at ein; cases ein
      | fr i => rw [R_fr] at ein; cases ein
      | var i => rw [R_var] at ein; cases ein
    obtain ⟨a, b, rfl⟩ := hfn
    refine ⟨false, S, Ev.succ (fun f => filled_eq) (Ev.congr (fun f => if_neg hne) (Ev.bind hin ?_)), Post.fls fun κ θ hm hs => ?_⟩
    · rw [ein]
      exact Ev.congr (G := fun _ => some (false, cSol wt S)) (fun f => rfl) Ev.pure
    · have hg := hm.gnd h v hG
      have hlt : lo (θ h) < lo (gi κ S θ (.fn a b)) := by
        rw [← hm.R, R_fn] at *
        exact lo_occ' ein
      obtain ⟨l, hs⟩ := hs
      cases c
      · have h1 : lo (gi κ S θ (.fn a b)) ≤ lo (θ h) := hs.lo.2 hg.p
        omega
      · have h1 : lo (gi κ S θ (.fn a b)) ≤ lo (θ h) := hs.lo.1 hg.p
        omega
  | false =>
    cases eq : hasQ (R S.sv t) with
    | false =>
      obtain ⟨r, S', hev, hP⟩ := solve_ev (wt := wt) (c := c) (q := q) hI hh ht hd ein (hasQ_false.1 eq)
      refine ⟨r, S', Ev.succ (fun f => filled_eq) (Ev.congr (fun f => if_neg hne) (Ev.bind hin ?_)), hP⟩
      rw [ein, eq]
      refine Ev.congr (G := fun f => Md.fits f (cSol wt (S.sol h t)) (h : Int) (toT t)) (fun f => ?_) hev
      show (match lkp (csv S.sv) (h : Int) with | some _ => none | none => Md.fits f { cSol wt S with solved := csv S.sv ++ [((h : Int), toT t)] } (h : Int) (toT t)) = _
      rw [lkp_free hd]
      show Md.fits f { cSol wt S with solved := csv S.sv ++ [((h : Int), toT t)] } (h : Int) (toT t) = _
      congr 1
      simp [cSol, AS.sol, csv_cons]
    | true =>
      have hqpos : qw (R S.sv t) ≠ 0 := fun e => by
        have := hasQ_false.2 (plain_qw e)
        rw [this] at eq; cases eq
      have hfn : ∃ a b, t = .fn a b := by
        cases t with
        | fn a b => exact ⟨a, b, rfl⟩
        | all a => cases hall
        | ho i => rw [R_free (now_free hI.ok hn)] at eq; cases eq
        | nat => rw [R_nat] at eq; cases eq
        | fr i => rw [R_fr] at eq; cases eq
        | var i => rw [R_var] at eq; cases eq
      obtain ⟨t0, t1, rfl⟩ := hfn
      have hlv2 : S.lev h ≤ v.length := by
        have := congrArg List.length htk
        rw [List.length_take, List.length_take] at this; omega
      obtain ⟨hI1, hE1, hPH⟩ := hI.spl hd hG hlv2
      obtain ⟨hc1, hc2⟩ := hPH S.way ⟨v, hG, hl, htk⟩
      have hlim : lim = 1099511627776 := rfl
      obtain ⟨B1, B2, B3⟩ := hB
      rw [R_fn] at hq hqpos
      have hqf := (qw_fn (R S.sv t0) (R S.sv t1)).2 hqpos
      have hcs : ∀ i, i ∉ dom (S.spl h v).sv → qw (R (S.spl h v).sv (.ho i)) = 0 := fun i hi => by rw [R_free hi]; rfl
      have hw0 : ∀ i, qw (R (S.spl h v).sv (.ho i)) = 0 := fun i => qw_plain (hI1.ok.plain i)
      have hcfn : IP (S.spl h v) (S.spl h v).way (.fn (.ho S.dp.length) (.ho (S.dp.length + 1))) := by
        unfold IP; rw [R_fn]; exact ⟨⟨hc1.c, hc2.c⟩, ⟨hc1.f, hc2.f⟩, ⟨hc1.h, hc2.h⟩⟩
      have ht1 : IP (S.spl h v) (S.spl h v).way (.fn t0 t1) := ht.ext hI hI1 hE1
      have hspl : Md.split (cSol wt S) (toT (.ho h)) = some (toT (.fn (.ho S.dp.length) (.ho (S.dp.length + 1))), cSol wt (S.spl h v)) := split_eq hlt hd (by omega) (by omega)
      have hdl : (S.spl h v).dp.length = S.dp.length + 2 := by simp [AS.spl]
      have hBs : Bnd (S.spl h v) (q - 1) := ⟨by rw [hdl]; omega, by show S.way.length + _ < lim; omega, by show S.tk.length + _ < lim; omega⟩
      have hq0 : q ≠ 0 := by omega
      have w0 := qw_R hI hI1 hE1 t0
      have w1 := qw_R hI hI1 hE1 t1
      have hmod : ∀ κ θ τ0 τ1, Mod κ S θ → θ h = .fn τ0 τ1 → ∃ θ1, Mod κ (S.spl h v) θ1 ∧ (∀ i, i < S.dp.length → θ1 i = θ i) ∧ θ1 S.dp.length = τ0 ∧ θ1 (S.dp.length + 1) = τ1 := by
        intro κ θ τ0 τ1 hm e
        have hg := hm.gnd h v hG
        rw [e] at hg
        refine ⟨fun i => if i = S.dp.length then τ0 else if i = S.dp.length + 1 then τ1 else θ i, ?_, fun i hi => (if_neg (by omega)).trans (if_neg (by omega)), if_pos rfl, (if_neg (by omega)).trans (if_pos rfl)⟩
        rw [spl_eq]
        have m1 : Mod κ (S.push (S.lev h) (some v)) (fun i => if i = S.dp.length then τ0 else θ i) := hm.push hI _ _ (fun i hi => if_neg (by omega)) fun v' _ => by rw [if_pos rfl]; exact hg.fn1
        have hI' := hI.push (S.lev h) (some v)
        have hdl' : (S.push (S.lev h) (some v)).dp.length = S.dp.length + 1 := by simp [AS.push]
        have m2 : Mod κ ((S.push (S.lev h) (some v)).push (S.lev h) (some v)) (fun i => if i = S.dp.length then τ0 else if i = S.dp.length + 1 then τ1 else θ i) := m1.push hI' _ _ (fun i hi => by
          by_cases e1 : i = S.dp.length
          · rw [if_pos e1, if_pos e1]
          · rw [if_neg e1, if_neg e1, if_neg (by omega)]) fun v' _ => by rw [hdl', if_neg (by omega), if_pos rfl]; exact hg.fn2
        refine m2.sol ?_
        show (if h = S.dp.length then τ0 else if h = S.dp.length + 1 then τ1 else θ h) = .fn (if S.dp.length = S.dp.length then τ0 else _) (if S.dp.length + 1 = S.dp.length then τ0 else if S.dp.length + 1 = S.dp.length + 1 then τ1 else _)
        rw [if_neg (by omega), if_neg (by omega), if_pos rfl, if_neg (by omega), if_pos rfl, e]
      have hsiz : ∀ {S' : AS} (W : List Ty), (∀ p ∈ S.sv, fsI W p.2) → fsI W (.fn t0 t1) → ∀ n, (Siz (S.spl h v) S' (.fn (.ho S.dp.length) (.ho (S.dp.length + 1))) (.fn t0 t1) n ∧ n = pot t0 + pot t1 ∨ Siz (S.spl h v) S' (.fn t0 t1) (.fn (.ho S.dp.length) (.ho (S.dp.length + 1))) n ∧ n = pot t0 + pot t1) →
          ∃ W' : List Ty, (∀ x, x ∈ W → x ∈ W') ∧ W'.length ≤ W.length + pot (.fn t0 t1) ∧ ∀ p ∈ S'.sv, fsI W' p.2 := by
        intro S' W h1 h2 n hz
        have hQ : hasQ (.fn t0 t1) = true := by
          cases e : hasQ (.fn t0 t1) with
          | true => rfl
          | false =>
            have := hasQ_false.1 e
            rw [hasQ_false.2 (R_plain hI.ok this)] at eq; cases eq
        have hm : ∀ x, x ∈ W → x ∈ (Ty.fn (.ho S.dp.length) (.ho (S.dp.length + 1)) :: W) := fun x hx => List.mem_cons_of_mem _ hx
        have hc : fsI (Ty.fn (.ho S.dp.length) (.ho (S.dp.length + 1)) :: W) (.fn (.ho S.dp.length) (.ho (S.dp.length + 1))) := ⟨List.mem_cons_self .., trivial, trivial⟩
        have hsv : ∀ p ∈ (S.spl h v).sv, fsI (Ty.fn (.ho S.dp.length) (.ho (S.dp.length + 1)) :: W) p.2 := fun p hp => by
          rcases List.mem_cons.1 hp with rfl | hp
          · exact hc
          · exact (h1 p hp).mono hm
        have fin : ∀ {W' : List Ty}, W'.length ≤ (Ty.fn (.ho S.dp.length) (.ho (S.dp.length + 1)) :: W).length + (pot t0 + pot t1) → W'.length ≤ W.length + pot (.fn t0 t1) := fun hl => by
          simp only [pot, hQ, if_true]; rw [List.length_cons] at hl; omega
        rcases hz with ⟨hz, rfl⟩ | ⟨hz, rfl⟩
        · obtain ⟨W', k1, k2, k3⟩ := hz _ hsv hc (h2.mono hm)
          exact ⟨W', fun x hx => k1 x (hm x hx), fin k2, k3⟩
        · obtain ⟨W', k1, k2, k3⟩ := hz _ hsv (h2.mono hm) hc
          exact ⟨W', fun x hx => k1 x (hm x hx), fin k2, k3⟩
      cases c with
      | true =>
        obtain ⟨r, S', hev, hP, hsz⟩ := step_fn (wt := wt) (q := q) (u := 0) (z := 0) (F := List.range (S.spl h v).dp.length) (S := S.spl h v) (a0 := .ho S.dp.length) (a1 := .ho (S.dp.length + 1)) (b0 := t0) (b1 := t1) ihq (fun e => absurd e hq0) hI1 hcfn ht1
          (.inr (by rw [hw0, hw0, w0, w1]; omega)) (fun x hx _ => List.mem_range.2 hx) (fun e => absurd e hq0) (fun e => absurd e hq0) hBs
        refine ⟨r, S', Ev.succ (fun f => filled_eq) (Ev.congr (fun f => if_neg hne) (Ev.bind hin ?_)), ?_⟩
        · rw [ein, eq]
          refine Ev.congr (G := fun f => Md.uses f (cSol wt (S.spl h v)) (toT (.fn (.ho S.dp.length) (.ho (S.dp.length + 1)))) (toT (.fn t0 t1)) (S.way.length : Int)) (fun f => ?_) (uses_fn hI1.ok hev)
          show (Md.split (cSol wt S) (toT (.ho h))).bind _ = _
          rw [hspl, Option.bind_some]
        · have hback : r = true → ∀ κ θ, Mod κ S' θ → gi κ S' θ (.fn (.ho S.dp.length) (.ho (S.dp.length + 1))) = θ h := fun hr κ θ hm => by
            have hm1 := hm.back hI1 (hP.ext hr)
            rw [gi_ext (hP.ext hr) hcfn.frs]
            exact (hm1.eq (h, .fn (.ho S.dp.length) (.ho (S.dp.length + 1))) (List.mem_cons_self ..)).symm
          refine ⟨hP.inv, fun hr => hE1.trans (hP.ext hr), hP.way, fun hr => ?_, fun hr => ?_, fun _ e => absurd e hq0, fun hr => ?_, fun κ θ hm hs => ?_, fun hr W h1 h2 h3 => by
            have := hsiz (S' := S') W h1 h3 _ (.inl ⟨hsz hr, by simp only [pot]; omega⟩)
            obtain ⟨W', a, b, d⟩ := this
            exact ⟨W', a, by show _ ≤ W.length + (pot (.ho h) + pot (.fn t0 t1)); rw [show pot (.ho h) = 0 from rfl]; omega, d⟩⟩
          · have := hP.dpl hr; rw [hdl] at this; omega
          · have := hP.tkl hr
            have e : (S.spl h v).tk = S.tk := rfl
            rw [e] at this; omega
          · obtain ⟨new, k1, k2⟩ := hP.snd hr
            refine ⟨new, k1, fun κ θ hm => ?_⟩
            have := k2 κ θ hm
            rw [hback hr κ θ hm] at this
            exact this
          · obtain ⟨l, hs⟩ := hs
            have hs' : Sub (κ + S.way.length) (θ h) (.fn (gi κ S θ t0) (gi κ S θ t1)) l := hs
            have hg := hm.gnd h v hG
            obtain ⟨τ0, τ1, _, _, e, _, _, _⟩ := hs'.inv_fn' (plain_isAll hg.p)
            obtain ⟨θ1, m1, hag, z0, z1⟩ := hmod κ θ τ0 τ1 hm e
            have hs1 : SubE (κ + (S.spl h v).way.length) (gi κ (S.spl h v) θ1 (.fn (.ho S.dp.length) (.ho (S.dp.length + 1)))) (gi κ (S.spl h v) θ1 (.fn t0 t1)) := by
              rw [ht.agree hI hE1 hm m1 hag]
              have : gi κ (S.spl h v) θ1 (.fn (.ho S.dp.length) (.ho (S.dp.length + 1))) = θ h := by
                show Ty.fn (θ1 _) (θ1 _) = _
                rw [z0, z1, e]
              rw [this]; exact ⟨l, hs⟩
            obtain ⟨hr, θ', m', hag'⟩ := hP.cmp κ θ1 m1 hs1
            exact ⟨hr, θ', m', fun i hi => by rw [hag' i (by rw [hdl]; omega), hag i hi]⟩
      | false =>
        obtain ⟨r, S', hev, hP, hsz⟩ := step_fn (wt := wt) (q := q) (u := 0) (z := 0) (F := List.range (S.spl h v).dp.length) (S := S.spl h v) (b0 := .ho S.dp.length) (b1 := .ho (S.dp.length + 1)) (a0 := t0) (a1 := t1) ihq (fun e => absurd e hq0) hI1 ht1 hcfn
          (.inr (by rw [hw0, hw0, w0, w1]; omega)) (fun x hx _ => List.mem_range.2 hx) (fun e => absurd e hq0) (fun e => absurd e hq0) hBs
        refine ⟨r, S', Ev.succ (fun f => filled_eq) (Ev.congr (fun f => if_neg hne) (Ev.bind hin ?_)), ?_⟩
        · rw [ein, eq]
          refine Ev.congr (G := fun f => Md.uses f (cSol wt (S.spl h v)) (toT (.fn t0 t1)) (toT (.fn (.ho S.dp.length) (.ho (S.dp.length + 1)))) (S.way.length : Int)) (fun f => ?_) (uses_fn hI1.ok hev)
          show (Md.split (cSol wt S) (toT (.ho h))).bind _ = _
          rw [hspl, Option.bind_some]
        · have hback : r = true → ∀ κ θ, Mod κ S' θ → gi κ S' θ (.fn (.ho S.dp.length) (.ho (S.dp.length + 1))) = θ h := fun hr κ θ hm => by
            have hm1 := hm.back hI1 (hP.ext hr)
            rw [gi_ext (hP.ext hr) hcfn.frs]
            exact (hm1.eq (h, .fn (.ho S.dp.length) (.ho (S.dp.length + 1))) (List.mem_cons_self ..)).symm
          refine ⟨hP.inv, fun hr => hE1.trans (hP.ext hr), hP.way, fun hr => ?_, fun hr => ?_, fun _ e => absurd e hq0, fun hr => ?_, fun κ θ hm hs => ?_, fun hr W h1 h2 h3 => by
            have := hsiz (S' := S') W h1 h2 _ (.inr ⟨hsz hr, by simp only [pot]; omega⟩)
            obtain ⟨W', a, b, d⟩ := this
            exact ⟨W', a, by show _ ≤ W.length + (pot (.fn t0 t1) + pot (.ho h)); rw [show pot (.ho h) = 0 from rfl]; omega, d⟩⟩
          · have := hP.dpl hr; rw [hdl] at this; omega
          · have := hP.tkl hr
            have e : (S.spl h v).tk = S.tk := rfl
            rw [e] at this; omega
          · obtain ⟨new, k1, k2⟩ := hP.snd hr
            refine ⟨new, k1, fun κ θ hm => ?_⟩
            have := k2 κ θ hm
            rw [hback hr κ θ hm] at this
            exact this
          · obtain ⟨l, hs⟩ := hs
            have hs' : Sub (κ + S.way.length) (.fn (gi κ S θ t0) (gi κ S θ t1)) (θ h) l := hs
            have hg := hm.gnd h v hG
            obtain ⟨τ0, τ1, _, _, e, _, _, _⟩ := hs'.inv_fn (plain_isAll hg.p)
            obtain ⟨θ1, m1, hag, z0, z1⟩ := hmod κ θ τ0 τ1 hm e
            have hs1 : SubE (κ + (S.spl h v).way.length) (gi κ (S.spl h v) θ1 (.fn t0 t1)) (gi κ (S.spl h v) θ1 (.fn (.ho S.dp.length) (.ho (S.dp.length + 1)))) := by
              rw [ht.agree hI hE1 hm m1 hag]
              have : gi κ (S.spl h v) θ1 (.fn (.ho S.dp.length) (.ho (S.dp.length + 1))) = θ h := by
                show Ty.fn (θ1 _) (θ1 _) = _
                rw [z0, z1, e]
              rw [this]; exact ⟨l, hs⟩
            obtain ⟨hr, θ', m', hag'⟩ := hP.cmp κ θ1 m1 hs1
            exact ⟨hr, θ', m', fun i hi => by rw [hag' i (by rw [hdl]; omega), hag i hi]⟩
end Go.Proofs.Ytjgnhhgigickaaa.Sv
/- 'uses' ends, is sound with its witness, and complete; so Uses says just whether there is a derivation. Conditions: each theorem's own. -/

namespace Go.Proofs.Ytjgnhhgigickaaa.Sv
open Ty Go Wk Md

theorem kind_all {b : Ty} (h : isAll b = false) : (toT b).kind ≠ 4 := by
  cases b with
  | all a => cases h
  | var n => exact (by decide : (1 : Int) ≠ 4)
  | nat => exact (by decide : (2 : Int) ≠ 4)
  | fn a b => exact (by decide : (3 : Int) ≠ 4)
  | fr n => exact (by decide : (5 : Int) ≠ 4)
  | ho n => exact (by decide : (6 : Int) ≠ 4)
theorem Inv.new_free {S : AS} (hI : Inv S) : S.dp.length ∉ dom S.sv := fun hx => Nat.lt_irrefl _ (hI.dom_lt hx)
theorem uses_eq {f : Nat} {s : Sol} {a b : T} {d : Int} : Md.uses (f + 1) s a b d = (Md.now f s.solved b).bind fun b =>
      if b.kind = 4 then
        (newer s 5 d).bind fun r => (opn b r.1).bind fun t =>
          (Md.uses f { r.2 with way := s.way ++ [r.1] } a t (w64 (d + 1))).bind fun x => some (x.1, { x.2 with way := s.way })
      else
        (Md.now f s.solved a).bind fun a => Md.usesT f s a b d := rfl
theorem usesT_eq {f : Nat} {s : Sol} {a b : T} {d : Int} : Md.usesT (f + 1) s a b d = if a.kind = 4 then
      (Md.take f s d).bind fun r =>
        if r.1.2 = false then some (false, r.2)
        else (opn a r.1.1).bind fun a => (Md.now f r.2.solved a).bind fun a => Md.usesT f r.2 a b d
    else
      (Md.now f s.solved b).bind fun b =>
        if a.kind = 6 then Md.filled f s a b true d
        else if b.kind = 6 then Md.filled f s b a false d
        else if a.kind ≠ b.kind then some (false, s)
        else if a.kind = 3 then
          match a.kids, b.kids with
          | a0 :: a1 :: _, b0 :: b1 :: _ => (Md.uses f s b0 a0 d).bind fun r => if r.1 then Md.uses f r.2 a1 b1 d else some (false, r.2)
          | _, _ => none
        else some (a.num == b.num, s) := rfl

theorem usesT_ev {wt : Bool} {q u z : Nat} (ihq : ∀ q', q' < q → ∀ u z, Claim wt q' u z) (ihz : q = 0 → ∀ u' z', (u' < u ∨ u' = u ∧ z' < z) → Claim wt 0 u' z')
    {S : AS} {a b : Ty} {F : List Nat} (hI : Inv S) (ha : IP S S.way a) (hb : IP S S.way b) (hna : nowA S.sv a = a) (hnb : nowA S.sv b = b) (hall : isAll b = false) (hq : qw (R S.sv a) + qw (R S.sv b) = q)
    (hF : cover S F) (hu : F.length = u) (hz : sz (R S.sv a) + sz (R S.sv b) = z) (hB : Bnd S q) :
    ∃ r S', Ev (fun f => Md.usesT f (cSol wt S) (toT a) (toT b) (S.way.length : Int)) (r, cSol wt S') ∧ Post S a b q r S' := by
  have hlim : lim = 1099511627776 := rfl
  have hnow := now_ev hI.ok b
  rw [hnb] at hnow
  obtain ⟨B1, B2, B3⟩ := id hB
  cases eall : isAll a with
  | true =>
    cases a with
    | all a1 =>
      have hI1 : Inv S.tak := (hI.push S.way.length (some S.way)).congr rfl rfl rfl
      have hE1 : Ext S S.tak := (Ext.push hI S.way.length (some S.way)).trans (Ext.congr rfl rfl rfl)
      have hG1 : S.tak.G[S.dp.length]? = some (some S.way) := get_push hI S.way.length (some S.way)
      have hl1 : S.tak.lev S.dp.length = S.way.length := lev_push' (S := S) (d := S.way.length) (o := some S.way)
      have hc : IP S.tak S.way (.ho S.dp.length) := PH.hole hG1 (Nat.le_of_eq hl1) rfl hI.new_free
      have ha' := (ha.ext hI hI1 hE1).put hI1 hc
      have hb' := hb.ext hI hI1 hE1
      have hqa : qw (R S.sv (.all a1)) = qw (R S.sv a1) + 1 := by rw [R_all]; rfl
      have hqp : qw (R S.sv (Ty.put (.ho S.dp.length) 0 a1)) = qw (R S.sv a1) := by rw [R_put hI.ok, R_free hI.new_free, qw_put (by trivial)]
      have hdl : S.tak.dp.length = S.dp.length + 1 := by simp [AS.tak]
      have htl : S.tak.tk.length = S.tk.length + 1 := by simp [AS.tak]
      obtain ⟨r, S', hev, hP⟩ := ihq (q - 1) (by omega) _ _ S.tak (Ty.put (.ho S.dp.length) 0 a1) b (List.range S.tak.dp.length) hI1 ha' hb' (by show qw (R S.sv _) + qw (R S.sv _) = _; rw [hqp]; omega) (fun x hx _ => List.mem_range.2 hx) rfl rfl
        ⟨by rw [hdl]; omega, by show S.way.length + _ < lim; omega, by rw [htl]; omega⟩
      have hnq : nq a1 < lim := by
        have h1 := nq_R hI a1
        have h2 := nq_qw (R S.sv a1)
        omega
      refine ⟨r, S', Ev.succ (fun f => usesT_eq) ?_, ?_⟩
      · refine Ev.congr (G := fun f => (Md.take f (cSol wt S) (S.way.length : Int)).bind fun r => if r.1.2 = false then some (false, r.2)
          else (opn (toT (.all a1)) r.1.1).bind fun a => (Md.now f r.2.solved a).bind fun a => Md.usesT f r.2 a (toT b) (S.way.length : Int)) (fun f => if_pos rfl) ?_
        refine Ev.bind (take_ev (by omega) (by omega) (by omega)) ?_
        refine Ev.congr (G := fun f => (Md.now f (csv S.tak.sv) (toT (Ty.put (.ho S.dp.length) 0 a1))).bind fun a => Md.usesT f (cSol wt S.tak) a (toT b) (S.way.length : Int)) (fun f => ?_) ?_
        · refine (if_neg (fun e : true = false => Bool.noConfusion e)).trans ?_
          show (opn (toT (.all a1)) (toT (.ho S.dp.length))).bind _ = _
          rw [opn_eq hnq, Option.bind_some]; rfl
        · have h1 := Ev.pred (fun f => uses_eq) hev
          have h2 := Ev.unbind (F := fun f => Md.now f (csv S.tak.sv) (toT b)) hnow h1
          exact Ev.congr (fun f => (if_neg (kind_all hall)).symm) h2
      · have hgb : ∀ κ θ, Mod κ S' θ → Ext S S' → isAll (gi κ S' θ b) = false := fun κ θ hm he =>
          isAll_inst hall (allF.triv fun _ => trivial) ((hb.hos hI).mono fun i ⟨v, hv⟩ => (hm.gnd i v (he.get hv)).p)
        have hap : ∀ {κ : Nat} {S2 : AS} {θ : Nat → Ty}, Mod κ S2 θ → Ext S S2 → gi κ S2 θ (Ty.put (.ho S.dp.length) 0 a1) = Ty.put (θ S.dp.length) 0 (gi κ S2 θ a1) := fun {κ S2 θ} hm he =>
          inst_put (allF.triv fun _ => trivial) (allH.mono (t := a1) (fun i ⟨v, hv⟩ => (hm.gnd i v (he.get hv)).c) (ha.hos hI))
        refine ⟨hP.inv, fun hr => hE1.trans (hP.ext hr), hP.way, fun hr => ?_, fun hr => ?_, fun _ e => by omega, fun hr => ?_, fun κ θ hm hs => ?_, fun hr W k1 k2 k3 => by
          obtain ⟨W', l1, l2, l3⟩ := hP.siz hr (W ++ tops (Ty.put (.ho S.dp.length) 0 a1)) (fun p hp => (k1 p hp).mono fun x hx => List.mem_append_left _ hx) (fsI_tops fun x hx => List.mem_append_right _ hx) (k3.mono fun x hx => List.mem_append_left _ hx)
          rw [List.length_append, tops_put rfl, pot_put rfl rfl rfl] at l2
          exact ⟨W', fun x hx => l1 x (List.mem_append_left _ hx), by simp only [pot]; omega, l3⟩⟩
        · have := hP.dpl hr; omega
        · have := hP.tkl hr; omega
        · obtain ⟨new, k1, k2⟩ := hP.snd hr
          refine ⟨(S.dp.length, S.way.length) :: new, by rw [k1]; simp [AS.tak], fun κ θ hm => ?_⟩
          have he := hE1.trans (hP.ext hr)
          have k3 := k2 κ θ hm
          rw [hap hm he] at k3
          have hg := hm.gnd _ _ ((hP.ext hr).get hG1)
          have hl := (hP.ext hr).ho _ _ hG1
          rw [hl1] at hl
          exact Sub.ins (hgb κ θ hm he) (hg.mono (Nat.add_le_add_left hl κ)) k3
        · obtain ⟨l, hs⟩ := hs
          have hs' : Sub (κ + S.way.length) (.all (gi κ S θ a1)) (gi κ S θ b) l := hs
          have hbb : isAll (gi κ S θ b) = false := isAll_inst hall (allF.triv fun _ => trivial) ((hb.hos hI).mono fun i ⟨v, hv⟩ => (hm.gnd i v hv).p)
          obtain ⟨τ, l', _, hτ, hs'⟩ := hs'.inv_ins hbb
          have hm1 : Mod κ S.tak (fun i => if i = S.dp.length then τ else θ i) := (hm.push hI S.way.length (some S.way) (θ' := fun i => if i = S.dp.length then τ else θ i) (fun i hi => if_neg (by omega)) fun v _ => by rw [if_pos rfl]; exact hτ).congr rfl rfl rfl
          have hag : ∀ i, i < S.dp.length → (fun i => if i = S.dp.length then τ else θ i) i = θ i := fun i hi => if_neg (by omega)
          have hs1 : SubE (κ + S.tak.way.length) (gi κ S.tak (fun i => if i = S.dp.length then τ else θ i) (Ty.put (.ho S.dp.length) 0 a1)) (gi κ S.tak (fun i => if i = S.dp.length then τ else θ i) b) := by
            rw [hap hm1 hE1, hb.agree hI hE1 hm hm1 hag]
            have e1 : gi κ S.tak (fun i => if i = S.dp.length then τ else θ i) (.all a1) = gi κ S θ (.all a1) := ha.agree hI hE1 hm hm1 hag
            have e2 : gi κ S.tak (fun i => if i = S.dp.length then τ else θ i) a1 = gi κ S θ a1 := by
              have : Ty.all (gi κ S.tak (fun i => if i = S.dp.length then τ else θ i) a1) = Ty.all (gi κ S θ a1) := e1
              exact Ty.all.inj this
            rw [e2]
            show SubE (κ + S.way.length) (Ty.put (if S.dp.length = S.dp.length then τ else _) 0 _) _
            rw [if_pos rfl]; exact ⟨_, hs'⟩
          obtain ⟨hr, θ', m', hag'⟩ := hP.cmp κ _ hm1 hs1
          exact ⟨hr, θ', m', fun i hi => by rw [hag' i (by rw [hdl]; omega)]; exact hag i hi⟩
    | _ => cases eall
  | false =>
    have hka := kind_all eall
    -- behind the quantifiers
    have go : ∀ {G : Nat → Option (Bool × Sol)} {r : Bool} {S' : AS}, (∀ f, (if (toT a).kind = 6 then Md.filled f (cSol wt S) (toT a) (toT b) true (S.way.length : Int)
        else if (toT b).kind = 6 then Md.filled f (cSol wt S) (toT b) (toT a) false (S.way.length : Int)
        else if (toT a).kind ≠ (toT b).kind then some (false, cSol wt S)
        else if (toT a).kind = 3 then
          match (toT a).kids, (toT b).kids with
          | a0 :: a1 :: _, b0 :: b1 :: _ => (Md.uses f (cSol wt S) b0 a0 (S.way.length : Int)).bind fun r => if r.1 then Md.uses f r.2 a1 b1 (S.way.length : Int) else some (false, r.2)
          | _, _ => none
        else some ((toT a).num == (toT b).num, cSol wt S)) = G f) → Ev G (r, cSol wt S') → Ev (fun f => Md.usesT f (cSol wt S) (toT a) (toT b) (S.way.length : Int)) (r, cSol wt S') := by
      intro G r S' e h
      refine Ev.succ (fun f => usesT_eq) (Ev.congr (fun f => if_neg hka) (Ev.bind hnow ?_))
      exact Ev.congr e h
    have hbad : (∀ κ θ, Mod κ S θ → SubE (κ + S.way.length) (gi κ S θ a) (gi κ S θ b) → False) → (∀ f : Nat, (if (toT a).kind = 6 then Md.filled f (cSol wt S) (toT a) (toT b) true (S.way.length : Int)
        else if (toT b).kind = 6 then Md.filled f (cSol wt S) (toT b) (toT a) false (S.way.length : Int)
        else if (toT a).kind ≠ (toT b).kind then some (false, cSol wt S)
        else if (toT a).kind = 3 then
          match (toT a).kids, (toT b).kids with
          | a0 :: a1 :: _, b0 :: b1 :: _ => (Md.uses f (cSol wt S) b0 a0 (S.way.length : Int)).bind fun r => if r.1 then Md.uses f r.2 a1 b1 (S.way.length : Int) else some (false, r.2)
          | _, _ => none
        else some ((toT a).num == (toT b).num, cSol wt S)) = some (false, cSol wt S)) → ∃ r S', Ev (fun f => Md.usesT f (cSol wt S) (toT a) (toT b) (S.way.length : Int)) (r, cSol wt S') ∧ Post S a b q r S' :=
      fun h e => ⟨false, S, go e Ev.pure, Post.fls h⟩
    have hhole : ∀ h, a = .ho h → ∃ r S', Ev (fun f => Md.usesT f (cSol wt S) (toT a) (toT b) (S.way.length : Int)) (r, cSol wt S') ∧ Post S a b q r S' := by
      rintro h rfl
      have hd := now_free hI.ok hna
      obtain ⟨r, S', hev, hP⟩ := filled_ev (wt := wt) (c := true) ihq hI ha hb hd hnb hall (by omega) hB
      exact ⟨r, S', go (fun f => rfl) hev, hP⟩
    have hhole2 : ∀ h, b = .ho h → (toT a).kind ≠ 6 → ∃ r S', Ev (fun f => Md.usesT f (cSol wt S) (toT a) (toT b) (S.way.length : Int)) (r, cSol wt S') ∧ Post S a b q r S' := by
      rintro h rfl hk
      have hd := now_free hI.ok hnb
      obtain ⟨r, S', hev, hP⟩ := filled_ev (wt := wt) (c := false) ihq hI hb ha hd hna eall (by omega) hB
      exact ⟨r, S', go (fun f => (if_neg hk).trans (if_pos rfl)) hev, hP⟩
    cases a with
    | all a1 => cases eall
    | var n => exact absurd ha.lcl (Nat.not_lt_zero _)
    | ho h => exact hhole h rfl
    | nat =>
      cases b with
      | all _ => cases hall
      | var n => exact absurd hb.lcl (Nat.not_lt_zero _)
      | ho h => exact hhole2 h rfl (by decide)
      | nat => exact ⟨true, S, go (G := fun _ => some (true, cSol wt S)) (fun f => rfl) Ev.pure, Post.tru hI fun _ _ _ => .nat⟩
      | fn b0 b1 => exact hbad (fun κ θ _ ⟨l, hs⟩ => by cases (show Sub _ .nat (.fn _ _) l from hs)) fun f => rfl
      | fr i => exact hbad (fun κ θ _ ⟨l, hs⟩ => by cases (show Sub _ .nat (.fr _) l from hs)) fun f => rfl
    | fr i =>
      cases b with
      | all _ => cases hall
      | var n => exact absurd hb.lcl (Nat.not_lt_zero _)
      | ho h => exact hhole2 h rfl (by show (5 : Int) ≠ 6; decide)
      | nat => exact hbad (fun κ θ _ ⟨l, hs⟩ => by cases (show Sub _ (.fr _) .nat l from hs)) fun f => rfl
      | fn b0 b1 => exact hbad (fun κ θ _ ⟨l, hs⟩ => by cases (show Sub _ (.fr _) (.fn _ _) l from hs)) fun f => rfl
      | fr j =>
        by_cases e : i = j
        · subst e
          exact ⟨true, S, go (G := fun _ => some (true, cSol wt S)) (fun f => by show some (((i : Int) == (i : Int)), cSol wt S) = _; rw [beq_self_eq_true]) Ev.pure, Post.tru hI fun _ _ _ => .fr⟩
        · refine hbad (fun κ θ _ ⟨l, hs⟩ => ?_) fun f => by show some (((i : Int) == (j : Int)), cSol wt S) = _; rw [show ((i : Int) == (j : Int)) = false by simpa using fun h : (i : Int) = (j : Int) => e (by omega)]
          have hi := ha.f
          have hj := hb.f
          rw [R_fr] at hi hj
          have hi : PF S S.way i := hi
          have hj : PF S S.way j := hj
          have : S.lev i = S.lev j := by
            have hs' : Sub (κ + S.way.length) (.fr (κ + S.lev i)) (.fr (κ + S.lev j)) l := hs
            have h0 : κ + S.lev i = κ + S.lev j := by
              generalize κ + S.lev i = x at hs'
              generalize κ + S.lev j = y at hs'
              cases hs'; rfl
            omega
          have h1 := hi.2
          rw [this, hj.2] at h1
          exact e (Option.some.inj h1).symm
    | fn a0 a1 =>
      cases b with
      | all _ => cases hall
      | var n => exact absurd hb.lcl (Nat.not_lt_zero _)
      | ho h => exact hhole2 h rfl (by show (3 : Int) ≠ 6; decide)
      | nat => exact hbad (fun κ θ _ ⟨l, hs⟩ => by cases (show Sub _ (.fn _ _) .nat l from hs)) fun f => rfl
      | fr i => exact hbad (fun κ θ _ ⟨l, hs⟩ => by cases (show Sub _ (.fn _ _) (.fr _) l from hs)) fun f => rfl
      | fn b0 b1 =>
        have h1 := qw_fn (R S.sv a0) (R S.sv a1)
        have h2 := qw_fn (R S.sv b0) (R S.sv b1)
        have hq' := hq
        rw [R_fn, R_fn] at hq'
        have hc : (q = 0 ∧ qw (R S.sv b0) + qw (R S.sv a0) = 0 ∧ qw (R S.sv a1) + qw (R S.sv b1) = 0) ∨ (qw (R S.sv b0) + qw (R S.sv a0)) + (qw (R S.sv a1) + qw (R S.sv b1)) + 1 ≤ q := by
          by_cases e1 : qw (.fn (R S.sv a0) (R S.sv a1)) = 0
          · have k1 := h1.1 e1
            by_cases e2 : qw (.fn (R S.sv b0) (R S.sv b1)) = 0
            · have k2 := h2.1 e2
              left; omega
            · have k2 := h2.2 e2
              right; omega
          · have k1 := h1.2 e1
            by_cases e2 : qw (.fn (R S.sv b0) (R S.sv b1)) = 0
            · have k2 := h2.1 e2
              right; omega
            · have k2 := h2.2 e2
              right; omega
        obtain ⟨r, S', hev, hP, _⟩ := step_fn (wt := wt) ihq ihz hI ha hb hc hF (fun _ => hu) (fun _ => hz) ⟨by omega, by omega, by omega⟩
        exact ⟨r, S', usesT_fn hI.ok hev, hP.mono (by omega)⟩

theorem claim (wt : Bool) : ∀ q u z, Claim wt q u z := by
  intro q
  induction q using Nat.strongRecOn with
  | _ q ihq =>
  intro u
  induction u using Nat.strongRecOn with
  | _ u ihu =>
  intro z
  induction z using Nat.strongRecOn with
  | _ z ihz =>
  intro S a b F hI ha hb hq hF hu hz hB
  have hlim : lim = 1099511627776 := rfl
  have ihz' : q = 0 → ∀ u' z', (u' < u ∨ u' = u ∧ z' < z) → Claim wt 0 u' z' := by
    rintro rfl u' z' (h | ⟨rfl, h⟩)
    · exact ihu u' h z'
    · exact ihz z' h
  have hqn : qw (R S.sv (nowA S.sv a)) + qw (R S.sv (nowA S.sv b)) = q := by rw [R_now hI.ok, R_now hI.ok]; exact hq
  have hna : nowA S.sv (nowA S.sv a) = nowA S.sv a := now_now fun i e => now_free hI.ok e
  have hnb : nowA S.sv (nowA S.sv b) = nowA S.sv b := now_now fun i e => now_free hI.ok e
  obtain ⟨B1, B2, B3⟩ := id hB
  cases hall : isAll (nowA S.sv b) with
  | false =>
    obtain ⟨r, S', hev, hP⟩ := usesT_ev (wt := wt) ihq ihz' hI (ha.now hI) (hb.now hI) hna hnb hall hqn hF hu (by rw [R_now hI.ok, R_now hI.ok]; exact hz) hB
    refine ⟨r, S', Ev.succ (fun f => uses_eq) (Ev.bind (now_ev hI.ok b) ?_), hP.now hI ha hb⟩
    refine Ev.congr (fun f => if_neg (kind_all hall)) (Ev.bind (now_ev hI.ok a) ?_)
    exact hev
  | true =>
    obtain ⟨b1, hb1⟩ : ∃ b1, nowA S.sv b = .all b1 := by
      cases e : nowA S.sv b with
      | all b1 => exact ⟨b1, rfl⟩
      | _ => rw [e] at hall; cases hall
    have hball : IP S S.way (.all b1) := by rw [← hb1]; exact hb.now hI
    obtain ⟨S1, hS1⟩ : ∃ S1 : AS, S1 = { S.push S.way.length none with way := S.way ++ [S.dp.length] } := ⟨_, rfl⟩
    have hI1 : Inv S1 := by rw [hS1]; exact (hI.push S.way.length none).congr rfl rfl rfl
    have hE1 : Ext S S1 := by rw [hS1]; exact (Ext.push hI S.way.length none).trans (Ext.congr rfl rfl rfl)
    have hG1 : S1.G[S.dp.length]? = some none := by rw [hS1]; exact get_push hI S.way.length none
    have hl1 : S1.lev S.dp.length = S.way.length := by rw [hS1]; exact lev_push' (S := S) (d := S.way.length) (o := none)
    have hw1 : S1.way = S.way ++ [S.dp.length] := by rw [hS1]
    have hsv : S1.sv = S.sv := by rw [hS1]; rfl
    have hdl : S1.dp.length = S.dp.length + 1 := by rw [hS1]; simp [AS.push]
    have htl : S1.tk = S.tk := by rw [hS1]; rfl
    have hwl : S1.way.length = S.way.length + 1 := by rw [hw1]; simp
    have ha1 : IP S1 S1.way a := by rw [hw1]; exact (ha.ext hI hI1 hE1).app
    have hf : IP S1 S1.way (.fr S.dp.length) := by
      unfold IP; rw [R_fr]
      exact ⟨trivial, ⟨hG1, by rw [hl1, hw1]; simp⟩, trivial⟩
    have hbp : IP S1 S1.way (Ty.put (.fr S.dp.length) 0 b1) := IP.put hI1 (by rw [hw1]; exact (hball.ext hI hI1 hE1).app) hf
    have hqb : qw (R S.sv b) = qw (R S.sv b1) + 1 := by rw [← R_now hI.ok b, hb1, R_all]; rfl
    have hqp : qw (R S.sv (Ty.put (.fr S.dp.length) 0 b1)) = qw (R S.sv b1) := by rw [R_put hI.ok, R_fr, qw_put (by trivial)]
    have hnq : nq b1 < lim := by
      have h1 := nq_R hI b1
      have h2 := nq_qw (R S.sv b1)
      omega
    obtain ⟨r, S2, hev, hP⟩ := ihq (q - 1) (by omega) _ _ S1 a (Ty.put (.fr S.dp.length) 0 b1) (List.range S1.dp.length) hI1 ha1 hbp (by rw [hsv, hqp]; omega) (fun x hx _ => List.mem_range.2 hx) rfl rfl
      ⟨by rw [hdl]; omega, by rw [hwl]; omega, by rw [htl]; omega⟩
    refine ⟨r, { S2 with way := S.way }, Ev.succ (fun f => uses_eq) (Ev.bind (now_ev hI.ok b) ?_), ?_⟩
    · rw [hb1]
      refine Ev.congr (fun f => if_pos rfl) ?_
      refine Ev.congr (G := fun f => (Md.uses f (cSol wt S1) (toT a) (toT (Ty.put (.fr S.dp.length) 0 b1)) (S1.way.length : Int)).bind fun x => some (x.1, { x.2 with way := (cSol wt S).way })) (fun f => ?_) (Ev.bind hev (Ev.congr (fun f => by rfl) Ev.pure))
      rw [newer_fr (by omega) (by omega), Option.bind_some, opn_eq hnq, Option.bind_some, w64_id (by omega) (by omega), show ((S.way.length : Int) + 1) = (S1.way.length : Int) by omega]
      have e : ({ cSol wt { S with dp := S.dp ++ [S.way.length], G := S.G ++ [none] } with way := (cSol wt S).way ++ [toT (.fr S.dp.length)] } : Sol) = cSol wt S1 := by
        rw [hS1]; simp [cSol, AS.push]
      rw [← e]
    · have hap : ∀ {κ : Nat} {S2 : AS} {θ : Nat → Ty}, Mod κ S2 θ → Ext S1 S2 → gi κ S2 θ (Ty.put (.fr S.dp.length) 0 b1) = Ty.put (.fr (κ + S.way.length)) 0 (gi κ S2 θ b1) := fun {κ S2 θ} hm he => by
        have := inst_put (φ := fun x => .fr (κ + S2.lev x)) (θ := θ) (u := .fr S.dp.length) (t := b1) (n := 0) (allF.triv fun _ => trivial) (allH.mono (t := b1) (fun i ⟨v, hv⟩ => (hm.gnd i v ((hE1.trans he).get hv)).c) (hball.hos hI))
        have e2 : inst (fun x => .fr (κ + S2.lev x)) θ (.fr S.dp.length) = .fr (κ + S.way.length) := by
          show Ty.fr (κ + S2.lev S.dp.length) = _
          rw [he.fr _ hG1, hl1]
        rw [e2] at this
        exact this
      have hE2 : r = true → Ext S S2 := fun hr => hE1.trans (hP.ext hr)
      have hgb : ∀ {κ : Nat} {S2 : AS} {θ : Nat → Ty}, Mod κ S2 θ → Ext S S2 → gi κ S2 θ b = .all (gi κ S2 θ b1) := fun {κ S2 θ} hm he => by
        rw [gi_ext he hb.frs, ← (hm.back hI he).now hI b, hb1, ← gi_ext he hball.frs]; rfl
      refine ⟨fun hr => (hP.inv hr).congr rfl rfl rfl, fun hr => (hE2 hr).trans (Ext.congr rfl rfl rfl), fun _ => rfl, fun hr => ?_, fun hr => ?_, fun _ e => by omega, fun hr => ?_, fun κ θ hm hs => ?_, fun hr W k1 k2 k3 => by
        have hpn := pot_now hI.ok b
        rw [hb1] at hpn
        obtain ⟨W', l1, l2, l3⟩ := hP.siz hr (W ++ tops (Ty.put (.fr S.dp.length) 0 b1)) (fun p hp => (k1 p (by rw [← hsv]; exact hp)).mono fun x hx => List.mem_append_left _ hx) (k2.mono fun x hx => List.mem_append_left _ hx) (fsI_tops fun x hx => List.mem_append_right _ hx)
        rw [List.length_append, tops_put rfl, pot_put rfl rfl rfl] at l2
        simp only [pot] at hpn
        exact ⟨W', fun x hx => l1 x (List.mem_append_left _ hx), by omega, l3⟩⟩
      · have := hP.dpl hr
        show S2.dp.length ≤ _
        omega
      · have := hP.tkl hr
        show S2.tk.length ≤ _
        rw [htl] at this; omega
      · obtain ⟨new, k1, k2⟩ := hP.snd hr
        refine ⟨new, by rw [← htl]; exact k1, fun κ θ hm => ?_⟩
        have hm2 : Mod κ S2 θ := hm.congr rfl rfl rfl
        have k3 := k2 κ θ hm2
        rw [hap hm2 (hP.ext hr), hwl] at k3
        show Sub (κ + S.way.length) (gi κ S2 θ a) (gi κ S2 θ b) _
        rw [hgb hm2 (hE2 hr)]
        exact Sub.gen k3
      · obtain ⟨l, hs⟩ := hs
        rw [hgb hm (Ext.refl S)] at hs
        have hm1 : Mod κ S1 θ := by rw [hS1]; exact (hm.push hI S.way.length none (fun _ _ => rfl) fun v e => by cases e).congr rfl rfl rfl
        have hs1 : SubE (κ + S1.way.length) (gi κ S1 θ a) (gi κ S1 θ (Ty.put (.fr S.dp.length) 0 b1)) := by
          rw [hap hm1 (Ext.refl S1), hwl, gi_ext hE1 ha.frs, gi_ext (t := b1) hE1 hball.frs]
          exact ⟨l, hs.inv_gen⟩
        obtain ⟨hr, θ', m', hag'⟩ := hP.cmp κ θ hm1 hs1
        exact ⟨hr, θ', m'.congr rfl rfl rfl, fun i hi => hag' i (by omega)⟩
end Go.Proofs.Ytjgnhhgigickaaa.Sv
/- Uses on right types: it ends, and what it says is reflexive, transitive, and of plain types equality. Conditions: right closed types of at most 12 nodes. -/

namespace Go.Proofs.Ytjgnhhgigickaaa.Sv
open Ty Go Wk Md

theorem toT_inj : ∀ {x y : Ty}, toT x = toT y → x = y
  | .var n, y, h => by cases y <;> simp [toT] at h; (congr 1; omega)
  | .nat, y, h => by cases y <;> simp [toT] at h; rfl
  | .fn a b, y, h => by
    cases y <;> simp [toT] at h
    rw [toT_inj h.1, toT_inj h.2]
  | .all a, y, h => by
    cases y <;> simp [toT] at h
    rw [toT_inj h]
  | .fr n, y, h => by cases y <;> simp [toT] at h; (congr 1; omega)
  | .ho n, y, h => by cases y <;> simp [toT] at h; (congr 1; omega)
/-- a right type as a type at work -/
structure CT (n : Nat) (t : Ty) : Prop where
  c : lc n t
  f : allF (fun _ => False) t
  h : allH (fun _ => False) t
theorem CT.wf {t : Ty} (h : CT 0 t) (n : Nat) : WF n t := ⟨h.c, h.f.mono fun _ x => x.elim, h.h⟩
theorem rgt_ty : ∀ (t : T) {d : Int}, 0 ≤ d → rgt d t → ∃ x, toT x = t ∧ CT d.toNat x ∧ sz x = nds t ∧ (Md.plain t = true ↔ Ty.plain x)
  | .mk k num [], d, hd, h => by
    unfold rgt at h
    rcases h.1 with ⟨rfl, hn, _⟩ | ⟨rfl, rfl, _⟩ | ⟨_, _, h2⟩ | ⟨_, _, h2⟩
    · exact ⟨.var num.toNat, by show T.mk 1 ((num.toNat : Nat) : Int) [] = _; rw [Int.toNat_of_nonneg hn.1], ⟨by show num.toNat < d.toNat; omega, trivial, trivial⟩, rfl, ⟨fun _ => trivial, fun _ => rfl⟩⟩
    · exact ⟨.nat, rfl, ⟨trivial, trivial, trivial⟩, rfl, ⟨fun _ => trivial, fun _ => rfl⟩⟩
    · cases h2
    · cases h2
  | .mk k num [a], d, hd, h => by
    unfold rgt at h
    rcases h.1 with ⟨_, _, h2⟩ | ⟨_, _, h2⟩ | ⟨_, _, h2⟩ | ⟨rfl, rfl, _⟩
    · cases h2
    · cases h2
    · simp at h2
    · have h2 := h.2
      rw [if_pos rfl] at h2; unfold rgts at h2
      obtain ⟨x, h1, h3, h4, h5⟩ := rgt_ty a (by omega) h2.1
      refine ⟨.all x, by show T.mk 4 0 [toT x] = _; rw [h1], ⟨?_, h3.f, h3.h⟩, ?_, ⟨fun h => by simp [Md.plain] at h, fun h => h.elim⟩⟩
      · have := h3.c
        rw [show (d + 1).toNat = d.toNat + 1 by omega] at this; exact this
      · show sz x + 1 = _
        rw [h4]; rw [nds_mk, ndss_cons]; rfl
  | .mk k num [a, b], d, hd, h => by
    unfold rgt at h
    rcases h.1 with ⟨_, _, h2⟩ | ⟨_, _, h2⟩ | ⟨rfl, rfl, _⟩ | ⟨_, _, h2⟩
    · cases h2
    · cases h2
    · have h2 := h.2
      rw [if_neg (by decide)] at h2; unfold rgts at h2
      obtain ⟨ha, h2⟩ := h2
      unfold rgts at h2
      obtain ⟨x, h1, h3, h4, h5⟩ := rgt_ty a hd ha
      obtain ⟨y, g1, g3, g4, g5⟩ := rgt_ty b hd h2.1
      refine ⟨.fn x y, by show T.mk 3 0 [toT x, toT y] = _; rw [h1, g1], ⟨⟨h3.c, g3.c⟩, ⟨h3.f, g3.f⟩, ⟨h3.h, g3.h⟩⟩, ?_, ?_⟩
      · show sz x + sz y + 1 = _
        rw [h4, g4, nds_mk, ndss_cons, ndss_cons]; show _ = nds a + (nds b + 0) + 1; omega
      · show _ ↔ (Ty.plain x ∧ Ty.plain y)
        rw [← h5, ← g5]; simp [Md.plain, Md.plains]
    · simp at h2
  | .mk k num (_ :: _ :: _ :: _), d, hd, h => by
    unfold rgt at h
    rcases h.1 with ⟨_, _, h2⟩ | ⟨_, _, h2⟩ | ⟨_, _, h2⟩ | ⟨_, _, h2⟩ <;> simp at h2
theorem same_eq : ∀ {x y : Ty}, Md.same (toT x) (toT y) = decide (x = y) := by
  intro x
  induction x with
  | var n => intro y; cases y <;> simp [Md.same, Md.sames] <;> (rw [Bool.eq_iff_iff]; simp; omega)
  | nat => intro y; cases y <;> simp [toT, Md.same, Md.sames]
  | fn a b iha ihb => intro y; cases y <;> simp [toT, Md.same, Md.sames, iha, ihb]
  | all a iha => intro y; cases y <;> simp [toT, Md.same, Md.sames, iha]
  | fr n => intro y; cases y <;> simp [Md.same, Md.sames] <;> (rw [Bool.eq_iff_iff]; simp; omega)
  | ho n => intro y; cases y <;> simp [Md.same, Md.sames] <;> (rw [Bool.eq_iff_iff]; simp; omega)

/-- a type can be used as another one -/
def Use (a b : T) : Prop := ∃ x y, toT x = a ∧ toT y = b ∧ SubE 0 x y
noncomputable def usB (a b : T) : Bool := @decide (Use a b) (Classical.propDecidable _)
theorem usB_true {a b : T} : usB a b = true ↔ Use a b := by unfold usB; simp
def S0 : AS := ⟨[], [], [], [], []⟩
theorem S0_inv : Inv S0 := ⟨trivial, rfl, (fun p hp => by cases hp), (fun p hp => by cases hp), (fun h hh => by cases hh)⟩
theorem S0_ip {t : Ty} (h : CT 0 t) : IP S0 S0.way t := ⟨h.c, h.f.mono fun _ x => x.elim, h.h.mono fun _ x => x.elim⟩
theorem CT.gi {t : Ty} (h : CT 0 t) {κ : Nat} {S : AS} {θ : Nat → Ty} : gi κ S θ t = t := (h.wf 0).inst_id' fun i hi => absurd hi (Nat.not_lt_zero _)
theorem S0_mod (κ : Nat) (θ : Nat → Ty) : Mod κ S0 θ := ⟨fun h v hv => by simp [S0] at hv, fun p hp => by cases hp⟩
theorem nq_sz : ∀ (t : Ty), qw t ≤ sz t
  | .fn a b => by
    have h1 := nq_sz a
    have h2 := nq_sz b
    simp only [qw, sz]; split <;> omega
  | .all a => by have := nq_sz a; simp only [qw, sz]; omega
  | .var _ => Nat.zero_le _
  | .nat => Nat.zero_le _
  | .fr _ => Nat.zero_le _
  | .ho _ => Nat.zero_le _
/-- the solver on two closed types -/
theorem solve0 (wt : Bool) {x y : Ty} (hx : CT 0 x) (hy : CT 0 y) (h1 : sz x ≤ 1000) (h2 : sz y ≤ 1000) : ∃ r S', Ev (fun f => Md.uses f (cSol wt S0) (toT x) (toT y) 0) (r, cSol wt S') ∧ Post S0 x y (qw x + qw y) r S' := by
  have hlim : lim = 1099511627776 := rfl
  have q1 := nq_sz x
  have q2 := nq_sz y
  exact claim wt (qw x + qw y) 0 _ S0 x y [] S0_inv (S0_ip hx) (S0_ip hy) rfl (fun h hh _ => absurd hh (Nat.not_lt_zero _)) rfl rfl ⟨by show 0 + _ < _; omega, by show 0 + _ < _; omega, by show 0 + _ < _; omega⟩
theorem solve0_iff {x y : Ty} {q : Nat} {r : Bool} {S' : AS} (hx : CT 0 x) (hy : CT 0 y) (hP : Post S0 x y q r S') : r = true ↔ SubE 0 x y := by
  constructor
  · intro hr
    obtain ⟨new, _, h⟩ := hP.snd hr
    have := h 0 _ (Mod.dflt (hP.inv hr))
    rw [hx.gi, hy.gi] at this
    exact ⟨_, this⟩
  · intro h
    refine (hP.cmp 0 (fun _ => .nat) (S0_mod _ _) ?_).1
    rw [hx.gi, hy.gi]; exact h
theorem closed_two {a b : T} (ha : Md.closed [a] = 0) (hb : Md.closed [b] = 0) : Md.closed [a, b] = 0 := by
  unfold Md.closed at ha ⊢
  split at ha
  · rename_i h; rw [if_pos h]; exact hb
  · rename_i h; rw [if_neg h]; exact absurd ha h
theorem uses_law {a b : T} (ha : rgt 0 a) (hb : rgt 0 b) (na : nds a ≤ 12) (nb : nds b ≤ 12) : ∃ f, Md.Uses f a b = some (usB a b, 0) := by
  obtain ⟨x, rfl, hx, sx, _⟩ := rgt_ty a (Int.le_refl _) ha
  obtain ⟨y, rfl, hy, sy, _⟩ := rgt_ty b (Int.le_refl _) hb
  obtain ⟨r, S', hev, hP⟩ := solve0 false hx hy (by omega) (by omega)
  obtain ⟨f, hf⟩ := hev.get
  refine ⟨f, ?_⟩
  unfold Md.Uses
  rw [closed_two (rgt_closed na ha) (rgt_closed nb hb), if_neg (by decide)]
  have e : Md.uses f (Md.start Md.Mode.unk) (toT x) (toT y) 0 = some (r, cSol false S') := hf
  rw [e]
  have : r = usB (toT x) (toT y) := by
    rw [Bool.eq_iff_iff, solve0_iff hx hy hP, usB_true]
    constructor
    · exact fun h => ⟨x, y, rfl, rfl, h⟩
    · rintro ⟨x', y', e1, e2, h⟩
      rw [toT_inj e1, toT_inj e2] at h; exact h
  rw [← this]; rfl
theorem usB_refl {a : T} (ha : rgt 0 a) : usB a a = true := by
  obtain ⟨x, rfl, hx, _, _⟩ := rgt_ty a (Int.le_refl _) ha
  exact usB_true.2 ⟨x, x, rfl, rfl, SubE.refl _ (Nat.le_refl _) (hx.wf 0)⟩
theorem usB_trans {a b c : T} (ha : rgt 0 a) (hb : rgt 0 b) (hc : rgt 0 c) (h1 : usB a b = true) (h2 : usB b c = true) : usB a c = true := by
  obtain ⟨x, rfl, hx, _, _⟩ := rgt_ty a (Int.le_refl _) ha
  obtain ⟨y, rfl, hy, _, _⟩ := rgt_ty b (Int.le_refl _) hb
  obtain ⟨z, rfl, hz, _, _⟩ := rgt_ty c (Int.le_refl _) hc
  obtain ⟨x1, y1, e1, e2, g1⟩ := usB_true.1 h1
  obtain ⟨y2, z1, e3, e4, g2⟩ := usB_true.1 h2
  rw [toT_inj e1, toT_inj e2] at g1
  rw [toT_inj e3, toT_inj e4] at g2
  exact usB_true.2 ⟨x, z, rfl, rfl, SubE.trans _ _ rfl rfl (hx.wf 0) (hy.wf 0) (hz.wf 0) g1 g2⟩
end Go.Proofs.Ytjgnhhgigickaaa.Sv
/- Shows on right types: a witness is accepted; cut off, or with one more, it is not. No program. Conditions: right closed types of at most 12 nodes. -/

namespace Go.Proofs.Ytjgnhhgigickaaa.Sv
open Ty Go Wk Md

/-! ### right types -/
mutual
theorem rt_rgt : ∀ (t : T) {n ar m : Int}, 0 ≤ n → n ≤ 26 → 0 ≤ ar → ar ≤ m → m ≤ 12 → (rtWalk n ar m t).1 = 0 → rgt (ar + n) t
  | .mk k num ks, n, ar, m, h0, h1, h2, h3, h4, h => by
    unfold rtWalk at h
    dsimp only at h
    split at h
    · rename_i hn
      have hr := rtNode_eq (ar := ar) (n := n) (k := k) (num := num) (len := ks.length) (wi := w64 (ar + n)) h4 rfl
      rw [hn] at hr
      have hw : w64 (ar + n) = ar + n := w64_id (by omega) (by omega)
      rw [hw] at hr
      split at hr
      · cases hr
      split at hr
      · cases hr
      split at hr
      · cases hr
      split at hr
      · cases hr
      rename_i c1 c2 c3 c4
      have hm : w64 (m + 1) = m + 1 := w64_id (by omega) (by omega)
      have ha : w64 (ar + 1) = ar + 1 := w64_id (by omega) (by omega)
      rw [hm, ha] at h
      unfold rgt
      refine ⟨?_, ?_⟩
      · have hk : k = 1 ∨ k = 2 ∨ k = 3 ∨ k = 4 := by omega
        rcases hk with rfl | rfl | rfl | rfl
        · have : (ks.length : Int) = 0 := by have := Decidable.not_not.1 c3; simpa [wantsR] using this
          exact .inl ⟨rfl, by omega, by omega⟩
        · have : (ks.length : Int) = 0 := by have := Decidable.not_not.1 c3; simpa [wantsR] using this
          exact .inr (.inl ⟨rfl, by omega, by omega⟩)
        · have : (ks.length : Int) = 2 := by have := Decidable.not_not.1 c3; simpa [wantsR] using this
          exact .inr (.inr (.inl ⟨rfl, by omega, by omega⟩))
        · have : (ks.length : Int) = 1 := by have := Decidable.not_not.1 c3; simpa [wantsR] using this
          exact .inr (.inr (.inr ⟨rfl, by omega, by omega⟩))
      · have := rts_rgt ks (n := n) (ar := if k = 4 then ar + 1 else ar) (m := m + 1) h0 h1 (by split <;> omega) (by split <;> omega) (by omega) h
        have e : (if k = 4 then ar + n + 1 else ar + n) = (if k = 4 then ar + 1 else ar) + n := by split <;> omega
        rw [e]; exact this
    · rename_i hn; exact absurd h hn
theorem rts_rgt : ∀ (ts : List T) {n ar m : Int}, 0 ≤ n → n ≤ 26 → 0 ≤ ar → ar ≤ m → m ≤ 12 → (rtList n ar m ts).1 = 0 → rgts (ar + n) ts
  | [], _, _, _, _, _, _, _, _, _ => by unfold rgts; trivial
  | t :: ts, n, ar, m, h0, h1, h2, h3, h4, h => by
    unfold rtList at h
    dsimp only at h
    split at h
    · rename_i hc
      obtain ⟨_, b, c, _⟩ := (rt_eq t (n := n) (ar := ar) (m := m) (wi := w64 (ar + n)) (by omega) h4 rfl).2 hc
      have := nds_pos t
      unfold rgts
      exact ⟨rt_rgt t h0 h1 h2 h3 h4 hc, rts_rgt ts h0 h1 h2 (by omega) c h⟩
    · rename_i hc; exact absurd h hc
end
theorem right_rgt {t : T} {n : Int} (h : Md.right t n = 0) : 0 ≤ n ∧ n ≤ 26 ∧ rgt n t := by
  unfold Md.right at h
  split at h
  · cases h
  · have := rt_rgt t (n := n) (ar := 0) (m := 0) (by omega) (by omega) (by decide) (by decide) (by decide) h
    exact ⟨by omega, by omega, by simpa using this⟩
mutual
/-- a right type that is too large -/
theorem rgt_much : ∀ (t : T) {n ar m : Int}, 0 ≤ n → n ≤ 26 → 0 ≤ ar → ar ≤ m → m ≤ 12 → 12 < m + (nds t : Int) → rgt (ar + n) t → (rtWalk n ar m t).1 = 2
  | .mk k num ks, n, ar, m, h0, h1, h2, h3, h4, h5, h => by
    rw [nds_mk] at h5
    unfold rgt at h
    obtain ⟨hk, hks⟩ := h
    unfold rtWalk
    dsimp only
    by_cases e : m = 12
    · have hn : rtNode ar n m k num ks.length = 2 := by unfold rtNode; rw [if_pos e]
      rw [hn]; rfl
    have hw : w64 (ar + n) = ar + n := w64_id (by omega) (by omega)
    have hm : w64 (m + 1) = m + 1 := w64_id (by omega) (by omega)
    have ha : w64 (ar + 1) = ar + 1 := w64_id (by omega) (by omega)
    have hn : rtNode ar n m k num ks.length = 0 := by
      rw [rtNode_eq (wi := ar + n) (by omega) hw.symm]
      rw [if_neg (by omega)]
      rw [if_neg (by omega), if_neg (by unfold wantsR; split <;> (try split) <;> omega), if_neg (by omega)]
    rw [if_pos hn, hm, ha]
    exact rgts_much ks (n := n) (ar := if k = 4 then ar + 1 else ar) (m := m + 1) h0 h1 (by split <;> omega) (by split <;> omega) (by omega) (by omega) (by
      have e : (if k = 4 then ar + 1 else ar) + n = (if k = 4 then ar + n + 1 else ar + n) := by split <;> omega
      rw [e]; exact hks)
theorem rgts_much : ∀ (ts : List T) {n ar m : Int}, 0 ≤ n → n ≤ 26 → 0 ≤ ar → ar ≤ m → m ≤ 12 → 12 < m + (ndss ts : Int) → rgts (ar + n) ts → (rtList n ar m ts).1 = 2
  | [], _, _, m, _, _, _, _, h4, h5, _ => by exfalso; unfold ndss at h5; simp at h5; omega
  | t :: ts, n, ar, m, h0, h1, h2, h3, h4, h5, h => by
    rw [ndss_cons] at h5
    unfold rgts at h
    unfold rtList
    dsimp only
    by_cases e : m + (nds t : Int) ≤ 12
    · have := nds_pos t
      rw [rgt_rt t h0 h1 h2 h3 e h.1, if_pos rfl]
      exact rgts_much ts h0 h1 h2 (by omega) e (by omega) h.2
    · have := rgt_much t h0 h1 h2 h3 h4 (by omega) h.1
      rw [this, if_neg (by decide)]; exact this
end
theorem right_much {t : T} {n : Int} (h0 : 0 ≤ n) (h1 : n ≤ 26) (h2 : 12 < nds t) (h : rgt n t) : Md.right t n = 2 := by
  unfold Md.right
  rw [if_neg (by omega)]
  exact rgt_much t h0 h1 (Int.le_refl _) (Int.le_refl _) (by decide) (by omega) (by simpa using h)
theorem ct_rgt : ∀ {t : Ty} {n : Nat}, CT n t → rgt (n : Int) (toT t) ∧ nds (toT t) = sz t
  | .var m, n, h => ⟨rgt_vr ⟨by omega, by have : m < n := h.c; omega⟩, rfl⟩
  | .nat, n, _ => ⟨rgt_nt, rfl⟩
  | .fn a b, n, h => by
    obtain ⟨ha, na⟩ := ct_rgt (t := a) (n := n) ⟨h.c.1, h.f.1, h.h.1⟩
    obtain ⟨hb, nb⟩ := ct_rgt (t := b) (n := n) ⟨h.c.2, h.f.2, h.h.2⟩
    exact ⟨rgt_fn ha hb, by show nds (Wk.fn (toT a) (toT b)) = _; rw [nds_fn, na, nb]; rfl⟩
  | .all a, n, h => by
    obtain ⟨ha, na⟩ := ct_rgt (t := a) (n := n + 1) ⟨h.c, h.f, h.h⟩
    exact ⟨rgt_al (by simpa using ha), by show nds (Wk.al (toT a)) = _; rw [nds_al, na]; rfl⟩
  | .fr _, _, h => h.f.elim
  | .ho _, _, h => h.h.elim
theorem plain_toT : ∀ {t : Ty}, Md.plain (toT t) = true ↔ Ty.plain t
  | .fn a b => by
    have h1 := plain_toT (t := a)
    have h2 := plain_toT (t := b)
    show _ ↔ (Ty.plain a ∧ Ty.plain b)
    rw [← h1, ← h2]; simp [Md.plain, Md.plains]
  | .all a => by simp [Md.plain, Ty.plain]
  | .var _ => by simp [Md.plain, Md.plains, Ty.plain]
  | .nat => by simp [Md.plain, Md.plains, Ty.plain]
  | .fr _ => by simp [Md.plain, Md.plains, Ty.plain]
  | .ho _ => by simp [Md.plain, Md.plains, Ty.plain]

/-! ### how many plain types a derivation takes -/
def taken : Bool → Ty → Nat
  | c, .fn a b => taken (!c) a + taken c b
  | c, .all a => (if c then 1 else 0) + taken c a
  | _, _ => 0
theorem taken_plain : ∀ {t : Ty} {c : Bool}, Ty.plain t → taken c t = 0
  | .fn _ _, _, ⟨x, y⟩ => by unfold taken; rw [taken_plain x, taken_plain y]
  | .all _, _, x => x.elim
  | .var _, _, _ => rfl
  | .nat, _, _ => rfl
  | .fr _, _, _ => rfl
  | .ho _, _, _ => rfl
theorem taken_put {u : Ty} (hu : Ty.plain u) : ∀ {t : Ty} {c : Bool} {n : Nat}, taken c (Ty.put u n t) = taken c t
  | .fn _ _, _, _ => by unfold Ty.put taken; rw [taken_put hu, taken_put hu]
  | .all _, _, _ => by unfold Ty.put taken; rw [taken_put hu]
  | .var m, c, n => by
    unfold Ty.put; split
    · rw [taken_plain hu]; rfl
    · rfl
  | .nat, _, _ => rfl
  | .fr _, _, _ => rfl
  | .ho _, _, _ => rfl
theorem Sub.len {n : Nat} {a b : Ty} {l : List (Ty × Nat)} (h : Sub n a b l) : l.length = taken true a + taken false b := by
  induction h with
  | nat => rfl
  | fr => rfl
  | fn _ _ ih1 ih2 => rw [List.length_append, ih1, ih2]; simp only [taken, Bool.not_true, Bool.not_false]; omega
  | gen _ ih => rw [ih, taken_put (by trivial)]; simp [taken]
  | ins _ hτ _ ih => rw [List.length_cons, ih, taken_put hτ.p]; simp [taken]; omega
theorem taken_sz : ∀ (t : Ty) (c : Bool), taken c t + 1 ≤ sz t
  | .fn a b, c => by
    have h1 := taken_sz a (!c)
    have h2 := taken_sz b c
    simp only [taken, sz]; omega
  | .all a, c => by
    have := taken_sz a c
    simp only [taken, sz]; split <;> omega
  | .var _, _ => Nat.le_refl _
  | .nat, _ => Nat.le_refl _
  | .fr _, _ => Nat.le_refl _
  | .ho _, _ => Nat.le_refl _

/-! ### levels as variables, and back -/
def unl (n : Nat) : Ty → Ty
  | .fr i => .var (n - 1 - i)
  | .fn a b => .fn (unl n a) (unl n b)
  | .all a => .all (unl n a)
  | t => t
def ard (w : List Nat) : Ty → Ty
  | .var k => .fr (w.getD (w.length - 1 - k) 0)
  | .fn a b => .fn (ard w a) (ard w b)
  | .all a => .all (ard w a)
  | t => t
theorem unl_ct {n : Nat} : ∀ {t : Ty}, Gnd n t → CT n (unl n t) ∧ Ty.plain (unl n t)
  | .fr i, h => ⟨⟨by have : i < n := h.l; show n - 1 - i < n; omega, trivial, trivial⟩, trivial⟩
  | .fn a b, h => by
    obtain ⟨x, y⟩ := unl_ct h.fn1
    obtain ⟨z, w⟩ := unl_ct h.fn2
    exact ⟨⟨⟨x.c, z.c⟩, ⟨x.f, z.f⟩, ⟨x.h, z.h⟩⟩, y, w⟩
  | .all _, h => h.p.elim
  | .var _, h => absurd h.c (Nat.not_lt_zero _)
  | .nat, _ => ⟨⟨trivial, trivial, trivial⟩, trivial⟩
  | .ho _, h => h.h.elim
theorem ard_plain {w : List Nat} : ∀ {t : Ty}, Ty.plain t → Ty.plain (ard w t)
  | .fn _ _, ⟨x, y⟩ => ⟨ard_plain x, ard_plain y⟩
  | .all _, x => x.elim
  | .var _, _ => trivial
  | .nat, _ => trivial
  | .fr _, _ => trivial
  | .ho _, _ => trivial
theorem ard_lc {w : List Nat} : ∀ {t : Ty} {n : Nat}, Ty.plain t → lc n (ard w t)
  | .fn _ _, _, ⟨x, y⟩ => ⟨ard_lc x, ard_lc y⟩
  | .all _, _, x => x.elim
  | .var _, _, _ => trivial
  | .nat, _, _ => trivial
  | .fr _, _, _ => trivial
  | .ho _, _, _ => trivial
theorem ard_h {w : List Nat} : ∀ {t : Ty}, allH (fun _ => False) t → allH (fun _ => False) (ard w t)
  | .fn _ _, ⟨x, y⟩ => ⟨ard_h x, ard_h y⟩
  | .all a, x => ard_h (t := a) x
  | .var _, _ => trivial
  | .nat, _ => trivial
  | .fr _, _ => trivial
  | .ho _, x => x
theorem ard_f {P : Nat → Prop} {w : List Nat} (hw : ∀ (i x : Nat), w[i]? = some x → P x) : ∀ {t : Ty}, Ty.plain t → lc w.length t → allF (fun _ => False) t → allF P (ard w t)
  | .fn _ _, ⟨x, y⟩, ⟨z, u⟩, ⟨f, g⟩ => ⟨ard_f hw x z f, ard_f hw y u g⟩
  | .all a, x, _, _ => x.elim
  | .var k, _, h, _ => by
    have h : k < w.length := h
    show P (w.getD (w.length - 1 - k) 0)
    refine hw (w.length - 1 - k) _ ?_
    rw [List.getD_eq_getElem?_getD, List.getElem?_eq_getElem (by omega)]; rfl
  | .nat, _, _, _ => trivial
  | .fr _, _, _, x => x.elim
  | .ho _, _, _, _ => trivial
theorem around_ev {w : List Nat} (hw : w.length < lim) : ∀ {t : Ty}, Ty.plain t → lc w.length t → allF (fun _ => False) t → allH (fun _ => False) t → Ev (fun f => Md.around f (w.map fun (x : Nat) => T.mk 5 (x : Int) []) (toT t) (w.length : Int)) (toT (ard w t))
  | .fn a b, ⟨x, y⟩, ⟨z, u⟩, ⟨f, g⟩, ⟨c, d⟩ => by
    obtain ⟨n1, h1⟩ := around_ev hw x z f c
    obtain ⟨n2, h2⟩ := around_ev hw y u g d
    refine ⟨max n1 n2 + 1, fun f hf => ?_⟩
    obtain ⟨k, rfl⟩ : ∃ k, f = k + 1 := ⟨f - 1, by omega⟩
    show (([toT a, toT b].mapM fun t => Md.around k (w.map fun (x : Nat) => T.mk 5 (x : Int) []) t (w.length : Int)).bind fun ks' => some (T.mk 3 0 ks')) = _
    have e1 := h1 k (by omega)
    have e2 := h2 k (by omega)
    simp only at e1 e2
    simp only [List.mapM_cons, List.mapM_nil, e1, e2]; rfl
  | .all a, x, _, _, _ => x.elim
  | .var k, _, h, _, _ => by
    have hlim : lim = 1099511627776 := rfl
    have h : k < w.length := h
    refine Ev.succ (G := fun _ => some (toT (ard w (.var k)))) (fun f => ?_) Ev.pure
    show Md.nth (w.map fun (x : Nat) => T.mk 5 (x : Int) []) (w64 (w64 ((w.length : Int) - 1) - (k : Int))) = _
    rw [w64_id (x := (w.length : Int) - 1) (by omega) (by omega), w64_id (by omega) (by omega)]
    unfold Md.nth
    rw [if_pos (by omega), show ((w.length : Int) - 1 - (k : Int)).toNat = w.length - 1 - k by omega, List.getElem?_map, List.getElem?_eq_getElem (by omega)]
    show some (T.mk 5 _ []) = some (T.mk 5 ((w.getD (w.length - 1 - k) 0 : Nat) : Int) [])
    rw [List.getD_eq_getElem?_getD, List.getElem?_eq_getElem (by omega)]; rfl
  | .nat, _, _, _, _ => Ev.succ (G := fun _ => some (toT .nat)) (fun f => rfl) Ev.pure
  | .fr _, _, _, x, _ => x.elim
  | .ho _, _, _, _, x => x.elim

/-! ### a solver that checks a witness -/
structure FS where
  dp : List Nat
  way : List Nat
def FS.lev (S : FS) (x : Nat) : Nat := S.dp.getD x 0
def cF (S : FS) (l : List T) : Sol where
  solved := []
  deep := S.dp.map fun (n : Nat) => (n : Int)
  way := S.way.map fun (x : Nat) => .mk 5 (x : Int) []
  md := .shw l
def wok (S : FS) : Prop := ∀ i x, S.way[i]? = some x → x < S.dp.length ∧ S.lev x = i
structure fp (S : FS) (t : Ty) : Prop where
  c : lc 0 t
  f : allF (fun x => x < S.dp.length ∧ S.way[S.lev x]? = some x) t
  h : allH (fun _ => False) t
def gF (S : FS) : Ty → Ty := inst (fun x => .fr (S.lev x)) .ho
theorem fp.fn1 {S : FS} {a b : Ty} (h : fp S (.fn a b)) : fp S a := ⟨h.c.1, h.f.1, h.h.1⟩
theorem fp.fn2 {S : FS} {a b : Ty} (h : fp S (.fn a b)) : fp S b := ⟨h.c.2, h.f.2, h.h.2⟩
theorem fp.put {S : FS} {a u : Ty} (h : fp S (.all a)) (hu : fp S u) : fp S (Ty.put u 0 a) := ⟨lc_put hu.c h.c, allF_put hu.f h.f, allH_put hu.h h.h⟩
theorem lev_app {S : FS} {m v : List Nat} {x : Nat} (h : x < S.dp.length) : (FS.mk (S.dp ++ m) v).lev x = S.lev x := by
  show (S.dp ++ m).getD x 0 = S.dp.getD x 0
  rw [List.getD_eq_getElem?_getD, List.getElem?_append_left h, ← List.getD_eq_getElem?_getD]
theorem fp.app {S : FS} {m v : List Nat} {t : Ty} (h : fp S t) : fp ⟨S.dp ++ m, S.way ++ v⟩ t :=
  ⟨h.c, h.f.mono fun x ⟨a, b⟩ => ⟨by show x < (S.dp ++ m).length; rw [List.length_append]; omega, by
    rw [lev_app a]
    show (S.way ++ v)[_]? = _
    rw [List.getElem?_append_left (List.getElem?_eq_some_iff.1 b).1]; exact b⟩, h.h⟩
theorem gF_app {S : FS} {m v : List Nat} {t : Ty} (h : fp S t) : gF ⟨S.dp ++ m, v⟩ t = gF S t :=
  inst_congr (h.f.mono fun x ⟨a, _⟩ => by show Ty.fr _ = Ty.fr _; rw [lev_app a]) (allH.triv fun _ => rfl)
theorem wok.app {S : FS} (h : wok S) (m : List Nat) : wok ⟨S.dp ++ m, S.way⟩ := fun i x hx => by
  obtain ⟨a, b⟩ := h i x hx
  exact ⟨by show x < (S.dp ++ m).length; rw [List.length_append]; omega, by rw [lev_app a]; exact b⟩
theorem gF_put {S : FS} {u t : Ty} {n : Nat} (h : allH (fun _ => False) t) : gF S (Ty.put u n t) = Ty.put (gF S u) n (gF S t) :=
  inst_put (allF.triv fun _ => trivial) (h.mono fun _ x => x.elim)
theorem gF_ard {S : FS} (hw : wok S) : ∀ {t : Ty}, Gnd S.way.length t → gF S (ard S.way (unl S.way.length t)) = t
  | .fr i, h => by
    have hi : i < S.way.length := h.l
    show Ty.fr (S.lev (S.way.getD (S.way.length - 1 - (S.way.length - 1 - i)) 0)) = _
    rw [show S.way.length - 1 - (S.way.length - 1 - i) = i by omega]
    have : S.way[i]? = some (S.way.getD i 0) := by rw [List.getD_eq_getElem?_getD, List.getElem?_eq_getElem hi]; rfl
    rw [(hw _ _ this).2]
  | .fn a b, h => by
    have h1 := gF_ard hw h.fn1
    have h2 := gF_ard hw h.fn2
    show Ty.fn (gF S (ard S.way (unl S.way.length a))) (gF S (ard S.way (unl S.way.length b))) = _
    exact (by rw [show gF S (ard S.way (unl S.way.length a)) = a from h1, show gF S (ard S.way (unl S.way.length b)) = b from h2])
  | .all _, h => h.p.elim
  | .var _, h => absurd h.c (Nat.not_lt_zero _)
  | .nat, _ => rfl
  | .ho _, h => h.h.elim
structure PostF (S : FS) (a b : Ty) (l : List T) (r : Bool) (S' : FS) (l' : List T) : Prop where
  way : r = true → S'.way = S.way
  dp : r = true → ∃ m, S'.dp = S.dp ++ m ∧ m.length ≤ nq a + nq b
  len : r = true → l.length = l'.length + (taken true a + taken false b)
  sfx : r = true → ∃ us, l = us ++ l'
  cmp : ∀ us rest L, l = us ++ rest → Sub S.way.length (gF S a) (gF S b) L → us = L.map (fun p => toT (unl p.2 p.1)) → r = true ∧ l' = rest
theorem PostF.fls {S S' : FS} {a b : Ty} {l l' : List T} (h : ∀ us rest L, l = us ++ rest → Sub S.way.length (gF S a) (gF S b) L → us = L.map (fun p => toT (unl p.2 p.1)) → False) : PostF S a b l false S' l' :=
  have e : ∀ {p : Prop}, false = true → p := fun h => Bool.noConfusion h
  ⟨e, e, e, e, fun us rest L h1 h2 h3 => (h us rest L h1 h2 h3).elim⟩
def OkL (l : List T) : Prop := ∀ t ∈ l, Md.right t 26 = 0
def ClaimF (q z : Nat) : Prop := ∀ (S : FS) (l : List T) (a b : Ty), wok S → fp S a → fp S b → OkL l → nq a + nq b = q → sz a + sz b = z → S.dp.length + q < lim → S.way.length + q ≤ 26 →
  ∃ r S' l', Ev (fun f => Md.uses f (cF S l) (toT a) (toT b) (S.way.length : Int)) (r, cF S' l') ∧ PostF S a b l r S' l'
theorem now0 (t : Ty) : Ev (fun f => Md.now f [] (toT t)) (toT t) := now_ev (sv := []) trivial t
theorem take_fls {S : FS} {l : List T} {d : Int} (h : ∀ t ts, l = t :: ts → Md.plain t = false ∨ Md.right t (min d 26) ≠ 0) (f : Nat) : Md.take f (cF S l) d = some ((t0, false), cF S l) := by
  unfold Md.take
  show (match l with | [] => some ((t0, false), cF S l) | t :: ts => _) = _
  cases l with
  | nil => rfl
  | cons t ts => exact if_pos (h t ts rfl)
theorem shw : ∀ q z, ClaimF q z := by
  intro q
  induction q using Nat.strongRecOn with
  | _ q ihq =>
  intro z
  induction z using Nat.strongRecOn with
  | _ z ihz =>
  have ih : ∀ q' z', q' < q ∨ q' = q ∧ z' < z → ClaimF q' z' := by
    rintro q' z' (h | ⟨rfl, h⟩)
    · exact ihq q' h z'
    · exact ihz z' h
  intro S l a b hw ha hb hl hq hz hB1 hB2
  have hlim : lim = 1099511627776 := rfl
  cases hall : isAll b with
  | true =>
    cases b with
    | all b1 =>
      simp only [nq] at hq; simp only [sz] at hz
      obtain ⟨S1, hS1⟩ : ∃ S1 : FS, S1 = ⟨S.dp ++ [S.way.length], S.way ++ [S.dp.length]⟩ := ⟨_, rfl⟩
      have hl1 : S1.lev S.dp.length = S.way.length := by
        rw [hS1]
        show (S.dp ++ [S.way.length]).getD S.dp.length 0 = _
        rw [List.getD_eq_getElem?_getD, List.getElem?_append_right (Nat.le_refl _)]; simp
      have hw1 : wok S1 := by
        intro i x hx
        rw [hS1] at hx
        by_cases hi : i < S.way.length
        · have hx : (S.way ++ [S.dp.length])[i]? = some x := hx
          rw [List.getElem?_append_left hi] at hx
          obtain ⟨p, r⟩ := hw i x hx
          rw [hS1]
          exact ⟨by show x < (S.dp ++ [S.way.length]).length; rw [List.length_append]; omega, by rw [lev_app p]; exact r⟩
        · have hx : (S.way ++ [S.dp.length])[i]? = some x := hx
          have hi2 : i = S.way.length := by
            have := (List.getElem?_eq_some_iff.1 hx).1
            rw [List.length_append] at this; simp at this; omega
          subst hi2
          rw [List.getElem?_append_right (Nat.le_refl _)] at hx
          have : x = S.dp.length := by simpa using hx.symm
          subst this
          exact ⟨by rw [hS1]; show S.dp.length < (S.dp ++ [S.way.length]).length; simp, hl1⟩
      have hv : fp S1 (.fr S.dp.length) := ⟨trivial, ⟨by rw [hS1]; show S.dp.length < (S.dp ++ [S.way.length]).length; simp, by rw [hl1, hS1]; show (S.way ++ [S.dp.length])[S.way.length]? = _; simp⟩, trivial⟩
      have ha1 : fp S1 a := by rw [hS1]; exact ha.app
      have hb1 : fp S1 (Ty.put (.fr S.dp.length) 0 b1) := fp.put (by rw [hS1]; exact hb.app) hv
      have hdl : S1.dp.length = S.dp.length + 1 := by rw [hS1]; simp
      have hwl : S1.way.length = S.way.length + 1 := by rw [hS1]; simp
      have hn1 : nq (Ty.put (.fr S.dp.length) 0 b1) = nq b1 := nq_put (by trivial)
      obtain ⟨r, S2, l', hev, hP⟩ := ih (q - 1) _ (.inl (by omega)) S1 l a (Ty.put (.fr S.dp.length) 0 b1) hw1 ha1 hb1 hl (by rw [hn1]; omega) rfl (by rw [hdl]; omega) (by rw [hwl]; omega)
      refine ⟨r, ⟨S2.dp, S.way⟩, l', Ev.succ (fun f => uses_eq) (Ev.bind (now0 (.all b1)) ?_), ?_⟩
      · refine Ev.congr (fun f => if_pos rfl) ?_
        refine Ev.congr (G := fun f => (Md.uses f (cF S1 l) (toT a) (toT (Ty.put (.fr S.dp.length) 0 b1)) (S1.way.length : Int)).bind fun x => some (x.1, { x.2 with way := (cF S l).way })) (fun f => ?_) (Ev.bind hev (Ev.congr (fun f => by rfl) Ev.pure))
        have e1 : Md.newer (cF S l) 5 (S.way.length : Int) = some (toT (.fr S.dp.length), cF ⟨S.dp ++ [S.way.length], S.way⟩ l) := by
          unfold Md.newer
          rw [if_pos (by simp [cF]; omega)]
          simp [cF, toT]
        rw [e1, Option.bind_some, opn_eq (by omega), Option.bind_some, w64_id (by omega) (by omega), show ((S.way.length : Int) + 1) = (S1.way.length : Int) by omega]
        have e : ({ cF ⟨S.dp ++ [S.way.length], S.way⟩ l with way := (cF S l).way ++ [toT (.fr S.dp.length)] } : Sol) = cF S1 l := by
          rw [hS1]; simp [cF]
        rw [← e]
      · refine ⟨fun _ => rfl, fun hr => ?_, fun hr => ?_, hP.sfx, fun us rest L h1 h2 h3 => ?_⟩
        · obtain ⟨m, e, hm⟩ := hP.dp hr
          refine ⟨S.way.length :: m, by show S2.dp = _; rw [e, hS1]; simp, ?_⟩
          rw [hn1] at hm
          simp only [List.length_cons, nq]; omega
        · have := hP.len hr
          rw [taken_put (by trivial)] at this
          simp only [taken]; simpa using this
        · refine hP.cmp us rest L h1 ?_ h3
          have h2 := h2.inv_gen (b := gF S b1)
          rw [hwl]
          have e1 : gF S1 a = gF S a := by rw [hS1]; exact gF_app ha
          have e2 : gF S1 (Ty.put (.fr S.dp.length) 0 b1) = Ty.put (.fr S.way.length) 0 (gF S b1) := by
            rw [gF_put (t := b1) hb.h]
            have e3 : gF S1 (.fr S.dp.length) = .fr S.way.length := by show Ty.fr _ = _; rw [hl1]
            have e4 : gF S1 (.all b1) = gF S (.all b1) := by rw [hS1]; exact gF_app hb
            have e5 : gF S1 b1 = gF S b1 := Ty.all.inj e4
            rw [e3, e5]
          rw [e1, e2]; exact h2
    | _ => cases hall
  | false =>
    -- b is no quantifier
    have hb0 : isAll (gF S b) = false := isAll_inst hall (allF.triv fun _ => trivial) (hb.h.mono fun _ x => x.elim)
    have start : ∀ {r : Bool} {S' : FS} {l' : List T}, Ev (fun f => Md.usesT f (cF S l) (toT a) (toT b) (S.way.length : Int)) (r, cF S' l') → Ev (fun f => Md.uses f (cF S l) (toT a) (toT b) (S.way.length : Int)) (r, cF S' l') := by
      intro r S' l' h
      refine Ev.succ (fun f => uses_eq) (Ev.bind (now0 b) ?_)
      exact Ev.congr (fun f => if_neg (kind_all hall)) (Ev.bind (now0 a) h)
    cases eall : isAll a with
    | true =>
      cases a with
      | all a1 =>
        simp only [nq] at hq; simp only [sz] at hz
        by_cases hbad : ∀ t ts, l = t :: ts → Md.plain t = false ∨ Md.right t (min (S.way.length : Int) 26) ≠ 0
        · refine ⟨false, S, l, start (Ev.succ (fun f => usesT_eq) ?_), PostF.fls fun us rest L h1 h2 h3 => ?_⟩
          · refine Ev.congr (G := fun _ => some (false, cF S l)) (fun f => ?_) Ev.pure
            refine (if_pos rfl).trans ?_
            rw [take_fls hbad]; rfl
          · obtain ⟨τ, L', rfl, hτ, h2⟩ := Sub.inv_ins (a := gF S a1) h2 hb0
            subst h3
            rcases hbad _ _ h1 with e | e
            · have := plain_toT.2 (unl_ct hτ).2
              rw [this] at e; cases e
            · refine e ?_
              have hr := hl (toT (unl S.way.length τ)) (by rw [h1]; simp)
              rw [show min (S.way.length : Int) 26 = (S.way.length : Int) by omega]
              exact rgt_right (by omega) (by omega) (right_wf hr).2 (ct_rgt (unl_ct hτ).1).1
        · obtain ⟨t, ts, rfl, hp, hr⟩ : ∃ t ts, l = t :: ts ∧ Md.plain t = true ∧ Md.right t (S.way.length : Int) = 0 := by
            cases l with
            | nil => exact absurd (fun t ts e => by cases e) hbad
            | cons t ts =>
              refine ⟨t, ts, rfl, ?_⟩
              rw [show min (S.way.length : Int) 26 = (S.way.length : Int) by omega] at hbad
              refine ⟨?_, ?_⟩
              · cases e : Md.plain t with
                | true => rfl
                | false => exact absurd (fun t' ts' e' => by cases e'; exact .inl e) hbad
              · by_cases e : Md.right t (S.way.length : Int) = 0
                · exact e
                · exact absurd (fun t' ts' e' => by cases e'; exact .inr e) hbad
          obtain ⟨u, rfl, hu, su, pu⟩ := rgt_ty t (d := (S.way.length : Int)) (by omega) (right_rgt hr).2.2
          rw [Int.toNat_natCast] at hu
          have pu := pu.1 hp
          have hpa : Ty.plain (ard S.way u) := ard_plain pu
          have hfa : fp S (ard S.way u) := ⟨ard_lc pu, ard_f (fun i x hx => by
            obtain ⟨p, r⟩ := hw i x hx
            exact ⟨p, by rw [r]; exact hx⟩) pu hu.c hu.f, ard_h hu.h⟩
          have hn1 : nq (Ty.put (ard S.way u) 0 a1) = nq a1 := nq_put hpa
          obtain ⟨r, S', l', hev, hP⟩ := ih (q - 1) _ (.inl (by omega)) S ts (Ty.put (ard S.way u) 0 a1) b hw (ha.put hfa) hb (fun t ht => hl t (List.mem_cons_of_mem _ ht)) (by rw [hn1]; omega) rfl (by omega) (by omega)
          refine ⟨r, S', l', start (Ev.succ (fun f => usesT_eq) ?_), hP.way, fun hr => ?_, fun hr => ?_, fun hr => ?_, fun us rest L h1 h2 h3 => ?_⟩
          · refine Ev.congr (G := fun f => (Md.take f (cF S (toT u :: ts)) (S.way.length : Int)).bind fun r => if r.1.2 = false then some (false, r.2)
              else (opn (toT (.all a1)) r.1.1).bind fun a => (Md.now f r.2.solved a).bind fun a => Md.usesT f r.2 a (toT b) (S.way.length : Int)) (fun f => if_pos rfl) ?_
            have htake : Ev (fun f => Md.take f (cF S (toT u :: ts)) (S.way.length : Int)) ((toT (ard S.way u), true), cF S ts) := by
              refine Ev.congr (G := fun f => (Md.around f (S.way.map fun (x : Nat) => T.mk 5 (x : Int) []) (toT u) (S.way.length : Int)).bind fun u => some ((u, true), cF S ts)) (fun f => ?_) (Ev.bind (around_ev (by omega) pu hu.c hu.f hu.h) Ev.pure)
              refine if_neg ?_
              rw [show min (S.way.length : Int) 26 = (S.way.length : Int) by omega, hp, hr]; simp
            refine Ev.bind htake ?_
            refine Ev.congr (G := fun f => (Md.now f [] (toT (Ty.put (ard S.way u) 0 a1))).bind fun a => Md.usesT f (cF S ts) a (toT b) (S.way.length : Int)) (fun f => ?_) ?_
            · refine (if_neg (fun e : true = false => Bool.noConfusion e)).trans ?_
              show (opn (toT (.all a1)) (toT (ard S.way u))).bind _ = _
              rw [opn_eq (by omega), Option.bind_some]; rfl
            · have h1 := Ev.pred (fun f => uses_eq) hev
              have h2 := Ev.unbind (F := fun f => Md.now f [] (toT b)) (now0 b) h1
              exact Ev.congr (fun f => (if_neg (kind_all hall)).symm) h2
          · obtain ⟨m, e, hm⟩ := hP.dp hr
            exact ⟨m, e, by rw [hn1] at hm; simp only [nq]; omega⟩
          · have := hP.len hr
            rw [taken_put hpa] at this
            simp only [List.length_cons, taken, this]; simp; omega
          · obtain ⟨us, e⟩ := hP.sfx hr
            exact ⟨toT u :: us, by rw [e]; rfl⟩
          · obtain ⟨τ, L', rfl, hτ, h2⟩ := Sub.inv_ins (a := gF S a1) h2 hb0
            subst h3
            simp only [List.map_cons, List.cons_append, List.cons.injEq] at h1
            obtain ⟨e1, e2⟩ := h1
            have e1 := toT_inj e1
            refine hP.cmp _ rest L' e2 ?_ rfl
            rw [gF_put (t := a1) ha.h, e1, gF_ard hw hτ]
            exact h2
      | _ => cases eall
    | false =>
      have hka := kind_all eall
      have go : ∀ {G : Nat → Option (Bool × Sol)} {r : Bool} {S' : FS} {l' : List T}, (∀ f, (if (toT a).kind = 6 then Md.filled f (cF S l) (toT a) (toT b) true (S.way.length : Int)
          else if (toT b).kind = 6 then Md.filled f (cF S l) (toT b) (toT a) false (S.way.length : Int)
          else if (toT a).kind ≠ (toT b).kind then some (false, cF S l)
          else if (toT a).kind = 3 then
            match (toT a).kids, (toT b).kids with
            | a0 :: a1 :: _, b0 :: b1 :: _ => (Md.uses f (cF S l) b0 a0 (S.way.length : Int)).bind fun r => if r.1 then Md.uses f r.2 a1 b1 (S.way.length : Int) else some (false, r.2)
            | _, _ => none
          else some ((toT a).num == (toT b).num, cF S l)) = G f) → Ev G (r, cF S' l') → Ev (fun f => Md.uses f (cF S l) (toT a) (toT b) (S.way.length : Int)) (r, cF S' l') := by
        intro G r S' l' e h
        refine start (Ev.succ (fun f => usesT_eq) (Ev.congr (fun f => if_neg hka) (Ev.bind (now0 b) ?_)))
        exact Ev.congr e h
      have hbad : (∀ L, Sub S.way.length (gF S a) (gF S b) L → False) → (∀ f : Nat, (if (toT a).kind = 6 then Md.filled f (cF S l) (toT a) (toT b) true (S.way.length : Int)
          else if (toT b).kind = 6 then Md.filled f (cF S l) (toT b) (toT a) false (S.way.length : Int)
          else if (toT a).kind ≠ (toT b).kind then some (false, cF S l)
          else if (toT a).kind = 3 then
            match (toT a).kids, (toT b).kids with
            | a0 :: a1 :: _, b0 :: b1 :: _ => (Md.uses f (cF S l) b0 a0 (S.way.length : Int)).bind fun r => if r.1 then Md.uses f r.2 a1 b1 (S.way.length : Int) else some (false, r.2)
            | _, _ => none
          else some ((toT a).num == (toT b).num, cF S l)) = some (false, cF S l)) → ∃ r S' l', Ev (fun f => Md.uses f (cF S l) (toT a) (toT b) (S.way.length : Int)) (r, cF S' l') ∧ PostF S a b l r S' l' :=
        fun h e => ⟨false, S, l, go e Ev.pure, PostF.fls fun _ _ L _ h2 _ => h L h2⟩
      have good : (taken true a + taken false b = 0) → (∀ L, Sub S.way.length (gF S a) (gF S b) L → L = []) → PostF S a b l true S l :=
        fun h0 h => ⟨fun _ => rfl, fun _ => ⟨[], by simp, by simp⟩, fun _ => by omega, fun _ => ⟨[], rfl⟩, fun us rest L h1 h2 h3 => ⟨rfl, by rw [h L h2] at h3; subst h3; simpa using h1⟩⟩
      cases a with
      | all a1 => cases eall
      | var n => exact absurd ha.c (Nat.not_lt_zero _)
      | ho h => exact ha.h.elim
      | nat =>
        cases b with
        | all _ => cases hall
        | var n => exact absurd hb.c (Nat.not_lt_zero _)
        | ho h => exact hb.h.elim
        | nat => exact ⟨true, S, l, go (G := fun _ => some (true, cF S l)) (fun f => rfl) Ev.pure, good rfl fun L h => by cases (show Sub _ .nat .nat L from h); rfl⟩
        | fn b0 b1 => exact hbad (fun L hs => by cases (show Sub _ .nat (.fn _ _) L from hs)) fun f => rfl
        | fr i => exact hbad (fun L hs => by cases (show Sub _ .nat (.fr _) L from hs)) fun f => rfl
      | fr i =>
        cases b with
        | all _ => cases hall
        | var n => exact absurd hb.c (Nat.not_lt_zero _)
        | ho h => exact hb.h.elim
        | nat => exact hbad (fun L hs => by cases (show Sub _ (.fr _) .nat L from hs)) fun f => rfl
        | fn b0 b1 => exact hbad (fun L hs => by cases (show Sub _ (.fr _) (.fn _ _) L from hs)) fun f => rfl
        | fr j =>
          by_cases e : i = j
          · subst e
            refine ⟨true, S, l, go (G := fun _ => some (true, cF S l)) (fun f => by show some (((i : Int) == (i : Int)), cF S l) = _; rw [beq_self_eq_true]) Ev.pure, good rfl fun L h => ?_⟩
            have h : Sub S.way.length (.fr (S.lev i)) (.fr (S.lev i)) L := h
            cases h; rfl
          · refine hbad (fun L hs => ?_) fun f => by show some (((i : Int) == (j : Int)), cF S l) = _; rw [show ((i : Int) == (j : Int)) = false by simpa using fun h : (i : Int) = (j : Int) => e (by omega)]
            have hi : i < S.dp.length ∧ S.way[S.lev i]? = some i := ha.f
            have hj : j < S.dp.length ∧ S.way[S.lev j]? = some j := hb.f
            have : S.lev i = S.lev j := by
              have hs' : Sub S.way.length (.fr (S.lev i)) (.fr (S.lev j)) L := hs
              generalize S.lev i = x at hs'
              generalize S.lev j = y at hs'
              cases hs'; rfl
            have h1 := hi.2
            rw [this, hj.2] at h1
            exact e (Option.some.inj h1).symm
      | fn a0 a1 =>
        cases b with
        | all _ => cases hall
        | var n => exact absurd hb.c (Nat.not_lt_zero _)
        | ho h => exact hb.h.elim
        | nat => exact hbad (fun L hs => by cases (show Sub _ (.fn _ _) .nat L from hs)) fun f => rfl
        | fr i => exact hbad (fun L hs => by cases (show Sub _ (.fn _ _) (.fr _) L from hs)) fun f => rfl
        | fn b0 b1 =>
          simp only [nq] at hq; simp only [sz] at hz
          obtain ⟨r1, S1, l1, he1, p1⟩ := ih (nq b0 + nq a0) (sz b0 + sz a0) (by omega) S l b0 a0 hw hb.fn1 ha.fn1 hl rfl rfl (by omega) (by omega)
          cases r1 with
          | false =>
            refine ⟨false, S1, l1, go (fun f => rfl) (Ev.bind he1 Ev.pure), PostF.fls fun us rest L h1 h2 h3 => ?_⟩
            obtain ⟨_, _, L1, L2, e, rfl, h2, _⟩ := Sub.inv_fn (b := .fn (gF S b0) (gF S b1)) (a0 := gF S a0) (a1 := gF S a1) h2 rfl
            cases e
            rw [List.map_append] at h3
            subst h3
            have := (p1.cmp _ _ L1 (by rw [h1, List.append_assoc]) h2 rfl).1
            cases this
          | true =>
            obtain ⟨m1, e1, hm1⟩ := p1.dp rfl
            have ew := p1.way rfl
            obtain ⟨us1, eu⟩ := p1.sfx rfl
            have hS1 : S1 = ⟨S.dp ++ m1, S.way ++ []⟩ := by cases S1; simp only [List.append_nil] at *; rw [← e1, ← ew]
            have hw1 : wok S1 := by rw [hS1, List.append_nil]; exact hw.app m1
            obtain ⟨r2, S2, l2, he2, p2⟩ := ih (nq a1 + nq b1) (sz a1 + sz b1) (by omega) S1 l1 a1 b1 hw1 (by rw [hS1]; exact ha.fn2.app) (by rw [hS1]; exact hb.fn2.app) (fun t ht => hl t (by rw [eu]; exact List.mem_append_right _ ht)) rfl rfl (by rw [e1, List.length_append]; omega) (by rw [ew]; omega)
            rw [ew] at he2
            have g1 : gF S1 a1 = gF S a1 := by rw [hS1]; exact gF_app ha.fn2
            have g2 : gF S1 b1 = gF S b1 := by rw [hS1]; exact gF_app hb.fn2
            refine ⟨r2, S2, l2, go (fun f => rfl) (Ev.bind he1 (Ev.congr (fun f => if_pos rfl) he2)), fun hr => (p2.way hr).trans ew, fun hr => ?_, fun hr => ?_, fun hr => ?_, fun us rest L h1 h2 h3 => ?_⟩
            · obtain ⟨m2, e2, hm2⟩ := p2.dp hr
              exact ⟨m1 ++ m2, by rw [e2, e1, List.append_assoc], by rw [List.length_append]; simp only [nq]; omega⟩
            · have k1 := p1.len rfl
              have k2 := p2.len hr
              simp only [taken, Bool.not_true, Bool.not_false]; omega
            · obtain ⟨us2, e2⟩ := p2.sfx hr
              exact ⟨us1 ++ us2, by rw [eu, e2, List.append_assoc]⟩
            · obtain ⟨_, _, L1, L2, e, rfl, h2, h4⟩ := Sub.inv_fn (b := .fn (gF S b0) (gF S b1)) (a0 := gF S a0) (a1 := gF S a1) h2 rfl
              cases e
              rw [List.map_append] at h3
              subst h3
              have k1 := (p1.cmp _ _ L1 (by rw [h1, List.append_assoc]) h2 rfl).2
              exact p2.cmp _ rest L2 k1 (by rw [ew, g1, g2]; exact h4) rfl
end Go.Proofs.Ytjgnhhgigickaaa.Sv
/- What 'written' writes on a state; Witness and Shows on right types. Conditions: each theorem's own. -/

namespace Go.Proofs.Ytjgnhhgigickaaa.Sv
open Ty Go Wk Md

/-! ### written -/
def wr (S : AS) (l : List (Nat × Nat)) : Nat → Ty → Ty
  | d, .fr x => .var (d - 1 - S.lev x)
  | d, .ho i => match l.lookup i with | some n => .var (d + l.length - 1 - n) | none => .nat
  | d, .fn a b => .fn (wr S l d a) (wr S l d b)
  | d, .all a => .all (wr S l (d + 1) a)
  | _, .var n => .var n
  | _, .nat => .nat
def chs (l : List (Nat × Nat)) : List (Int × Int) := l.map fun p => ((p.1 : Int), (p.2 : Int))
theorem lkp_chs : ∀ (l : List (Nat × Nat)) (i : Nat), lkp (chs l) (i : Int) = (l.lookup i).map fun (n : Nat) => (n : Int)
  | [], _ => rfl
  | (k, v) :: l, i => by
    show (bif (i : Int) == (k : Int) then some (v : Int) else lkp (chs l) i) = ((match i == k with | true => some v | false => l.lookup i)).map _
    by_cases e : i = k
    · subst e; simp
    · rw [show ((i : Int) == (k : Int)) = false by simpa using fun h : (i : Int) = (k : Int) => e (by omega), show (i == k) = false by simpa using e]
      exact lkp_chs l i
theorem lookup_mem : ∀ {l : List (Nat × Nat)} {i n : Nat}, l.lookup i = some n → (i, n) ∈ l
  | (k, v) :: l, i, n, h => by
    have h : (match i == k with | true => some v | false => l.lookup i) = some n := h
    by_cases e : i = k
    · subst e
      have : (i == i) = true := by simp
      rw [this] at h
      cases h; exact List.mem_cons_self ..
    · rw [show (i == k) = false by simpa using e] at h
      exact List.mem_cons_of_mem _ (lookup_mem h)
theorem written_eq {f : Nat} {s : Sol} {t : T} {d : Int} {hs : Option (List (Int × Int))} : Md.written (f + 1) s t d hs = (Md.now f s.solved t).bind fun t =>
      if t.kind = 5 then (nth s.deep t.num).bind fun x => some (.mk 1 (w64 (w64 (d - 1) - x)) [])
      else if t.kind = 6 then
        (match lkp (hs.getD []) t.num with
        | some n => some (.mk 1 (w64 (w64 (w64 (d + ((hs.getD []).length : Int)) - 1) - n)) [])
        | none => some (.mk 2 0 []))
      else (t.kids.mapM fun k => Md.written f s k (if t.kind = 4 then w64 (d + 1) else d) hs).bind fun ks => some (.mk t.kind t.num ks) := rfl
theorem written_ev {wt : Bool} {S : AS} (hok : Ok S.sv) {hs : Option (List (Int × Int))} {l : List (Nat × Nat)} (hl : hs.getD [] = chs l) (hn : ∀ i n, (i, n) ∈ l → n < l.length) (hlen : l.length < lim) :
    ∀ (z : Nat) (t : Ty) (d : Nat), Ty.sz (R S.sv t) ≤ z → d + nq (R S.sv t) < lim → allF (fun x => x < S.dp.length ∧ S.lev x < d) (R S.sv t) → Ev (fun f => Md.written f (cSol wt S) (toT t) (d : Int) hs) (toT (wr S l d (R S.sv t))) := by
  have hlim : lim = 1099511627776 := rfl
  intro z
  induction z with
  | zero => intro t d hz; exfalso; revert hz; cases R S.sv t <;> simp [Ty.sz]
  | succ z ih =>
    intro t d hz hd hf
    refine Ev.succ (fun f => written_eq) (Ev.bind (now_ev hok t) ?_)
    rw [R_head hok t] at hz hf hd ⊢
    have hfree : ∀ i, nowA S.sv t = .ho i → i ∉ dom S.sv := fun i e => now_free hok e
    cases e : nowA S.sv t with
    | fn a b =>
      rw [e, R_fn] at hz hf hd; simp only [Ty.sz] at hz; simp only [nq] at hd
      rw [R_fn]
      obtain ⟨n1, h1⟩ := ih a d (by omega) (by omega) hf.1
      obtain ⟨n2, h2⟩ := ih b d (by omega) (by omega) hf.2
      refine ⟨max n1 n2, fun f hf => ?_⟩
      show (([toT a, toT b].mapM fun k => Md.written f (cSol wt S) k (d : Int) hs).bind fun ks => some (T.mk 3 0 ks)) = _
      have e1 := h1 f (by omega)
      have e2 := h2 f (by omega)
      simp only at e1 e2
      simp only [List.mapM_cons, List.mapM_nil, e1, e2]; rfl
    | all a =>
      rw [e, R_all] at hz hf hd; simp only [Ty.sz] at hz; simp only [nq] at hd
      rw [R_all]
      obtain ⟨n1, h1⟩ := ih a (d + 1) (by omega) (by omega) (hf.mono fun x ⟨p, q⟩ => ⟨p, by omega⟩)
      refine ⟨n1, fun f hf => ?_⟩
      show (([toT a].mapM fun k => Md.written f (cSol wt S) k (w64 ((d : Int) + 1)) hs).bind fun ks => some (T.mk 4 0 ks)) = _
      have e1 := h1 f (by omega)
      rw [w64_id (by omega) (by omega), show ((d : Int) + 1) = ((d + 1 : Nat) : Int) by omega]
      simp only at e1
      simp only [List.mapM_cons, List.mapM_nil, e1]; rfl
    | ho i =>
      rw [e, R_free (hfree i e)] at hd; simp only [nq] at hd
      rw [R_free (hfree i e)]
      refine Ev.congr (G := fun _ => some (toT (wr S l d (.ho i)))) (fun f => ?_) Ev.pure
      show (match lkp (hs.getD []) (i : Int) with | some n => some (T.mk 1 (w64 (w64 (w64 ((d : Int) + ((hs.getD []).length : Int)) - 1) - n)) []) | none => some (.mk 2 0 [])) = _
      rw [hl, lkp_chs]
      show _ = some (toT (match l.lookup i with | some n => .var (d + l.length - 1 - n) | none => .nat))
      cases h : l.lookup i with
      | none => rfl
      | some n =>
        have h1 := hn i n (lookup_mem h)
        have h2 : (chs l).length = l.length := by simp [chs]
        show some (T.mk 1 (w64 (w64 (w64 ((d : Int) + ((chs l).length : Int)) - 1) - (n : Int))) []) = some (T.mk 1 ((d + l.length - 1 - n : Nat) : Int) [])
        rw [h2, w64_id (x := (d : Int) + (l.length : Int)) (by omega) (by omega), w64_id (x := (d : Int) + (l.length : Int) - 1) (by omega) (by omega), w64_id (by omega) (by omega)]
        congr 2; omega
    | fr i =>
      rw [e, R_fr] at hf hd; simp only [nq] at hd
      rw [R_fr]
      have hf : i < S.dp.length ∧ S.lev i < d := hf
      refine Ev.congr (G := fun _ => some (toT (wr S l d (.fr i)))) (fun f => ?_) Ev.pure
      show (nth (S.dp.map fun (n : Nat) => (n : Int)) (i : Int)).bind (fun x => some (T.mk 1 (w64 (w64 ((d : Int) - 1) - x)) [])) = some (T.mk 1 ((d - 1 - S.dp.getD i 0 : Nat) : Int) [])
      have h2 : S.dp.getD i 0 < d := hf.2
      rw [nth_dp hf.1, Option.bind_some, w64_id (x := (d : Int) - 1) (by omega) (by omega), w64_id (by omega) (by omega)]
      congr 2; omega
    | nat => rw [R_nat]; exact Ev.congr (G := fun f => some (.mk 2 0 [])) (fun f => rfl) Ev.pure
    | var i => rw [R_var]; exact Ev.congr (G := fun f => some (.mk 1 (i : Int) [])) (fun f => rfl) Ev.pure
theorem wr_unl {S : AS} {d : Nat} : ∀ {t : Ty}, Ty.plain t → wr S [] d t = unl d (inst (fun x => .fr (0 + S.lev x)) (fun _ => .nat) t)
  | .fn a b, ⟨x, y⟩ => by
    have h1 := wr_unl (S := S) (d := d) x
    have h2 := wr_unl (S := S) (d := d) y
    show Ty.fn (wr S [] d a) (wr S [] d b) = _
    rw [h1, h2]; rfl
  | .all _, x => x.elim
  | .fr i, _ => by show Ty.var _ = Ty.var _; rw [Nat.zero_add]
  | .ho i, _ => rfl
  | .var _, _ => rfl
  | .nat, _ => rfl

/-! ### the levels in a derivation -/
theorem Sub.bnd {n : Nat} {a b : Ty} {l : List (Ty × Nat)} (h : Sub n a b l) : ∀ p ∈ l, Gnd p.2 p.1 ∧ p.2 ≤ n + nq a + nq b := by
  induction h with
  | nat => exact fun p hp => by cases hp
  | fr => exact fun p hp => by cases hp
  | fn _ _ ih1 ih2 =>
    intro p hp
    rcases List.mem_append.1 hp with hp | hp
    · obtain ⟨x, y⟩ := ih1 p hp
      exact ⟨x, by simp only [nq]; omega⟩
    · obtain ⟨x, y⟩ := ih2 p hp
      exact ⟨x, by simp only [nq]; omega⟩
  | gen _ ih =>
    intro p hp
    obtain ⟨x, y⟩ := ih p hp
    rw [nq_put (by trivial)] at y
    exact ⟨x, by simp only [nq]; omega⟩
  | ins _ hτ _ ih =>
    intro p hp
    rcases List.mem_cons.1 hp with rfl | hp
    · exact ⟨hτ, by simp only; omega⟩
    · obtain ⟨x, y⟩ := ih p hp
      rw [nq_put hτ.p] at y
      exact ⟨x, by simp only [nq]; omega⟩
theorem mapM_ev {α β : Type} {F : Nat → α → Option β} {g : α → β} : ∀ (l : List α), (∀ x, x ∈ l → Ev (fun f => F f x) (g x)) → Ev (fun f => l.mapM (F f)) (l.map g)
  | [], _ => ⟨0, fun _ _ => by simp⟩
  | x :: l, h => by
    obtain ⟨n1, h1⟩ := h x (List.mem_cons_self ..)
    obtain ⟨n2, h2⟩ := mapM_ev l fun y hy => h y (List.mem_cons_of_mem _ hy)
    refine ⟨max n1 n2, fun f hf => ?_⟩
    have e1 := h1 f (by omega)
    have e2 := h2 f (by omega)
    simp only at e1 e2
    simp only [List.mapM_cons, e1, e2]; rfl
theorem nq_sz1 : ∀ (t : Ty), nq t + 1 ≤ sz t
  | .fn a b => by
    have h1 := nq_sz1 a
    have h2 := nq_sz1 b
    simp only [nq, sz]; omega
  | .all a => by have := nq_sz1 a; simp only [nq, sz]; omega
  | .var _ => Nat.le_refl _
  | .nat => Nat.le_refl _
  | .fr _ => Nat.le_refl _
  | .ho _ => Nat.le_refl _
/-! ### how large a solution is -/
theorem fsI_erase {V : List Ty} {w : Ty} : ∀ {t : Ty}, fsI V t → sz t < sz w → fsI (V.erase w) t
  | .fn a b, ⟨x, y, z⟩, h => by
    simp only [sz] at h
    exact ⟨(List.mem_erase_of_ne (fun e => by rw [← e] at h; simp only [sz] at h; omega)).2 x, fsI_erase y (by omega), fsI_erase z (by omega)⟩
  | .all _, _, _ => trivial
  | .var _, _, _ => trivial
  | .nat, _, _ => trivial
  | .fr _, _, _ => trivial
  | .ho _, _, _ => trivial
theorem fsI_sz : ∀ (n : Nat) {V : List Ty} {t : Ty}, V.length ≤ n → Ty.plain t → fsI V t → sz t + 1 ≤ 2 ^ (n + 1)
  | n, V, .fn a b, hn, hp, ⟨x, y, z⟩ => by
    have hl := List.length_erase_of_mem x
    have hpos := List.length_pos_of_mem x
    obtain _ | n := n
    · omega
    have h1 := fsI_sz n (V := V.erase (.fn a b)) (by omega) hp.1 (fsI_erase (w := .fn a b) y (by simp only [sz]; omega))
    have h2 := fsI_sz n (V := V.erase (.fn a b)) (by omega) hp.2 (fsI_erase (w := .fn a b) z (by simp only [sz]; omega))
    simp only [sz]
    rw [Nat.pow_succ]; omega
  | _, _, .all _, _, hp, _ => hp.elim
  | n, _, .var _, _, _, _ => by have := Nat.one_le_two_pow (n := n); simp only [sz]; rw [Nat.pow_succ]; omega
  | n, _, .nat, _, _, _ => by have := Nat.one_le_two_pow (n := n); simp only [sz]; rw [Nat.pow_succ]; omega
  | n, _, .fr _, _, _, _ => by have := Nat.one_le_two_pow (n := n); simp only [sz]; rw [Nat.pow_succ]; omega
  | n, _, .ho _, _, _, _ => by have := Nat.one_le_two_pow (n := n); simp only [sz]; rw [Nat.pow_succ]; omega
theorem fsI_inst {V : List Ty} {φ θ : Nat → Ty} (h1 : ∀ i, fsI (V.map (inst φ θ)) (φ i)) (h2 : ∀ i, fsI (V.map (inst φ θ)) (θ i)) : ∀ {t : Ty}, fsI V t → fsI (V.map (inst φ θ)) (inst φ θ t)
  | .fn a b, ⟨x, y, z⟩ => ⟨List.mem_map_of_mem (f := inst φ θ) x, fsI_inst h1 h2 y, fsI_inst h1 h2 z⟩
  | .all _, _ => trivial
  | .var _, _ => trivial
  | .nat, _ => trivial
  | .fr i, _ => h1 i
  | .ho i, _ => h2 i
theorem fsI_one {V : List Ty} {h : Nat} {X : Ty} : ∀ {x : Ty}, fsI V x → allH (· ≠ h) x → Ty.plain x → fsI (V.map (one h X)) x
  | .fn a b, ⟨x, y, z⟩, hn, hp => ⟨by
      have := List.mem_map_of_mem (f := one h X) x
      rwa [one_id hn] at this, fsI_one y hn.1 hp.1, fsI_one z hn.2 hp.2⟩
  | .all _, _, _, hp => hp.elim
  | .var _, _, _, _ => trivial
  | .nat, _, _, _ => trivial
  | .fr _, _, _, _ => trivial
  | .ho _, _, _, _ => trivial
theorem fsI_R {W : List Ty} : ∀ {sv : List (Nat × Ty)}, Ok sv → (∀ p ∈ sv, fsI W p.2) → ∀ {t : Ty}, fsI W t → fsI (W.map (R sv)) (R sv t)
  | [], _, _, t, h => by
    have e : R [] = (fun t => t) := by funext t; rfl
    rw [e]; simpa using h
  | (h, u) :: sv, ⟨h1, h2, h3, h4, h5⟩, hs, t, ht => by
    have hs' : ∀ p ∈ sv, fsI W p.2 := fun p hp => hs p (List.mem_cons_of_mem _ hp)
    have ku := fsI_R h1 hs' (hs (h, u) (List.mem_cons_self ..))
    have kt := fsI_R h1 hs' ht
    have e : W.map (R ((h, u) :: sv)) = (W.map (R sv)).map (one h (R sv u)) := by rw [List.map_map]; rfl
    rw [e]
    show fsI _ (one h (R sv u) (R sv t))
    have e2 : one h (R sv u) = inst .fr (fun i => if i = h then R sv u else .ho i) := rfl
    refine fsI_inst (φ := .fr) (θ := fun i => if i = h then R sv u else .ho i) (fun _ => trivial) (fun i => ?_) kt
    rw [← e2]
    show fsI _ (if i = h then R sv u else .ho i)
    split
    · exact fsI_one ku h3 h4
    · trivial
theorem tops_pot : ∀ (t : Ty), (tops t).length + pot t + 1 ≤ sz t
  | .fn a b => by
    have h1 := tops_pot a
    have h2 := tops_pot b
    simp only [tops, pot, sz, List.length_cons, List.length_append]
    split <;> omega
  | .all a => by have := tops_pot a; simp only [tops, pot, sz, List.length_nil]; omega
  | .var _ => Nat.le_refl _
  | .nat => Nat.le_refl _
  | .fr _ => Nat.le_refl _
  | .ho _ => Nat.le_refl _
theorem dflt_sz {S : AS} (hI : Inv S) {W : List Ty} (hs : ∀ p ∈ S.sv, fsI W p.2) {n : Nat} (hn : W.length ≤ n) (κ h : Nat) : sz (dflt κ S h) + 1 ≤ 2 ^ (n + 1) := by
  have h1 := fsI_R hI.ok hs (t := .ho h) trivial
  have h2 := fsI_inst (V := W.map (R S.sv)) (φ := fun x => .fr (κ + S.lev x)) (θ := fun _ => .nat) (fun _ => trivial) (fun _ => trivial) h1
  exact fsI_sz n (by simpa using hn) (plain_inst (hI.ok.plain h) (allF.triv fun _ => trivial) (allH.triv fun _ => trivial)) h2
/-- a witness as types -/
def wts (L : List (Ty × Nat)) : List T := L.map fun p => toT (unl p.2 p.1)
theorem witness_ty {x y : Ty} (hx : CT 0 x) (hy : CT 0 y) (h1 : sz x ≤ 12) (h2 : sz y ≤ 12) (ha : Md.closed [toT x, toT y] = 0) :
    (SubE 0 x y → ∃ L, Sub 0 x y L ∧ (∀ p ∈ L, sz p.1 ≤ 2 ^ 23) ∧ Ev (fun f => Md.Witness f (toT x) (toT y)) (wts L, 0)) ∧ (¬ SubE 0 x y → Ev (fun f => Md.Witness f (toT x) (toT y)) ([], 6)) := by
  have hlim : lim = 1099511627776 := rfl
  obtain ⟨r, S', hev, hP⟩ := solve0 true hx hy (by omega) (by omega)
  have hiff := solve0_iff hx hy hP
  have e0 : ∀ f, Md.Witness f (toT x) (toT y) = (Md.uses f (cSol true S0) (toT x) (toT y) 0).bind fun r =>
    if r.1 = false then some (([] : List T), (6 : Int))
    else match r.2.md with
      | .wit l => (l.mapM fun x => Md.written f r.2 x.1 x.2 none).bind fun ts => some (ts, 0)
      | _ => none := fun f => by unfold Md.Witness; rw [ha, if_neg (by decide)]; rfl
  constructor
  · intro hs
    have hr := hiff.2 hs
    subst hr
    obtain ⟨new, k1, k2⟩ := hP.snd rfl
    have k1 : S'.tk = new := k1
    have hI := hP.inv rfl
    have k3 := k2 0 _ (Mod.dflt hI)
    rw [hx.gi, hy.gi] at k3
    have k3 : Sub 0 x y (new.map fun p => (dflt 0 S' p.1, 0 + p.2)) := k3
    obtain ⟨W, _, hW, hWs⟩ := hP.siz rfl (tops x ++ tops y) (fun p hp => by cases hp) (fsI_tops fun z hz => List.mem_append_left _ hz) (fsI_tops fun z hz => List.mem_append_right _ hz)
    rw [List.length_append] at hW
    have t1 := tops_pot x
    have t2 := tops_pot y
    refine ⟨_, k3, fun p hp => ?_, Ev.congr e0 (Ev.bind hev ?_)⟩
    · obtain ⟨p0, _, rfl⟩ := List.mem_map.1 hp
      have := dflt_sz hI hWs (n := 22) (by omega) 0 p0.1
      show sz (dflt 0 S' p0.1) ≤ _
      omega
    refine Ev.congr (G := fun f => ((S'.tk.map fun p => ((.mk 6 (p.1 : Int) [] : T), (p.2 : Int))).mapM fun x => Md.written f (cSol true S') x.1 x.2 none).bind fun ts => some (ts, 0)) (fun f => by rfl) ?_
    rw [k1]
    have hb := k3.bnd
    have hw : Ev (fun f => (new.map fun p => ((.mk 6 (p.1 : Int) [] : T), (p.2 : Int))).mapM fun x => Md.written f (cSol true S') x.1 x.2 none) (wts (new.map fun p => (dflt 0 S' p.1, 0 + p.2))) := by
      have e : ∀ f, ((new.map fun p => ((.mk 6 (p.1 : Int) [] : T), (p.2 : Int))).mapM fun x => Md.written f (cSol true S') x.1 x.2 none) = new.mapM fun p => Md.written f (cSol true S') (toT (.ho p.1)) (p.2 : Int) none := fun f => by
        rw [List.mapM_map]; rfl
      refine Ev.congr e ?_
      have := mapM_ev (F := fun f p => Md.written f (cSol true S') (toT (.ho p.1)) (p.2 : Int) none) (g := fun (p : Nat × Nat) => toT (unl p.2 (dflt 0 S' p.1))) new (fun p hp => ?_)
      · refine this.congr (fun f => rfl) |> fun h => ?_
        unfold wts
        rw [List.map_map]
        have e2 : (fun p : Nat × Nat => toT (unl p.2 (dflt 0 S' p.1))) = ((fun p : Ty × Nat => toT (unl p.2 p.1)) ∘ fun p : Nat × Nat => (dflt 0 S' p.1, 0 + p.2)) := by
          funext p; simp
        rw [← e2]; exact h
      · obtain ⟨g1, g2⟩ := hb (dflt 0 S' p.1, 0 + p.2) (List.mem_map_of_mem hp)
        have g1 : Gnd (0 + p.2) (dflt 0 S' p.1) := g1
        rw [Nat.zero_add] at g1
        have g2 : 0 + p.2 ≤ 0 + nq x + nq y := g2
        have n1 := nq_sz1 x
        have n2 := nq_sz1 y
        have gp := hI.ok.plain p.1
        have hf : allF (fun z => z < S'.dp.length ∧ S'.lev z < p.2) (R S'.sv (.ho p.1)) := by
          have h3 := (allF_uninst g1.l).1
          by_cases hd : p.1 ∈ dom S'.sv
          · obtain ⟨v, _, _, h5⟩ := hI.lv p.1 hd
            exact (h5.f.and h3).mono fun z ⟨z1, z2⟩ => ⟨hI.lt z1.1, by have z2 : 0 + S'.lev z < p.2 := z2; omega⟩
          · rw [R_free hd]; trivial
        have := written_ev (wt := true) (S := S') (hs := none) (l := []) hI.ok rfl (fun i n h => by cases h) (by show 0 < lim; omega) (sz (R S'.sv (.ho p.1))) (.ho p.1) p.2 (Nat.le_refl _) (by rw [nq_plain gp]; omega) hf
        rw [wr_unl gp] at this
        exact this
    exact Ev.bind hw Ev.pure
  · intro hs
    have hr : r = false := by
      cases r with
      | false => rfl
      | true => exact absurd (hiff.1 rfl) hs
    subst hr
    exact Ev.congr e0 (Ev.bind hev (Ev.congr (fun f => if_pos rfl) Ev.pure))
end Go.Proofs.Ytjgnhhgigickaaa.Sv
/- Witness and Shows on right types: there is a witness just if there is a derivation; it is accepted, cut off or with one more it is not. Conditions: right closed types of at most 12 nodes. -/

namespace Go.Proofs.Ytjgnhhgigickaaa.Sv
open Ty Go Wk Md

theorem rights_ok : ∀ {l : List T}, (∀ t ∈ l, Md.right t 26 = 0) → Md.rights l 26 = 0
  | [], _ => rfl
  | t :: ts, h => by
    unfold Md.rights
    rw [if_pos (h t (List.mem_cons_self ..))]
    exact rights_ok fun u hu => h u (List.mem_cons_of_mem _ hu)
theorem rights_much : ∀ {l : List T}, (∀ t ∈ l, rgt 26 t) → (∃ t ∈ l, 12 < nds t) → Md.rights l 26 = 2
  | [], _, ⟨_, h, _⟩ => by cases h
  | t :: ts, h, hx => by
    unfold Md.rights
    by_cases e : nds t ≤ 12
    · rw [if_pos (rgt_right (by decide) (by decide) e (h t (List.mem_cons_self ..)))]
      refine rights_much (fun u hu => h u (List.mem_cons_of_mem _ hu)) ?_
      obtain ⟨u, hu, h2⟩ := hx
      rcases List.mem_cons.1 hu with rfl | hu
      · omega
      · exact ⟨u, hu, h2⟩
    · have := right_much (n := 26) (by decide) (by decide) (by omega) (h t (List.mem_cons_self ..))
      rw [this, if_neg (by decide)]
theorem shows_run {x y : Ty} (hx : CT 0 x) (hy : CT 0 y) (h1 : sz x ≤ 12) (h2 : sz y ≤ 12) (ha : Md.closed [toT x, toT y] = 0) {l : List T} (hl : OkL l) :
    ∃ (r : Bool) (l' : List T), Ev (fun f => Md.Shows f (toT x) (toT y) l) (r && l'.length == 0, 0) ∧ (r = true → l.length = l'.length + (taken true x + taken false y)) ∧ (∀ us rest L, l = us ++ rest → Sub 0 x y L → us = wts L → r = true ∧ l' = rest) := by
  have hlim : lim = 1099511627776 := rfl
  have n1 := nq_sz1 x
  have n2 := nq_sz1 y
  have fx : ∀ {t : Ty}, CT 0 t → fp ⟨[], []⟩ t := fun h => ⟨h.c, h.f.mono fun _ x => x.elim, h.h⟩
  have gx : ∀ {t : Ty}, CT 0 t → gF ⟨[], []⟩ t = t := fun h => (h.wf 0).inst_id' fun i hi => absurd hi (Nat.not_lt_zero _)
  obtain ⟨r, S', l', hev, hP⟩ := shw (nq x + nq y) (sz x + sz y) ⟨[], []⟩ l x y (fun i x h => by cases h) (fx hx) (fx hy) hl rfl rfl (by show 0 + _ < _; omega) (by show 0 + _ ≤ 26; omega)
  refine ⟨r, l', ?_, hP.len, fun us rest L e hs hu => hP.cmp us rest L e (by rw [gx hx, gx hy]; exact hs) hu⟩
  have e0 : ∀ f, Md.Shows f (toT x) (toT y) l = (Md.uses f (cF ⟨[], []⟩ l) (toT x) (toT y) 0).bind fun r =>
    match r.2.md with
    | .shw left => some (r.1 && left.length == 0, (0 : Int))
    | _ => none := fun f => by
      unfold Md.Shows
      rw [ha, if_neg (by decide), rights_ok hl, if_neg (by decide)]; rfl
  exact Ev.congr e0 (Ev.bind hev (Ev.congr (G := fun _ => some (r && l'.length == 0, (0 : Int))) (fun f => rfl) Ev.pure))
theorem sz_unl {n : Nat} : ∀ (t : Ty), sz (unl n t) = sz t
  | .fn a b => by show sz (unl n a) + sz (unl n b) + 1 = _; rw [sz_unl a, sz_unl b]; rfl
  | .all a => by show sz (unl n a) + 1 = _; rw [sz_unl a]; rfl
  | .var _ => rfl
  | .nat => rfl
  | .fr _ => rfl
  | .ho _ => rfl
theorem rgt_mono : ∀ {t : Ty} {n m : Nat}, CT n t → n ≤ m → CT m t := fun h hm => ⟨h.c.mono hm, h.f, h.h⟩
theorem shown_law {a b : T} (ha : rgt 0 a) (hb : rgt 0 b) (na : nds a ≤ 12) (nb : nds b ≤ 12) :
    (usB a b = false → ∃ f, Md.Witness f a b = some ([], 6)) ∧
    (usB a b = true → ∃ f l, Md.Witness f a b = some (l, 0) ∧ (∀ t ∈ l, rgt 26 t ∧ nds t ≤ 8388608) ∧ l.length ≤ 24 ∧
      ((∃ t ∈ l, 12 < nds t) → ∃ g, Md.Shows g a b l = some (false, 2)) ∧
      ((∀ t ∈ l, nds t ≤ 12) → (∃ g, Md.Shows g a b l = some (true, 0)) ∧ (l ≠ [] → ∃ g, Md.Shows g a b l.dropLast = some (false, 0)) ∧ ∃ g, Md.Shows g a b (l ++ [nt]) = some (false, 0))) := by
  have hcl := closed_two (rgt_closed na ha) (rgt_closed nb hb)
  obtain ⟨x, rfl, hx, sx, _⟩ := rgt_ty a (Int.le_refl _) ha
  obtain ⟨y, rfl, hy, sy, _⟩ := rgt_ty b (Int.le_refl _) hb
  have hx : CT 0 x := hx
  have hy : CT 0 y := hy
  have hiff : usB (toT x) (toT y) = true ↔ SubE 0 x y := by
    rw [usB_true]
    constructor
    · rintro ⟨x', y', e1, e2, h⟩
      rw [toT_inj e1, toT_inj e2] at h; exact h
    · exact fun h => ⟨x, y, rfl, rfl, h⟩
  obtain ⟨w1, w2⟩ := witness_ty hx hy (by omega) (by omega) hcl
  constructor
  · intro h
    obtain ⟨f, hf⟩ := (w2 fun hs => by rw [hiff.2 hs] at h; cases h).get
    exact ⟨f, hf⟩
  · intro h
    obtain ⟨L, hL, hsz, hev⟩ := w1 (hiff.1 h)
    obtain ⟨f, hf⟩ := hev.get
    have n1 := nq_sz1 x
    have n2 := nq_sz1 y
    have t1 := taken_sz x true
    have t2 := taken_sz y false
    have hlen := hL.len
    have hwl : (wts L).length = L.length := by unfold wts; simp
    have hw : ∀ t ∈ wts L, rgt 26 t ∧ nds t ≤ 8388608 := fun t ht => by
      obtain ⟨p, hp, rfl⟩ := List.mem_map.1 ht
      obtain ⟨g1, g2⟩ := hL.bnd p hp
      obtain ⟨r1, r2⟩ := ct_rgt (rgt_mono (unl_ct g1).1 (m := 26) (by omega))
      have := hsz p hp
      exact ⟨r1, by show nds (toT (unl p.2 p.1)) ≤ _; rw [r2, sz_unl]; exact this⟩
    refine ⟨f, wts L, hf, hw, by omega, fun hx2 => ⟨0, ?_⟩, fun hs => ?_⟩
    · unfold Md.Shows
      rw [hcl, if_neg (by decide), rights_much (fun t ht => (hw t ht).1) hx2, if_pos (by decide)]
    · have hOk : OkL (wts L) := fun t ht => rgt_right (by decide) (by decide) (hs t ht) (hw t ht).1
      refine ⟨?_, fun hne => ?_, ?_⟩
      · obtain ⟨r, l', hev, _, hc⟩ := shows_run hx hy (by omega) (by omega) hcl hOk
        obtain ⟨rfl, rfl⟩ := hc (wts L) [] L (by simp) hL rfl
        exact hev.get
      · obtain ⟨r, l', hev, hlen2, _⟩ := shows_run hx hy (by omega) (by omega) hcl (l := (wts L).dropLast) (fun t ht => hOk t ((List.dropLast_sublist _).subset ht))
        have hpos : 0 < (wts L).length := List.length_pos_iff.2 hne
        cases r with
        | true =>
          have := hlen2 rfl
          rw [List.length_dropLast] at this; omega
        | false => exact hev.get
      · obtain ⟨r, l', hev, _, hc⟩ := shows_run hx hy (by omega) (by omega) hcl (l := wts L ++ [nt]) (fun t ht => by
          rcases List.mem_append.1 ht with ht | ht
          · exact hOk t ht
          · rw [List.mem_singleton.1 ht]; exact rgt_right (by decide) (by decide) (by rw [nds_nt]; decide) rgt_nt)
        obtain ⟨rfl, rfl⟩ := hc (wts L) [nt] L rfl hL rfl
        exact hev.get

/-! ### opening -/
theorem rput_eq {u : Ty} : ∀ {t : Ty} {n : Nat}, lc (n + 1) t → n + nq t < lim → Md.rput (toT u) (toT t) (n : Int) = toT (Ty.put u n t)
  | .fn a b, n, h, hl => by
    simp only [nq] at hl
    have h1 := rput_eq (u := u) (t := a) (n := n) h.1 (by omega)
    have h2 := rput_eq (u := u) (t := b) (n := n) h.2 (by omega)
    show Md.rput (toT u) (T.mk 3 0 [toT a, toT b]) (n : Int) = _
    unfold Md.rput Md.rputs Md.rputs Md.rputs
    rw [if_neg (by decide), if_neg (by decide), h1, h2]; rfl
  | .all a, n, h, hl => by
    have hlim : lim = 1099511627776 := rfl
    simp only [nq] at hl
    have h1 := rput_eq (u := u) (t := a) (n := n + 1) h (by omega)
    show Md.rput (toT u) (T.mk 4 0 [toT a]) (n : Int) = _
    unfold Md.rput Md.rputs Md.rputs
    rw [if_neg (by decide), if_pos rfl, w64_id (by omega) (by omega), show ((n : Int) + 1) = ((n + 1 : Nat) : Int) by omega, h1]; rfl
  | .var m, n, h, _ => by
    have h : m < n + 1 := h
    show Md.rput (toT u) (T.mk 1 (m : Int) []) (n : Int) = toT (if m = n then u else .var m)
    unfold Md.rput
    rw [if_pos rfl]
    by_cases e : m = n
    · rw [if_pos (by omega), if_pos e]
    · rw [if_neg (by omega), if_neg (by omega), if_neg e]
  | .nat, n, _, _ => by show Md.rput (toT u) (T.mk 2 0 []) (n : Int) = _; unfold Md.rput Md.rputs; rw [if_neg (by decide)]; rfl
  | .fr i, n, _, _ => by show Md.rput (toT u) (T.mk 5 (i : Int) []) (n : Int) = _; unfold Md.rput Md.rputs; rw [if_neg (by decide)]; rfl
  | .ho i, n, _, _ => by show Md.rput (toT u) (T.mk 6 (i : Int) []) (n : Int) = _; unfold Md.rput Md.rputs; rw [if_neg (by decide)]; rfl
end Go.Proofs.Ytjgnhhgigickaaa.Sv
namespace Go.Proofs.Ytjgnhhgigickaaa.Md
open Go Wk
mutual
/-- how many quantifiers -/
def qn : T → Nat
  | .mk k _ ks => (if k = 4 then 1 else 0) + qns ks
def qns : List T → Nat
  | [] => 0
  | t :: ts => qn t + qns ts
end
end Go.Proofs.Ytjgnhhgigickaaa.Md
namespace Go.Proofs.Ytjgnhhgigickaaa.Sv
open Ty Go Wk Md
theorem qn_eq : ∀ (t : Ty), Md.qn (toT t) = nq t
  | .fn a b => by
    show Md.qn (T.mk 3 0 [toT a, toT b]) = _
    unfold Md.qn Md.qns Md.qns Md.qns
    rw [qn_eq a, qn_eq b, if_neg (by decide)]; simp only [nq]; omega
  | .all a => by
    show Md.qn (T.mk 4 0 [toT a]) = _
    unfold Md.qn Md.qns Md.qns
    rw [qn_eq a, if_pos rfl]; simp only [nq]; omega
  | .var _ => by show Md.qn (T.mk 1 _ []) = _; unfold Md.qn Md.qns; rfl
  | .nat => by show Md.qn (T.mk 2 _ []) = _; unfold Md.qn Md.qns; rfl
  | .fr _ => by show Md.qn (T.mk 5 _ []) = _; unfold Md.qn Md.qns; rfl
  | .ho _ => by show Md.qn (T.mk 6 _ []) = _; unfold Md.qn Md.qns; rfl
theorem CT.put {n : Nat} {a u : Ty} (h : CT (n + 1) a) (hu : CT 0 u) : CT n (Ty.put u n a) := ⟨lc_put hu.c h.c, allF_put hu.f h.f, allH_put hu.h h.h⟩
/-- a quantifier can be used as each type that it is when it is opened -/
theorem opens_law {a u : T} (ha : rgt 0 a) (na : nds a ≤ 12) (h4 : a.kind = 4) (hu : rgt 0 u) (pu : Md.plain u = true) (nu : nds u ≤ 12) :
    ∃ f r e, Md.Open f a u = some (r, e) ∧ (∀ v x, a.kids[0]? = some v → Md.opened f v u 0 = some x → T.sz x + 1 < lim) ∧ (e = 2 ∨ e = 0 ∧ rgt 0 r ∧ nds r ≤ 12 ∧ usB a r = true ∧ Md.qn r < Md.qn a) := by
  have hlim : lim = 1099511627776 := rfl
  obtain ⟨f, r, e, h1, h2, _, h3⟩ := open_law a u
  refine ⟨f, r, e, h1, h3, ?_⟩
  obtain ⟨x, rfl, hx, sx, _⟩ := rgt_ty a (Int.le_refl _) ha
  obtain ⟨y, rfl, hy, sy, py⟩ := rgt_ty u (Int.le_refl _) hu
  have hx : CT 0 x := hx
  have hy : CT 0 y := hy
  have py := py.1 pu
  cases x with
  | all k =>
    have hk : CT 1 k := ⟨hx.c, hx.f, hx.h⟩
    have hp : CT 0 (Ty.put y 0 k) := hk.put hy
    have e1 : rRight (toT (.all k)) 0 = 0 := by rw [← right_eq]; exact rgt_right (Int.le_refl _) (by decide) na ha
    have e2 : rRight (toT y) 0 = 0 := by rw [← right_eq]; exact rgt_right (Int.le_refl _) (by decide) nu hu
    have hq := nq_sz1 k
    simp only [sz] at sx
    have e3 : Md.rput (toT y) (toT k) 0 = toT (Ty.put y 0 k) := rput_eq (n := 0) hx.c (by omega)
    have hr : rOpen (toT (.all k)) (toT y) = if rRight (toT (Ty.put y 0 k)) 0 ≠ 0 then (t0, rRight (toT (Ty.put y 0 k)) 0) else (toT (Ty.put y 0 k), 0) := by
      have hb0 : rboth (toT (.all k)) (toT y) = 0 := by unfold rboth; rw [e1, if_neg (by decide), e2]
      unfold rOpen
      rw [hb0, if_neg (by decide), if_neg (fun h => h rfl)]
      show (if rRight (Md.rput (toT y) (toT k) 0) 0 ≠ 0 then (t0, rRight (Md.rput (toT y) (toT k) 0) 0) else (Md.rput (toT y) (toT k) 0, 0)) = _
      rw [e3]
    rw [hr] at h2
    obtain ⟨g1, g2⟩ := ct_rgt hp
    have g1 : rgt 0 (toT (Ty.put y 0 k)) := g1
    by_cases hs : sz (Ty.put y 0 k) ≤ 12
    · have e4 : rRight (toT (Ty.put y 0 k)) 0 = 0 := by rw [← right_eq]; exact rgt_right (Int.le_refl _) (by decide) (by omega) g1
      rw [e4, if_neg (fun h => h rfl)] at h2
      cases h2
      refine .inr ⟨rfl, g1, by omega, ?_, ?_⟩
      · refine usB_true.2 ⟨_, _, rfl, rfl, SubE.left ⟨py, hy.c, (hy.wf 0).l, hy.h⟩ _ (Nat.le_refl _) (SubE.refl _ (Nat.le_refl _) (hp.wf 0))⟩
      · rw [qn_eq, qn_eq, nq_put py]; simp only [nq]; omega
    · have e4 : rRight (toT (Ty.put y 0 k)) 0 = 2 := by rw [← right_eq]; exact right_much (Int.le_refl _) (by decide) (by omega) g1
      rw [e4, if_pos (by decide)] at h2
      cases h2
      exact .inl rfl
  | var n => have h4 : (1 : Int) = 4 := h4
             exact absurd h4 (by decide)
  | nat => have h4 : (2 : Int) = 4 := h4
           exact absurd h4 (by decide)
  | fn a b => have h4 : (3 : Int) = 4 := h4
              exact absurd h4 (by decide)
  | fr n => exact hx.f.elim
  | ho n => exact hx.h.elim
end Go.Proofs.Ytjgnhhgigickaaa.Sv
/- Walks of the given program's functions: Shows. Printed by tools/w49.py. Conditions: none. -/

namespace Go.Proofs.Ytjgnhhgigickaaa.Wk
open Go Md
set_option maxRecDepth 20000
set_option linter.unusedVariables false
set_option linter.unusedSimpArgs false
attribute [local irreducible] endQ

theorem c44 {f : Nat} {G : GH} {L : LH} {w : World} {va vb : Value} {A : Option Addr} {c : Nat} {a b : T} {l : List T} {r : Bool} {e : Int} (hva : IsPoly G va a) (hvb : IsPoly G vb b) (hks : IsPolys G A l) (hc : l.length ≤ c) (hlsz : T.szs l < lim) (hsz : T.sz a + T.sz b + 2 < lim) (hst : St G L w) (h : Md.Shows f a b l = some (r, e)) :
  Cal Try.prog 44 #[va, vb, .slice A l.length c] w fun x w' => ∃ G', Le G G' ∧ x = .tuple #[.bool r, .int .i64 e] ∧ St G' L w' := by
 have hlim : lim = 1099511627776 := rfl
 have hlen := T.lens_le l
 unfold Md.Shows at h
 obtain ⟨aA, ac, rfl, hac, hak⟩ := id hva.open
 obtain ⟨bA, bc, rfl, hbc, hbk⟩ := id hvb.open
 refine cal_of_W Try.func44 rfl (Nat.le_of_ble_eq_true (by kernel_rfl)) ?_
 refine W_sr [(.f, 0), (.f, 1), (.p, 2), (.p, 3)] hst ?_
 refine m_new (cT a aA ac) (fun b1 => pN b1 0) (some 3) (fun b => by kernel_rfl) hst (fun b1 w1 hst => ?_)
 refine m_new (cT b bA bc) (fun b2 => pN b2 0) (some 4) (fun b => by kernel_rfl) hst (fun b2 w1 hst => ?_)
 refine r_z [(6, .bool false), (7, iN 0)] ?_
 refine W_seq ?_
 refine W_sr [(.l, 0), (.l, 1), (.f, 2), (.f, 3), (.p, 4)] hst ?_
 refine r_s [3, 3] [(.l, 0), (.l, 1)] [(14, (aT a aA ac)), (15, (aT b bA bc))] (rc_l 1 0 rfl rfl (rc_l 1 1 rfl rfl (rc_l 1 2 rfl rfl (rc_l 0 0 rfl rfl (rc_l 0 1 rfl rfl (rc_l 0 2 rfl rfl rc_nil)))))) ?_
 refine m_new (.cells #[iN a.kind, iN a.num, .slice aA a.kids.length ac, iN b.kind, iN b.num, .slice bA b.kids.length bc] 24) (fun b3 => .slice (some ⟨b3, 0, none⟩) 2 2) (some 16) (fun b => by kernel_rfl) hst (fun b3 w1 hst => ?_)
 obtain ⟨G1, hG1, hF4, hst⟩ := St.freeze [_] hst
 have hfs := hF4 _ (.head _)
 have hcl56 := c56 (ts := [a, b]) (c := 2) (polys_of (cs := [.int .i64 a.kind, .int .i64 a.num, .slice aA a.kids.length ac, .int .i64 b.kind, .int .i64 b.num, .slice bA b.kids.length bc]) ⟨(hva).mono hG1, (hvb).mono hG1, trivial⟩ hfs) (Nat.le_refl _) (by rw [T.sz2]; omega) hst
 refine m_cl #[.slice (some ⟨b3, 0, none⟩) 2 2] (some 17) (hcl56) ?_
 rintro _ w1 ⟨G1', hG1', rfl, hst⟩
 replace hfs := hG1' _ _ hfs
 refine nx hst ?_
 refine r_z [(8, iN (closed [a, b]))] ?_
 refine W_sr [(.p, 0), (.p, 1)] hst ?_
 refine r_z [(18, iN (closed [a, b])), (19, .bool ((closed [a, b]) != 0))] ?_
 refine W_cd (b := (closed [a, b]) != 0) (fun hc5 => ?_) (fun hc5 => ?_)
 ·skip
  have hcl : closed [a, b] ≠ 0 := by simpa using hc5
  rw [if_pos hcl] at h; simp only [Option.some.injEq, Prod.mk.injEq] at h; obtain ⟨rfl, rfl⟩ := h
  refine W_sr [(.p, 0), (.p, 1), (.p, 2)] hst ?_
  refine r_z [(20, iN (closed [a, b])), (6, .bool false), (7, iN (closed [a, b]))] ?_
  refine W_ret ?_
  refine q_rt [] [] (.tuple #[.bool false, iN (closed [a, b])]) rc_nil hst ?_
  exact ⟨G1', hG1.trans hG1', rfl, hst.drop [_, _]⟩
 have hcl : ¬ closed [a, b] ≠ 0 := by simpa using hc5
 rw [if_neg hcl] at h
 refine W_skip ?_
 refine W_seq ?_
 refine W_sr [(.p, 0), (.p, 1), (.p, 2)] hst ?_
 refine r_z [(21, .slice A l.length c), (22, nN l.length), (23, iN 0)] ?_
 refine W_block ?_
 refine W_loop (fun m ρ D w => ∃ (k : Nat) (G2 : GH), EqS ρ [(2, .slice A l.length c), (3, pN b1 0), (4, pN b2 0), (21, .slice A l.length c), (22, iN (((l.length : Nat) : Int))), (23, iN (((k : Nat) : Int)))] ∧ D = [] ∧ St G2 ((b2, cT b bA bc) :: (b1, cT a aA ac) :: L) w ∧ (Le G1' G2) ∧ (Md.rights l 26 = Md.rights (l.drop k) 26) ∧ (k ≤ l.length) ∧ l.length - k = m) (l.length - 0) ⟨0, G1', ⟨by kernel_rfl, by kernel_rfl, by kernel_rfl, by kernel_rfl, by kernel_rfl, by kernel_rfl, trivial⟩, rfl, hst, Le.refl _, rfl, Nat.zero_le _, rfl⟩ ?_
 clear hst; rintro m6 ρ D w1 ⟨k, G2, hE7, rfl, hst, hle, hcr, hk, hm8⟩
 refine W_env hE7 ?_
 refine W_sr [(.p, 0)] hst ?_
 refine r_z [(24, .bool (decide ((((k : Nat) : Int)) < (((l.length : Nat) : Int)))))] ?_
 refine W_seq ?_
 refine W_cd (b := decide ((((k : Nat) : Int)) < (((l.length : Nat) : Int)))) (fun hc9 => ?_) (fun hc9 => ?_)
 ·skip
  have hlt : k < l.length := by have := of_decide_eq_true hc9; omega
  obtain ⟨q, hq⟩ := get_of_lt hlt
  have hstk := hst
  obtain ⟨eb, eo, qA, qc, rfl, hc0, hc1, hc2, hqp⟩ := (((hks.mono hG1).mono hG1').mono hle).elem hq
  have hst := hstk; clear hstk
  rw [drop_cons hq, Md.rights] at hcr
  refine W_skip ?_
  refine W_seq ?_
  refine W_block ?_
  refine W_sr [(.p, 0), (.l, 1), (.f, 2), (.f, 3)] hst ?_
  refine m_idx (sz := 3) (b := eb) (off := eo) (n := l.length) (c := c) (k := k) (some 25) (show opAt _ _ _ = some (.indexAddr 22 (.tmp 21) (.tmp 23), _) by kernel_rfl) (by kernel_rfl) (by kernel_rfl) Try.underlying22 sz24 hlt ?_
  refine r_s [3] [(.l, 1)] [(26, (aT q qA qc))] (rc_C hc0 (rc_C hc1 (rc_C hc2 rc_nil))) ?_
  refine m_new (.cells #[iN 0, iN 0, .slice none 0 0] 24) (fun b10 => pN b10 0) (some 10) (fun b => by kernel_rfl) hst (fun b10 w1 hst => ?_)
  refine s_0 [(0, iN q.kind), (1, iN q.num), (2, .slice qA q.kids.length qc)] [iN q.kind, iN q.num, .slice qA q.kids.length qc] none hst (fun w1 hst => ?_)
  refine r_nil ?_
  refine W_sr [(.l, 0), (.f, 1), (.p, 2)] hst ?_
  refine r_s [3] [(.l, 0)] [(27, (aT q qA qc))] (rc_l 0 0 rfl rfl (rc_l 0 1 rfl rfl (rc_l 0 2 rfl rfl rc_nil))) ?_
  have hqs := T.szs_get hq
  refine m_cl #[(aT q qA qc), iN 26] (some 28) (c40 hqp (by omega) (hst.drop [_])) ?_
  rintro _ w1 ⟨G3, hG3, rfl, hst⟩
  refine nx hst ?_
  refine r_z [(11, iN (right q 26))] ?_
  refine W_sr [(.p, 0), (.p, 1)] hst ?_
  refine r_z [(29, iN (right q 26)), (30, .bool ((right q 26) != 0))] ?_
  refine W_cd (b := (right q 26) != 0) (fun hc11 => ?_) (fun hc11 => ?_)
  ·skip
   have hrq : ¬(right q 26 = 0) := by simpa using hc11
   refine W_sr [(.p, 0), (.p, 1), (.p, 2)] hst ?_
   refine r_z [(31, iN (right q 26)), (6, .bool false), (7, iN (right q 26))] ?_
   refine W_ret ?_
   refine q_rt [] [] (.tuple #[.bool false, iN (right q 26)]) rc_nil hst ?_
   exact ⟨G3, ((hG1.trans hG1').trans hle).trans hG3, (by rw [if_pos (by rw [hcr, if_neg hrq]; exact hrq)] at h; simp only [Option.some.injEq, Prod.mk.injEq] at h; obtain ⟨rfl, rfl⟩ := h; rw [hcr, if_neg hrq]), hst.drop [_, _]⟩
  have hrq : (right q 26 = 0) := by simpa using hc11
  refine W_skip ?_
  refine W_rg [(.p, 0), (.p, 1)] hst ?_
  refine r_z [(32, iN (IntKind.wrap .i64 ((((k : Nat) : Int)) + 1))), (23, iN (IntKind.wrap .i64 ((((k : Nat) : Int)) + 1)))] ?_
  exact ⟨_, (by omega), k + 1, G3, ⟨by kernel_rfl, by kernel_rfl, by kernel_rfl, by kernel_rfl, by kernel_rfl, (by rw [← wrap_succ (k := k) (by omega)]; kernel_rfl), trivial⟩, rfl, hst, (hle.trans hG3), (by rw [hcr, if_pos hrq]), hlt, rfl⟩
 have hge : k = l.length := by have := of_decide_eq_false hc9; omega
 rw [List.drop_of_length_le (by omega), Md.rights] at hcr
 rw [if_neg (by rw [hcr]; decide)] at h
 obtain ⟨⟨r0, s3⟩, hr0, h⟩ := Option.bind_eq_some_iff.1 h; simp only at h
 refine W_exit ?_
 refine W_sr [(.f, 0), (.f, 1), (.f, 2)] hst ?_
 refine m_cl #[] (some 33) (c63 hst) ?_
 rintro _ w1 ⟨sb, mp, rfl, hst⟩
 refine nx hst ?_
 refine m_new (.cells #[.pointer none] 97) (fun b12 => pN b12 0) (some 12) (fun b => by kernel_rfl) hst (fun b12 w1 hst => ?_)
 refine s_0 [(0, pN sb 0)] [pN sb 0] none hst (fun w1 hst => ?_)
 refine r_nil ?_
 refine W_sr [(.p, 0), (.f, 1), (.f, 2)] hst ?_
 refine r_y [(.p, 0)] [(34, .slice A l.length c)] ?_
 refine m_new (.cells #[.slice none 0 0] 22) (fun b13 => pN b13 0) (some 13) (fun b => by kernel_rfl) hst (fun b13 w1 hst => ?_)
 refine s_0 [(0, .slice A l.length c)] [.slice A l.length c] none hst (fun w1 hst => ?_)
 refine r_nil ?_
 refine W_sr [(.l, 0), (.p, 1), (.p, 2), (.p, 3), (.f, 4)] hst ?_
 refine r_s [1] [(.l, 0), (.p, 1), (.p, 2), (.p, 3)] [(35, pN sb 0), (36, .func (.func 86) #[] #[pN b13 0, pN b12 0]), (37, pN sb 0), (38, pN sb 3)] (rc_l 1 0 rfl rfl rc_nil) ?_
 refine s_2 [(3, .func (.func 86) #[] #[pN b13 0, pN b12 0])] [.map (some mp), .slice none 0 0, .slice none 0 0, .func (.func 86) #[] #[pN b13 0, pN b12 0]] none hst (fun w1 hst => ?_)
 refine r_nil ?_
 refine W_seq ?_
 have hst := St.swap (A := [(b13, .cells #[.slice A l.length c] 22), (b12, .cells #[pN sb 0] 97)]) (B := [(sb, .cells #[.map (some mp), .slice none 0 0, .slice none 0 0, .func (.func 86) #[] #[pN b13 0, pN b12 0]] 104), (mp, .map #[] 0)]) (C := (b2, cT b bA bc) :: (b1, cT a aA ac) :: L) hst
 have hst : St G2 ((sb, .cells #[.map (some mp), .slice none 0 0, .slice none 0 0, .func (.func 86) #[] #[pN b13 0, pN b12 0]] 104) :: (mp, .map #[] 0) :: (b13, .cells #[.slice A l.length c] 22) :: (b12, .cells #[pN sb 0] 97) :: (b2, cT b bA bc) :: (b1, cT a aA ac) :: L) w1 := hst
 refine W_rgd [(.l, 0), (.l, 1), (.l, 3), (.e, 2), (.e, 4), (.f, 5), (.p, 6), (.l, 7), (.p, 8), (.p, 9), (.p, 10), (.p, 11), (.p, 12)] hst (fun w1 hst => ?_)
 refine r_s [1, 3, 3] [(.l, 0), (.l, 1), (.l, 3)] [(39, pN sb 0), (40, (aT a aA ac)), (42, (aT b bA bc))] (rc_l 3 0 rfl rfl (rc_l 5 0 rfl rfl (rc_l 5 1 rfl rfl (rc_l 5 2 rfl rfl (rc_l 4 0 rfl rfl (rc_l 4 1 rfl rfl (rc_l 4 2 rfl rfl rc_nil))))))) ?_
 refine m_callE #[(aT a aA ac)] (some 41) (by kernel_rfl) (c66 lim a (by omega) (Nat.le_refl _) (((hva.mono hG1).mono hG1').mono hle) hst) ?_
 rintro v1 w1 ⟨G4, hG4, hta, hst⟩
 obtain ⟨tab, _, _, rfl, _⟩ := id hta.open
 refine ⟨hst.ss' ((Le.refl _).trans hG4) (fun _ hp => hp), ?_⟩
 refine m_callE #[(aT b bA bc)] (some 43) (by kernel_rfl) (c66 lim b (by omega) (Nat.le_refl _) ((((hvb.mono hG1).mono hG1').mono hle).mono hG4) hst) ?_
 rintro v1 w1 ⟨G5, hG5, htb, hst⟩
 obtain ⟨tbb, _, _, rfl, _⟩ := id htb.open
 refine ⟨hst.ss' (((Le.refl _).trans hG4).trans hG5) (fun _ hp => hp), ?_⟩
 have hS := sol_new G5 sb mp (.func (.func 86) #[] #[.pointer (some ⟨b13, 0, none⟩), .pointer (some ⟨b12, 0, none⟩)]) (.shw l) (.shw b13 b12) [(b13, .cells #[.slice A l.length c] 22), (b12, .cells #[.pointer (some ⟨sb, 0, none⟩)] 97)] ⟨rfl, A, c, rfl, hc, ((((hks.mono hG1).mono hG1').mono hle).mono hG4).mono hG5, hlsz⟩
 refine m_cl #[pN sb 0, pN tab 0, pN tbb 0, iN 0] (some 44) (c65 _ hS (R := (b2, cT b bA bc) :: (b1, cT a aA ac) :: L) hst (hta.mono hG5) htb hr0) ?_
 rintro _ w1 ⟨G6, σ4, rfl, hG6, hS4, hst⟩
 obtain ⟨left, hmd⟩ : ∃ left, s3.md = .shw left := by
  cases hmd : s3.md with
  | shw l => exact ⟨l, rfl⟩
  | _ => rw [hmd] at h; cases h
 rw [hmd] at h; simp only [Option.some.injEq, Prod.mk.injEq] at h; obtain ⟨rfl, rfl⟩ := h
 obtain ⟨σ5, R5, hS5, hst, _, hshw⟩ := hS4.forget hst
 obtain ⟨_, _, lA, lc, he, rfl⟩ := hshw left hmd; cases he
 have hst := hst.drop σ5
 have hst : St G6 ((b13, .cells #[.slice lA left.length lc] 22) :: (b12, .cells #[pN sb 0] 97) :: (b2, cT b bA bc) :: (b1, cT a aA ac) :: L) w1 := hst
 refine nx hst ?_
 refine r_y [(.p, 6)] [(45, .bool r0)] ?_
 cases r0
 ·skip
  refine r_z [(46, undef), (47, undef), (48, undef), (49, .bool false), (6, .bool false), (7, iN 0)] ?_
  refine W_ret ?_
  refine q_rt [] [] (.tuple #[.bool false, iN 0]) rc_nil hst ?_
  exact ⟨G6, ((((hG1.trans hG1').trans hle).trans hG4).trans hG5).trans hG6, (by first | rfl | (congr 1; cases left <;> rfl) | (cases left <;> rfl)), hst.drop [_, _, _, _]⟩
 refine r_x [1] [(46, .slice lA left.length lc), (47, nN left.length), (48, .bool ((((left.length : Nat) : Int)) == 0)), (49, .bool ((((left.length : Nat) : Int)) == 0)), (6, .bool ((((left.length : Nat) : Int)) == 0)), (7, iN 0)] (rc_l 0 0 rfl rfl rc_nil) ?_
 refine W_ret ?_
 refine q_rt [] [] (.tuple #[.bool ((((left.length : Nat) : Int)) == 0), iN 0]) rc_nil hst ?_
 exact ⟨G6, ((((hG1.trans hG1').trans hle).trans hG4).trans hG5).trans hG6, (by first | rfl | (congr 1; cases left <;> rfl) | (cases left <;> rfl)), hst.drop [_, _, _, _]⟩

end Go.Proofs.Ytjgnhhgigickaaa.Wk
/- Walks of the given program's functions: ContainsFunc, IndexFunc, RankShown$1. Printed by tools/w50.py. Conditions: none. -/

namespace Go.Proofs.Ytjgnhhgigickaaa.Wk
open Go Md
set_option maxRecDepth 20000
set_option linter.unusedVariables false
set_option linter.unusedSimpArgs false
attribute [local irreducible] endQ

theorem c46 {G : GH} {L : LH} {w : World} {v : Value} {t : T} (hn : nds t ≤ 1000000000) (hz : T.sz t < lim) (hv : IsPoly G v t) (hst : St G L w) : Cal Try.prog 46 #[v] w fun x w' => x = .bool (decide (12 < nds t)) ∧ St G L w' := by
 obtain ⟨tA, tc, rfl, htc, htk⟩ := id hv.open
 refine cal_of_W Try.func46 rfl (Nat.le_of_ble_eq_true (by kernel_rfl)) ?_
 refine W_sr [(.f, 0), (.p, 1)] hst ?_
 refine m_new (cT t tA tc) (fun b1 => pN b1 0) (some 1) (fun b => by kernel_rfl) hst (fun b1 w1 hst => ?_)
 refine r_z [(2, .bool false)] ?_
 refine W_sr [(.l, 0), (.f, 1), (.p, 2), (.p, 3)] hst ?_
 refine r_s [3] [(.l, 0)] [(3, (aT t tA tc))] (rc_l 0 0 rfl rfl (rc_l 0 1 rfl rfl (rc_l 0 2 rfl rfl rc_nil))) ?_
 refine m_cl #[(aT t tA tc)] (some 4) (c24 _ (Nat.lt_succ_self _) hn hz hv hst) ?_
 rintro _ w1 ⟨rfl, hst⟩
 refine nx hst ?_
 refine r_z [(5, .bool (decide ((((nds t : Nat) : Int)) > 12))), (2, .bool (decide ((((nds t : Nat) : Int)) > 12)))] ?_
 refine W_ret ?_
 refine q_rt [] [] (.bool (decide ((((nds t : Nat) : Int)) > 12))) rc_nil hst ?_
 exact ⟨congrArg Value.bool (by rw [decide_eq_decide]; omega), hst.drop [_]⟩

/-- some type has more than MaxPoly nodes -/
def bigs (l : List T) : Bool := l.any fun t => decide (12 < nds t)
theorem c89 {G : GH} {L : LH} {w : World} {A : Option Addr} {c : Nat} {l : List T} (hks : IsPolys G A l) (hc : l.length ≤ c) (hlsz : T.szs l < lim) (hn : ∀ t ∈ l, nds t ≤ 1000000000) (hst : St G L w) :
  Cal Try.prog 89 #[.slice A l.length c, .func (.func 46) #[] #[]] w fun x w' => ∃ i : Int, x = .int .i64 i ∧ decide (i ≥ 0) = bigs l ∧ St G L w' := by
 have hlim : lim = 1099511627776 := rfl
 have hlen := T.lens_le l
 refine cal_of_W Try.func89 rfl (Nat.le_of_ble_eq_true (by kernel_rfl)) ?_
 refine W_sr [(.p, 0)] hst ?_
 refine r_z [(4, iN 0)] ?_
 refine W_seq ?_
 refine W_sr [(.p, 0), (.p, 1), (.p, 2)] hst ?_
 refine r_z [(6, .slice A l.length c), (7, nN l.length), (8, iN 0)] ?_
 refine W_block ?_
 refine W_loop (fun m ρ D w => ∃ (k : Nat), EqS ρ [(0, .slice A l.length c), (1, .func (.func 46) #[] #[]), (7, iN (((l.length : Nat) : Int))), (8, iN (((k : Nat) : Int)))] ∧ D = [] ∧ St G (L) w ∧ (bigs l = bigs (l.drop k)) ∧ (k ≤ l.length) ∧ l.length - k = m) (l.length - 0) ⟨0, ⟨by kernel_rfl, by kernel_rfl, by kernel_rfl, by kernel_rfl, trivial⟩, rfl, hst, rfl, Nat.zero_le _, rfl⟩ ?_
 clear hst; rintro m1 ρ D w1 ⟨k, hE2, rfl, hst, hno, hk, hm3⟩
 refine W_env hE2 ?_
 refine W_sr [(.p, 0)] hst ?_
 refine r_z [(9, .bool (decide ((((k : Nat) : Int)) < (((l.length : Nat) : Int)))))] ?_
 refine W_seq ?_
 refine W_cd (b := decide ((((k : Nat) : Int)) < (((l.length : Nat) : Int)))) (fun hc4 => ?_) (fun hc4 => ?_)
 ·skip
  have hlt : k < l.length := by have := of_decide_eq_true hc4; omega
  obtain ⟨q, hq⟩ := get_of_lt hlt
  have hstk := hst
  obtain ⟨eb, eo, qA, qc, rfl, hc0, hc1, hc2, hqp⟩ := (hks).elem hq
  have hst := hstk; clear hstk
  rw [drop_cons hq] at hno
  have hqb : bigs (q :: l.drop (k + 1)) = (decide (12 < nds q) || bigs (l.drop (k + 1))) := rfl
  refine W_skip ?_
  refine W_seq ?_
  refine W_block ?_
  refine W_sr [(.p, 0), (.p, 1)] hst ?_
  refine r_z [(10, nN k), (5, nN k)] ?_
  refine W_sr [(.p, 0), (.p, 1), (.p, 2), (.p, 3), (.l, 4), (.f, 5)] hst ?_
  refine r_y [(.p, 0), (.p, 1), (.p, 2)] [(11, .func (.func 46) #[] #[]), (12, .slice (some ⟨eb, eo, none⟩) l.length c), (13, nN k)] ?_
  refine m_idx (sz := 3) (b := eb) (off := eo) (n := l.length) (c := c) (k := k) (some 14) (show opAt _ _ _ = some (.indexAddr 22 (.tmp 12) (.tmp 13), _) by kernel_rfl) (by kernel_rfl) (by kernel_rfl) Try.underlying22 sz24 hlt ?_
  refine r_s [3] [(.l, 4)] [(15, (aT q qA qc))] (rc_C hc0 (rc_C hc1 (rc_C hc2 rc_nil))) ?_
  have hqs := T.szs_get hq
  refine m_cl #[(aT q qA qc)] (some 16) (c46 (hn q (List.mem_of_getElem? hq)) (by omega) hqp hst) ?_
  rintro _ w1 ⟨rfl, hst⟩
  refine nx hst ?_
  refine r_nil ?_
  refine W_cd (b := decide (12 < nds q)) (fun hc5 => ?_) (fun hc5 => ?_)
  ·skip
   have hbg : decide (12 < nds q) = true := hc5; rw [hqb] at hno
   refine W_sr [(.p, 0), (.p, 1)] hst ?_
   refine r_z [(17, nN k), (4, nN k)] ?_
   refine W_ret ?_
   refine q_rt [] [] (nN k) rc_nil hst ?_
   exact ⟨_, rfl, by rw [hno, hbg]; exact decide_eq_true (by omega), hst⟩
  have hbg : decide (12 < nds q) = false := hc5; rw [hqb] at hno
  refine W_skip ?_
  refine W_rg [(.p, 0), (.p, 1)] hst ?_
  refine r_z [(18, iN (IntKind.wrap .i64 ((((k : Nat) : Int)) + 1))), (8, iN (IntKind.wrap .i64 ((((k : Nat) : Int)) + 1)))] ?_
  exact ⟨_, (by omega), k + 1, ⟨by kernel_rfl, by kernel_rfl, by kernel_rfl, (by rw [← wrap_succ (k := k) (by omega)]; kernel_rfl), trivial⟩, rfl, hst, (by rw [hno, hbg]; rfl), hlt, rfl⟩
 have hge : k = l.length := by have := of_decide_eq_false hc4; omega
 rw [List.drop_of_length_le (by omega)] at hno
 refine W_exit ?_
 refine W_sr [(.p, 0)] hst ?_
 refine r_z [(4, iN (-1))] ?_
 refine W_ret ?_
 refine q_rt [] [] (iN (-1)) rc_nil hst ?_
 exact ⟨_, rfl, by rw [hno]; rfl, hst⟩

theorem c45 {G : GH} {L : LH} {w : World} {A : Option Addr} {c : Nat} {l : List T} (hks : IsPolys G A l) (hc : l.length ≤ c) (hlsz : T.szs l < lim) (hn : ∀ t ∈ l, nds t ≤ 1000000000) (hst : St G L w) :
  Cal Try.prog 45 #[.slice A l.length c, .func (.func 46) #[] #[]] w fun x w' => x = .bool (bigs l) ∧ St G L w' := by
 refine cal_of_W Try.func45 rfl (Nat.le_of_ble_eq_true (by kernel_rfl)) ?_
 refine W_sr [(.p, 0)] hst ?_
 refine r_z [(4, .bool false)] ?_
 refine W_sr [(.p, 0), (.p, 1), (.f, 2), (.p, 3), (.p, 4)] hst ?_
 refine r_y [(.p, 0), (.p, 1)] [(5, .slice A l.length c), (6, .func (.func 46) #[] #[])] ?_
 refine m_cl #[.slice A l.length c, .func (.func 46) #[] #[]] (some 7) (c89 hks hc hlsz hn hst) ?_
 rintro _ w1 ⟨i, rfl, hi, hst⟩
 refine nx hst ?_
 refine r_z [(8, .bool (decide (i ≥ 0))), (4, .bool (decide (i ≥ 0)))] ?_
 refine W_ret ?_
 refine q_rt [] [] (.bool (decide (i ≥ 0))) rc_nil hst ?_
 exact ⟨congrArg Value.bool hi, hst⟩

end Go.Proofs.Ytjgnhhgigickaaa.Wk
/- Walks of the given program's functions: RankShown. Printed by tools/w51.py. Conditions: none. -/

namespace Go.Proofs.Ytjgnhhgigickaaa.Wk
open Go Md
set_option maxRecDepth 20000
set_option linter.unusedVariables false
set_option linter.unusedSimpArgs false
attribute [local irreducible] endQ

theorem bigs_true {l : List T} (h : bigs l = true) : ∃ t ∈ l, 12 < nds t := by
 obtain ⟨t, ht, h2⟩ := List.any_eq_true.1 h
 exact ⟨t, ht, of_decide_eq_true h2⟩
theorem bigs_false {l : List T} (h : bigs l = false) : ∀ t ∈ l, nds t ≤ 12 := fun t ht => by
 have := List.any_eq_false.1 h t ht
 have : ¬ 12 < nds t := fun h2 => this (decide_eq_true h2)
 omega
theorem IsPolys.dropLast {G : GH} : ∀ {l : List T} {A : Option Addr}, IsPolys G A l → IsPolys G A l.dropLast
 | [], _, h => h
 | [t], _, _ => IsPolys.nil
 | t :: u :: ts, A, h => by
  unfold IsPolys at h
  obtain ⟨b, off, v0, v1, v2, rfl, h0, h1, h2, hp, hr⟩ := h
  show IsPolys G _ (t :: (u :: ts).dropLast)
  unfold IsPolys
  exact ⟨b, off, v0, v1, v2, rfl, h0, h1, h2, hp, IsPolys.dropLast hr⟩
theorem IsPolys.srcL {G : GH} : ∀ {ks : List T} {b off : Nat}, IsPolys G (some ⟨b, off, none⟩) ks → ∃ news : List Value, news.length = ks.length * 3 ∧ PoL G news ks ∧ (∀ j u, news[j]? = some u → GC G ⟨b, off + j, none⟩ u) ∧ (news.all (·.oneCell')) = true
 | [], b, off, _ => ⟨[], rfl, trivial, fun j u h => by simp at h, rfl⟩
 | t :: ts, b, off, h => by
  unfold IsPolys at h
  obtain ⟨b', off', v0, v1, v2, he, h0, h1, h2, hp, hr⟩ := h
  cases he
  obtain ⟨news, hl, hP, hj, ho⟩ := IsPolys.srcL hr
  obtain ⟨A, c, he, _, _⟩ := id hp.open
  simp only [Value.agg.injEq] at he
  have he := congrArg Array.toList he
  simp only [List.cons.injEq, and_true] at he
  obtain ⟨rfl, rfl, rfl⟩ := he
  refine ⟨_ :: _ :: _ :: news, by simp only [List.length_cons, hl]; omega, ⟨hp, hP⟩, fun j u hu => ?_, by simp only [List.all_cons, ho]; rfl⟩
  match j, hu with
  | 0, hu => simp at hu; subst hu; exact h0
  | 1, hu => simp at hu; subst hu; exact h1
  | 2, hu => simp at hu; subst hu; exact h2
  | j + 3, hu =>
   have := hj j u (by simpa using hu)
   rwa [show off + 3 + j = off + (j + 3) by omega] at this
theorem ndss_bd {n : Nat} : ∀ {l : List T}, (∀ t ∈ l, nds t ≤ n) → ndss l ≤ l.length * n
 | [], _ => Nat.zero_le _
 | t :: ts, h => by
  have h1 := ndss_bd (l := ts) fun u hu => h u (List.mem_cons_of_mem _ hu)
  have h2 := h t (List.mem_cons_self ..)
  rw [ndss_cons, List.length_cons, Nat.add_mul]; omega
theorem szs_bd {l : List T} (h : ∀ t ∈ l, nds t ≤ 8388608) (hl : l.length ≤ 25) : T.szs l < lim := by
 have hlim : lim = 1099511627776 := rfl
 have h1 := ndss_bd h
 have h2 := szs_ndss l
 have h3 : l.length * 8388608 ≤ 25 * 8388608 := Nat.mul_le_mul_right _ hl
 omega
mutual
theorem qn_nds : ∀ (t : T), qn t ≤ nds t
 | .mk k n ks => by rw [nds_mk]; unfold qn; have := qns_ndss ks; split <;> omega
theorem qns_ndss : ∀ (ts : List T), qns ts ≤ ndss ts
 | [] => Nat.le_refl _
 | t :: ts => by rw [ndss_cons]; unfold qns; have := qn_nds t; have := qns_ndss ts; omega
end
section
variable {ops : Array Oper} {K : Env → World → Prop} {rest : List (Mv × Nat)} {S : World → Prop} {ρ : Env} {w : World} {i : Nat} {G : GH} {L : LH}
/-- all types of a row that nobody writes, behind an empty row -/
theorem m_append_PE {ob ox : Operand} {d : Option Nat} {b : Nat} {A : Option Addr} {c : Nat} {l : List T} (h : opAt ops i ρ = some (.call { callee := .builtin .append, args := #[ob, ox], argTypes := #[22, 22] }, d)) (hb : ev ρ ob = .slice (some ⟨b, 0, none⟩) 0 0) (hx : ev ρ ox = .slice A l.length c)
  (hks : IsPolys G A l) (hl : l.length < lim) (hst : St G ((b, .cells #[] 24) :: L) w) (hS : ∀ Lp' w', St G (Lp' ++ L) w' → S w')
  (hk : ∀ v' cs Lp' w', OS 24 3 v' l.length cs Lp' → PoL G cs l → St G (Lp' ++ L) w' → RunD Try.prog ops K rest S (updo ρ d v') w') : RunD Try.prog ops K ((.e, i) :: rest) S ρ w := by
 have hlim : lim = 1099511627776 := rfl
 obtain ⟨o, ho, hw, hop, rfl⟩ := opAt_spec h
 refine r_e ho hw ?_
 obtain ⟨inf, z, hi, hz, hs, hzc, hby⟩ := el22.inf
 cases l with
 | nil =>
  have hsrc : Src Try.prog inf.size 22 (.slice A 0 c) 0 [] w := by
   cases A with
   | none => exact Src.ofNil w el22.sl c
   | some a => exact Src.ofSlice w el22.sl a 0 c [] (by simp) (fun j u hu => by simp at hu) (fun u hu => by cases hu)
  have hrun := run_append_room_src w 22 22 o.type 24 inf el22.sl hi b 0 0 0 _ 0 [] hsrc (Nat.le_refl _) (fun j hj => by simp at hj) (fun j hj => by simp at hj)
  have hst' : St G ([(b, .cells (List.toArray []) 24 (0, 0))] ++ L) w := hst
  refine OpE_ok (run_call_app hop rfl (by rw [hb, hx]; exact hrun)) ⟨hS _ _ hst', hk _ [] _ _ ⟨rfl, .inr ⟨b, 0, [], rfl, rfl, Nat.le_refl _, rfl, rfl⟩⟩ trivial hst'⟩
 | cons t ts =>
  have hstk := hst
  obtain ⟨sb, so, _, _, rfl, _⟩ := hks.elem (i := 0) (t := t) rfl
  have hst := hstk
  obtain ⟨news, hnl, hnP, hnj, hno⟩ := hks.srcL
  obtain ⟨v', w', hrun, Lp', hos', hst'⟩ := ap_own (ty := o.type) (A := []) (Lp := [(b, .cells (List.toArray []) 24 (0, 0))]) (B := L) (n := 0) (cs := []) (v := .slice (some ⟨b, 0, none⟩) 0 0) el22.sl el22.sl hi hz hs hzc hby ⟨rfl, .inr ⟨b, 0, [], rfl, rfl, Nat.le_refl _, rfl, rfl⟩⟩ hst (sb := sb) (so := so) (m := (t :: ts).length) (mc := c) hnl (fun j u hu => (hnj j u hu).cell hst.imm) (fun u hu => List.all_eq_true.1 hno u hu) (Nat.succ_pos _) (by omega) (by omega)
  rw [Nat.zero_add] at hos'
  refine OpE_ok (run_call_app hop rfl (by rw [hb, hx]; exact hrun)) ⟨hS _ _ hst', hk _ _ _ _ hos' (by simpa using hnP) hst'⟩
/-- append to a slice of the walk's own, as an effect -/
theorem m_appendE {ob ox : Operand} {t e sz bytes : Nat} {d : Option Nat} (hel : Elem Try.prog t e sz bytes) (A : LH) {Lp B : LH} {v : Value} {n : Nat} {cs : List Value} (news : List Value) {sb so m mc : Nat}
  (h : opAt ops i ρ = some (.call { callee := .builtin .append, args := #[ob, ox], argTypes := #[t, t] }, d)) (hb : ev ρ ob = v) (hx : ev ρ ox = .slice (some ⟨sb, so, none⟩) m mc)
  (hos : OS e sz v n cs Lp) (hst : St G (A ++ (Lp ++ B)) w) (hlen : news.length = m * sz) (hsrc : ∀ j u, news[j]? = some u → w.cell? ⟨sb, so + j, none⟩ = some u) (hone : (news.all (·.oneCell')) = true)
  (hm : 0 < m) (hbd : (n + m) * bytes ≤ 140737488355328) (hnm : n + m ≤ 4611686018427387904) (hS : ∀ Lp' w', St G (A ++ (Lp' ++ B)) w' → S w')
  (hk : ∀ v' Lp' w', OS e sz v' (n + m) (cs ++ news) Lp' → St G (A ++ (Lp' ++ B)) w' → RunD Try.prog ops K rest S (updo ρ d v') w') : RunD Try.prog ops K ((.e, i) :: rest) S ρ w := by
 obtain ⟨o, ho, hw, hop, rfl⟩ := opAt_spec h
 refine r_e ho hw ?_
 obtain ⟨inf, z, hi, hz, hs, hzc, hby⟩ := hel.inf
 obtain ⟨v', w', hrun, Lp', hos', hst'⟩ := ap_own (ty := o.type) hel.sl hel.sl hi hz hs hzc hby hos hst hlen hsrc (fun u hu => List.all_eq_true.1 hone u hu) hm hbd hnm
 exact OpE_ok (run_call_app hop rfl (by rw [hb, hx]; exact hrun)) ⟨hS _ _ hst', hk v' Lp' w' hos' hst'⟩
end

theorem c10 {G : GH} {L : LH} {w : World} {A0 A1 : Option Addr} {n0 c0 n1 c1 : Nat} {op : Bool} (hB0 : ByS G A0 n0) (hc0 : n0 ≤ c0) (hB1 : ByS G A1 n1) (hc1 : n1 ≤ c1) (hst : St G L w) :
  Cal Try.prog 10 #[.slice A0 n0 c0, .slice A1 n1 c1, .bool op] w fun x w' => x = .bool true ∧ St G L w' := by
 have hlim : lim = 1099511627776 := rfl
 refine cal_of_W Try.func10 rfl (Nat.le_of_ble_eq_true (by kernel_rfl)) ?_
 refine W_sr [(.p, 0)] hst ?_
 refine r_z [(6, .bool false)] ?_
 refine W_sr [(.p, 0), (.f, 1), (.p, 2)] hst ?_
 refine r_y [(.p, 0)] [(21, .slice A1 n1 c1)] ?_
 refine m_cl #[.slice A1 n1 c1] (some 22) (c20 (hB1) hc1 hst) ?_
 rintro _ w1 ⟨G1, sb0, B0, m0, d0, hG1, rfl, hC0, hm0, hst⟩
 refine nx hst ?_
 refine r_z [(7, pN sb0 0)] ?_
 refine W_sr [(.p, 0), (.f, 1), (.f, 2), (.f, 3), (.f, 4)] hst ?_
 refine r_y [(.p, 0)] [(23, .slice A0 n0 c0)] ?_
 refine m_cl #[.slice A0 n0 c0] (some 24) (c20 ((hB0).mono (hG1)) hc0 hst) ?_
 rintro _ w1 ⟨G2, sb1, B1, m1, d1, hG2, rfl, hC1, hm1, hst⟩
 refine nx hst ?_
 refine m_cl #[pN sb1 0, iN 12, .bool false] (some 25) (c19 (at_ := 0) (by decide) (by decide) (by decide) (hC1) hm1 hst) ?_
 rintro x1 w1 ⟨G3, ta, atta, sdta, hG3, hxta, hrta, hnta, hpta, hata, hst⟩
 obtain ⟨xAta, xcta, rfl, _, _⟩ := id hxta.open
 refine nx hst ?_
 refine m_new (.cells #[iN 0, iN 0, .slice none 0 0] 24) (fun b1 => pN b1 0) (some 8) (fun b => by kernel_rfl) hst (fun b1 w1 hst => ?_)
 refine s_0 [(0, iN ta.kind), (1, iN ta.num), (2, .slice xAta ta.kids.length xcta)] [iN ta.kind, iN ta.num, .slice xAta ta.kids.length xcta] none hst (fun w1 hst => ?_)
 refine r_nil ?_
 refine W_sr [(.p, 0), (.f, 1), (.f, 2), (.f, 3)] hst ?_
 refine r_y [(.p, 0)] [(26, pN sb0 0)] ?_
 have hst := St.swap (A := [(b1, cT ta xAta xcta), (sb1, .cells #[.slice B1 m1 d1, nN atta, .int .u64 sdta] 96)]) (B := [(sb0, .cells #[.slice B0 m0 d0, iN 0, .int .u64 88172645463325252] 96)]) (C := L) hst
 have hst : St G3 ((sb0, .cells #[.slice B0 m0 d0, iN 0, .int .u64 88172645463325252] 96) :: (b1, cT ta xAta xcta) :: (sb1, .cells #[.slice B1 m1 d1, nN atta, .int .u64 sdta] 96) :: L) _ := hst
 refine m_cl #[pN sb0 0, iN 12, .bool false] (some 27) (c19 (at_ := 0) (by decide) (by decide) (by decide) ((hC0).mono ((hG2).trans hG3)) hm0 hst) ?_
 rintro x1 w1 ⟨G4, tb0, attb0, sdtb0, hG4, hxtb0, hrtb0, hntb0, hptb0, hatb0, hst⟩
 obtain ⟨xAtb0, xctb0, rfl, _, _⟩ := id hxtb0.open
 refine nx hst ?_
 refine m_new (.cells #[iN 0, iN 0, .slice none 0 0] 24) (fun b2 => pN b2 0) (some 9) (fun b => by kernel_rfl) hst (fun b2 w1 hst => ?_)
 refine s_0 [(0, iN tb0.kind), (1, iN tb0.num), (2, .slice xAtb0 tb0.kids.length xctb0)] [iN tb0.kind, iN tb0.num, .slice xAtb0 tb0.kids.length xctb0] none hst (fun w1 hst => ?_)
 refine r_nil ?_
 refine W_seqI (fun ρ D w => ∃ (GJ : GH) (tb : T) (xA : Option Addr) (xc : Nat), EqS ρ [(2, .bool op), (8, pN b1 0), (9, pN b2 0)] ∧ D = [] ∧ St GJ ((b2, cT tb xA xc) :: (b1, cT ta xAta xcta) :: L) w ∧ (Le G4 GJ) ∧ (IsPoly GJ (aT tb xA xc) tb) ∧ (rgt 0 tb) ∧ (nds tb ≤ 12) ∧ (op = true → Sv.usB ta tb = true)) ?_ ?_
 ·skip
  refine W_sr [(.p, 0)] hst ?_
  refine r_z [(28, .bool op)] ?_
  refine W_cd (b := op) (fun hc3 => ?_) (fun hc3 => ?_)
  ·skip
   refine W_seq ?_
   have hna : nds ta ≤ 12 := by omega
   have hqa := qn_nds ta
   refine W_rg [(.l, 0), (.f, 1)] hst ?_
   refine r_s [3] [(.l, 0)] [(29, (aT ta xAta xcta))] (rc_l 2 0 rfl rfl (rc_l 2 1 rfl rfl (rc_l 2 2 rfl rfl rc_nil))) ?_
   refine s_0 [(0, iN ta.kind), (1, iN ta.num), (2, .slice xAta ta.kids.length xcta)] [iN ta.kind, iN ta.num, .slice xAta ta.kids.length xcta] none hst (fun w1 hst => ?_)
   refine r_nil ?_
   refine W_block ?_
   have hst := St.swap (A := [(b2, cT ta xAta xcta)]) (B := [(sb0, .cells #[.slice B0 m0 d0, nN attb0, .int .u64 sdtb0] 96)]) (C := (b1, cT ta xAta xcta) :: (sb1, .cells #[.slice B1 m1 d1, nN atta, .int .u64 sdta] 96) :: L) hst
   have hst : St G4 ((sb0, .cells #[.slice B0 m0 d0, nN attb0, .int .u64 sdtb0] 96) :: (b2, cT ta xAta xcta) :: (b1, cT ta xAta xcta) :: (sb1, .cells #[.slice B1 m1 d1, nN atta, .int .u64 sdta] 96) :: L) _ := hst
   have hst := St.swap (A := [(sb0, .cells #[.slice B0 m0 d0, nN attb0, .int .u64 sdtb0] 96), (b2, cT ta xAta xcta)]) (B := [(b1, cT ta xAta xcta)]) (C := (sb1, .cells #[.slice B1 m1 d1, nN atta, .int .u64 sdta] 96) :: L) hst
   have hst : St G4 ((b1, cT ta xAta xcta) :: (sb0, .cells #[.slice B0 m0 d0, nN attb0, .int .u64 sdtb0] 96) :: (b2, cT ta xAta xcta) :: (sb1, .cells #[.slice B1 m1 d1, nN atta, .int .u64 sdta] 96) :: L) _ := hst
   have hst := St.swap (A := [(b1, cT ta xAta xcta), (sb0, .cells #[.slice B0 m0 d0, nN attb0, .int .u64 sdtb0] 96)]) (B := [(b2, cT ta xAta xcta)]) (C := (sb1, .cells #[.slice B1 m1 d1, nN atta, .int .u64 sdta] 96) :: L) hst
   have hst : St G4 ((b2, cT ta xAta xcta) :: (b1, cT ta xAta xcta) :: (sb0, .cells #[.slice B0 m0 d0, nN attb0, .int .u64 sdtb0] 96) :: (sb1, .cells #[.slice B1 m1 d1, nN atta, .int .u64 sdta] 96) :: L) _ := hst
   have hst := (St.swap (A := [(b2, cT ta xAta xcta), (b1, cT ta xAta xcta), (sb0, .cells #[.slice B0 m0 d0, nN attb0, .int .u64 sdtb0] 96)]) (B := [(sb1, .cells #[.slice B1 m1 d1, nN atta, .int .u64 sdta] 96)]) (C := L) hst).drop [(sb1, .cells #[.slice B1 m1 d1, nN atta, .int .u64 sdta] 96)]
   have hst : St G4 ((b2, cT ta xAta xcta) :: (b1, cT ta xAta xcta) :: (sb0, .cells #[.slice B0 m0 d0, nN attb0, .int .u64 sdtb0] 96) :: L) _ := hst
   refine W_loop (fun m ρ D w => ∃ (GL : GH) (tb : T) (xA : Option Addr) (xc : Nat) (at2 : Nat) (sd2 : Int), EqS ρ [(2, .bool op), (7, pN sb0 0), (8, pN b1 0), (9, pN b2 0)] ∧ D = [] ∧ St GL ((b2, cT tb xA xc) :: (b1, cT ta xAta xcta) :: (sb0, .cells #[.slice B0 m0 d0, iN (((at2 : Nat) : Int)), .int .u64 sd2] 96) :: L) w ∧ (Le G4 GL) ∧ (IsPoly GL (aT tb xA xc) tb) ∧ (rgt 0 tb) ∧ (nds tb ≤ 12) ∧ (Sv.usB ta tb = true) ∧ (at2 + 6 * qn tb ≤ 200) ∧ qn tb = m) (qn ta) ⟨G4, ta, xAta, xcta, attb0, sdtb0, ⟨by kernel_rfl, by kernel_rfl, by kernel_rfl, by kernel_rfl, trivial⟩, rfl, hst, Le.refl _, ((hxta).mono (hG4)), hrta, hna, Sv.usB_refl hrta, (by omega), rfl⟩ ?_
   clear hst; rintro m4 ρ D w1 ⟨GL, tb, xA, xc, at2, sd2, hE5, rfl, hst, hGL, hxb, hrb, hnb, hub, hat, hm6⟩
   refine W_env hE5 ?_
   refine W_seq ?_
   refine W_sr [(.p, 0), (.l, 1), (.p, 2)] hst ?_
   refine r_x [1] [(30, pN b2 0), (31, iN tb.kind), (32, .bool (tb.kind == 4))] (rc_l 0 0 rfl rfl rc_nil) ?_
   refine W_cd (b := tb.kind == 4) (fun hc7 => ?_) (fun hc7 => ?_)
   ·skip
    refine W_skip ?_
    refine W_block ?_
    refine W_seq ?_
    have hst := St.swap (A := [(b2, cT tb xA xc), (b1, cT ta xAta xcta)]) (B := [(sb0, .cells #[.slice B0 m0 d0, nN at2, .int .u64 sd2] 96)]) (C := L) hst
    have hst : St GL ((sb0, .cells #[.slice B0 m0 d0, nN at2, .int .u64 sd2] 96) :: (b2, cT tb xA xc) :: (b1, cT ta xAta xcta) :: L) _ := hst
    refine W_regT (.fork [(.l, 0), (.p, 1)] 2 (.fork [] 3 (.run [(.p, 4), (.p, 5), (.p, 6), (.e, 7), (.f, 8), (.p, 9)]) 7 (.run [(.e, 3), (.p, 4), (.p, 5), (.p, 6), (.f, 8), (.p, 9)])) 7 (.run [(.e, 2), (.e, 3), (.p, 4), (.p, 5), (.p, 6), (.f, 8), (.p, 9)])) 8 (SS GL ([(b2, cT tb xA xc)])) mixed (by kernel_rfl) (by kernel_rfl) (by kernel_rfl) (by kernel_rfl) (fun w1 hw1 => ?_)
    have hst := hst.heap hw1; refine ⟨hst.ss' (Le.refl _) (fun p hp => by rw [List.mem_singleton.1 hp]; simp), ?_⟩
    unfold RunT
    refine r_x [3] [(34, (aT tb xA xc)), (35, pN sb0 0)] (rc_l 0 0 rfl rfl (rc_l 0 1 rfl rfl (rc_l 0 2 rfl rfl rc_nil))) ?_
    refine ⟨?_, ?_⟩
    ·skip
     refine m_callE #[pN sb0 0, iN 3, .bool true] (some 36) (by kernel_rfl) (c19 (at_ := at2) (by decide) (by decide) (by omega) ((hC0).mono ((((hG2).trans hG3).trans hG4).trans hGL)) hm0 hst) ?_
     rintro x1 w1 ⟨G5, tu, attu, sdtu, hG5, hxtu, hrtu, hntu, hptu, hatu, hst⟩
     obtain ⟨xAtu, xctu, rfl, _, _⟩ := id hxtu.open
     refine ⟨hst.ss' ((Le.refl _).trans hG5) (fun p hp => by rw [List.mem_singleton.1 hp]; simp), ?_⟩
     refine r_nil ?_
     unfold RunT
     refine r_nil ?_
     refine ⟨?_, ?_⟩
     ·skip
      have h4b : tb.kind = 4 := by simpa using hc7
      have hstk := hst
      have hptu := hptu rfl
      have hntu : nds tu ≤ 3 := by omega
      obtain ⟨fo, ro, eo, hop1, hrz, hcase⟩ := Sv.opens_law hrb hnb h4b hrtu hptu (by omega)
      have hzb : T.sz tb ≤ 24 := by have b := sz_nds tb; omega
      have hzu : T.sz tu ≤ 24 := by have b := sz_nds tu; omega
      refine m_callE #[(aT tb xA xc), (aT tu xAtu xctu)] (some 37) (by kernel_rfl) (c35 ((hxb).mono (hG5)) (hxtu) (by omega) hrz hstk hop1) ?_
      rintro _ w1 ⟨G6, x0, Fo, hG6, rfl, hxo, hst⟩
      obtain ⟨G7, hG7, hFo, hst⟩ := St.freeze Fo hst
      have hxo := hxo.poly hFo
      obtain ⟨xAo, xco, rfl, _, _⟩ := id hxo.open
      rcases hcase with rfl | ⟨rfl, hro, hno, huo, hqo⟩
      ·refine ⟨hst.ss' ((((Le.refl _).trans hG5).trans hG6).trans hG7) (fun p hp => by rw [List.mem_singleton.1 hp]; simp), ?_⟩
       refine r_nil ?_
       unfold RunT
       refine r_y [(.p, 4), (.p, 5), (.p, 6)] [(33, .tuple #[(aT ro xAo xco), iN 2]), (38, (aT ro xAo xco)), (39, iN 2)] ?_
       refine m_newE (.cells #[iN 0, iN 0, .slice none 0 0] 24) (fun b8 => pN b8 0) (some 10) (fun b => by kernel_rfl) hst (fun _ _ h => h.ss' ((((Le.refl _).trans hG5).trans hG6).trans hG7) (fun p hp => by rw [List.mem_singleton.1 hp]; simp)) (fun b8 w1 hst => ?_)
       refine s_0 [(0, iN ro.kind), (1, iN ro.num), (2, .slice xAo ro.kids.length xco)] [iN ro.kind, iN ro.num, .slice xAo ro.kids.length xco] none hst (fun w1 hst => ?_)
       refine r_z [(11, iN 2)] ?_
       refine W_seq ?_
       refine W_sr [(.p, 0), (.p, 1)] hst ?_
       refine r_z [(40, iN 2), (41, .bool true)] ?_
       refine W_cT ?_
       refine W_exit ?_
       have hst := St.swap (A := [(b8, cT ro xAo xco), (sb0, .cells #[.slice B0 m0 d0, nN attu, .int .u64 sdtu] 96), (b2, cT tb xA xc)]) (B := [(b1, cT ta xAta xcta)]) (C := L) hst
       have hst : St G7 ((b1, cT ta xAta xcta) :: (b8, cT ro xAo xco) :: (sb0, .cells #[.slice B0 m0 d0, nN attu, .int .u64 sdtu] 96) :: (b2, cT tb xA xc) :: L) _ := hst
       have hst := St.swap (A := [(b1, cT ta xAta xcta), (b8, cT ro xAo xco), (sb0, .cells #[.slice B0 m0 d0, nN attu, .int .u64 sdtu] 96)]) (B := [(b2, cT tb xA xc)]) (C := L) hst
       have hst : St G7 ((b2, cT tb xA xc) :: (b1, cT ta xAta xcta) :: (b8, cT ro xAo xco) :: (sb0, .cells #[.slice B0 m0 d0, nN attu, .int .u64 sdtu] 96) :: L) _ := hst
       have hst := (St.swap (A := [(b2, cT tb xA xc), (b1, cT ta xAta xcta)]) (B := [(b8, cT ro xAo xco), (sb0, .cells #[.slice B0 m0 d0, nN attu, .int .u64 sdtu] 96)]) (C := L) hst).drop [(b8, cT ro xAo xco), (sb0, .cells #[.slice B0 m0 d0, nN attu, .int .u64 sdtu] 96)]
       have hst : St G7 ((b2, cT tb xA xc) :: (b1, cT ta xAta xcta) :: L) _ := hst
       exact ⟨G7, tb, xA, xc, ⟨by kernel_rfl, by kernel_rfl, by kernel_rfl, trivial⟩, rfl, hst, (((hGL).trans hG5).trans hG6).trans hG7, ((hxb).mono (((hG5).trans hG6).trans hG7)), hrb, hnb, (fun _ => hub)⟩
      refine ⟨hst.ss' ((((Le.refl _).trans hG5).trans hG6).trans hG7) (fun p hp => by rw [List.mem_singleton.1 hp]; simp), ?_⟩
      refine r_nil ?_
      unfold RunT
      refine r_y [(.p, 4), (.p, 5), (.p, 6)] [(33, .tuple #[(aT ro xAo xco), iN 0]), (38, (aT ro xAo xco)), (39, iN 0)] ?_
      refine m_newE (.cells #[iN 0, iN 0, .slice none 0 0] 24) (fun b9 => pN b9 0) (some 10) (fun b => by kernel_rfl) hst (fun _ _ h => h.ss' ((((Le.refl _).trans hG5).trans hG6).trans hG7) (fun p hp => by rw [List.mem_singleton.1 hp]; simp)) (fun b9 w1 hst => ?_)
      refine s_0 [(0, iN ro.kind), (1, iN ro.num), (2, .slice xAo ro.kids.length xco)] [iN ro.kind, iN ro.num, .slice xAo ro.kids.length xco] none hst (fun w1 hst => ?_)
      refine r_z [(11, iN 0)] ?_
      refine W_seq ?_
      refine W_sr [(.p, 0), (.p, 1)] hst ?_
      refine r_z [(40, iN 0), (41, .bool false)] ?_
      refine W_cF ?_
      refine W_skip ?_
      refine W_seq ?_
      refine W_sr [(.p, 0), (.p, 1)] hst ?_
      refine r_z [(42, iN 0), (43, .bool false)] ?_
      refine W_cF ?_
      refine W_skip ?_
      refine W_rg [(.l, 0), (.f, 1)] hst ?_
      refine r_s [3] [(.l, 0)] [(44, (aT ro xAo xco))] (rc_l 0 0 rfl rfl (rc_l 0 1 rfl rfl (rc_l 0 2 rfl rfl rc_nil))) ?_
      refine s_2 [(0, iN ro.kind), (1, iN ro.num), (2, .slice xAo ro.kids.length xco)] [iN ro.kind, iN ro.num, .slice xAo ro.kids.length xco] none hst (fun w1 hst => ?_)
      refine r_nil ?_
      have hst := St.swap (A := [(b9, cT ro xAo xco)]) (B := [(sb0, .cells #[.slice B0 m0 d0, nN attu, .int .u64 sdtu] 96)]) (C := (b2, cT ro xAo xco) :: (b1, cT ta xAta xcta) :: L) hst
      have hst : St G7 ((sb0, .cells #[.slice B0 m0 d0, nN attu, .int .u64 sdtu] 96) :: (b9, cT ro xAo xco) :: (b2, cT ro xAo xco) :: (b1, cT ta xAta xcta) :: L) _ := hst
      have hst := St.swap (A := [(sb0, .cells #[.slice B0 m0 d0, nN attu, .int .u64 sdtu] 96), (b9, cT ro xAo xco), (b2, cT ro xAo xco)]) (B := [(b1, cT ta xAta xcta)]) (C := L) hst
      have hst : St G7 ((b1, cT ta xAta xcta) :: (sb0, .cells #[.slice B0 m0 d0, nN attu, .int .u64 sdtu] 96) :: (b9, cT ro xAo xco) :: (b2, cT ro xAo xco) :: L) _ := hst
      have hst := St.swap (A := [(b1, cT ta xAta xcta), (sb0, .cells #[.slice B0 m0 d0, nN attu, .int .u64 sdtu] 96), (b9, cT ro xAo xco)]) (B := [(b2, cT ro xAo xco)]) (C := L) hst
      have hst : St G7 ((b2, cT ro xAo xco) :: (b1, cT ta xAta xcta) :: (sb0, .cells #[.slice B0 m0 d0, nN attu, .int .u64 sdtu] 96) :: (b9, cT ro xAo xco) :: L) _ := hst
      have hst := (St.swap (A := [(b2, cT ro xAo xco), (b1, cT ta xAta xcta), (sb0, .cells #[.slice B0 m0 d0, nN attu, .int .u64 sdtu] 96)]) (B := [(b9, cT ro xAo xco)]) (C := L) hst).drop [(b9, cT ro xAo xco)]
      have hst : St G7 ((b2, cT ro xAo xco) :: (b1, cT ta xAta xcta) :: (sb0, .cells #[.slice B0 m0 d0, nN attu, .int .u64 sdtu] 96) :: L) _ := hst
      exact ⟨_, (by omega), G7, ro, xAo, xco, attu, sdtu, ⟨by kernel_rfl, by kernel_rfl, by kernel_rfl, by kernel_rfl, trivial⟩, rfl, hst, (((hGL).trans hG5).trans hG6).trans hG7, (hxo), hro, hno, (Sv.usB_trans hrta hrb hro hub huo), (by omega), rfl⟩
     refine m_newE (.cells #[iN 0, iN 0, .slice none 0 0] 24) (fun b10 => pN b10 0) (some 10) (fun b => by kernel_rfl) hst (fun _ _ h => h.ss' ((Le.refl _).trans hG5) (fun p hp => by rw [List.mem_singleton.1 hp]; simp)) (fun b10 w1 hst => ?_)
     refine r_nil ?_
     unfold RunT
     have h4b : tb.kind = 4 := by simpa using hc7
     have hstk := hst
     have hptu := hptu rfl
     have hntu : nds tu ≤ 3 := by omega
     obtain ⟨fo, ro, eo, hop1, hrz, hcase⟩ := Sv.opens_law hrb hnb h4b hrtu hptu (by omega)
     have hzb : T.sz tb ≤ 24 := by have b := sz_nds tb; omega
     have hzu : T.sz tu ≤ 24 := by have b := sz_nds tu; omega
     refine m_callE #[(aT tb xA xc), (aT tu xAtu xctu)] (some 37) (by kernel_rfl) (c35 ((hxb).mono (hG5)) (hxtu) (by omega) hrz hstk hop1) ?_
     rintro _ w1 ⟨G8, x0, Fo, hG8, rfl, hxo, hst⟩
     obtain ⟨G9, hG9, hFo, hst⟩ := St.freeze Fo hst
     have hxo := hxo.poly hFo
     obtain ⟨xAo, xco, rfl, _, _⟩ := id hxo.open
     rcases hcase with rfl | ⟨rfl, hro, hno, huo, hqo⟩
     ·refine ⟨hst.ss' ((((Le.refl _).trans hG5).trans hG8).trans hG9) (fun p hp => by rw [List.mem_singleton.1 hp]; simp), ?_⟩
      refine r_y [(.p, 4), (.p, 5), (.p, 6)] [(33, .tuple #[(aT ro xAo xco), iN 2]), (38, (aT ro xAo xco)), (39, iN 2)] ?_
      refine s_0 [(0, iN ro.kind), (1, iN ro.num), (2, .slice xAo ro.kids.length xco)] [iN ro.kind, iN ro.num, .slice xAo ro.kids.length xco] none hst (fun w1 hst => ?_)
      refine r_z [(11, iN 2)] ?_
      refine W_seq ?_
      refine W_sr [(.p, 0), (.p, 1)] hst ?_
      refine r_z [(40, iN 2), (41, .bool true)] ?_
      refine W_cT ?_
      refine W_exit ?_
      have hst := St.swap (A := [(b10, cT ro xAo xco), (sb0, .cells #[.slice B0 m0 d0, nN attu, .int .u64 sdtu] 96), (b2, cT tb xA xc)]) (B := [(b1, cT ta xAta xcta)]) (C := L) hst
      have hst : St G9 ((b1, cT ta xAta xcta) :: (b10, cT ro xAo xco) :: (sb0, .cells #[.slice B0 m0 d0, nN attu, .int .u64 sdtu] 96) :: (b2, cT tb xA xc) :: L) _ := hst
      have hst := St.swap (A := [(b1, cT ta xAta xcta), (b10, cT ro xAo xco), (sb0, .cells #[.slice B0 m0 d0, nN attu, .int .u64 sdtu] 96)]) (B := [(b2, cT tb xA xc)]) (C := L) hst
      have hst : St G9 ((b2, cT tb xA xc) :: (b1, cT ta xAta xcta) :: (b10, cT ro xAo xco) :: (sb0, .cells #[.slice B0 m0 d0, nN attu, .int .u64 sdtu] 96) :: L) _ := hst
      have hst := (St.swap (A := [(b2, cT tb xA xc), (b1, cT ta xAta xcta)]) (B := [(b10, cT ro xAo xco), (sb0, .cells #[.slice B0 m0 d0, nN attu, .int .u64 sdtu] 96)]) (C := L) hst).drop [(b10, cT ro xAo xco), (sb0, .cells #[.slice B0 m0 d0, nN attu, .int .u64 sdtu] 96)]
      have hst : St G9 ((b2, cT tb xA xc) :: (b1, cT ta xAta xcta) :: L) _ := hst
      exact ⟨G9, tb, xA, xc, ⟨by kernel_rfl, by kernel_rfl, by kernel_rfl, trivial⟩, rfl, hst, (((hGL).trans hG5).trans hG8).trans hG9, ((hxb).mono (((hG5).trans hG8).trans hG9)), hrb, hnb, (fun _ => hub)⟩
     refine ⟨hst.ss' ((((Le.refl _).trans hG5).trans hG8).trans hG9) (fun p hp => by rw [List.mem_singleton.1 hp]; simp), ?_⟩
     refine r_y [(.p, 4), (.p, 5), (.p, 6)] [(33, .tuple #[(aT ro xAo xco), iN 0]), (38, (aT ro xAo xco)), (39, iN 0)] ?_
     refine s_0 [(0, iN ro.kind), (1, iN ro.num), (2, .slice xAo ro.kids.length xco)] [iN ro.kind, iN ro.num, .slice xAo ro.kids.length xco] none hst (fun w1 hst => ?_)
     refine r_z [(11, iN 0)] ?_
     refine W_seq ?_
     refine W_sr [(.p, 0), (.p, 1)] hst ?_
     refine r_z [(40, iN 0), (41, .bool false)] ?_
     refine W_cF ?_
     refine W_skip ?_
     refine W_seq ?_
     refine W_sr [(.p, 0), (.p, 1)] hst ?_
     refine r_z [(42, iN 0), (43, .bool false)] ?_
     refine W_cF ?_
     refine W_skip ?_
     refine W_rg [(.l, 0), (.f, 1)] hst ?_
     refine r_s [3] [(.l, 0)] [(44, (aT ro xAo xco))] (rc_l 0 0 rfl rfl (rc_l 0 1 rfl rfl (rc_l 0 2 rfl rfl rc_nil))) ?_
     refine s_2 [(0, iN ro.kind), (1, iN ro.num), (2, .slice xAo ro.kids.length xco)] [iN ro.kind, iN ro.num, .slice xAo ro.kids.length xco] none hst (fun w1 hst => ?_)
     refine r_nil ?_
     have hst := St.swap (A := [(b10, cT ro xAo xco)]) (B := [(sb0, .cells #[.slice B0 m0 d0, nN attu, .int .u64 sdtu] 96)]) (C := (b2, cT ro xAo xco) :: (b1, cT ta xAta xcta) :: L) hst
     have hst : St G9 ((sb0, .cells #[.slice B0 m0 d0, nN attu, .int .u64 sdtu] 96) :: (b10, cT ro xAo xco) :: (b2, cT ro xAo xco) :: (b1, cT ta xAta xcta) :: L) _ := hst
     have hst := St.swap (A := [(sb0, .cells #[.slice B0 m0 d0, nN attu, .int .u64 sdtu] 96), (b10, cT ro xAo xco), (b2, cT ro xAo xco)]) (B := [(b1, cT ta xAta xcta)]) (C := L) hst
     have hst : St G9 ((b1, cT ta xAta xcta) :: (sb0, .cells #[.slice B0 m0 d0, nN attu, .int .u64 sdtu] 96) :: (b10, cT ro xAo xco) :: (b2, cT ro xAo xco) :: L) _ := hst
     have hst := St.swap (A := [(b1, cT ta xAta xcta), (sb0, .cells #[.slice B0 m0 d0, nN attu, .int .u64 sdtu] 96), (b10, cT ro xAo xco)]) (B := [(b2, cT ro xAo xco)]) (C := L) hst
     have hst : St G9 ((b2, cT ro xAo xco) :: (b1, cT ta xAta xcta) :: (sb0, .cells #[.slice B0 m0 d0, nN attu, .int .u64 sdtu] 96) :: (b10, cT ro xAo xco) :: L) _ := hst
     have hst := (St.swap (A := [(b2, cT ro xAo xco), (b1, cT ta xAta xcta), (sb0, .cells #[.slice B0 m0 d0, nN attu, .int .u64 sdtu] 96)]) (B := [(b10, cT ro xAo xco)]) (C := L) hst).drop [(b10, cT ro xAo xco)]
     have hst : St G9 ((b2, cT ro xAo xco) :: (b1, cT ta xAta xcta) :: (sb0, .cells #[.slice B0 m0 d0, nN attu, .int .u64 sdtu] 96) :: L) _ := hst
     exact ⟨_, (by omega), G9, ro, xAo, xco, attu, sdtu, ⟨by kernel_rfl, by kernel_rfl, by kernel_rfl, by kernel_rfl, trivial⟩, rfl, hst, (((hGL).trans hG5).trans hG8).trans hG9, (hxo), hro, hno, (Sv.usB_trans hrta hrb hro hub huo), (by omega), rfl⟩
    refine m_newE (.cells #[iN 0, iN 0, .slice none 0 0] 24) (fun b11 => pN b11 0) (some 10) (fun b => by kernel_rfl) hst (fun _ _ h => h.ss' (Le.refl _) (fun p hp => by rw [List.mem_singleton.1 hp]; simp)) (fun b11 w1 hst => ?_)
    refine r_nil ?_
    unfold RunT
    have hst := St.swap (A := [(b11, .cells #[iN 0, iN 0, .slice none 0 0] 24)]) (B := [(sb0, .cells #[.slice B0 m0 d0, nN at2, .int .u64 sd2] 96)]) (C := (b2, cT tb xA xc) :: (b1, cT ta xAta xcta) :: L) hst
    have hst : St GL ((sb0, .cells #[.slice B0 m0 d0, nN at2, .int .u64 sd2] 96) :: (b11, .cells #[iN 0, iN 0, .slice none 0 0] 24) :: (b2, cT tb xA xc) :: (b1, cT ta xAta xcta) :: L) _ := hst
    refine m_callE #[pN sb0 0, iN 3, .bool true] (some 36) (by kernel_rfl) (c19 (at_ := at2) (by decide) (by decide) (by omega) ((hC0).mono ((((hG2).trans hG3).trans hG4).trans hGL)) hm0 hst) ?_
    rintro x1 w1 ⟨G10, tu, attu, sdtu, hG10, hxtu, hrtu, hntu, hptu, hatu, hst⟩
    obtain ⟨xAtu, xctu, rfl, _, _⟩ := id hxtu.open
    refine ⟨hst.ss' ((Le.refl _).trans hG10) (fun p hp => by rw [List.mem_singleton.1 hp]; simp), ?_⟩
    have h4b : tb.kind = 4 := by simpa using hc7
    have hstk := hst
    have hptu := hptu rfl
    have hntu : nds tu ≤ 3 := by omega
    obtain ⟨fo, ro, eo, hop1, hrz, hcase⟩ := Sv.opens_law hrb hnb h4b hrtu hptu (by omega)
    have hzb : T.sz tb ≤ 24 := by have b := sz_nds tb; omega
    have hzu : T.sz tu ≤ 24 := by have b := sz_nds tu; omega
    refine m_callE #[(aT tb xA xc), (aT tu xAtu xctu)] (some 37) (by kernel_rfl) (c35 ((hxb).mono (hG10)) (hxtu) (by omega) hrz hstk hop1) ?_
    rintro _ w1 ⟨G11, x0, Fo, hG11, rfl, hxo, hst⟩
    obtain ⟨G12, hG12, hFo, hst⟩ := St.freeze Fo hst
    have hxo := hxo.poly hFo
    obtain ⟨xAo, xco, rfl, _, _⟩ := id hxo.open
    rcases hcase with rfl | ⟨rfl, hro, hno, huo, hqo⟩
    ·refine ⟨hst.ss' ((((Le.refl _).trans hG10).trans hG11).trans hG12) (fun p hp => by rw [List.mem_singleton.1 hp]; simp), ?_⟩
     refine r_y [(.p, 4), (.p, 5), (.p, 6)] [(33, .tuple #[(aT ro xAo xco), iN 2]), (38, (aT ro xAo xco)), (39, iN 2)] ?_
     refine s_1 [(0, iN ro.kind), (1, iN ro.num), (2, .slice xAo ro.kids.length xco)] [iN ro.kind, iN ro.num, .slice xAo ro.kids.length xco] none hst (fun w1 hst => ?_)
     refine r_z [(11, iN 2)] ?_
     refine W_seq ?_
     refine W_sr [(.p, 0), (.p, 1)] hst ?_
     refine r_z [(40, iN 2), (41, .bool true)] ?_
     refine W_cT ?_
     refine W_exit ?_
     have hst := St.swap (A := [(sb0, .cells #[.slice B0 m0 d0, nN attu, .int .u64 sdtu] 96), (b11, cT ro xAo xco), (b2, cT tb xA xc)]) (B := [(b1, cT ta xAta xcta)]) (C := L) hst
     have hst : St G12 ((b1, cT ta xAta xcta) :: (sb0, .cells #[.slice B0 m0 d0, nN attu, .int .u64 sdtu] 96) :: (b11, cT ro xAo xco) :: (b2, cT tb xA xc) :: L) _ := hst
     have hst := St.swap (A := [(b1, cT ta xAta xcta), (sb0, .cells #[.slice B0 m0 d0, nN attu, .int .u64 sdtu] 96), (b11, cT ro xAo xco)]) (B := [(b2, cT tb xA xc)]) (C := L) hst
     have hst : St G12 ((b2, cT tb xA xc) :: (b1, cT ta xAta xcta) :: (sb0, .cells #[.slice B0 m0 d0, nN attu, .int .u64 sdtu] 96) :: (b11, cT ro xAo xco) :: L) _ := hst
     have hst := (St.swap (A := [(b2, cT tb xA xc), (b1, cT ta xAta xcta)]) (B := [(sb0, .cells #[.slice B0 m0 d0, nN attu, .int .u64 sdtu] 96), (b11, cT ro xAo xco)]) (C := L) hst).drop [(sb0, .cells #[.slice B0 m0 d0, nN attu, .int .u64 sdtu] 96), (b11, cT ro xAo xco)]
     have hst : St G12 ((b2, cT tb xA xc) :: (b1, cT ta xAta xcta) :: L) _ := hst
     exact ⟨G12, tb, xA, xc, ⟨by kernel_rfl, by kernel_rfl, by kernel_rfl, trivial⟩, rfl, hst, (((hGL).trans hG10).trans hG11).trans hG12, ((hxb).mono (((hG10).trans hG11).trans hG12)), hrb, hnb, (fun _ => hub)⟩
    refine ⟨hst.ss' ((((Le.refl _).trans hG10).trans hG11).trans hG12) (fun p hp => by rw [List.mem_singleton.1 hp]; simp), ?_⟩
    refine r_y [(.p, 4), (.p, 5), (.p, 6)] [(33, .tuple #[(aT ro xAo xco), iN 0]), (38, (aT ro xAo xco)), (39, iN 0)] ?_
    refine s_1 [(0, iN ro.kind), (1, iN ro.num), (2, .slice xAo ro.kids.length xco)] [iN ro.kind, iN ro.num, .slice xAo ro.kids.length xco] none hst (fun w1 hst => ?_)
    refine r_z [(11, iN 0)] ?_
    refine W_seq ?_
    refine W_sr [(.p, 0), (.p, 1)] hst ?_
    refine r_z [(40, iN 0), (41, .bool false)] ?_
    refine W_cF ?_
    refine W_skip ?_
    refine W_seq ?_
    refine W_sr [(.p, 0), (.p, 1)] hst ?_
    refine r_z [(42, iN 0), (43, .bool false)] ?_
    refine W_cF ?_
    refine W_skip ?_
    refine W_rg [(.l, 0), (.f, 1)] hst ?_
    refine r_s [3] [(.l, 0)] [(44, (aT ro xAo xco))] (rc_l 1 0 rfl rfl (rc_l 1 1 rfl rfl (rc_l 1 2 rfl rfl rc_nil))) ?_
    refine s_2 [(0, iN ro.kind), (1, iN ro.num), (2, .slice xAo ro.kids.length xco)] [iN ro.kind, iN ro.num, .slice xAo ro.kids.length xco] none hst (fun w1 hst => ?_)
    refine r_nil ?_
    have hst := St.swap (A := [(sb0, .cells #[.slice B0 m0 d0, nN attu, .int .u64 sdtu] 96), (b11, cT ro xAo xco), (b2, cT ro xAo xco)]) (B := [(b1, cT ta xAta xcta)]) (C := L) hst
    have hst : St G12 ((b1, cT ta xAta xcta) :: (sb0, .cells #[.slice B0 m0 d0, nN attu, .int .u64 sdtu] 96) :: (b11, cT ro xAo xco) :: (b2, cT ro xAo xco) :: L) _ := hst
    have hst := St.swap (A := [(b1, cT ta xAta xcta), (sb0, .cells #[.slice B0 m0 d0, nN attu, .int .u64 sdtu] 96), (b11, cT ro xAo xco)]) (B := [(b2, cT ro xAo xco)]) (C := L) hst
    have hst : St G12 ((b2, cT ro xAo xco) :: (b1, cT ta xAta xcta) :: (sb0, .cells #[.slice B0 m0 d0, nN attu, .int .u64 sdtu] 96) :: (b11, cT ro xAo xco) :: L) _ := hst
    have hst := (St.swap (A := [(b2, cT ro xAo xco), (b1, cT ta xAta xcta), (sb0, .cells #[.slice B0 m0 d0, nN attu, .int .u64 sdtu] 96)]) (B := [(b11, cT ro xAo xco)]) (C := L) hst).drop [(b11, cT ro xAo xco)]
    have hst : St G12 ((b2, cT ro xAo xco) :: (b1, cT ta xAta xcta) :: (sb0, .cells #[.slice B0 m0 d0, nN attu, .int .u64 sdtu] 96) :: L) _ := hst
    exact ⟨_, (by omega), G12, ro, xAo, xco, attu, sdtu, ⟨by kernel_rfl, by kernel_rfl, by kernel_rfl, by kernel_rfl, trivial⟩, rfl, hst, (((hGL).trans hG10).trans hG11).trans hG12, (hxo), hro, hno, (Sv.usB_trans hrta hrb hro hub huo), (by omega), rfl⟩
   refine W_exit ?_
   have hst := St.swap (A := [(b2, cT tb xA xc)]) (B := [(b1, cT ta xAta xcta)]) (C := (sb0, .cells #[.slice B0 m0 d0, nN at2, .int .u64 sd2] 96) :: L) hst
   have hst : St GL ((b1, cT ta xAta xcta) :: (b2, cT tb xA xc) :: (sb0, .cells #[.slice B0 m0 d0, nN at2, .int .u64 sd2] 96) :: L) _ := hst
   have hst := St.swap (A := [(b1, cT ta xAta xcta)]) (B := [(b2, cT tb xA xc)]) (C := (sb0, .cells #[.slice B0 m0 d0, nN at2, .int .u64 sd2] 96) :: L) hst
   have hst : St GL ((b2, cT tb xA xc) :: (b1, cT ta xAta xcta) :: (sb0, .cells #[.slice B0 m0 d0, nN at2, .int .u64 sd2] 96) :: L) _ := hst
   have hst := (St.swap (A := [(b2, cT tb xA xc), (b1, cT ta xAta xcta)]) (B := [(sb0, .cells #[.slice B0 m0 d0, nN at2, .int .u64 sd2] 96)]) (C := L) hst).drop [(sb0, .cells #[.slice B0 m0 d0, nN at2, .int .u64 sd2] 96)]
   have hst : St GL ((b2, cT tb xA xc) :: (b1, cT ta xAta xcta) :: L) _ := hst
   exact ⟨GL, tb, xA, xc, ⟨by kernel_rfl, by kernel_rfl, by kernel_rfl, trivial⟩, rfl, hst, hGL, (hxb), hrb, hnb, (fun _ => hub)⟩
  refine W_skip ?_
  have hst := St.swap (A := [(b2, cT tb0 xAtb0 xctb0), (sb0, .cells #[.slice B0 m0 d0, nN attb0, .int .u64 sdtb0] 96)]) (B := [(b1, cT ta xAta xcta)]) (C := (sb1, .cells #[.slice B1 m1 d1, nN atta, .int .u64 sdta] 96) :: L) hst
  have hst : St G4 ((b1, cT ta xAta xcta) :: (b2, cT tb0 xAtb0 xctb0) :: (sb0, .cells #[.slice B0 m0 d0, nN attb0, .int .u64 sdtb0] 96) :: (sb1, .cells #[.slice B1 m1 d1, nN atta, .int .u64 sdta] 96) :: L) _ := hst
  have hst := St.swap (A := [(b1, cT ta xAta xcta)]) (B := [(b2, cT tb0 xAtb0 xctb0)]) (C := (sb0, .cells #[.slice B0 m0 d0, nN attb0, .int .u64 sdtb0] 96) :: (sb1, .cells #[.slice B1 m1 d1, nN atta, .int .u64 sdta] 96) :: L) hst
  have hst : St G4 ((b2, cT tb0 xAtb0 xctb0) :: (b1, cT ta xAta xcta) :: (sb0, .cells #[.slice B0 m0 d0, nN attb0, .int .u64 sdtb0] 96) :: (sb1, .cells #[.slice B1 m1 d1, nN atta, .int .u64 sdta] 96) :: L) _ := hst
  have hst := (St.swap (A := [(b2, cT tb0 xAtb0 xctb0), (b1, cT ta xAta xcta)]) (B := [(sb0, .cells #[.slice B0 m0 d0, nN attb0, .int .u64 sdtb0] 96), (sb1, .cells #[.slice B1 m1 d1, nN atta, .int .u64 sdta] 96)]) (C := L) hst).drop [(sb0, .cells #[.slice B0 m0 d0, nN attb0, .int .u64 sdtb0] 96), (sb1, .cells #[.slice B1 m1 d1, nN atta, .int .u64 sdta] 96)]
  have hst : St G4 ((b2, cT tb0 xAtb0 xctb0) :: (b1, cT ta xAta xcta) :: L) _ := hst
  exact ⟨G4, tb0, xAtb0, xctb0, ⟨by kernel_rfl, by kernel_rfl, by kernel_rfl, trivial⟩, rfl, hst, Le.refl _, (hxtb0), hrtb0, (by omega), (fun h => by rw [h] at hc3; cases hc3)⟩
 clear hst; rintro ρ D w1 ⟨GJ, tb, xA, xc, hE12, rfl, hst, hGJ, hxb, hrb, hnb, hop⟩
 refine W_env hE12 ?_
 refine W_sr [(.l, 0), (.l, 1), (.f, 2), (.p, 3), (.p, 4), (.p, 5), (.p, 6), (.p, 7)] hst ?_
 refine r_s [3, 3] [(.l, 0), (.l, 1)] [(46, (aT ta xAta xcta)), (47, (aT tb xA xc))] (rc_l 1 0 rfl rfl (rc_l 1 1 rfl rfl (rc_l 1 2 rfl rfl (rc_l 0 0 rfl rfl (rc_l 0 1 rfl rfl (rc_l 0 2 rfl rfl rc_nil)))))) ?_
 have hza : T.sz ta ≤ 24 := by have b := sz_nds ta; omega
 have hzb : T.sz tb ≤ 24 := by have b := sz_nds tb; omega
 obtain ⟨fu, hfu⟩ := Sv.uses_law hrta hrb (by omega) hnb
 obtain ⟨hsl1, hsl2⟩ := Sv.shown_law hrta hrb (by omega) hnb
 refine m_cl #[(aT ta xAta xcta), (aT tb xA xc)] (some 48) (c21 ((hxta).mono ((hG4).trans hGJ)) (hxb) (by omega) hst hfu) ?_
 rintro _ w1 ⟨G13, hG13, rfl, hst⟩
 refine nx hst ?_
 rcases Bool.eq_false_or_eq_true (Sv.usB ta tb) with hu | hu
 ·rw [hu]
  obtain ⟨fw, l, hw, hlr, hll, hbig, hok⟩ := hsl2 hu
  refine r_z [(45, .tuple #[.bool true, iN 0]), (49, .bool true), (50, iN 0), (12, .bool true), (13, iN 0)] ?_
  refine W_sr [(.l, 0), (.l, 1), (.f, 2), (.p, 3), (.p, 4), (.p, 5), (.p, 6), (.p, 7)] hst ?_
  refine r_s [3, 3] [(.l, 0), (.l, 1)] [(52, (aT ta xAta xcta)), (53, (aT tb xA xc))] (rc_l 1 0 rfl rfl (rc_l 1 1 rfl rfl (rc_l 1 2 rfl rfl (rc_l 0 0 rfl rfl (rc_l 0 1 rfl rfl (rc_l 0 2 rfl rfl rc_nil)))))) ?_
  refine m_cl #[(aT ta xAta xcta), (aT tb xA xc)] (some 54) (c43 ((hxta).mono (((hG4).trans hGJ).trans hG13)) ((hxb).mono (hG13)) (by omega) hst hw (by omega)) ?_
  rintro _ w1 ⟨G14, lA, lc, hG14, rfl, hlc, hlk, hst⟩
  refine nx hst ?_
  refine r_z [(51, .tuple #[.slice lA l.length lc, iN 0]), (55, .slice lA l.length lc), (56, iN 0), (14, .slice lA l.length lc), (15, iN 0)] ?_
  refine W_seqI (fun ρ D w => ∃ (z0 : Nat), EqS ρ [(8, pN b1 0), (9, pN b2 0), (12, .bool true), (14, .slice lA l.length lc)] ∧ D = [] ∧ St G14 ((b2, cT tb xA xc) :: (b1, cT ta xAta xcta) :: L) w) ?_ ?_
  ·skip
   refine W_sr [(.p, 0), (.p, 1), (.p, 2), (.p, 3), (.p, 4), (.p, 5), (.p, 6), (.p, 7), (.p, 8), (.p, 9), (.p, 10), (.p, 11), (.p, 12), (.p, 13), (.p, 14), (.p, 15), (.p, 16), (.p, 17), (.p, 18), (.p, 19), (.p, 20), (.p, 21), (.p, 22)] hst ?_
   refine r_y [(.p, 0), (.p, 1), (.p, 2), (.p, 3), (.p, 4), (.p, 5), (.p, 6), (.p, 7), (.p, 8), (.p, 9), (.p, 10), (.p, 11), (.p, 12), (.p, 13), (.p, 14), (.p, 15), (.p, 16), (.p, 17), (.p, 18)] [(57, iN 0), (58, .bool false), (59, .bool false), (60, .bool true), (61, iN 0), (62, .bool true), (63, .bool false), (64, .bool false), (65, .bool false), (66, .bool true), (67, .bool false), (68, .bool false), (69, undef), (70, undef), (71, .bool false), (72, .bool false), (73, .bool false), (74, .bool op), (75, .bool op)] ?_
   cases op
   ·skip
    refine r_z [(76, undef), (77, undef), (78, .bool false), (79, .bool false)] ?_
    refine W_cF ?_
    refine W_skip ?_
    exact ⟨0, ⟨by kernel_rfl, by kernel_rfl, by kernel_rfl, by kernel_rfl, trivial⟩, rfl, hst⟩
   refine r_z [(76, .bool true), (77, .bool false), (78, .bool false), (79, .bool false)] ?_
   refine W_cF ?_
   refine W_skip ?_
   exact ⟨0, ⟨by kernel_rfl, by kernel_rfl, by kernel_rfl, by kernel_rfl, trivial⟩, rfl, hst⟩
  clear hst; rintro ρ D w1 ⟨z0, hE14, rfl, hst⟩
  refine W_env hE14 ?_
  refine W_seq ?_
  refine W_sr [(.p, 0), (.p, 1)] hst ?_
  refine r_z [(80, .bool true), (81, .bool false)] ?_
  refine W_cF ?_
  refine W_skip ?_
  refine W_sr [(.l, 0), (.l, 1), (.p, 2), (.f, 3), (.p, 4), (.p, 5), (.p, 6), (.p, 7), (.p, 8)] hst ?_
  refine r_s [3, 3] [(.l, 0), (.l, 1), (.p, 2)] [(84, (aT ta xAta xcta)), (85, (aT tb xA xc)), (86, .slice lA l.length lc)] (rc_l 1 0 rfl rfl (rc_l 1 1 rfl rfl (rc_l 1 2 rfl rfl (rc_l 0 0 rfl rfl (rc_l 0 1 rfl rfl (rc_l 0 2 rfl rfl rc_nil)))))) ?_
  have hlsz : T.szs l < lim := szs_bd (fun t ht => (hlr t ht).2) (by omega)
  rcases Bool.eq_false_or_eq_true (bigs l) with hbg | hbg
  ·skip
   obtain ⟨fs, hsh⟩ := hbig (bigs_true hbg)
   refine m_cl #[(aT ta xAta xcta), (aT tb xA xc), .slice lA l.length lc] (some 87) (c44 ((hxta).mono ((((hG4).trans hGJ).trans hG13).trans hG14)) ((hxb).mono ((hG13).trans hG14)) (hlk) hlc hlsz (by omega) hst hsh) ?_
   rintro _ w1 ⟨G15, hG15, rfl, hst⟩
   refine nx hst ?_
   refine r_z [(83, .tuple #[.bool false, iN 2]), (88, .bool false), (89, iN 2), (16, .bool false), (17, iN 2)] ?_
   refine W_seq ?_
   refine W_sr [(.p, 0), (.f, 1)] hst ?_
   refine r_y [(.p, 0)] [(90, .slice lA l.length lc)] ?_
   refine m_cl #[.slice lA l.length lc, .func (.func 46) #[] #[]] (some 91) (c45 ((hlk).mono (hG15)) hlc hlsz (fun t ht => by have := (hlr t ht).2; omega) hst) ?_
   rintro _ w1 ⟨rfl, hst⟩
   refine nx hst ?_
   rw [hbg]
   refine r_nil ?_
   refine W_cT ?_
   refine W_sr [(.p, 0), (.p, 1), (.p, 2), (.p, 3), (.p, 4), (.p, 5), (.p, 6), (.f, 7), (.p, 8), (.p, 9)] hst ?_
   refine r_y [(.p, 0), (.p, 1), (.p, 2), (.p, 3), (.p, 4), (.p, 5), (.p, 6)] [(92, iN 2), (93, .bool true), (94, .bool true), (95, .bool false), (96, .bool true), (97, .bool true), (98, .bool true)] ?_
   refine m_cl #[] (some 99) (c12 hst) ?_
   rintro _ w1 ⟨rfl, hst⟩
   refine nx hst ?_
   refine r_z [(100, .bool true), (6, .bool true)] ?_
   refine W_ret ?_
   refine q_rt [] [] (.bool true) rc_nil hst ?_
   replace hst := hst.weak ((((((((hG1).trans hG2).trans hG3).trans hG4).trans hGJ).trans hG13).trans hG14).trans hG15)
   exact ⟨rfl, hst.drop [_, _]⟩
  obtain ⟨⟨fs, hsh⟩, hcut, hmore⟩ := hok (bigs_false hbg)
  refine m_cl #[(aT ta xAta xcta), (aT tb xA xc), .slice lA l.length lc] (some 87) (c44 ((hxta).mono ((((hG4).trans hGJ).trans hG13).trans hG14)) ((hxb).mono ((hG13).trans hG14)) (hlk) hlc hlsz (by omega) hst hsh) ?_
  rintro _ w1 ⟨G16, hG16, rfl, hst⟩
  refine nx hst ?_
  refine r_z [(83, .tuple #[.bool true, iN 0]), (88, .bool true), (89, iN 0), (16, .bool true), (17, iN 0)] ?_
  refine W_seq ?_
  refine W_sr [(.p, 0), (.f, 1)] hst ?_
  refine r_y [(.p, 0)] [(90, .slice lA l.length lc)] ?_
  refine m_cl #[.slice lA l.length lc, .func (.func 46) #[] #[]] (some 91) (c45 ((hlk).mono (hG16)) hlc hlsz (fun t ht => by have := (hlr t ht).2; omega) hst) ?_
  rintro _ w1 ⟨rfl, hst⟩
  refine nx hst ?_
  rw [hbg]
  refine r_nil ?_
  refine W_cF ?_
  refine W_skip ?_
  refine W_seq ?_
  refine W_sr [(.p, 0), (.p, 1), (.p, 2), (.p, 3), (.p, 4), (.p, 5)] hst ?_
  refine r_z [(101, iN 0), (102, .bool false), (103, .bool false), (104, .bool true), (105, .bool false), (106, .bool false)] ?_
  refine W_cF ?_
  refine W_skip ?_
  refine W_seqI (fun ρ D w => ∃ (z0 : Nat), EqS ρ [(8, pN b1 0), (9, pN b2 0), (14, .slice lA l.length lc)] ∧ D = [] ∧ St G16 ((b2, cT tb xA xc) :: (b1, cT ta xAta xcta) :: L) w) ?_ ?_
  ·skip
   refine W_sr [(.p, 0), (.p, 1), (.p, 2)] hst ?_
   refine r_z [(107, .slice lA l.length lc), (108, nN l.length), (109, .bool (decide ((((l.length : Nat) : Int)) > 0)))] ?_
   refine W_cd (b := decide ((((l.length : Nat) : Int)) > 0)) (fun hc15 => ?_) (fun hc15 => ?_)
   ·skip
    have hlp : 0 < l.length := by have := of_decide_eq_true hc15; omega
    refine W_seq ?_
    refine W_rgd [(.l, 0), (.l, 1), (.p, 2), (.p, 3), (.p, 4), (.p, 5), (.p, 6), (.f, 7), (.p, 8), (.p, 9), (.p, 10), (.p, 11), (.p, 12)] hst (fun w1 hst => ?_)
    refine r_s [3, 3] [(.l, 0), (.l, 1), (.p, 2), (.p, 3), (.p, 4), (.p, 5)] [(111, (aT ta xAta xcta)), (112, (aT tb xA xc)), (113, .slice lA l.length lc), (114, .slice lA l.length lc), (115, nN l.length), (116, iN (IntKind.wrap .i64 ((((l.length : Nat) : Int)) - 1)))] (rc_l 1 0 rfl rfl (rc_l 1 1 rfl rfl (rc_l 1 2 rfl rfl (rc_l 0 0 rfl rfl (rc_l 0 1 rfl rfl (rc_l 0 2 rfl rfl rc_nil)))))) ?_
    have hwr : IntKind.wrap .i64 (((l.length : Nat) : Int) - 1) = ((l.dropLast.length : Nat) : Int) := by rw [List.length_dropLast, wrap_id (by omega) (by omega)]; omega
    refine m_sliceTo (n := l.length) (c := lc) (A := lA) (hi := l.dropLast.length) (some 117) (show opAt _ _ _ = some (.slice 22 (.tmp 113) none (some (.tmp 116)) none, _) by kernel_rfl) (by kernel_rfl) (by rw [← hwr]; kernel_rfl) Try.underlying22 (by kernel_rfl) (by rw [List.length_dropLast]; omega) ?_
    obtain ⟨fs2, hsh2⟩ := hcut (List.length_pos_iff.1 hlp)
    refine m_cl #[(aT ta xAta xcta), (aT tb xA xc), .slice lA l.dropLast.length lc] (some 118) (c44 ((hxta).mono (((((hG4).trans hGJ).trans hG13).trans hG14).trans hG16)) ((hxb).mono (((hG13).trans hG14).trans hG16)) (((hlk).mono (hG16))).dropLast (by rw [List.length_dropLast]; omega) (szs_bd (fun t ht => (hlr t ((List.dropLast_sublist _).subset ht)).2) (by rw [List.length_dropLast]; omega)) (by omega) hst hsh2) ?_
    rintro _ w1 ⟨G17, hG17, rfl, hst⟩
    refine nx hst ?_
    refine r_z [(110, .tuple #[.bool false, iN 0]), (119, .bool false), (120, iN 0), (18, .bool false), (19, iN 0)] ?_
    refine W_sr [(.p, 0), (.p, 1), (.p, 2), (.p, 3), (.p, 4)] hst ?_
    refine r_z [(121, iN 0), (122, .bool false), (123, .bool false), (124, .bool false), (125, .bool false)] ?_
    refine W_cF ?_
    refine W_skip ?_
    have hst := hst.weak (hG17)
    exact ⟨0, ⟨by kernel_rfl, by kernel_rfl, by kernel_rfl, trivial⟩, rfl, hst⟩
   refine W_skip ?_
   exact ⟨0, ⟨by kernel_rfl, by kernel_rfl, by kernel_rfl, trivial⟩, rfl, hst⟩
  clear hst; rintro ρ D w1 ⟨z0, hE16, rfl, hst⟩
  refine W_env hE16 ?_
  refine W_seq ?_
  refine W_regd [(.l, 0), (.l, 1), (.p, 3), (.e, 2), (.e, 4), (.e, 5), (.e, 6), (.e, 7), (.f, 8), (.p, 9), (.p, 10), (.p, 11), (.p, 12), (.p, 13)] (SS G16 ([(b2, cT tb xA xc), (b1, cT ta xAta xcta)])) mixed (by kernel_rfl) (by kernel_rfl) (by kernel_rfl) (by kernel_rfl) (fun w1 hw1 => ?_)
  have hst := hst.heap hw1; refine ⟨hst.ss' (Le.refl _) (fun p hp => by simp only [List.mem_cons, List.not_mem_nil, or_false] at hp; rcases hp with rfl | rfl <;> simp), ?_⟩
  refine r_s [3, 3] [(.l, 0), (.l, 1), (.p, 3)] [(127, (aT ta xAta xcta)), (128, (aT tb xA xc)), (130, .slice lA l.length lc)] (rc_l 1 0 rfl rfl (rc_l 1 1 rfl rfl (rc_l 1 2 rfl rfl (rc_l 0 0 rfl rfl (rc_l 0 1 rfl rfl (rc_l 0 2 rfl rfl rc_nil)))))) ?_
  refine m_newE (.cells #[] 24) (fun b17 => .slice (some ⟨b17, 0, none⟩) 0 0) (some 129) (fun b => by kernel_rfl) hst (fun _ _ h => h.ss' (Le.refl _) (fun p hp => by simp only [List.mem_cons, List.not_mem_nil, or_false] at hp; rcases hp with rfl | rfl <;> simp)) (fun b17 w1 hst => ?_)
  refine m_append_PE (b := b17) (A := lA) (c := lc) (l := l) (d := (some 131)) (show opAt _ _ _ = some (.call { callee := .builtin .append, args := #[(.tmp 129), (.tmp 130)], argTypes := #[22, 22] }, _) by kernel_rfl) (by kernel_rfl) (by kernel_rfl) ((hlk).mono (hG16)) (by omega) hst (fun _ _ h => h.ss' (Le.refl _) (fun p hp => by simp only [List.mem_cons, List.not_mem_nil, or_false] at hp; rcases hp with rfl | rfl <;> simp)) (fun v2 cs2 Lp2 w1 hos2 hpl2 hst => ?_)
  have hst := St.swap (A := Lp2) (B := [(b2, cT tb xA xc), (b1, cT ta xAta xcta)]) (C := L) hst
  have hst : St G16 ((b2, cT tb xA xc) :: (b1, cT ta xAta xcta) :: (Lp2 ++ L)) _ := hst
  refine m_callE #[] (some 132) (by kernel_rfl) (c27 hst) ?_
  rintro x27 w1 ⟨G18, hG18, hnx, hst⟩
  obtain ⟨nA, nc, rfl, _, _⟩ := id hnx.open
  refine ⟨hst.ss' ((Le.refl _).trans hG18) (fun p hp => by simp only [List.mem_cons, List.not_mem_nil, or_false] at hp; rcases hp with rfl | rfl <;> simp), ?_⟩
  refine m_newE (.cells #[iN 2, iN 0, .slice nA 0 nc] 24) (fun b18 => .slice (some ⟨b18, 0, none⟩) 1 1) (some 133) (fun b => by kernel_rfl) hst (fun _ _ h => h.ss' ((Le.refl _).trans hG18) (fun p hp => by simp only [List.mem_cons, List.not_mem_nil, or_false] at hp; rcases hp with rfl | rfl <;> simp)) (fun b18 w1 hst => ?_)
  refine m_appendE (v := v2) (sb := b18) (so := 0) (m := 1) (mc := 1) el22 [(b18, .cells #[iN 2, iN 0, .slice nA 0 nc] 24), (b2, cT tb xA xc), (b1, cT ta xAta xcta)] (Lp := Lp2) (B := L) (n := l.length) (cs := cs2) [iN 2, iN 0, .slice nA 0 nc] (d := (some 134)) (show opAt _ _ _ = some (.call { callee := .builtin .append, args := #[(.tmp 131), (.tmp 133)], argTypes := #[22, 22] }, _) by kernel_rfl) (by kernel_rfl) (by kernel_rfl) hos2 hst rfl (src_L 0 hst rfl) (by kernel_rfl) (by decide) (by omega) (by omega) (fun _ _ h => h.ss' ((Le.refl _).trans hG18) (fun p hp => by simp only [List.mem_cons, List.not_mem_nil, or_false] at hp; rcases hp with rfl | rfl <;> simp)) (fun v3 Lp3 w1 hos3 hst => ?_)
  have hpl3 := PoL.snoc ((hnx)) ((hpl2).mono (hG18))
  have hst := St.swap (A := [(b18, .cells #[iN 2, iN 0, .slice nA 0 nc] 24), (b2, cT tb xA xc), (b1, cT ta xAta xcta)]) (B := Lp3) (C := L) hst
  obtain ⟨G19, hG19, hF3, hst⟩ := hst.freeze Lp3
  obtain ⟨fA, fc, rfl, hfc, hfk⟩ := hos3.polys (ts := l ++ [nt]) ((hpl3).mono hG19) (by simp) hF3
  obtain ⟨fs3, hsh3⟩ := hmore
  have hst : St G19 ((b18, .cells #[iN 2, iN 0, .slice nA 0 nc] 24) :: (b2, cT tb xA xc) :: (b1, cT ta xAta xcta) :: L) _ := hst
  refine m_cl #[(aT ta xAta xcta), (aT tb xA xc), .slice fA ((l ++ [nt]).length) fc] (some 135) (c44 ((hxta).mono (((((((hG4).trans hGJ).trans hG13).trans hG14).trans hG16).trans hG18).trans hG19)) ((hxb).mono (((((hG13).trans hG14).trans hG16).trans hG18).trans hG19)) hfk hfc (szs_bd (fun t ht => by rcases List.mem_append.1 ht with ht | ht; exact (hlr t ht).2; rw [List.mem_singleton.1 ht, nds_nt]; decide) (by simp; omega)) (by omega) hst hsh3) ?_
  rintro _ w1 ⟨G20, hG20, rfl, hst⟩
  refine nx hst ?_
  refine r_z [(126, .tuple #[.bool false, iN 0]), (136, .bool false), (137, iN 0), (20, .bool false), (17, iN 0)] ?_
  refine W_sr [(.p, 0), (.p, 1), (.p, 2), (.p, 3), (.p, 4), (.p, 5), (.p, 6), (.f, 7), (.p, 8), (.p, 9)] hst ?_
  refine r_y [(.p, 0), (.p, 1), (.p, 2), (.p, 3), (.p, 4), (.p, 5), (.p, 6)] [(138, iN 0), (139, .bool true), (140, .bool true), (141, .bool false), (142, .bool true), (143, .bool true), (144, .bool true)] ?_
  refine m_cl #[] (some 145) (c12 hst) ?_
  rintro _ w1 ⟨rfl, hst⟩
  refine nx hst ?_
  refine r_z [(146, .bool true), (6, .bool true)] ?_
  refine W_ret ?_
  refine q_rt [] [] (.bool true) rc_nil hst ?_
  replace hst := hst.weak (((((((((((hG1).trans hG2).trans hG3).trans hG4).trans hGJ).trans hG13).trans hG14).trans hG16).trans hG18).trans hG19).trans hG20)
  exact ⟨rfl, hst.drop [_, _, _]⟩
 rw [hu]
 obtain ⟨fw, hw⟩ := hsl1 hu
 obtain rfl : op = false := by cases op with | false => rfl | true => rw [hop rfl] at hu; cases hu
 refine r_z [(45, .tuple #[.bool false, iN 0]), (49, .bool false), (50, iN 0), (12, .bool false), (13, iN 0)] ?_
 refine W_sr [(.l, 0), (.l, 1), (.f, 2), (.p, 3), (.p, 4), (.p, 5), (.p, 6), (.p, 7)] hst ?_
 refine r_s [3, 3] [(.l, 0), (.l, 1)] [(52, (aT ta xAta xcta)), (53, (aT tb xA xc))] (rc_l 1 0 rfl rfl (rc_l 1 1 rfl rfl (rc_l 1 2 rfl rfl (rc_l 0 0 rfl rfl (rc_l 0 1 rfl rfl (rc_l 0 2 rfl rfl rc_nil)))))) ?_
 refine m_cl #[(aT ta xAta xcta), (aT tb xA xc)] (some 54) (c43 ((hxta).mono (((hG4).trans hGJ).trans hG13)) ((hxb).mono (hG13)) (by omega) hst hw (by decide)) ?_
 rintro _ w1 ⟨G21, lA, lc, hG21, rfl, hlc, hlk, hst⟩
 refine nx hst ?_
 refine r_z [(51, .tuple #[.slice lA (([] : List T).length) lc, iN 6]), (55, .slice lA (([] : List T).length) lc), (56, iN 6), (14, .slice lA (([] : List T).length) lc), (15, iN 6)] ?_
 refine W_seq ?_
 refine W_sr [(.p, 0), (.p, 1), (.p, 2), (.p, 3), (.p, 4), (.p, 5), (.p, 6), (.p, 7), (.p, 8), (.p, 9), (.p, 10), (.p, 11), (.p, 12), (.p, 13), (.p, 14), (.p, 15), (.p, 16), (.p, 17), (.p, 18), (.p, 19), (.p, 20), (.p, 21), (.p, 22)] hst ?_
 refine r_z [(57, iN 0), (58, .bool false), (59, .bool false), (60, .bool false), (61, iN 6), (62, .bool false), (63, .bool false), (64, .bool false), (65, .bool false), (66, .bool false), (67, .bool true), (68, .bool true), (69, iN 6), (70, .bool false), (71, .bool false), (72, .bool false), (73, .bool false), (74, .bool false), (75, .bool false), (76, undef), (77, undef), (78, .bool false), (79, .bool false)] ?_
 refine W_cF ?_
 refine W_skip ?_
 refine W_seq ?_
 refine W_sr [(.p, 0), (.p, 1)] hst ?_
 refine r_z [(80, .bool false), (81, .bool true)] ?_
 refine W_cT ?_
 refine W_sr [(.f, 0), (.p, 1)] hst ?_
 refine m_cl #[] (some 82) (c12 hst) ?_
 rintro _ w1 ⟨rfl, hst⟩
 refine nx hst ?_
 refine r_z [(6, .bool true)] ?_
 refine W_ret ?_
 refine q_rt [] [] (.bool true) rc_nil hst ?_
 replace hst := hst.weak (((((((hG1).trans hG2).trans hG3).trans hG4).trans hGJ).trans hG13).trans hG21)
 exact ⟨rfl, hst.drop [_, _]⟩

end Go.Proofs.Ytjgnhhgigickaaa.Wk
/- RankShown holds: the law returns true for all bytes, whether the second type is an instance of the first one or not, and they read afterwards as they read before. Conditions: none but those that the given row itself bears. -/

namespace Go.Proofs.Ytjgnhhgigickaaa
open Go.ChangeShapes Go.WideShapes Go.ChangeAt Go.RowKit

theorem ownS : ownKnob Try.prog.godebug = none := by kernel_rfl

set_option maxRecDepth 100000 in
theorem shown_lifted (os : Os) (started : os.Started) (H : Type) (enc : TypeId × Value → H) :
    ReturnsInHanded {} Try.checked os 10 .any (Rows.rankShownSpec.pre6 enc Try.prog Try.f10 Rows.rankShownRow.domain false) (Rows.rankShownSpec.post enc Try.prog Try.f10 false true false false) := by
  refine returnsInHanded_of_change (C := Try.checked) ownS started (by kernel_rfl) Try.func10
    (ChangeSpec.witness6 (enc := enc) (C := Try.checked) false ⟨#[], #[.slice none 0 0, .slice none 0 0, .bool false], []⟩ 8 (by kernel_rfl) (by kernel_rfl) (by kernel_rfl) (by kernel_rfl)) ?_
  intro W base args ds gs before hval0 hW _ _
  have hval : ∀ (j : Nat) t v, Try.f10.params[j]? = some t → args[j]? = some v → Value.okWide Try.prog W .any base t v := hval0
  have hW' := hW
  obtain ⟨p, q, hA0, hV, rfl, _, _⟩ := hW
  have hA : DataW.TrodAll enc Try.prog W 0 (fun _ => true) true Try.f10.params.toList args.toList ds p := hA0
  rw [Try.params10] at hA hval
  obtain ⟨v0, v1, v2, d0, d1, d2, p0, p1, p2, rfl, rfl, rfl, h0, h1, h2⟩ := trodAll_three hA
  obtain ⟨rfl, rfl⟩ := trodVars_none hV
  obtain ⟨A0, n0, c0, rfl, hB0, hc0⟩ := Wk.read_bytes (hval 0 35 v0 rfl rfl) h0
  obtain ⟨A1, n1, c1, rfl, hB1, hc1⟩ := Wk.read_bytes (hval 1 35 v1 rfl rfl) h1
  obtain ⟨pl, rfl, rfl⟩ := Wk.read_bool (hval 2 4 v2 rfl rfl) h2
  have hlt : ∀ x ∈ (p0 ++ p1 ++ []), x.block < W.heap.size := fun x hx => by simpa using hW'.lt x (by simpa using hx)
  refine (Wk.c10 hB0 hc0 hB1 hc1 (Wk.WG.st W)).mono fun v W' ⟨hv, hs⟩ => ?_
  subst hv
  simp only [List.append_nil] at hW'
  refine Wk.post_true hW' rfl rfl rfl rfl rfl ?_ hs
  have := trodAll_mk3 (Wk.trod_kept (by kernel_rfl) (of_decide_eq_true (by kernel_rfl)) h0 hs fun x hx => hlt x (by simp [hx])) (Wk.trod_kept (by kernel_rfl) (of_decide_eq_true (by kernel_rfl)) h1 hs fun x hx => hlt x (by simp [hx]))
    (Wk.trod_kept (by kernel_rfl) (of_decide_eq_true (by kernel_rfl)) h2 hs fun x hx => by cases hx)
  simpa [List.append_assoc] using this

theorem shown_holds : Rows.RankShownSaid :=
  OpenClaim.holds_of_wide 10 Try.f10 rfl rfl rfl rfl rfl rfl rfl ⟨rfl, rfl, rfl, rfl, rfl⟩ rfl rfl rfl rfl rfl (by kernel_rfl) Try.func10 (by kernel_rfl)
    (of_decide_eq_true (by kernel_rfl)) (by unfold Func.isWrapper; first | (rw [if_pos (by decide +kernel)]; kernel_rfl) | (rw [if_neg (by decide +kernel)]; exact ⟨rfl, rfl⟩))
    (fun os started H enc _ => shown_lifted os started H enc)
#print axioms shown_holds
end Go.Proofs.Ytjgnhhgigickaaa
