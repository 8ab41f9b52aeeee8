/- The texts M8 K19 W46 K20 N1 N2 N3 N4 N5 N6 N7 N8, joined by wip/tools/squeeze.py: contracts of the given program's functions and plain laws. Conditions: each theorem's own. -/
import Derived.Test.YtjgnhhgigickaaaF5
import Derived.Laws.Cells
set_option linter.all false


namespace Go.Proofs.Ytjgnhhgigickaaa.Wk
open Go Md

/-! ### right types, made -/
mutual
theorem rgt_rt : ∀ (t : T) {n ar m : Int}, 0 ≤ n → n ≤ 26 → 0 ≤ ar → ar ≤ m → m + (nds t : Int) ≤ 12 → rgt (ar + n) t → rtWalk n ar m t = (0, m + (nds t : Int))
  | .mk k num ks, n, ar, m, h0, h1, h2, h3, h4, h => by
    rw [nds_mk] at h4 ⊢
    unfold rgt at h
    obtain ⟨hk, hks⟩ := h
    unfold rtWalk
    dsimp only
    have hw : w64 (ar + n) = ar + n := w64_id (by omega) (by omega)
    have hm : w64 (m + 1) = m + 1 := w64_id (by omega) (by omega)
    have ha : w64 (ar + 1) = ar + 1 := w64_id (by omega) (by omega)
    have hn : rtNode ar n m k num ks.length = 0 := by
      rw [rtNode_eq (wi := ar + n) (by omega) hw.symm]
      rw [if_neg (by omega)]
      rw [if_neg (by omega), if_neg (by unfold wantsR; split <;> (try split) <;> omega), if_neg (by omega)]
    rw [if_pos hn, hm, ha]
    have := rgts_rt ks (n := n) (ar := if k = 4 then ar + 1 else ar) (m := m + 1) h0 h1 (by split <;> omega) (by split <;> omega) (by omega) (by
      have e : (if k = 4 then ar + 1 else ar) + n = (if k = 4 then ar + n + 1 else ar + n) := by split <;> omega
      rw [e]; exact hks)
    rw [this]
    congr 1; omega
theorem rgts_rt : ∀ (ts : List T) {n ar m : Int}, 0 ≤ n → n ≤ 26 → 0 ≤ ar → ar ≤ m → m + (ndss ts : Int) ≤ 12 → rgts (ar + n) ts → rtList n ar m ts = (0, m + (ndss ts : Int))
  | [], _, _, m, _, _, _, _, _, _ => by unfold rtList ndss; simp
  | t :: ts, n, ar, m, h0, h1, h2, h3, h4, h => by
    rw [ndss_cons] at h4 ⊢
    unfold rgts at h
    have hp := nds_pos t
    unfold rtList
    dsimp only
    rw [rgt_rt t h0 h1 h2 h3 (by omega) h.1, if_pos rfl, rgts_rt ts h0 h1 h2 (by omega) (by omega) h.2]
    congr 1; omega
end
theorem rgt_right {t : T} {n : Int} (h0 : 0 ≤ n) (h1 : n ≤ 26) (h2 : nds t ≤ 12) (h : rgt n t) : right t n = 0 := by
  unfold right
  rw [if_neg (by omega), rgt_rt t h0 h1 (Int.le_refl _) (Int.le_refl _) (by omega) (by simpa using h)]
theorem rgt_closed {t : T} (h2 : nds t ≤ 12) (h : rgt 0 t) : closed [t] = 0 := by
  unfold closed; rw [if_pos (rgt_right (Int.le_refl _) (by decide) h2 h)]; rfl
section
variable {P : Program} {ops : Array Oper} {K : Env → World → Prop} {rest : List (Mv × Nat)} {S : World → Prop} {ρ : Env} {w : World} {i : Nat} {G : GH} {L : LH}
end
set_option maxRecDepth 20000
attribute [local irreducible] endQ
theorem ndss_take : ∀ {ts : List T} {k : Nat} {q : T}, ts[k]? = some q → ndss (ts.take (k + 1)) = ndss (ts.take k) + nds q
 | [], _, _, h => by simp at h
 | t :: ts, 0, q, h => by
  simp at h; subst h
  show ndss [t] = ndss [] + nds t
  rw [ndss_cons]; show nds t + 0 = 0 + nds t; omega
 | t :: ts, k + 1, q, h => by
  have := ndss_take (ts := ts) (k := k) (by simpa using h)
  show ndss (t :: ts.take (k + 1)) = ndss (t :: ts.take k) + nds q
  rw [ndss_cons, ndss_cons, this]; omega
theorem ndss_take_le : ∀ (ts : List T) (k : Nat), ndss (ts.take k) ≤ ndss ts
 | [], k => by simp
 | t :: ts, 0 => Nat.zero_le _
 | t :: ts, k + 1 => by
  have := ndss_take_le ts k
  show ndss (t :: ts.take k) ≤ _
  rw [ndss_cons, ndss_cons]; omega
theorem nds_kids (t : T) : nds t = ndss t.kids + 1 := by cases t; rfl
theorem c24 : ∀ (f : Nat) {G : GH} {L : LH} {w : World} {v : Value} {t : T}, nds t < f → nds t ≤ 1000000000 → T.sz t < lim → IsPoly G v t → St G L w → Cal Try.prog 24 #[v] w fun x w' => x = .int .i64 ((nds t : Nat) : Int) ∧ St G L w' := by
 intro f
 induction f with
 | zero => intro G L w v t h; omega
 | succ f ih =>
 intro G L w v t hf hn hz hv H
 have hlim : lim = 1099511627776 := rfl
 have hln := T.len_le t
 obtain ⟨tA, tc, rfl, htc, htk⟩ := id hv.open;refine cal_of_W Try.func24 rfl (Nat.le_of_ble_eq_true e_) ?_;refine W_sr [(.f, 0), (.p, 1)] H ?_;refine m_nw (cT t tA tc) 1 H (fun b1 w1 H => ?_);refine r_z [(2, iN 0)] ?_;refine W_sr [(.p, 0)] H ?_;refine r_z [(3, iN 1)] ?_;refine W_seq ?_;refine W_sr [(.p, 0), (.l, 1), (.p, 2), (.p, 3)] H ?_;refine r_x [1] [(6, pN b1 2), (7, .slice tA t.kids.length tc), (8, nN t.kids.length), (9, iN 0)] (rc_l 0 2 rfl rfl rc_nil) ?_;refine W_block ?_;refine W_loop (fun m ρ D w => ∃ (k : Nat) (mn : Nat), EqS ρ [(3, iN (((mn : Nat) : Int))), (7, .slice tA t.kids.length tc), (8, iN (((t.kids.length : Nat) : Int))), (9, iN (((k : Nat) : Int)))] ∧ D = [] ∧ St G ((b1, cT t tA tc) :: L) w ∧ (k ≤ t.kids.length) ∧ (mn = ndss (t.kids.take k) + 1) ∧ t.kids.length - k = m) (t.kids.length - 0) ⟨0, 1, ⟨e_, e_, e_, e_, trivial⟩, rfl, H, Nat.zero_le _, rfl, rfl⟩ ?_
 clear H; rintro m2 ρ D w1 ⟨k, mn, hE3, rfl, H, hkk, hmn, hm4⟩
 refine W_env hE3 ?_;refine W_sr [(.p, 0)] H ?_;refine r_z [(10, .bool (decide ((((k : Nat) : Int)) < (((t.kids.length : Nat) : Int)))))] ?_;refine W_seq ?_;refine W_cd (b := decide ((((k : Nat) : Int)) < (((t.kids.length : Nat) : Int)))) (fun hc5 => ?_) (fun hc5 => ?_)
 ·skip
  have hlt : k < t.kids.length := by have := of_decide_eq_true hc5; omega
  obtain ⟨q, hq⟩ := get_of_lt hlt
  have hqz := T.sz_kid hq
  have hqn := nds_kid hq
  have hqt := ndss_take hq
  have hstk := H
  obtain ⟨eb1, eo1, qA, qc, rfl, hq0, hq1, hq2, hqp⟩ := (htk).elem hq
  have H := hstk; clear hstk
  refine W_skip ?_;refine W_seq ?_;refine W_block ?_;refine W_sr [(.p, 0), (.l, 1), (.f, 2), (.f, 3)] H ?_;refine m_idx (sz := 3) (b := eb1) (off := eo1) (n := t.kids.length) (c := tc) (k := k) (some 11) (show opAt _ _ _ = some (.indexAddr 22 (.tmp 7) (.tmp 9), _) by kernel_rfl) e_ e_ Try.underlying22 sz24 hlt ?_;refine r_s [3] [(.l, 1)] [(12, (aT q qA qc))] (rc_C hq0 (rc_C hq1 (rc_C hq2 rc_nil))) ?_;refine m_nw oT 5 H (fun b6 w1 H => ?_);refine s_0 [(0, iN q.kind), (1, iN q.num), (2, .slice qA q.kids.length qc)] [iN q.kind, iN q.num, .slice qA q.kids.length qc] none H (fun w1 H => ?_);refine r_nil ?_;refine W_rg [(.p, 0), (.l, 1), (.f, 2), (.p, 3), (.p, 4)] H ?_;refine r_s [3] [(.p, 0), (.l, 1)] [(13, nN mn), (14, (aT q qA qc))] (rc_l 0 0 rfl rfl (rc_l 0 1 rfl rfl (rc_l 0 2 rfl rfl rc_nil))) ?_;refine m_cl #[(aT q qA qc)] (some 15) (ih (t := q) (by omega) (by omega) (by omega) hqp H) ?_;rintro _ w1 ⟨rfl, H⟩
  have hle1 : ndss (t.kids.take (k + 1)) ≤ ndss t.kids := ndss_take_le _ _
  have hnk := nds_kids t
  have hwn : IntKind.wrap .i64 (((mn : Nat) : Int) + ((nds q : Nat) : Int)) = ((mn + nds q : Nat) : Int) := by rw [wrap_id] <;> omega
  refine nx H ?_;refine r_z [(16, iN (IntKind.wrap .i64 ((((mn : Nat) : Int)) + (((nds q : Nat) : Int))))), (3, iN (IntKind.wrap .i64 ((((mn : Nat) : Int)) + (((nds q : Nat) : Int)))))] ?_;refine W_rg (pL 2) H ?_;refine r_z [(17, iN (IntKind.wrap .i64 ((((k : Nat) : Int)) + 1))), (9, iN (IntKind.wrap .i64 ((((k : Nat) : Int)) + 1)))] ?_
  exact ⟨_, (by omega), k + 1, mn + nds q, ⟨(by rw [← hwn]; kernel_rfl), e_, e_, (by rw [← wrap_succ (k := k) (by omega)]; kernel_rfl), trivial⟩, rfl, (H.drop [_]), hlt, (by rw [hqt, hmn]; omega), rfl⟩
 have hge : k = t.kids.length := by have := of_decide_eq_false hc5; omega
 refine W_exit ?_;refine W_sr (pL 2) H ?_;refine r_z [(18, nN mn), (2, nN mn)] ?_;refine W_ret ?_;refine q_rt [] [] (nN mn) rc_nil H ?_
 have hr : nds t = mn := by rw [nds_kids, hmn, List.take_of_length_le (by omega)]
 exact ⟨by rw [hr], H.drop [_]⟩

theorem plain_eq (t : T) : plain t = (decide (t.kind ≠ 4) && plains t.kids) := by cases t; rfl
end Go.Proofs.Ytjgnhhgigickaaa.Wk

namespace Go.Proofs.Ytjgnhhgigickaaa.Wk
open Go Md Go.ChangeShapes Go.WideShapes Go.ChangeAt Go.RowKit

set_option maxRecDepth 100000 in
theorem read_bytes {H : Type} {enc : TypeId × Value → H} {w : World} {sp : Nat → Bool} {held : Bool} {v : Value} {d : DataW H} {ps : List MemPlace} {b0 : Nat} (hok : Value.okWide Try.prog w .any b0 35 v) (h : DataW.Trod enc Try.prog w 0 sp held 35 v d ps) : ∃ A n c, v = .slice A n c ∧ ByS (WG w) A n ∧ n ≤ c := by
  obtain ⟨f, hf⟩ := h
  have key : ∀ {x : Addr} {v : Value}, w.cell? x = some v → x.spot = none ∧ GC (WG w) ⟨x.block, x.off, none⟩ v := by
    intro x v hx
    unfold World.cell? at hx
    split at hx
    · rename_i c T fz hb
      split at hx
      · cases hx
      · rename_i hs
        exact ⟨by cases hh : x.spot with | none => rfl | some y => rw [hh] at hs; simp at hs, c, T, fz, hb, rfl, hx⟩
    · cases hx
  have hv1 : ∃ A n c, v = .slice A n c := by
    obtain ⟨A, n, c, rfl⟩ := okWide_slice Try.underlying35 hok
    exact ⟨A, n, c, rfl⟩
  obtain ⟨A, n, c, rfl⟩ := hv1
  refine ⟨A, n, c, rfl, ?_⟩
  rcases Go.ChangeShapes.open_ints Try.underlying35 Try.underlying5 (by kernel_rfl) hf with ⟨h1, _⟩ | ⟨a, len, cap, zs, h1, _, hl, _, hz, _, hc, _⟩
  · simp only [Value.cells, List.cons.injEq, Value.slice.injEq, and_true] at h1
    obtain ⟨rfl, rfl, rfl⟩ := h1
    exact ⟨fun i hi => absurd hi (Nat.not_lt_zero _), Nat.le_refl _⟩
  · simp only [Value.cells, List.cons.injEq, Value.slice.injEq, and_true] at h1
    obtain ⟨rfl, rfl, rfl⟩ := h1
    refine ⟨fun i hi => ?_, hl⟩
    have hzl : i < zs.length := by rw [hz]; split <;> omega
    obtain ⟨k1, k2⟩ := key (hc i hzl)
    have hab : (a.add i).block = a.block := by unfold Addr.add; split <;> rfl
    have hao : (a.add i).off = a.off + i := by unfold Addr.add; split <;> simp_all
    have hsp : a.spot = none := by
      have := (key (hc 0 (by omega))).1
      simpa [Addr.add] using this
    rw [hab, hao] at k2
    exact ⟨a.block, a.off, _, by cases a; simp only at hsp; subst hsp; rfl, k2⟩
end Go.Proofs.Ytjgnhhgigickaaa.Wk

namespace Go.Proofs.Ytjgnhhgigickaaa.Sv

/-- a type at work: its fresh variables by level -/
inductive Ty where
  | var (n : Nat)
  | nat
  | fn (a b : Ty)
  | all (a : Ty)
  | fr (n : Nat)
  | ho (n : Nat)
deriving DecidableEq
namespace Ty
def put (u : Ty) : Nat → Ty → Ty
  | n, var m => if m = n then u else var m
  | _, nat => nat
  | n, fn a b => fn (put u n a) (put u n b)
  | n, all a => all (put u (n + 1) a)
  | _, fr i => fr i
  | _, ho h => ho h
def lc : Nat → Ty → Prop
  | n, var m => m < n
  | _, nat => True
  | n, fn a b => lc n a ∧ lc n b
  | n, all a => lc (n + 1) a
  | _, fr _ => True
  | _, ho _ => True
def plain : Ty → Prop
  | fn a b => plain a ∧ plain b
  | all _ => False
  | _ => True
def isAll : Ty → Bool
  | all _ => true
  | _ => false
def allF (P : Nat → Prop) : Ty → Prop
  | fn a b => allF P a ∧ allF P b
  | all a => allF P a
  | fr i => P i
  | _ => True
def allH (P : Nat → Prop) : Ty → Prop
  | fn a b => allH P a ∧ allH P b
  | all a => allH P a
  | ho i => P i
  | _ => True
def sz : Ty → Nat
  | fn a b => sz a + sz b + 1
  | all a => sz a + 1
  | _ => 1
def nq : Ty → Nat
  | fn a b => nq a + nq b
  | all a => nq a + 1
  | _ => 0
def inst (φ θ : Nat → Ty) : Ty → Ty
  | fn a b => fn (inst φ θ a) (inst φ θ b)
  | all a => all (inst φ θ a)
  | fr i => φ i
  | ho i => θ i
  | var n => var n
  | nat => nat

theorem allF.mono {P Q : Nat → Prop} (h : ∀ i, P i → Q i) : ∀ {t : Ty}, allF P t → allF Q t
  | fn _ _, ⟨x, y⟩ => ⟨x.mono h, y.mono h⟩
  | all a, x => allF.mono (t := a) h x
  | fr i, x => h i x
  | var _, _ => trivial
  | nat, _ => trivial
  | ho _, _ => trivial
theorem allH.mono {P Q : Nat → Prop} (h : ∀ i, P i → Q i) : ∀ {t : Ty}, allH P t → allH Q t
  | fn _ _, ⟨x, y⟩ => ⟨x.mono h, y.mono h⟩
  | all a, x => allH.mono (t := a) h x
  | ho i, x => h i x
  | var _, _ => trivial
  | nat, _ => trivial
  | fr _, _ => trivial
theorem lc.mono : ∀ {t : Ty} {n m : Nat}, n ≤ m → lc n t → lc m t
  | fn _ _, _, _, h, ⟨x, y⟩ => ⟨x.mono h, y.mono h⟩
  | all a, _, _, h, x => lc.mono (t := a) (Nat.succ_le_succ h) x
  | var _, _, _, h, x => Nat.lt_of_lt_of_le x h
  | nat, _, _, _, _ => trivial
  | fr _, _, _, _, _ => trivial
  | ho _, _, _, _, _ => trivial
theorem put_lc {u : Ty} : ∀ {t : Ty} {n k : Nat}, lc n t → n ≤ k → put u k t = t
  | fn _ _, _, _, ⟨x, y⟩, h => by unfold put; rw [put_lc x h, put_lc y h]
  | all a, _, _, x, h => by unfold put; rw [put_lc (t := a) x (Nat.succ_le_succ h)]
  | var m, n, k, x, h => by unfold put; unfold lc at x; rw [if_neg (by omega)]
  | nat, _, _, _, _ => rfl
  | fr _, _, _, _, _ => rfl
  | ho _, _, _, _, _ => rfl
theorem lc_put {u : Ty} (hu : lc 0 u) : ∀ {t : Ty} {n : Nat}, lc (n + 1) t → lc n (put u n t)
  | fn _ _, _, ⟨x, y⟩ => ⟨lc_put hu x, lc_put hu y⟩
  | all a, _, x => lc_put (t := a) hu x
  | var m, n, x => by
    unfold put; split
    · exact hu.mono (Nat.zero_le _)
    · unfold lc at x ⊢; omega
  | nat, _, _ => trivial
  | fr _, _, _ => trivial
  | ho _, _, _ => trivial
theorem nq_plain : ∀ {t : Ty}, plain t → nq t = 0
  | fn _ _, ⟨x, y⟩ => by unfold nq; rw [nq_plain x, nq_plain y]
  | all _, x => x.elim
  | var _, _ => rfl
  | nat, _ => rfl
  | fr _, _ => rfl
  | ho _, _ => rfl
theorem nq_put {u : Ty} (hu : plain u) : ∀ {t : Ty} {n : Nat}, nq (put u n t) = nq t
  | fn _ _, _ => by unfold put nq; rw [nq_put hu, nq_put hu]
  | all _, _ => by unfold put nq; rw [nq_put hu]
  | var m, n => by
    unfold put; split
    · rw [nq_plain hu]; rfl
    · rfl
  | nat, _ => rfl
  | fr _, _ => rfl
  | ho _, _ => rfl
theorem sz_put {u : Ty} (hu : sz u = 1) : ∀ {t : Ty} {n : Nat}, sz (put u n t) = sz t
  | fn _ _, _ => by unfold put sz; rw [sz_put hu, sz_put hu]
  | all _, _ => by unfold put sz; rw [sz_put hu]
  | var m, n => by
    unfold put; split
    · rw [hu]; rfl
    · rfl
  | nat, _ => rfl
  | fr _, _ => rfl
  | ho _, _ => rfl
theorem allF_put {P : Nat → Prop} {u : Ty} (hu : allF P u) : ∀ {t : Ty} {n : Nat}, allF P t → allF P (put u n t)
  | fn _ _, _, ⟨x, y⟩ => ⟨allF_put hu x, allF_put hu y⟩
  | all a, _, x => allF_put (t := a) hu x
  | var m, n, x => by unfold put; split; exact hu; trivial
  | nat, _, _ => trivial
  | fr _, _, x => x
  | ho _, _, _ => trivial
theorem allH_put {P : Nat → Prop} {u : Ty} (hu : allH P u) : ∀ {t : Ty} {n : Nat}, allH P t → allH P (put u n t)
  | fn _ _, _, ⟨x, y⟩ => ⟨allH_put hu x, allH_put hu y⟩
  | all a, _, x => allH_put (t := a) hu x
  | var m, n, x => by unfold put; split; exact hu; trivial
  | nat, _, _ => trivial
  | fr _, _, _ => trivial
  | ho _, _, x => x
theorem plain_isAll {t : Ty} (h : plain t) : isAll t = false := by cases t <;> first | rfl | exact h.elim
theorem inst_put {φ θ : Nat → Ty} {u : Ty} : ∀ {t : Ty} {n : Nat}, allF (fun i => lc 0 (φ i)) t → allH (fun i => lc 0 (θ i)) t → inst φ θ (put u n t) = put (inst φ θ u) n (inst φ θ t)
  | fn _ _, _, ⟨x, y⟩, ⟨z, w⟩ => by simp only [put, inst]; rw [inst_put x z, inst_put y w]
  | all a, _, x, z => by simp only [put, inst]; rw [inst_put (t := a) x z]
  | var m, n, x, z => by
    simp only [put, inst]
    by_cases h : m = n
    · rw [if_pos h, if_pos h]
    · rw [if_neg h, if_neg h]; rfl
  | nat, _, _, _ => rfl
  | fr _, _, x, _ => by simp only [put, inst]; rw [put_lc x (Nat.zero_le _)]
  | ho _, _, _, x => by simp only [put, inst]; rw [put_lc x (Nat.zero_le _)]
theorem inst_congr {φ θ φ' θ' : Nat → Ty} : ∀ {t : Ty}, allF (fun i => φ i = φ' i) t → allH (fun i => θ i = θ' i) t → inst φ θ t = inst φ' θ' t
  | fn _ _, ⟨x, y⟩, ⟨z, w⟩ => by unfold inst; rw [inst_congr x z, inst_congr y w]
  | all a, x, z => by unfold inst; rw [inst_congr (t := a) x z]
  | var _, _, _ => rfl
  | nat, _, _ => rfl
  | fr _, x, _ => x
  | ho _, _, x => x
theorem inst_inst {φ θ φ' θ' : Nat → Ty} : ∀ {t : Ty}, inst φ' θ' (inst φ θ t) = inst (fun i => inst φ' θ' (φ i)) (fun i => inst φ' θ' (θ i)) t
  | fn _ _ => by simp only [inst]; rw [inst_inst, inst_inst]
  | all _ => by simp only [inst]; rw [inst_inst]
  | var _ => rfl
  | nat => rfl
  | fr _ => rfl
  | ho _ => rfl
theorem inst_id : ∀ {t : Ty}, inst fr ho t = t
  | fn _ _ => by unfold inst; rw [inst_id, inst_id]
  | all _ => by unfold inst; rw [inst_id]
  | var _ => rfl
  | nat => rfl
  | fr _ => rfl
  | ho _ => rfl
theorem allF_inst {P : Nat → Prop} {φ θ : Nat → Ty} : ∀ {t : Ty}, allF (fun i => allF P (φ i)) t → allH (fun i => allF P (θ i)) t → allF P (inst φ θ t)
  | fn _ _, ⟨x, y⟩, ⟨z, w⟩ => ⟨allF_inst x z, allF_inst y w⟩
  | all a, x, z => allF_inst (t := a) x z
  | var _, _, _ => trivial
  | nat, _, _ => trivial
  | fr _, x, _ => x
  | ho _, _, x => x
theorem allH_inst {P : Nat → Prop} {φ θ : Nat → Ty} : ∀ {t : Ty}, allF (fun i => allH P (φ i)) t → allH (fun i => allH P (θ i)) t → allH P (inst φ θ t)
  | fn _ _, ⟨x, y⟩, ⟨z, w⟩ => ⟨allH_inst x z, allH_inst y w⟩
  | all a, x, z => allH_inst (t := a) x z
  | var _, _, _ => trivial
  | nat, _, _ => trivial
  | fr _, x, _ => x
  | ho _, _, x => x
theorem lc_inst {φ θ : Nat → Ty} : ∀ {t : Ty} {n : Nat}, lc n t → allF (fun i => lc 0 (φ i)) t → allH (fun i => lc 0 (θ i)) t → lc n (inst φ θ t)
  | fn _ _, _, ⟨a, b⟩, ⟨x, y⟩, ⟨z, w⟩ => ⟨lc_inst a x z, lc_inst b y w⟩
  | all a, _, a1, x, z => lc_inst (t := a) a1 x z
  | var _, _, a, _, _ => a
  | nat, _, _, _, _ => trivial
  | fr _, _, _, x, _ => lc.mono (Nat.zero_le _) x
  | ho _, _, _, _, x => lc.mono (Nat.zero_le _) x
theorem plain_inst {φ θ : Nat → Ty} : ∀ {t : Ty}, plain t → allF (fun i => plain (φ i)) t → allH (fun i => plain (θ i)) t → plain (inst φ θ t)
  | fn _ _, ⟨a, b⟩, ⟨x, y⟩, ⟨z, w⟩ => ⟨plain_inst a x z, plain_inst b y w⟩
  | all _, a, _, _ => a.elim
  | var _, _, _, _ => trivial
  | nat, _, _, _ => trivial
  | fr _, _, x, _ => x
  | ho _, _, _, x => x
theorem nq_inst {φ θ : Nat → Ty} : ∀ {t : Ty}, allF (fun i => plain (φ i)) t → allH (fun i => plain (θ i)) t → nq (inst φ θ t) = nq t
  | fn _ _, ⟨x, y⟩, ⟨z, w⟩ => by unfold inst nq; rw [nq_inst x z, nq_inst y w]
  | all a, x, z => by unfold inst nq; rw [nq_inst (t := a) x z]
  | var _, _, _ => rfl
  | nat, _, _ => rfl
  | fr _, x, _ => nq_plain x
  | ho _, _, x => nq_plain x
theorem isAll_inst {φ θ : Nat → Ty} {t : Ty} (h : isAll t = false) (x : allF (fun i => plain (φ i)) t) (z : allH (fun i => plain (θ i)) t) : isAll (inst φ θ t) = false := by
  cases t with
  | fr i => exact plain_isAll x
  | ho i => exact plain_isAll z
  | all a => cases h
  | _ => rfl
end Ty
open Ty

/-- a plain type over n levels, without holes -/
structure Gnd (n : Nat) (t : Ty) : Prop where
  p : plain t
  c : lc 0 t
  l : allF (· < n) t
  h : allH (fun _ => False) t
theorem Gnd.mono {n m : Nat} {t : Ty} (h : Gnd n t) (hm : n ≤ m) : Gnd m t := ⟨h.p, h.c, h.l.mono fun _ x => Nat.lt_of_lt_of_le x hm, h.h⟩
theorem Gnd.fr {n i : Nat} (h : i < n) : Gnd n (.fr i) := ⟨trivial, trivial, h, trivial⟩
theorem Gnd.nat {n : Nat} : Gnd n .nat := ⟨trivial, trivial, trivial, trivial⟩
theorem Gnd.fn {n : Nat} {a b : Ty} (ha : Gnd n a) (hb : Gnd n b) : Gnd n (.fn a b) := ⟨⟨ha.p, hb.p⟩, ⟨ha.c, hb.c⟩, ⟨ha.l, hb.l⟩, ⟨ha.h, hb.h⟩⟩
theorem Gnd.fn1 {n : Nat} {a b : Ty} (h : Gnd n (.fn a b)) : Gnd n a := ⟨h.p.1, h.c.1, h.l.1, h.h.1⟩
theorem Gnd.fn2 {n : Nat} {a b : Ty} (h : Gnd n (.fn a b)) : Gnd n b := ⟨h.p.2, h.c.2, h.l.2, h.h.2⟩
/-- a closed type over n levels, without holes -/
structure WF (n : Nat) (t : Ty) : Prop where
  c : lc 0 t
  l : allF (· < n) t
  h : allH (fun _ => False) t
theorem Gnd.wf {n : Nat} {t : Ty} (h : Gnd n t) : WF n t := ⟨h.c, h.l, h.h⟩
theorem WF.mono {n m : Nat} {t : Ty} (h : WF n t) (hm : n ≤ m) : WF m t := ⟨h.c, h.l.mono fun _ x => Nat.lt_of_lt_of_le x hm, h.h⟩
theorem WF.fn1 {n : Nat} {a b : Ty} (h : WF n (.fn a b)) : WF n a := ⟨h.c.1, h.l.1, h.h.1⟩
theorem WF.fn2 {n : Nat} {a b : Ty} (h : WF n (.fn a b)) : WF n b := ⟨h.c.2, h.l.2, h.h.2⟩
theorem WF.put {n : Nat} {a u : Ty} (h : WF n (.all a)) (hu : WF n u) : WF n (put u 0 a) := ⟨lc_put hu.c h.c, allF_put hu.l h.l, allH_put hu.h h.h⟩
theorem WF.gen {n : Nat} {a : Ty} (h : WF n (.all a)) : WF (n + 1) (Ty.put (.fr n) 0 a) := (h.mono (Nat.le_succ n)).put (Gnd.fr (Nat.lt_succ_self n)).wf

/-- a derivation that the first type, over n levels, can be used as the second one; with what rule (4) takes, and where -/
inductive Sub : Nat → Ty → Ty → List (Ty × Nat) → Prop
  | nat {n : Nat} : Sub n .nat .nat []
  | fr {n i : Nat} : Sub n (.fr i) (.fr i) []
  | fn {n : Nat} {a0 a1 b0 b1 : Ty} {l1 l2 : List (Ty × Nat)} : Sub n b0 a0 l1 → Sub n a1 b1 l2 → Sub n (.fn a0 a1) (.fn b0 b1) (l1 ++ l2)
  | gen {n : Nat} {a b : Ty} {l : List (Ty × Nat)} : Sub (n + 1) a (Ty.put (.fr n) 0 b) l → Sub n a (.all b) l
  | ins {n : Nat} {a b τ : Ty} {l : List (Ty × Nat)} : isAll b = false → Gnd n τ → Sub n (Ty.put τ 0 a) b l → Sub n (.all a) b ((τ, n) :: l)
def SubE (n : Nat) (a b : Ty) : Prop := ∃ l, Sub n a b l

theorem Sub.inv_gen {n : Nat} {a b : Ty} {l : List (Ty × Nat)} (h : Sub n a (.all b) l) : Sub (n + 1) a (Ty.put (.fr n) 0 b) l := by
  cases h with
  | gen h => exact h
  | ins h _ _ => cases h
theorem Sub.inv_ins {n : Nat} {a b : Ty} {l : List (Ty × Nat)} (h : Sub n (.all a) b l) (hb : isAll b = false) : ∃ τ l', l = (τ, n) :: l' ∧ Gnd n τ ∧ Sub n (Ty.put τ 0 a) b l' := by
  cases h with
  | gen h => cases hb
  | ins _ h1 h2 => exact ⟨_, _, rfl, h1, h2⟩
theorem Sub.inv_fn {n : Nat} {a0 a1 b : Ty} {l : List (Ty × Nat)} (h : Sub n (.fn a0 a1) b l) (hb : isAll b = false) : ∃ b0 b1 l1 l2, b = .fn b0 b1 ∧ l = l1 ++ l2 ∧ Sub n b0 a0 l1 ∧ Sub n a1 b1 l2 := by
  cases h with
  | gen h => cases hb
  | fn h1 h2 => exact ⟨_, _, _, _, rfl, rfl, h1, h2⟩
theorem Sub.inv_fn' {n : Nat} {b0 b1 a : Ty} {l : List (Ty × Nat)} (h : Sub n a (.fn b0 b1) l) (ha : isAll a = false) : ∃ a0 a1 l1 l2, a = .fn a0 a1 ∧ l = l1 ++ l2 ∧ Sub n b0 a0 l1 ∧ Sub n a1 b1 l2 := by
  cases h with
  | ins h _ _ => cases ha
  | fn h1 h2 => exact ⟨_, _, _, _, rfl, rfl, h1, h2⟩
theorem Sub.plain_eq {n : Nat} {a b : Ty} {l : List (Ty × Nat)} (h : Sub n a b l) : plain a → plain b → a = b ∧ l = [] := by
  induction h with
  | nat => exact fun _ _ => ⟨rfl, rfl⟩
  | fr => exact fun _ _ => ⟨rfl, rfl⟩
  | fn _ _ ih1 ih2 =>
    intro ha hb
    obtain ⟨h1, rfl⟩ := ih1 hb.1 ha.1
    obtain ⟨h2, rfl⟩ := ih2 ha.2 hb.2
    exact ⟨by rw [h1, h2], rfl⟩
  | gen _ _ => exact fun _ hb => hb.elim
  | ins _ _ _ _ => exact fun ha _ => ha.elim
theorem Sub.plain_refl {n : Nat} : ∀ {a : Ty}, plain a → lc 0 a → allH (fun _ => False) a → Sub n a a []
  | .fn _ _, ⟨x, y⟩, ⟨z, w⟩, ⟨u, v⟩ => .fn (Sub.plain_refl x z u) (Sub.plain_refl y w v)
  | .all _, h, _, _ => h.elim
  | .var _, _, h, _ => absurd h (Nat.not_lt_zero _)
  | .nat, _, _, _ => .nat
  | .fr _, _, _, _ => .fr
  | .ho _, _, _, h => h.elim

theorem Sub.subst {n : Nat} {a b : Ty} {l : List (Ty × Nat)} (h : Sub n a b l) : ∀ {m : Nat} {φ θ : Nat → Ty}, WF n a → WF n b → (∀ i, i < n → Gnd m (φ i)) → ∃ l', Sub m (inst φ θ a) (inst φ θ b) l' := by
  induction h with
  | nat => exact fun _ _ _ => ⟨[], .nat⟩
  | @fr n i =>
    intro m φ θ ha _ hφ
    have hi := hφ i ha.l
    exact ⟨[], Sub.plain_refl hi.p hi.c hi.h⟩
  | fn _ _ ih1 ih2 =>
    intro m φ θ ha hb hφ
    obtain ⟨l1, h1⟩ := ih1 (θ := θ) hb.fn1 ha.fn1 hφ
    obtain ⟨l2, h2⟩ := ih2 (θ := θ) ha.fn2 hb.fn2 hφ
    exact ⟨_, .fn h1 h2⟩
  | @gen n a b l _ ih =>
    intro m φ θ ha hb hφ
    obtain ⟨l', h'⟩ := ih (m := m + 1) (φ := fun i => if i = n then .fr m else φ i) (θ := θ) (ha.mono (Nat.le_succ _)) hb.gen (fun i hi => by
      split
      · exact Gnd.fr (Nat.lt_succ_self m)
      · exact (hφ i (by omega)).mono (Nat.le_succ _))
    have hc : ∀ {t : Ty}, allF (· < n) t → allH (fun _ => False) t → inst (fun i => if i = n then .fr m else φ i) θ t = inst φ θ t := fun hl hh =>
      inst_congr (hl.mono fun i hi => if_neg (Nat.ne_of_lt hi)) (hh.mono fun _ x => x.elim)
    rw [inst_put (φ := fun i => if i = n then .fr m else φ i) (t := b) (allF.mono (t := b) (fun i hi => by rw [if_neg (Nat.ne_of_lt hi)]; exact (hφ i hi).c) hb.l) (allH.mono (t := b) (fun _ x => x.elim) hb.h), hc ha.l ha.h, hc (t := b) hb.l hb.h] at h'
    refine ⟨l', .gen ?_⟩
    have e : inst (fun i => if i = n then .fr m else φ i) θ (.fr n) = .fr m := by unfold inst; rw [if_pos rfl]
    rwa [e] at h'
  | @ins n a b τ l hb0 hτ _ ih =>
    intro m φ θ ha hb hφ
    obtain ⟨l', h'⟩ := ih (θ := θ) (ha.put hτ.wf) hb hφ
    have h0 : ∀ {t : Ty}, allF (· < n) t → allF (fun i => lc 0 (φ i)) t := fun h => h.mono fun i hi => (hφ i hi).c
    rw [inst_put (h0 (t := a) ha.l) (ha.h.mono fun _ x => x.elim)] at h'
    refine ⟨_, .ins (isAll_inst hb0 (hb.l.mono fun i hi => (hφ i hi).p) (hb.h.mono fun _ x => x.elim)) ⟨?_, ?_, ?_, ?_⟩ h'⟩
    · exact plain_inst hτ.p (hτ.l.mono fun i hi => (hφ i hi).p) (hτ.h.mono fun _ x => x.elim)
    · exact lc_inst hτ.c (h0 hτ.l) (hτ.h.mono fun _ x => x.elim)
    · exact allF_inst (hτ.l.mono fun i hi => (hφ i hi).l) (hτ.h.mono fun _ x => x.elim)
    · exact allH_inst (hτ.l.mono fun i hi => (hφ i hi).h) (hτ.h.mono fun _ x => x.elim)

theorem WF.inst_id' {n : Nat} {t : Ty} {φ θ : Nat → Ty} (h : WF n t) (hφ : ∀ i, i < n → φ i = .fr i) : inst φ θ t = t := by
  have := inst_congr (φ := φ) (θ := θ) (φ' := Ty.fr) (θ' := Ty.ho) (h.l.mono fun i hi => hφ i hi) (h.h.mono fun _ x => x.elim)
  rw [this, inst_id]
theorem SubE.weak {n m : Nat} {a b : Ty} (h : SubE n a b) (ha : WF n a) (hb : WF n b) (hm : n ≤ m) : SubE m a b := by
  obtain ⟨l, h⟩ := h
  obtain ⟨l', h'⟩ := h.subst (m := m) (φ := Ty.fr) (θ := Ty.ho) ha hb (fun i hi => Gnd.fr (by omega))
  rw [inst_id, inst_id] at h'
  exact ⟨l', h'⟩
/-- the left rule goes with each second type -/
theorem SubE.left {n : Nat} {a τ : Ty} (hτ : Gnd n τ) : ∀ (k : Nat) {b : Ty}, nq b ≤ k → SubE n (Ty.put τ 0 a) b → SubE n (.all a) b := by
  intro k
  induction k generalizing n with
  | zero =>
    intro b hb ⟨l, h⟩
    have : isAll b = false := by cases b <;> first | rfl | (unfold nq at hb; omega)
    exact ⟨_, .ins this hτ h⟩
  | succ k ih =>
    intro b hb ⟨l, h⟩
    cases e : isAll b with
    | false => exact ⟨_, .ins e hτ h⟩
    | true =>
      cases b with
      | all b =>
        obtain ⟨l', h'⟩ := ih (n := n + 1) (hτ.mono (Nat.le_succ n)) (b := Ty.put (.fr n) 0 b) (by rw [nq_put (by trivial)]; unfold nq at hb; omega) ⟨l, h.inv_gen⟩
        exact ⟨l', .gen h'⟩
      | _ => cases e
theorem SubE.refl : ∀ (k : Nat) {n : Nat} {a : Ty}, sz a ≤ k → WF n a → SubE n a a
  | 0, _, a, h, _ => by cases a <;> (unfold sz at h; omega)
  | k + 1, n, .fn a b, h, hw => by
    unfold sz at h
    obtain ⟨l1, h1⟩ := SubE.refl k (by omega) hw.fn1
    obtain ⟨l2, h2⟩ := SubE.refl k (by omega) hw.fn2
    exact ⟨_, .fn h1 h2⟩
  | k + 1, n, .all a, h, hw => by
    unfold sz at h
    have h1 := SubE.refl k (a := Ty.put (.fr n) 0 a) (by rw [sz_put rfl]; omega) hw.gen
    obtain ⟨l, h2⟩ := SubE.left (Gnd.fr (Nat.lt_succ_self n)) _ (Nat.le_refl _) h1
    exact ⟨l, .gen h2⟩
  | _ + 1, _, .var _, _, hw => absurd hw.c (Nat.not_lt_zero _)
  | _ + 1, _, .nat, _, _ => ⟨_, .nat⟩
  | _ + 1, _, .fr _, _, _ => ⟨_, .fr⟩
  | _ + 1, _, .ho _, _, hw => hw.h.elim
/-- a fresh variable of the last level becomes a plain type -/
theorem SubE.put {n : Nat} {a b τ : Ty} (h : SubE (n + 1) a (Ty.put (.fr n) 0 b)) (ha : WF n a) (hb : WF n (.all b)) (hτ : Gnd n τ) : SubE n a (Ty.put τ 0 b) := by
  obtain ⟨l, h⟩ := h
  obtain ⟨l', h'⟩ := h.subst (m := n) (φ := fun i => if i = n then τ else .fr i) (θ := Ty.ho) (ha.mono (Nat.le_succ n)) hb.gen (fun i hi => by
    split
    · exact hτ
    · exact Gnd.fr (by omega))
  have hc : ∀ {t : Ty}, allF (· < n) t → allH (fun _ => False) t → inst (fun i => if i = n then τ else .fr i) Ty.ho t = t := fun hl hh => by
    rw [inst_congr (φ' := Ty.fr) (θ' := Ty.ho) (hl.mono fun i hi => if_neg (Nat.ne_of_lt hi)) (hh.mono fun _ x => x.elim), inst_id]
  rw [inst_put (φ := fun i => if i = n then τ else .fr i) (t := b) (allF.mono (t := b) (fun i hi => by rw [if_neg (Nat.ne_of_lt hi)]; trivial) hb.l) (allH.mono (t := b) (fun _ x => x.elim) hb.h), hc ha.l ha.h, hc (t := b) hb.l hb.h] at h'
  have e : inst (fun i => if i = n then τ else .fr i) Ty.ho (.fr n) = τ := by unfold inst; rw [if_pos rfl]
  rw [e] at h'
  exact ⟨l', h'⟩
theorem SubE.trans : ∀ (q z : Nat) {n : Nat} {a b c : Ty}, nq a + nq b + nq c = q → sz a + sz b + sz c = z → WF n a → WF n b → WF n c → SubE n a b → SubE n b c → SubE n a c := by
  intro q
  induction q using Nat.strongRecOn with
  | _ q ihq =>
  intro z
  induction z using Nat.strongRecOn with
  | _ z ihz =>
  intro n a b c hq hz ha hb hc h1 h2
  cases ec : isAll c with
  | true =>
    cases c with
    | all c =>
      obtain ⟨l2, h2⟩ := h2
      have h3 := ihq (nq a + nq b + nq (Ty.put (.fr n) 0 c)) (by rw [nq_put (by trivial)]; simp only [nq] at hq; omega) _ rfl rfl (ha.mono (Nat.le_succ n)) (hb.mono (Nat.le_succ n)) hc.gen (h1.weak ha hb (Nat.le_succ n)) ⟨l2, h2.inv_gen⟩
      obtain ⟨l, h3⟩ := h3
      exact ⟨l, .gen h3⟩
    | _ => cases ec
  | false =>
    cases eb : isAll b with
    | true =>
      cases b with
      | all b =>
        obtain ⟨l2, h2⟩ := h2
        obtain ⟨τ, l', _, hτ, h2⟩ := h2.inv_ins ec
        obtain ⟨l1, h1⟩ := h1
        have h1 := SubE.put ⟨l1, h1.inv_gen⟩ ha hb hτ
        exact ihq (nq a + nq (Ty.put τ 0 b) + nq c) (by rw [nq_put hτ.p]; simp only [nq] at hq; omega) _ rfl rfl ha (hb.put hτ.wf) hc h1 ⟨_, h2⟩
      | _ => cases eb
    | false =>
      cases ea : isAll a with
      | true =>
        cases a with
        | all a =>
          obtain ⟨l1, h1⟩ := h1
          obtain ⟨τ, l', _, hτ, h1⟩ := h1.inv_ins eb
          obtain ⟨l, h⟩ := ihq (nq (Ty.put τ 0 a) + nq b + nq c) (by rw [nq_put hτ.p]; simp only [nq] at hq; omega) _ rfl rfl (ha.put hτ.wf) hb hc ⟨_, h1⟩ h2
          exact ⟨_, .ins ec hτ h⟩
        | _ => cases ea
      | false =>
        obtain ⟨l1, h1⟩ := h1
        obtain ⟨l2, h2⟩ := h2
        cases h1 with
        | nat => exact ⟨_, h2⟩
        | fr => exact ⟨_, h2⟩
        | gen _ => cases eb
        | ins _ _ _ => cases ea
        | @fn _ a0 a1 b0 b1 _ _ g1 g2 =>
          obtain ⟨c0, c1, _, _, rfl, _, k1, k2⟩ := h2.inv_fn ec
          have hle : ∀ {x y z : Nat}, x + y + z ≤ q → x + y + z < q ∨ x + y + z = q := fun h => by omega
          simp only [nq] at hq; simp only [sz] at hz
          have r0 : SubE n c0 a0 := by
            rcases hle (x := nq c0) (y := nq b0) (z := nq a0) (by omega) with hl | hl
            · exact ihq _ hl _ rfl rfl hc.fn1 hb.fn1 ha.fn1 ⟨_, k1⟩ ⟨_, g1⟩
            · exact ihz _ (by omega : sz c0 + sz b0 + sz a0 < z) hl rfl hc.fn1 hb.fn1 ha.fn1 ⟨_, k1⟩ ⟨_, g1⟩
          have r1 : SubE n a1 c1 := by
            rcases hle (x := nq a1) (y := nq b1) (z := nq c1) (by omega) with hl | hl
            · exact ihq _ hl _ rfl rfl ha.fn2 hb.fn2 hc.fn2 ⟨_, g2⟩ ⟨_, k2⟩
            · exact ihz _ (by omega : sz a1 + sz b1 + sz c1 < z) hl rfl ha.fn2 hb.fn2 hc.fn2 ⟨_, g2⟩ ⟨_, k2⟩
          obtain ⟨_, r0⟩ := r0
          obtain ⟨_, r1⟩ := r1
          exact ⟨_, .fn r0 r1⟩
end Go.Proofs.Ytjgnhhgigickaaa.Sv

namespace Go.Proofs.Ytjgnhhgigickaaa.Sv
open Ty

/-! ### enough fuel -/
def Ev {α : Type} (F : Nat → Option α) (x : α) : Prop := ∃ n, ∀ f, n ≤ f → F f = some x
section
variable {α β : Type} {F G : Nat → Option α} {x : α}
theorem Ev.succ (e : ∀ f, F (f + 1) = G f) (h : Ev G x) : Ev F x := by
  obtain ⟨n, h⟩ := h
  refine ⟨n + 1, fun f hf => ?_⟩
  obtain ⟨k, rfl⟩ : ∃ k, f = k + 1 := ⟨f - 1, by omega⟩
  rw [e]; exact h k (by omega)
theorem Ev.pred (e : ∀ f, F (f + 1) = G f) (h : Ev F x) : Ev G x := by
  obtain ⟨n, h⟩ := h
  exact ⟨n, fun f hf => by rw [← e]; exact h (f + 1) (by omega)⟩
theorem Ev.bind {H : Nat → α → Option β} {y : β} (h : Ev F x) (g : Ev (fun f => H f x) y) : Ev (fun f => (F f).bind (H f)) y := by
  obtain ⟨n, h⟩ := h
  obtain ⟨m, g⟩ := g
  refine ⟨max n m, fun f hf => ?_⟩
  show (F f).bind (H f) = some y
  rw [h f (by omega)]; exact g f (by omega)
theorem Ev.unbind {H : Nat → α → Option β} {y : β} (h : Ev F x) (g : Ev (fun f => (F f).bind (H f)) y) : Ev (fun f => H f x) y := by
  obtain ⟨n, h⟩ := h
  obtain ⟨m, g⟩ := g
  refine ⟨max n m, fun f hf => ?_⟩
  have g2 : (F f).bind (H f) = some y := g f (by omega)
  rw [h f (by omega)] at g2; exact g2
theorem Ev.pure {x : α} : Ev (fun _ => some x) x := ⟨0, fun _ _ => rfl⟩
theorem Ev.congr (e : ∀ f, F f = G f) (h : Ev G x) : Ev F x := by
  obtain ⟨n, h⟩ := h
  exact ⟨n, fun f hf => by rw [e]; exact h f hf⟩
theorem Ev.inj {y : α} (h : Ev F x) (g : Ev F y) : x = y := by
  obtain ⟨n, h⟩ := h
  obtain ⟨m, g⟩ := g
  have := (h (max n m) (by omega)).symm.trans (g (max n m) (by omega))
  exact Option.some.inj this
theorem Ev.get (h : Ev F x) : ∃ f, F f = some x := by
  obtain ⟨n, h⟩ := h
  exact ⟨n, h n (Nat.le_refl _)⟩
end

namespace Ty
theorem allF.triv {P : Nat → Prop} (h : ∀ i, P i) : ∀ {t : Ty}, allF P t
  | fn _ _ => ⟨allF.triv h, allF.triv h⟩
  | all a => allF.triv (t := a) h
  | fr i => h i
  | var _ => trivial
  | nat => trivial
  | ho _ => trivial
theorem allH.triv {P : Nat → Prop} (h : ∀ i, P i) : ∀ {t : Ty}, allH P t
  | fn _ _ => ⟨allH.triv h, allH.triv h⟩
  | all a => allH.triv (t := a) h
  | ho i => h i
  | var _ => trivial
  | nat => trivial
  | fr _ => trivial
theorem allH.and {P Q : Nat → Prop} : ∀ {t : Ty}, allH P t → allH Q t → allH (fun i => P i ∧ Q i) t
  | fn _ _, ⟨x, y⟩, ⟨z, w⟩ => ⟨allH.and x z, allH.and y w⟩
  | all a, x, z => allH.and (t := a) x z
  | ho _, x, z => ⟨x, z⟩
  | var _, _, _ => trivial
  | nat, _, _ => trivial
  | fr _, _, _ => trivial
theorem allF.and {P Q : Nat → Prop} : ∀ {t : Ty}, allF P t → allF Q t → allF (fun i => P i ∧ Q i) t
  | fn _ _, ⟨x, y⟩, ⟨z, w⟩ => ⟨allF.and x z, allF.and y w⟩
  | all a, x, z => allF.and (t := a) x z
  | fr _, x, z => ⟨x, z⟩
  | var _, _, _ => trivial
  | nat, _, _ => trivial
  | ho _, _, _ => trivial
theorem allF.uninst {P : Nat → Prop} {θ : Nat → Ty} : ∀ {t : Ty}, allF P (inst fr θ t) → allF P t
  | fn _ _, ⟨x, y⟩ => ⟨allF.uninst x, allF.uninst y⟩
  | all a, x => allF.uninst (t := a) x
  | fr _, x => x
  | var _, _ => trivial
  | nat, _ => trivial
  | ho _, _ => trivial
theorem lc.uninst {θ : Nat → Ty} : ∀ {t : Ty} {n : Nat}, lc n (inst fr θ t) → lc n t
  | fn _ _, _, ⟨x, y⟩ => ⟨lc.uninst x, lc.uninst y⟩
  | all a, _, x => lc.uninst (t := a) x
  | fr _, _, _ => trivial
  | var _, _, x => x
  | nat, _, _ => trivial
  | ho _, _, _ => trivial
end Ty

/-! ### what holes are -/
def one (h : Nat) (u : Ty) : Ty → Ty := inst .fr (fun i => if i = h then u else .ho i)
/-- the solved holes, the last one first -/
def R : List (Nat × Ty) → Ty → Ty
  | [], t => t
  | (h, u) :: sv, t => one h (R sv u) (R sv t)
theorem R_eq : ∀ (sv : List (Nat × Ty)) (t : Ty), R sv t = inst .fr (fun i => R sv (.ho i)) t
  | [], t => inst_id.symm
  | (h, u) :: sv, t => by
    show one h (R sv u) (R sv t) = _
    rw [R_eq sv t]; unfold one; rw [inst_inst]; rfl
theorem R_fn {sv : List (Nat × Ty)} {a b : Ty} : R sv (.fn a b) = .fn (R sv a) (R sv b) := by
  rw [R_eq sv (.fn a b), R_eq sv a, R_eq sv b, inst]
theorem R_all {sv : List (Nat × Ty)} {a : Ty} : R sv (.all a) = .all (R sv a) := by
  rw [R_eq sv (.all a), R_eq sv a, inst]
theorem R_fr {sv : List (Nat × Ty)} {i : Nat} : R sv (.fr i) = .fr i := by rw [R_eq, inst]
theorem R_var {sv : List (Nat × Ty)} {i : Nat} : R sv (.var i) = .var i := by rw [R_eq, inst]
theorem R_nat {sv : List (Nat × Ty)} : R sv .nat = .nat := by rw [R_eq, inst]
def dom (sv : List (Nat × Ty)) : List Nat := sv.map (·.1)
def Ok : List (Nat × Ty) → Prop
  | [] => True
  | (h, u) :: sv => Ok sv ∧ h ∉ dom sv ∧ allH (· ≠ h) (R sv u) ∧ plain (R sv u) ∧ lc 0 (R sv u)
theorem one_plain {h : Nat} {u t : Ty} (hu : plain u) (ht : plain t) : plain (one h u t) :=
  plain_inst ht (allF.triv fun _ => trivial) (allH.triv fun i => by split; exact hu; trivial)
theorem one_lc {h : Nat} {u t : Ty} {n : Nat} (hu : lc 0 u) (ht : lc n t) : lc n (one h u t) :=
  lc_inst ht (allF.triv fun _ => trivial) (allH.triv fun i => by split; exact hu; trivial)
theorem one_id {h : Nat} {u t : Ty} (ht : allH (· ≠ h) t) : one h u t = t := by
  unfold one
  rw [inst_congr (φ' := Ty.fr) (θ' := Ty.ho) (allF.triv fun _ => rfl) (ht.mono fun i hi => if_neg hi), inst_id]
theorem Ok.plain : ∀ {sv : List (Nat × Ty)}, Ok sv → ∀ i, Ty.plain (R sv (.ho i))
  | [], _, _ => trivial
  | (_, _) :: _, ⟨h1, _, _, h4, _⟩, i => one_plain h4 (h1.plain i)
theorem Ok.lc : ∀ {sv : List (Nat × Ty)}, Ok sv → ∀ i, Ty.lc 0 (R sv (.ho i))
  | [], _, _ => trivial
  | (_, _) :: _, ⟨h1, _, _, _, h5⟩, i => one_lc h5 (h1.lc i)
theorem R_free : ∀ {sv : List (Nat × Ty)} {i : Nat}, i ∉ dom sv → R sv (.ho i) = .ho i
  | [], _, _ => rfl
  | (h, u) :: sv, i, hi => by
    have h1 : i ≠ h ∧ i ∉ dom sv := by simpa [dom] using hi
    show one h (R sv u) (R sv (.ho i)) = _
    rw [R_free h1.2]; show (if i = h then _ else _) = _
    rw [if_neg h1.1]
theorem Ok.free : ∀ {sv : List (Nat × Ty)}, Ok sv → ∀ t, allH (fun i => i ∉ dom sv) (R sv t)
  | [], _, _ => allH.triv fun _ => by simp [dom]
  | (h, u) :: sv, ⟨h1, _, h3, _, _⟩, t => by
    have hm : ∀ {i : Nat}, (i ≠ h ∧ i ∉ dom sv) → i ∉ dom ((h, u) :: sv) := fun hi => by simpa [dom] using hi
    refine allH_inst (allF.triv fun _ => trivial) ((h1.free t).mono fun i hi => ?_)
    split
    · exact (h3.and (h1.free u)).mono fun _ x => hm x
    · rename_i hn; exact hm ⟨hn, hi⟩
theorem R_id {sv : List (Nat × Ty)} {t : Ty} (h : allH (fun i => i ∉ dom sv) t) : R sv t = t := by
  rw [R_eq, inst_congr (φ' := Ty.fr) (θ' := Ty.ho) (allF.triv fun _ => rfl) (h.mono fun i hi => R_free hi), inst_id]
theorem Ok.idem {sv : List (Nat × Ty)} (h : Ok sv) (t : Ty) : R sv (R sv t) = R sv t := R_id (h.free t)
theorem R_app {sv : List (Nat × Ty)} (h : Ok sv) : ∀ (new : List (Nat × Ty)) (t : Ty), R (new ++ sv) (R sv t) = R (new ++ sv) t
  | [], t => h.idem t
  | (x, u) :: new, t => by
    show one x (R (new ++ sv) u) (R (new ++ sv) (R sv t)) = one x (R (new ++ sv) u) (R (new ++ sv) t)
    rw [R_app h new t]
theorem R_mem : ∀ {sv : List (Nat × Ty)}, Ok sv → ∀ {h : Nat} {u : Ty}, (h, u) ∈ sv → R sv (.ho h) = R sv u
  | (x, y) :: sv, ⟨h1, h2, h3, _, _⟩, h, u, hm => by
    show one x (R sv y) (R sv (.ho h)) = one x (R sv y) (R sv u)
    rcases List.mem_cons.1 hm with e | hm
    · obtain ⟨rfl, rfl⟩ : h = x ∧ u = y := by simpa using e
      rw [R_free h2, one_id h3]
      show (if h = h then _ else _) = _
      rw [if_pos rfl]
    · rw [R_mem h1 hm]
theorem R_put {sv : List (Nat × Ty)} (h : Ok sv) {u t : Ty} {n : Nat} : R sv (put u n t) = put (R sv u) n (R sv t) := by
  rw [R_eq sv (put u n t), R_eq sv u, R_eq sv t]
  exact inst_put (allF.triv fun _ => trivial) (allH.triv fun i => h.lc i)

/-- the head -/
def nowA : List (Nat × Ty) → Ty → Ty
  | [], t => t
  | (h, u) :: sv, t => if nowA sv t = .ho h then nowA sv u else nowA sv t
theorem R_now : ∀ {sv : List (Nat × Ty)}, Ok sv → ∀ t, R sv (nowA sv t) = R sv t
  | [], _, _ => rfl
  | (h, u) :: sv, ⟨h1, h2, h3, _, _⟩, t => by
    show one h (R sv u) (R sv (nowA ((h, u) :: sv) t)) = one h (R sv u) (R sv t)
    unfold nowA
    split
    · rename_i e
      have := R_now h1 t
      rw [e, R_free h2] at this
      rw [R_now h1 u, one_id h3, ← this]
      show _ = (if h = h then _ else _)
      rw [if_pos rfl]
    · rw [R_now h1 t]
theorem now_free : ∀ {sv : List (Nat × Ty)}, Ok sv → ∀ {t : Ty} {i : Nat}, nowA sv t = .ho i → i ∉ dom sv
  | [], _, _, _, _ => by simp [dom]
  | (h, u) :: sv, ⟨h1, h2, h3, _, _⟩, t, i, e => by
    unfold nowA at e
    have hm : (i ≠ h ∧ i ∉ dom sv) → i ∉ dom ((h, u) :: sv) := fun hi => by simpa [dom] using hi
    split at e
    · have hf := now_free h1 e
      have := R_now h1 u
      rw [e, R_free hf] at this
      rw [← this] at h3
      exact hm ⟨h3, hf⟩
    · rename_i hn
      exact hm ⟨fun e2 => hn (by rw [e, e2]), now_free h1 e⟩
theorem now_now {sv : List (Nat × Ty)} {t : Ty} (h : ∀ i, t = .ho i → i ∉ dom sv) : nowA sv t = t := by
  induction sv with
  | nil => rfl
  | cons p sv ih =>
    obtain ⟨x, u⟩ := p
    have h1 : nowA sv t = t := ih fun i e => by have := h i e; simp [dom] at this; simpa [dom] using this.2
    unfold nowA
    rw [h1, if_neg]
    intro e
    have := h x e
    simp [dom] at this

/-! ### the state -/
structure AS where
  sv : List (Nat × Ty)
  dp : List Nat
  G : List (Option (List Nat))
  way : List Nat
  tk : List (Nat × Nat)
def AS.lev (S : AS) (x : Nat) : Nat := S.dp.getD x 0
def PF (S : AS) (w : List Nat) (x : Nat) : Prop := S.G[x]? = some none ∧ w[S.lev x]? = some x
def PH (S : AS) (w : List Nat) (h : Nat) : Prop := ∃ v, S.G[h]? = some (some v) ∧ S.lev h ≤ w.length ∧ v.take (S.lev h) = w.take (S.lev h)
/-- a type on a way -/
structure ip (S : AS) (w : List Nat) (t : Ty) : Prop where
  c : lc 0 t
  f : allF (PF S w) t
  h : allH (PH S w) t
theorem ip.take {S : AS} {w : List Nat} {k : Nat} {t : Ty} (h : ip S (w.take k) t) : ip S w t :=
  ⟨h.c, h.f.mono fun x ⟨a, b⟩ => ⟨a, by
    rw [List.getElem?_take] at b; split at b
    · exact b
    · cases b⟩, h.h.mono fun x ⟨v, a, b, c⟩ => ⟨v, a, by rw [List.length_take] at b; omega, by
    rw [c, List.take_take]; congr 1; rw [List.length_take] at b; omega⟩⟩
theorem ip.app {S : AS} {w v : List Nat} {t : Ty} (h : ip S w t) : ip S (w ++ v) t := by
  have : w = (w ++ v).take w.length := by simp
  rw [this] at h; exact h.take
structure Inv (S : AS) : Prop where
  ok : Ok S.sv
  len : S.dp.length = S.G.length
  frs : ∀ p ∈ S.sv, allF (fun x => S.G[x]? = some none) p.2
  hos : ∀ p ∈ S.sv, allH (fun x => ∃ v, S.G[x]? = some (some v)) p.2
  lv : ∀ h, h ∈ dom S.sv → ∃ v, S.G[h]? = some (some v) ∧ S.lev h ≤ v.length ∧ ip S (v.take (S.lev h)) (R S.sv (.ho h))
theorem PH.ip {S : AS} {w : List Nat} {h : Nat} (hI : Inv S) (hp : PH S w h) : ip S w (R S.sv (.ho h)) := by
  by_cases hd : h ∈ dom S.sv
  · obtain ⟨v, h1, h2, h3⟩ := hI.lv h hd
    obtain ⟨v', g1, g2, g3⟩ := hp
    rw [h1] at g1; cases g1
    rw [g3] at h3; exact h3.take
  · rw [R_free hd]; exact ⟨trivial, trivial, hp⟩
def IP (S : AS) (w : List Nat) (t : Ty) : Prop := ip S w (R S.sv t)
structure Ext (S S' : AS) : Prop where
  sv : ∃ new, S'.sv = new ++ S.sv
  g : ∃ m, S'.G = S.G ++ m
  fr : ∀ x, S.G[x]? = some none → S'.lev x = S.lev x
  ho : ∀ h v, S.G[h]? = some (some v) → S'.lev h ≤ S.lev h
theorem Ext.refl (S : AS) : Ext S S := ⟨⟨[], rfl⟩, ⟨[], by simp⟩, fun _ _ => rfl, fun _ _ _ => Nat.le_refl _⟩
theorem Ext.get {S S' : AS} (h : Ext S S') {x : Nat} {o : Option (List Nat)} (hx : S.G[x]? = some o) : S'.G[x]? = some o := by
  obtain ⟨m, hm⟩ := h.g
  rw [hm, List.getElem?_append_left (List.getElem?_eq_some_iff.1 hx).1]; exact hx
theorem Ext.trans {S S' S'' : AS} (h : Ext S S') (g : Ext S' S'') : Ext S S'' := by
  obtain ⟨n1, e1⟩ := h.sv
  obtain ⟨n2, e2⟩ := g.sv
  obtain ⟨m1, f1⟩ := h.g
  obtain ⟨m2, f2⟩ := g.g
  exact ⟨⟨n2 ++ n1, by rw [e2, e1, List.append_assoc]⟩, ⟨m1 ++ m2, by rw [f2, f1, List.append_assoc]⟩,
    fun x hx => (g.fr x (h.get hx)).trans (h.fr x hx), fun x v hx => Nat.le_trans (g.ho x v (h.get hx)) (h.ho x v hx)⟩
theorem PF.ext {S S' : AS} (h : Ext S S') {w : List Nat} {x : Nat} (hp : PF S w x) : PF S' w x := ⟨h.get hp.1, by rw [h.fr x hp.1]; exact hp.2⟩
theorem PH.ext {S S' : AS} (h : Ext S S') {w : List Nat} {x : Nat} (hp : PH S w x) : PH S' w x := by
  obtain ⟨v, h1, h2, h3⟩ := hp
  have hl := h.ho x v h1
  refine ⟨v, h.get h1, by omega, ?_⟩
  have : ∀ l : List Nat, l.take (S'.lev x) = (l.take (S.lev x)).take (S'.lev x) := fun l => by rw [List.take_take]; congr 1; omega
  rw [this v, this w, h3]
theorem ip.ext {S S' : AS} (h : Ext S S') {w : List Nat} {t : Ty} (hp : ip S w t) : ip S' w t :=
  ⟨hp.c, hp.f.mono fun _ x => x.ext h, hp.h.mono fun _ x => x.ext h⟩
theorem ip.R {S : AS} (hI : Inv S) {w : List Nat} {t : Ty} (hp : ip S w t) : ip S w (R S.sv t) := by
  rw [R_eq]
  exact ⟨lc_inst hp.c (allF.triv fun _ => trivial) (allH.triv fun i => hI.ok.lc i), allF_inst (hp.f.mono fun _ x => x) (hp.h.mono fun i x => (x.ip hI).f),
    allH_inst (allF.triv fun _ => trivial) (hp.h.mono fun i x => (x.ip hI).h)⟩
theorem IP.ext {S S' : AS} (hI : Inv S) (hI' : Inv S') (h : Ext S S') {w : List Nat} {t : Ty} (hp : IP S w t) : IP S' w t := by
  obtain ⟨new, e⟩ := h.sv
  have := (ip.ext h hp).R hI'
  unfold IP
  rw [e] at this ⊢
  rwa [R_app hI.ok] at this
theorem IP.app {S : AS} {w v : List Nat} {t : Ty} (h : IP S w t) : IP S (w ++ v) t := ip.app h
theorem IP.fn1 {S : AS} {w : List Nat} {a b : Ty} (h : IP S w (.fn a b)) : IP S w a := by
  unfold IP at h; rw [R_fn] at h; exact ⟨h.c.1, h.f.1, h.h.1⟩
theorem IP.fn2 {S : AS} {w : List Nat} {a b : Ty} (h : IP S w (.fn a b)) : IP S w b := by
  unfold IP at h; rw [R_fn] at h; exact ⟨h.c.2, h.f.2, h.h.2⟩
theorem IP.put {S : AS} (hI : Inv S) {w : List Nat} {a u : Ty} (h : IP S w (.all a)) (hu : IP S w u) : IP S w (put u 0 a) := by
  unfold IP at h ⊢
  rw [R_all] at h; rw [R_put hI.ok]
  exact ⟨lc_put hu.c h.c, allF_put hu.f h.f, allH_put hu.h h.h⟩
theorem IP.now {S : AS} (hI : Inv S) {w : List Nat} {t : Ty} (h : IP S w t) : IP S w (nowA S.sv t) := by
  unfold IP; rw [R_now hI.ok]; exact h
theorem IP.lcl {S : AS} {w : List Nat} {t : Ty} (h : IP S w t) : lc 0 t := by
  have := h.c; rw [R_eq] at this; exact this.uninst
theorem IP.hos' {S : AS} (hI : Inv S) {w : List Nat} : ∀ {t : Ty}, allH (PH S w) (Sv.R S.sv t) → allH (fun x => ∃ v, S.G[x]? = some (some v)) t
  | .fn a b, h => by rw [R_fn] at h; exact ⟨IP.hos' hI h.1, IP.hos' hI h.2⟩
  | .all a, h => by rw [R_all] at h; exact IP.hos' (t := a) hI h
  | .ho i, h => by
    by_cases hd : i ∈ dom S.sv
    · obtain ⟨v, h1, _⟩ := hI.lv i hd
      exact ⟨v, h1⟩
    · rw [R_free hd] at h
      obtain ⟨v, h1, _⟩ := h
      exact ⟨v, h1⟩
  | .var _, _ => trivial
  | .nat, _ => trivial
  | .fr _, _ => trivial
theorem IP.hos {S : AS} (hI : Inv S) {w : List Nat} {t : Ty} (h : IP S w t) : allH (fun x => ∃ v, S.G[x]? = some (some v)) t := IP.hos' hI h.h
theorem IP.frs {S : AS} {w : List Nat} {t : Ty} (h : IP S w t) : allF (fun x => S.G[x]? = some none) t := by
  have := h.f; rw [R_eq] at this; exact this.uninst.mono fun _ x => x.1

/-! ### ground instances -/
/-- behind κ levels of the world around -/
def gi (κ : Nat) (S : AS) (θ : Nat → Ty) : Ty → Ty := inst (fun x => .fr (κ + S.lev x)) θ
structure Mod (κ : Nat) (S : AS) (θ : Nat → Ty) : Prop where
  gnd : ∀ h v, S.G[h]? = some (some v) → Gnd (κ + S.lev h) (θ h)
  eq : ∀ p ∈ S.sv, θ p.1 = gi κ S θ p.2
theorem gi_R' {φ θ : Nat → Ty} : ∀ {sv : List (Nat × Ty)}, (∀ p ∈ sv, θ p.1 = inst φ θ p.2) → ∀ t, inst φ θ (R sv t) = inst φ θ t
  | [], _, _ => rfl
  | (h, u) :: sv, hs, t => by
    have hs' : ∀ p ∈ sv, θ p.1 = inst φ θ p.2 := fun p hp => hs p (List.mem_cons_of_mem _ hp)
    show inst φ θ (one h (R sv u) (R sv t)) = _
    unfold one
    rw [inst_inst, ← gi_R' hs' t]
    refine inst_congr (allF.triv fun _ => rfl) (allH.triv fun i => ?_)
    split
    · rename_i e; subst e
      rw [gi_R' hs' u]; exact (hs _ (List.mem_cons_self ..)).symm
    · rfl
theorem Mod.R {κ : Nat} {S : AS} {θ : Nat → Ty} (h : Mod κ S θ) (t : Ty) : gi κ S θ (R S.sv t) = gi κ S θ t := gi_R' h.eq t
theorem Mod.now {κ : Nat} {S : AS} (hI : Inv S) {θ : Nat → Ty} (h : Mod κ S θ) (t : Ty) : gi κ S θ (nowA S.sv t) = gi κ S θ t := by
  rw [← h.R, R_now hI.ok, h.R]
theorem gi_ext {κ : Nat} {S S' : AS} (h : Ext S S') {θ : Nat → Ty} {t : Ty} (ht : allF (fun x => S.G[x]? = some none) t) : gi κ S' θ t = gi κ S θ t :=
  inst_congr (ht.mono fun x hx => by rw [h.fr x hx]) (allH.triv fun _ => rfl)
theorem Mod.back {κ : Nat} {S S' : AS} (hI : Inv S) (h : Ext S S') {θ : Nat → Ty} (hm : Mod κ S' θ) : Mod κ S θ := by
  obtain ⟨new, e⟩ := h.sv
  refine ⟨fun x v hx => (hm.gnd x v (h.get hx)).mono (Nat.add_le_add_left (h.ho x v hx) κ), fun p hp => ?_⟩
  rw [hm.eq p (by rw [e]; exact List.mem_append_right _ hp), gi_ext h (hI.frs p hp)]
theorem IP.wf {κ : Nat} {S : AS} {w : List Nat} {θ : Nat → Ty} {t : Ty} (hm : Mod κ S θ) (h : IP S w t) : WF (κ + w.length) (gi κ S θ t) := by
  rw [← hm.R]
  have hl : ∀ x, PF S w x → κ + S.lev x < κ + w.length := fun x hx => Nat.add_lt_add_left (List.getElem?_eq_some_iff.1 hx.2).1 κ
  refine ⟨lc_inst h.c (allF.triv fun _ => trivial) (h.h.mono fun i hi => ?_), allF_inst (h.f.mono fun x hx => hl x hx) (h.h.mono fun i hi => ?_), allH_inst (allF.triv fun _ => trivial) (h.h.mono fun i hi => ?_)⟩
  · obtain ⟨v, h1, _⟩ := hi; exact (hm.gnd i v h1).c
  · obtain ⟨v, h1, h2, _⟩ := hi; exact (hm.gnd i v h1).l.mono fun _ x => Nat.lt_of_lt_of_le x (Nat.add_le_add_left h2 κ)
  · obtain ⟨v, h1, _⟩ := hi; exact (hm.gnd i v h1).h
/-- the same holes, the same instance -/
theorem IP.agree {κ : Nat} {S S' : AS} (hI : Inv S) (he : Ext S S') {w : List Nat} {θ θ' : Nat → Ty} {t : Ty} (h : IP S w t) (hm : Mod κ S θ) (hm' : Mod κ S' θ') (ha : ∀ i, i < S.dp.length → θ' i = θ i) : gi κ S' θ' t = gi κ S θ t := by
  rw [gi_ext he h.frs, ← hm.R, ← (hm'.back hI he).R]
  refine inst_congr (allF.triv fun _ => rfl) (h.h.mono fun i ⟨v, h1, _⟩ => ha i ?_)
  rw [hI.len]; exact (List.getElem?_eq_some_iff.1 h1).1
/-- there is an instance -/
def dflt (κ : Nat) (S : AS) (i : Nat) : Ty := inst (fun x => .fr (κ + S.lev x)) (fun _ => .nat) (R S.sv (.ho i))
theorem Mod.dflt {κ : Nat} {S : AS} (hI : Inv S) : Mod κ S (dflt κ S) := by
  refine ⟨fun h v hv => ?_, fun p hp => ?_⟩
  · unfold Sv.dflt
    by_cases hd : h ∈ dom S.sv
    · obtain ⟨v', h1, h2, h3⟩ := hI.lv h hd
      have hl : ∀ x, PF S (v'.take (S.lev h)) x → κ + S.lev x < κ + S.lev h := fun x hx => by
        have := (List.getElem?_eq_some_iff.1 hx.2).1
        rw [List.length_take] at this; omega
      exact ⟨plain_inst (hI.ok.plain h) (allF.triv fun _ => trivial) (allH.triv fun _ => trivial), lc_inst h3.c (allF.triv fun _ => trivial) (allH.triv fun _ => trivial),
        allF_inst (h3.f.mono fun x hx => hl x hx) (allH.triv fun _ => trivial), allH_inst (allF.triv fun _ => trivial) (allH.triv fun _ => trivial)⟩
    · rw [R_free hd]; exact Gnd.nat
  · obtain ⟨h, u⟩ := p
    show Sv.dflt κ S h = gi κ S (Sv.dflt κ S) u
    unfold Sv.dflt gi
    rw [R_mem hI.ok hp, R_eq S.sv u, inst_inst]
    rfl
end Go.Proofs.Ytjgnhhgigickaaa.Sv

namespace Go.Proofs.Ytjgnhhgigickaaa.Sv
open Ty Go Wk Md

@[reducible] def toT : Ty → T
  | .var n => .mk 1 n []
  | .nat => .mk 2 0 []
  | .fn a b => .mk 3 0 [toT a, toT b]
  | .all a => .mk 4 0 [toT a]
  | .fr n => .mk 5 n []
  | .ho n => .mk 6 n []
def csv (sv : List (Nat × Ty)) : List (Int × T) := (sv.map fun p => ((p.1 : Int), toT p.2)).reverse
def cSol (wt : Bool) (S : AS) : Sol where
  solved := csv S.sv
  deep := S.dp.map fun (n : Nat) => (n : Int)
  way := S.way.map fun (x : Nat) => .mk 5 (x : Int) []
  md := if wt then .wit (S.tk.map fun p => (.mk 6 (p.1 : Int) [], (p.2 : Int))) else .unk

theorem w64_id {x : Int} (h1 : -9223372036854775808 ≤ x) (h2 : x ≤ 9223372036854775807) : w64 x = x := wrap_id h1 h2
theorem lkp_app {α : Type} : ∀ (l m : List (Int × α)) (x : Int), lkp (l ++ m) x = (lkp l x).or (lkp m x)
  | [], _, _ => rfl
  | (k, v) :: l, m, x => by
    show (bif x == k then some v else lkp (l ++ m) x) = (bif x == k then some v else lkp l x).or _
    cases x == k
    · exact lkp_app l m x
    · rfl
theorem csv_cons (h : Nat) (u : Ty) (sv : List (Nat × Ty)) : csv ((h, u) :: sv) = csv sv ++ [((h : Int), toT u)] := by simp [csv]
theorem lkp_free : ∀ {sv : List (Nat × Ty)} {h : Nat}, h ∉ dom sv → lkp (csv sv) (h : Int) = none
  | [], _, _ => rfl
  | (x, u) :: sv, h, hd => by
    have h1 : h ≠ x ∧ h ∉ dom sv := by simpa [dom] using hd
    rw [csv_cons, lkp_app, lkp_free h1.2]
    show (bif (h : Int) == (x : Int) then some (toT u) else none) = none
    rw [show ((h : Int) == (x : Int)) = false by simpa using fun e : (h : Int) = (x : Int) => h1.1 (by omega)]; rfl
theorem lkp_mem : ∀ {sv : List (Nat × Ty)}, Ok sv → ∀ {h : Nat} {u : Ty}, (h, u) ∈ sv → lkp (csv sv) (h : Int) = some (toT u)
  | (x, y) :: sv, ⟨h1, h2, _, _, _⟩, h, u, hm => by
    rw [csv_cons, lkp_app]
    rcases List.mem_cons.1 hm with e | hm
    · obtain ⟨rfl, rfl⟩ : h = x ∧ u = y := by simpa using e
      rw [lkp_free h2]
      show (bif (h : Int) == (h : Int) then some (toT u) else none) = _
      simp
    · rw [lkp_mem h1 hm]; rfl

inductive Ch (sv : List (Nat × Ty)) : Ty → Ty → Prop
  | refl {t : Ty} : Ch sv t t
  | step {h : Nat} {u t : Ty} : (h, u) ∈ sv → Ch sv u t → Ch sv (.ho h) t
theorem Ch.trans {sv : List (Nat × Ty)} {a b c : Ty} (h : Ch sv a b) (g : Ch sv b c) : Ch sv a c := by
  induction h with
  | refl => exact g
  | step m _ ih => exact .step m (ih g)
theorem Ch.cons {sv : List (Nat × Ty)} {p : Nat × Ty} {a b : Ty} (h : Ch sv a b) : Ch (p :: sv) a b := by
  induction h with
  | refl => exact .refl
  | step m _ ih => exact .step (List.mem_cons_of_mem _ m) ih
theorem ch_now : ∀ (sv : List (Nat × Ty)) (t : Ty), Ch sv t (nowA sv t)
  | [], _ => .refl
  | (h, u) :: sv, t => by
    unfold nowA
    split
    · rename_i e
      have := (ch_now sv t).cons (p := (h, u))
      rw [e] at this
      exact this.trans (.step (List.mem_cons_self ..) (ch_now sv u).cons)
    · exact (ch_now sv t).cons
theorem Ch.ev {sv : List (Nat × Ty)} (hok : Ok sv) {t t' : Ty} (h : Ch sv t t') (hf : ∀ i, t' = .ho i → i ∉ dom sv) : Ev (fun f => Md.now f (csv sv) (toT t)) (toT t') := by
  induction h with
  | @refl t =>
    refine Ev.succ (G := fun _ => some (toT t)) (fun f => ?_) Ev.pure
    cases t with
    | ho i =>
      show (if (6 : Int) = 6 then (match lkp (csv sv) (i : Int) with | some u => Md.now f (csv sv) u | none => some (toT (.ho i))) else _) = _
      rw [if_pos rfl, lkp_free (hf i rfl)]
    | _ => rfl
  | @step h u t m _ ih =>
    refine Ev.succ (G := fun f => Md.now f (csv sv) (toT u)) (fun f => ?_) (ih hf)
    show (if (6 : Int) = 6 then (match lkp (csv sv) (h : Int) with | some u => Md.now f (csv sv) u | none => some (toT (.ho h))) else _) = _
    rw [if_pos rfl, lkp_mem hok m]
theorem now_ev {sv : List (Nat × Ty)} (hok : Ok sv) (t : Ty) : Ev (fun f => Md.now f (csv sv) (toT t)) (toT (nowA sv t)) :=
  (ch_now sv t).ev hok fun _ e => now_free hok e

/-! ### opening -/
theorem put_eq {u : Ty} : ∀ {t : Ty} {n : Nat}, n + nq t < lim → Md.put (toT u) (n : Int) (toT t) = toT (Ty.put u n t)
  | .fn a b, n, h => by
    simp only [nq] at h
    show T.mk 3 0 (Md.puts (toT u) (n : Int) [toT a, toT b]) = _
    unfold Md.puts; rw [put_eq (by omega)]
    unfold Md.puts; rw [put_eq (by omega)]
    unfold Md.puts; rfl
  | .all a, n, h => by
    simp only [nq] at h
    have hlim : lim = 1099511627776 := rfl
    show T.mk 4 0 (Md.puts (toT u) (w64 ((n : Int) + 1)) [toT a]) = _
    unfold Md.puts
    rw [w64_id (by omega) (by omega), show ((n : Int) + 1) = ((n + 1 : Nat) : Int) by omega, put_eq (by omega)]
    unfold Md.puts; rfl
  | .var m, n, _ => by
    show (if (1 : Int) = 1 ∧ (m : Int) = (n : Int) then toT u else if ([] : List T).length = 0 then T.mk 1 m [] else _) = toT (if m = n then u else .var m)
    by_cases e : m = n
    · rw [if_pos ⟨rfl, by omega⟩, if_pos e]
    · rw [if_neg (by omega), if_neg e]; rfl
  | .nat, _, _ => rfl
  | .fr _, _, _ => rfl
  | .ho _, _, _ => rfl
theorem opn_eq {u a : Ty} (h : nq a < lim) : opn (toT (.all a)) (toT u) = some (toT (Ty.put u 0 a)) := by
  show some (Md.put (toT u) ((0 : Nat) : Int) (toT a)) = _
  rw [put_eq (by omega)]

/-! ### is a hole, is a quantifier in a type? -/
def hasH (h : Nat) : Ty → Bool
  | .fn a b => hasH h a || hasH h b
  | .all a => hasH h a
  | .ho i => i == h
  | _ => false
def hasQ : Ty → Bool
  | .fn a b => hasQ a || hasQ b
  | .all _ => true
  | _ => false
theorem hasH_false {h : Nat} : ∀ {t : Ty}, hasH h t = false ↔ allH (· ≠ h) t
  | .fn a b => by simp only [hasH, allH, Bool.or_eq_false_iff, hasH_false (t := a), hasH_false (t := b)]
  | .all a => by simp only [hasH, allH, hasH_false (t := a)]
  | .ho i => by simp [hasH, allH]
  | .var _ => by simp [hasH, allH]
  | .nat => by simp [hasH, allH]
  | .fr _ => by simp [hasH, allH]
theorem hasQ_false : ∀ {t : Ty}, hasQ t = false ↔ plain t
  | .fn a b => by simp only [hasQ, Ty.plain, Bool.or_eq_false_iff, hasQ_false (t := a), hasQ_false (t := b)]
  | .all a => by simp [hasQ, Ty.plain]
  | .ho i => by simp [hasQ, Ty.plain]
  | .var _ => by simp [hasQ, Ty.plain]
  | .nat => by simp [hasQ, Ty.plain]
  | .fr _ => by simp [hasQ, Ty.plain]
theorem R_head {sv : List (Nat × Ty)} (hok : Ok sv) (t : Ty) : R sv t = R sv (nowA sv t) := (R_now hok t).symm
theorem insideL_nil {sv : List (Int × T)} {h : Int} {a b : Bool} : Ev (fun f => Md.insideL f sv h a b []) (a, b) := Ev.succ (fun f => rfl) Ev.pure
theorem insideL_cons {sv : List (Int × T)} {h : Int} {a b x y : Bool} {k : T} {ks : List T} {r : Bool × Bool} (h1 : Ev (fun f => Md.inside f sv h k) (x, y)) (h2 : Ev (fun f => Md.insideL f sv h (a || x) (b || y) ks) r) : Ev (fun f => Md.insideL f sv h a b (k :: ks)) r :=
  Ev.succ (fun f => rfl) (Ev.bind h1 h2)
theorem inside_ev {sv : List (Nat × Ty)} (hok : Ok sv) (h : Nat) : ∀ (z : Nat) (t : Ty), Ty.sz (R sv t) ≤ z → Ev (fun f => Md.inside f (csv sv) (h : Int) (toT t)) (hasH h (R sv t), hasQ (R sv t)) := by
  intro z
  induction z with
  | zero => intro t hz; exfalso; revert hz; cases R sv t <;> simp [Ty.sz]
  | succ z ih =>
    intro t hz
    refine Ev.succ (fun f => rfl) (Ev.bind (now_ev hok t) ?_)
    rw [R_head hok t] at hz ⊢
    have hfree : ∀ i, nowA sv t = .ho i → i ∉ dom sv := fun i e => now_free hok e
    cases e : nowA sv t with
    | fn a b =>
      rw [e, R_fn] at hz; simp only [Ty.sz] at hz
      rw [R_fn]
      have h1 := ih a (by omega)
      have h2 := ih b (by omega)
      refine Ev.congr (G := fun f => Md.insideL f (csv sv) (h : Int) false false [toT a, toT b]) (fun f => rfl) ?_
      refine insideL_cons h1 (insideL_cons h2 ?_)
      exact insideL_nil
    | all a =>
      rw [e, R_all] at hz; simp only [Ty.sz] at hz
      rw [R_all]
      have h1 := ih a (by omega)
      refine Ev.congr (G := fun f => Md.insideL f (csv sv) (h : Int) false true [toT a]) (fun f => rfl) ?_
      refine insideL_cons h1 ?_
      exact insideL_nil
    | ho i =>
      rw [R_free (hfree i e)]
      refine Ev.congr (G := fun f => Md.insideL f (csv sv) (h : Int) (i == h) false []) (fun f => ?_) insideL_nil
      show Md.insideL f (csv sv) (h : Int) (decide ((6 : Int) = 6 ∧ (i : Int) = (h : Int))) false [] = _
      congr 1
      by_cases e : i = h
      · subst e; simp
      · rw [decide_eq_false (fun x => e (by omega))]; simp [e]
    | nat => rw [R_nat]; exact Ev.congr (G := fun f => Md.insideL f (csv sv) (h : Int) false false []) (fun f => rfl) insideL_nil
    | fr i => rw [R_fr]; exact Ev.congr (G := fun f => Md.insideL f (csv sv) (h : Int) false false []) (fun f => rfl) insideL_nil
    | var i => rw [R_var]; exact Ev.congr (G := fun f => Md.insideL f (csv sv) (h : Int) false false []) (fun f => rfl) insideL_nil

/-! ### levels -/
theorem nth_dp {l : List Nat} {i : Nat} (h : i < l.length) : nth (l.map fun (n : Nat) => (n : Int)) (i : Int) = some ((l.getD i 0 : Nat) : Int) := by
  unfold nth
  rw [if_pos (by omega), Int.toNat_natCast, List.getElem?_map, List.getElem?_eq_getElem h, List.getD_eq_getElem?_getD, List.getElem?_eq_getElem h]; rfl
theorem set_dp {l : List Nat} {i v : Nat} : setAt (l.map fun (n : Nat) => (n : Int)) (i : Int) (v : Int) = (l.set i v).map fun (n : Nat) => (n : Int) := by
  unfold setAt
  rw [Int.toNat_natCast, List.map_set]
theorem getD_set {l : List Nat} {i j v : Nat} : (l.set i v).getD j 0 = if i = j ∧ i < l.length then v else l.getD j 0 := by
  simp only [List.getD_eq_getElem?_getD, List.getElem?_set]
  by_cases h : i = j
  · subst h
    by_cases h2 : i < l.length
    · simp [h2]
    · simp [h2]
  · simp [h]
structure Fit (S : AS) (h : Nat) (t : Ty) (r : Bool) (dp' : List Nat) : Prop where
  len : dp'.length = S.dp.length
  old : ∀ i, hasH i t = false → dp'.getD i 0 = S.dp.getD i 0
  fresh : r = true → allF (fun x => S.lev x < S.lev h) t
  min : r = true → ∀ i, hasH i t = true → dp'.getD i 0 = Min.min (S.lev i) (S.lev h)
  all : allF (fun x => S.lev x < S.lev h) t → r = true
theorem fits_ev {wt : Bool} {h : Nat} : ∀ (z : Nat) {S : AS} (t : Ty), Ok S.sv → Ty.sz (R S.sv t) ≤ z → plain (R S.sv t) → S.dp.length = S.G.length → h < S.dp.length → hasH h (R S.sv t) = false → (∃ v, S.G[h]? = some (some v)) → allF (fun x => S.G[x]? = some none) (R S.sv t) → allH (fun i => ∃ v, S.G[i]? = some (some v)) (R S.sv t) →
    ∃ r dp', Ev (fun f => Md.fits f (cSol wt S) (h : Int) (toT t)) (r, cSol wt { S with dp := dp' }) ∧ Fit S h (R S.sv t) r dp' := by
  intro z
  induction z with
  | zero => intro S t _ hz; exfalso; revert hz; cases R S.sv t <;> simp [Ty.sz]
  | succ z ih =>
    intro S t hok hz hp hlen hh hno hG hF hH
    have hnow := now_ev hok t
    rw [R_head hok t] at hz hp hno hF hH ⊢
    have hfree : ∀ i, nowA S.sv t = .ho i → i ∉ dom S.sv := fun i e => now_free hok e
    cases e : nowA S.sv t with
    | fn a b =>
      rw [e] at hz hp hno hF hH hnow
      rw [R_fn] at hz hp hno hF hH ⊢; simp only [Ty.sz] at hz
      simp only [hasH, Bool.or_eq_false_iff] at hno
      obtain ⟨r1, dp1, h1, f1⟩ := ih (S := S) a hok (by omega) hp.1 hlen hh hno.1 hG hF.1 hH.1
      cases r1 with
      | false =>
        refine ⟨false, dp1, Ev.succ (fun f => rfl) (Ev.bind hnow ?_), ⟨f1.len, fun i hi => f1.old i (by simp only [hasH, Bool.or_eq_false_iff] at hi; exact hi.1), (fun hr => by cases hr), (fun hr => by cases hr), fun hr => f1.all hr.1⟩⟩
        refine Ev.congr (G := fun f => Md.fitsL f (cSol wt S) (h : Int) [toT a, toT b]) (fun f => rfl) ?_
        exact Ev.succ (fun f => rfl) (Ev.bind h1 Ev.pure)
      | true =>
        have hl1 : ∀ x, S.G[x]? = some none → ({ S with dp := dp1 } : AS).lev x = S.lev x := fun x hx => f1.old x (by
          rw [hasH_false]; exact hH.1.mono fun i ⟨v, hv⟩ e => by subst e; rw [hv] at hx; cases hx)
        have hlh : ({ S with dp := dp1 } : AS).lev h = S.lev h := f1.old h hno.1
        obtain ⟨r2, dp2, h2, f2⟩ := ih (S := { S with dp := dp1 }) b hok (by show Ty.sz (R S.sv b) ≤ z; omega) hp.2 (f1.len.trans hlen) (by show h < dp1.length; rw [f1.len]; exact hh) hno.2 hG hF.2 hH.2
        have hFb : allF (fun x => S.lev x < S.lev h) (R S.sv b) ↔ allF (fun x => ({ S with dp := dp1 } : AS).lev x < ({ S with dp := dp1 } : AS).lev h) (R S.sv b) :=
          ⟨fun g => (hF.2.and g).mono fun x ⟨g1, g2⟩ => by rw [hl1 x g1, hlh]; exact g2, fun g => (hF.2.and g).mono fun x ⟨g1, g2⟩ => by rw [hl1 x g1, hlh] at g2; exact g2⟩
        refine ⟨r2, dp2, Ev.succ (fun f => rfl) (Ev.bind hnow ?_), ⟨f2.len.trans f1.len, fun i hi => ?_, fun hr => ⟨f1.fresh rfl, hFb.2 (f2.fresh hr)⟩, fun hr i hi => ?_, fun hr => f2.all (hFb.1 hr.2)⟩⟩
        · refine Ev.congr (G := fun f => Md.fitsL f (cSol wt S) (h : Int) [toT a, toT b]) (fun f => rfl) ?_
          refine Ev.succ (fun f => rfl) (Ev.bind h1 ?_)
          refine Ev.congr (G := fun f => Md.fitsL f (cSol wt { S with dp := dp1 }) (h : Int) [toT b]) (fun f => rfl) ?_
          refine Ev.succ (fun f => rfl) (Ev.bind h2 ?_)
          cases r2 with
          | true => exact Ev.succ (fun f => rfl) Ev.pure
          | false => exact Ev.pure
        · simp only [hasH, Bool.or_eq_false_iff] at hi
          exact (f2.old i hi.2).trans (f1.old i hi.1)
        · cases hb : hasH i (R S.sv b) with
          | true =>
            rw [f2.min hr i hb, hlh]
            cases ha : hasH i (R S.sv a) with
            | true =>
              have : ({ S with dp := dp1 } : AS).lev i = Min.min (S.lev i) (S.lev h) := f1.min rfl i ha
              rw [this]; omega
            | false =>
              have : ({ S with dp := dp1 } : AS).lev i = S.lev i := f1.old i ha
              rw [this]
          | false =>
            rw [f2.old i hb]
            simp only [hasH, hb, Bool.or_false] at hi
            exact f1.min rfl i hi
    | all a => rw [e, R_all] at hp; exact hp.elim
    | ho i =>
      rw [e] at hno hH hnow
      rw [R_free (hfree i e)] at hno hH ⊢
      obtain ⟨v, hv⟩ : ∃ v, S.G[i]? = some (some v) := hH
      have hi : i < S.dp.length := by rw [hlen]; exact (List.getElem?_eq_some_iff.1 hv).1
      refine ⟨true, S.dp.set i (Min.min (S.lev i) (S.lev h)), Ev.succ (fun f => rfl) (Ev.bind hnow ?_), ⟨List.length_set .., fun j hj => ?_, fun _ => trivial, fun _ j hj => ?_, fun _ => rfl⟩⟩
      · refine Ev.congr (G := fun f => Md.fitsL f (cSol wt { S with dp := S.dp.set i (Min.min (S.lev i) (S.lev h)) }) (h : Int) []) (fun f => ?_) (Ev.succ (fun f => rfl) Ev.pure)
        show (nth (S.dp.map fun (n : Nat) => (n : Int)) (i : Int)).bind (fun x => (nth (S.dp.map fun (n : Nat) => (n : Int)) (h : Int)).bind fun y => Md.fitsL f { cSol wt S with deep := setAt (S.dp.map fun (n : Nat) => (n : Int)) (i : Int) (Min.min x y) } (h : Int) []) = _
        rw [nth_dp hi, Option.bind_some, nth_dp hh, Option.bind_some, show Min.min ((S.dp.getD i 0 : Nat) : Int) ((S.dp.getD h 0 : Nat) : Int) = ((Min.min (S.dp.getD i 0) (S.dp.getD h 0) : Nat) : Int) by omega, set_dp]
        rfl
      · rw [getD_set, if_neg]
        rintro ⟨rfl, _⟩
        simp [hasH] at hj
      · have : i = j := by simpa [hasH] using hj
        subst this
        rw [getD_set, if_pos ⟨rfl, hi⟩]
    | fr i =>
      rw [e] at hF hnow
      rw [R_fr] at hF ⊢
      have hi : i < S.dp.length := by rw [hlen]; exact (List.getElem?_eq_some_iff.1 (show S.G[i]? = some none from hF)).1
      refine ⟨decide (S.lev i < S.lev h), S.dp, Ev.succ (fun f => rfl) (Ev.bind hnow ?_), ⟨rfl, fun _ _ => rfl, fun hr => (show S.lev i < S.lev h from of_decide_eq_true hr), (fun _ j hj => by cases hj), fun hr => decide_eq_true (show S.lev i < S.lev h from hr)⟩⟩
      refine Ev.congr (G := fun _ => some (decide (S.lev i < S.lev h), cSol wt S)) (fun f => ?_) Ev.pure
      show (nth (S.dp.map fun (n : Nat) => (n : Int)) (i : Int)).bind (fun x => (nth (S.dp.map fun (n : Nat) => (n : Int)) (h : Int)).bind fun y => some (decide (x < y), cSol wt S)) = _
      rw [nth_dp hi, Option.bind_some, nth_dp hh, Option.bind_some]
      congr 2
      rw [decide_eq_decide]
      exact Int.ofNat_lt
    | nat =>
      rw [e] at hnow; rw [R_nat]
      exact ⟨true, S.dp, Ev.succ (fun f => rfl) (Ev.bind hnow (Ev.congr (G := fun f => Md.fitsL f (cSol wt S) (h : Int) []) (fun f => rfl) (Ev.succ (fun f => rfl) Ev.pure))), ⟨rfl, fun _ _ => rfl, fun _ => trivial, (fun _ j hj => by cases hj), fun _ => rfl⟩⟩
    | var i =>
      rw [e] at hnow; rw [R_var]
      exact ⟨true, S.dp, Ev.succ (fun f => rfl) (Ev.bind hnow (Ev.congr (G := fun f => Md.fitsL f (cSol wt S) (h : Int) []) (fun f => rfl) (Ev.succ (fun f => rfl) Ev.pure))), ⟨rfl, fun _ _ => rfl, fun _ => trivial, (fun _ j hj => by cases hj), fun _ => rfl⟩⟩

/-! ### new variables -/
theorem newer_fr {wt : Bool} {S : AS} {d : Nat} (h1 : S.dp.length < lim) (h2 : S.way.length < lim) :
    Md.newer (cSol wt S) 5 (d : Int) = some (toT (.fr S.dp.length), cSol wt { S with dp := S.dp ++ [d], G := S.G ++ [none] }) := by
  unfold Md.newer
  rw [if_pos (by simpa [cSol] using ⟨h1, h2⟩)]
  simp [cSol, toT]
theorem newer_ho {wt : Bool} {S : AS} {d : Nat} {v : List Nat} (h1 : S.dp.length < lim) (h2 : S.way.length < lim) :
    Md.newer (cSol wt S) 6 (d : Int) = some (toT (.ho S.dp.length), cSol wt { S with dp := S.dp ++ [d], G := S.G ++ [some v] }) := by
  unfold Md.newer
  rw [if_pos (by simpa [cSol] using ⟨h1, h2⟩)]
  simp [cSol, toT]
/-- a hole made a function -/
def AS.spl (S : AS) (h : Nat) (v : List Nat) : AS :=
  { S with sv := (h, .fn (.ho S.dp.length) (.ho (S.dp.length + 1))) :: S.sv, dp := S.dp ++ [S.lev h] ++ [S.lev h], G := S.G ++ [some v] ++ [some v] }
theorem split_eq {wt : Bool} {S : AS} {h : Nat} {v : List Nat} (hh : h < S.dp.length) (hd : h ∉ dom S.sv) (h1 : S.dp.length + 1 < lim) (h2 : S.way.length < lim) :
    Md.split (cSol wt S) (toT (.ho h)) = some (toT (.fn (.ho S.dp.length) (.ho (S.dp.length + 1))), cSol wt (S.spl h v)) := by
  unfold Md.split
  show (nth (S.dp.map fun (n : Nat) => (n : Int)) (h : Int)).bind _ = _
  rw [nth_dp hh, Option.bind_some, newer_ho (v := v) (by omega) h2, Option.bind_some]
  show (nth ((S.dp ++ [S.dp.getD h 0]).map fun (n : Nat) => (n : Int)) (h : Int)).bind _ = _
  rw [nth_dp (by simp; omega), Option.bind_some]
  have e : (S.dp ++ [S.dp.getD h 0]).getD h 0 = S.dp.getD h 0 := by
    rw [List.getD_eq_getElem?_getD, List.getElem?_append_left hh, ← List.getD_eq_getElem?_getD]
  dsimp only
  rw [e, newer_ho (S := { sv := S.sv, dp := S.dp ++ [S.dp.getD h 0], G := S.G ++ [some v], way := S.way, tk := S.tk }) (v := v) (by simpa using h1) h2, Option.bind_some]
  show (match lkp (csv S.sv) (h : Int) with | some _ => none | none => _) = _
  rw [lkp_free hd]
  simp [AS.spl, cSol, csv, toT, AS.lev]
/-- a plain type is taken: a new hole -/
def AS.tak (S : AS) : AS := { S with dp := S.dp ++ [S.way.length], G := S.G ++ [some S.way], tk := S.tk ++ [(S.dp.length, S.way.length)] }
theorem take_ev {wt : Bool} {S : AS} (h1 : S.dp.length < lim) (h2 : S.way.length < lim) (h3 : S.tk.length < lim) :
    Ev (fun f => Md.take f (cSol wt S) (S.way.length : Int)) ((toT (.ho S.dp.length), true), cSol wt S.tak) := by
  refine Ev.congr (G := fun _ => some ((toT (.ho S.dp.length), true), cSol wt S.tak)) (fun f => ?_) Ev.pure
  unfold Md.take
  cases wt with
  | false =>
    show (Md.newer (cSol false S) 6 (S.way.length : Int)).bind _ = _
    rw [newer_ho (v := S.way) h1 h2]; rfl
  | true =>
    show (Md.newer (cSol true S) 6 (S.way.length : Int)).bind (fun r => if (S.tk.map fun p => ((.mk 6 (p.1 : Int) [] : T), (p.2 : Int))).length < lim then _ else _) = _
    rw [newer_ho (v := S.way) h1 h2, Option.bind_some, if_pos (by simpa using h3)]
    simp [AS.tak, cSol, toT]
theorem Inv.congr {S S' : AS} (h : Inv S) (h1 : S'.sv = S.sv) (h2 : S'.dp = S.dp) (h3 : S'.G = S.G) : Inv S' := by
  cases S; cases S'
  simp only at h1 h2 h3
  subst h1; subst h2; subst h3
  refine ⟨h.ok, h.len, h.frs, h.hos, fun x hx => ?_⟩
  obtain ⟨v, a, b, c⟩ := h.lv x hx
  exact ⟨v, a, b, c.c, c.f, c.h⟩
theorem Ext.congr {S S' : AS} (h1 : S'.sv = S.sv) (h2 : S'.dp = S.dp) (h3 : S'.G = S.G) : Ext S S' := by
  cases S; cases S'
  simp only at h1 h2 h3
  subst h1; subst h2; subst h3
  exact ⟨⟨[], rfl⟩, ⟨[], by simp⟩, fun _ _ => rfl, fun _ _ _ => Nat.le_refl _⟩
theorem Mod.congr {κ : Nat} {S S' : AS} {θ : Nat → Ty} (h : Mod κ S θ) (h1 : S'.sv = S.sv) (h2 : S'.dp = S.dp) (h3 : S'.G = S.G) : Mod κ S' θ := by
  cases S; cases S'
  simp only at h1 h2 h3
  subst h1; subst h2; subst h3
  exact ⟨h.gnd, h.eq⟩
def AS.push (S : AS) (d : Nat) (o : Option (List Nat)) : AS := { S with dp := S.dp ++ [d], G := S.G ++ [o] }
theorem lev_push {S : AS} {d i : Nat} {o : Option (List Nat)} (h : i < S.dp.length) : (S.push d o).lev i = S.lev i := by
  unfold AS.lev AS.push
  simp only [List.getD_eq_getElem?_getD]
  rw [List.getElem?_append_left h]
theorem lev_push' {S : AS} {d : Nat} {o : Option (List Nat)} : (S.push d o).lev S.dp.length = d := by
  unfold AS.lev AS.push
  simp [List.getD_eq_getElem?_getD]
theorem Inv.lt {S : AS} (h : Inv S) {x : Nat} {o : Option (List Nat)} (hx : S.G[x]? = some o) : x < S.dp.length := by
  rw [h.len]; exact (List.getElem?_eq_some_iff.1 hx).1
theorem Ext.push {S : AS} (h : Inv S) (d : Nat) (o : Option (List Nat)) : Ext S (S.push d o) :=
  ⟨⟨[], rfl⟩, ⟨[o], rfl⟩, fun _ hx => lev_push (h.lt hx), fun _ _ hx => Nat.le_of_eq (lev_push (h.lt hx))⟩
theorem Inv.push {S : AS} (h : Inv S) (d : Nat) (o : Option (List Nat)) : Inv (S.push d o) := by
  have he := Ext.push h d o
  refine ⟨h.ok, ?_, fun p hp => (h.frs p hp).mono fun x hx => he.get hx, fun p hp => (h.hos p hp).mono fun x ⟨v, hx⟩ => ⟨v, he.get hx⟩, fun x hx => ?_⟩
  · show (S.dp ++ [d]).length = (S.G ++ [o]).length
    rw [List.length_append, List.length_append, h.len]; rfl
  · obtain ⟨v, a, b, c⟩ := h.lv x hx
    have hl := lev_push (d := d) (o := o) (h.lt a)
    exact ⟨v, he.get a, by rw [hl]; exact b, by rw [hl]; exact c.ext he⟩
theorem get_push {S : AS} (h : Inv S) (d : Nat) (o : Option (List Nat)) : (S.push d o).G[S.dp.length]? = some o := by
  show (S.G ++ [o])[S.dp.length]? = _
  rw [h.len]; simp
/-- levels fall -/
theorem Ext.lower {S : AS} {dp' : List Nat} (hf : ∀ x, S.G[x]? = some none → dp'.getD x 0 = S.lev x) (hh : ∀ x, dp'.getD x 0 ≤ S.lev x) : Ext S { S with dp := dp' } :=
  ⟨⟨[], rfl⟩, ⟨[], by simp⟩, hf, fun x _ _ => hh x⟩
theorem Inv.lower {S : AS} (h : Inv S) {dp' : List Nat} (hl : dp'.length = S.dp.length) (hf : ∀ x, S.G[x]? = some none → dp'.getD x 0 = S.lev x) (hh : ∀ x, dp'.getD x 0 ≤ S.lev x) (hd : ∀ x, x ∈ dom S.sv → dp'.getD x 0 = S.lev x) : Inv { S with dp := dp' } := by
  have he := Ext.lower hf hh
  refine ⟨h.ok, hl.trans h.len, h.frs, h.hos, fun x hx => ?_⟩
  obtain ⟨v, a, b, c⟩ := h.lv x hx
  have e : ({ S with dp := dp' } : AS).lev x = S.lev x := hd x hx
  exact ⟨v, a, by rw [e]; exact b, by rw [e]; exact c.ext he⟩
/-- a hole is made a type -/
def AS.sol (S : AS) (h : Nat) (t : Ty) : AS := { S with sv := (h, t) :: S.sv }
theorem Ext.sol (S : AS) (h : Nat) (t : Ty) : Ext S (S.sol h t) := ⟨⟨[(h, t)], rfl⟩, ⟨[], by simp [AS.sol]⟩, fun _ _ => rfl, fun _ _ _ => Nat.le_refl _⟩
theorem Inv.sol {S : AS} (hI : Inv S) {h : Nat} {t : Ty} {v : List Nat} (hd : h ∉ dom S.sv) (hG : S.G[h]? = some (some v)) (hv : S.lev h ≤ v.length) (hno : allH (· ≠ h) (R S.sv t)) (hp : plain (R S.sv t))
    (hi : IP S (v.take (S.lev h)) t) : Inv (S.sol h t) := by
  have he := Ext.sol S h t
  have hf := hi.frs
  have hh := hi.hos hI
  refine ⟨⟨hI.ok, hd, hno, hp, hi.c⟩, hI.len, fun p hp => ?_, fun p hp => ?_, fun x hx => ?_⟩
  · rcases List.mem_cons.1 hp with rfl | hp
    · exact hf
    · exact hI.frs p hp
  · rcases List.mem_cons.1 hp with rfl | hp
    · exact hh
    · exact hI.hos p hp
  · have hx' : x = h ∨ x ∈ dom S.sv := by simpa [dom, AS.sol] using hx
    rcases hx' with rfl | hx'
    · refine ⟨v, hG, hv, ?_⟩
      show ip (S.sol x t) (v.take (S.lev x)) (one x (R S.sv t) (R S.sv (.ho x)))
      rw [R_free hd]
      have e : one x (R S.sv t) (.ho x) = R S.sv t := by show (if x = x then _ else _) = _; rw [if_pos rfl]
      rw [e]; exact ip.ext he hi
    · obtain ⟨v', a, b, c⟩ := hI.lv x hx'
      refine ⟨v', a, b, ?_⟩
      show ip (S.sol h t) (v'.take (S.lev x)) (one h (R S.sv t) (R S.sv (.ho x)))
      have c' := ip.ext he c
      have hi' := ip.ext he hi
      have key : ∀ i, PH (S.sol h t) (v'.take (S.lev x)) i → ip (S.sol h t) (v'.take (S.lev x)) (if i = h then R S.sv t else .ho i) := by
        intro i hp
        split
        · rename_i e; subst e
          obtain ⟨v2, g1, g2, g3⟩ := hp
          have g1' : S.G[i]? = some (some v2) := g1
          rw [hG] at g1'; cases g1'
          have : (S.sol i t).lev i = S.lev i := rfl
          rw [this] at g3
          rw [g3] at hi'
          exact ip.take hi'
        · exact ⟨trivial, trivial, hp⟩
      exact ⟨lc_inst c'.c (allF.triv fun _ => trivial) (c'.h.mono fun i hp => (key i hp).c), allF_inst (c'.f.mono fun _ x => x) (c'.h.mono fun i hp => (key i hp).f), allH_inst (allF.triv fun _ => trivial) (c'.h.mono fun i hp => (key i hp).h)⟩
theorem spl_eq (S : AS) (h : Nat) (v : List Nat) : S.spl h v = (((S.push (S.lev h) (some v)).push (S.lev h) (some v)).sol h (.fn (.ho S.dp.length) (.ho (S.dp.length + 1)))) := rfl
theorem PH.hole {S : AS} {h : Nat} {v w : List Nat} (hG : S.G[h]? = some (some v)) (hl : S.lev h ≤ w.length) (he : v.take (S.lev h) = w.take (S.lev h)) (hd : h ∉ dom S.sv) : IP S w (.ho h) := by
  unfold IP; rw [R_free hd]; exact ⟨trivial, trivial, v, hG, hl, he⟩
theorem Inv.dom_lt {S : AS} (hI : Inv S) {h : Nat} (hd : h ∈ dom S.sv) : h < S.dp.length := let ⟨_, a, _⟩ := hI.lv h hd; hI.lt a
theorem Inv.spl {S : AS} (hI : Inv S) {h : Nat} {v : List Nat} (hd : h ∉ dom S.sv) (hG : S.G[h]? = some (some v)) (hv : S.lev h ≤ v.length) :
    Inv (S.spl h v) ∧ Ext S (S.spl h v) ∧ (∀ w, PH S w h → IP (S.spl h v) w (.ho S.dp.length) ∧ IP (S.spl h v) w (.ho (S.dp.length + 1))) := by
  have hlt := hI.lt hG
  have i1 := hI.push (S.lev h) (some v)
  have e1 := Ext.push hI (S.lev h) (some v)
  have i2 := i1.push (S.lev h) (some v)
  have e2 := Ext.push i1 (S.lev h) (some v)
  have hlen1 : (S.push (S.lev h) (some v)).dp.length = S.dp.length + 1 := by simp [AS.push]
  have l1 : ((S.push (S.lev h) (some v)).push (S.lev h) (some v)).lev h = S.lev h := by rw [lev_push (by rw [hlen1]; omega), lev_push hlt]
  have l2 : ((S.push (S.lev h) (some v)).push (S.lev h) (some v)).lev S.dp.length = S.lev h := by rw [lev_push (by rw [hlen1]; omega), lev_push']
  have l3 : ((S.push (S.lev h) (some v)).push (S.lev h) (some v)).lev (S.dp.length + 1) = S.lev h := by rw [← hlen1, lev_push']
  have g2 : ((S.push (S.lev h) (some v)).push (S.lev h) (some v)).G[S.dp.length]? = some (some v) := e2.get (get_push hI _ _)
  have g3 : ((S.push (S.lev h) (some v)).push (S.lev h) (some v)).G[S.dp.length + 1]? = some (some v) := by rw [← hlen1]; exact get_push i1 _ _
  have d2 : S.dp.length ∉ dom S.sv := fun hx => Nat.lt_irrefl _ (hI.dom_lt hx)
  have d3 : S.dp.length + 1 ∉ dom S.sv := fun hx => by have := hI.dom_lt hx; omega
  have r2 : R S.sv (.fn (.ho S.dp.length) (.ho (S.dp.length + 1))) = .fn (.ho S.dp.length) (.ho (S.dp.length + 1)) := by rw [R_fn, R_free d2, R_free d3]
  have hE := (e1.trans e2).trans (Ext.sol _ h (.fn (.ho S.dp.length) (.ho (S.dp.length + 1))))
  refine ⟨?_, hE, fun w hp => ?_⟩
  · rw [spl_eq]
    refine Inv.sol (v := v) i2 hd (e2.get (e1.get hG)) (by rw [l1]; exact hv) ?_ ?_ ?_
    · show allH (· ≠ h) (R S.sv _)
      rw [r2]; exact ⟨by show S.dp.length ≠ h; omega, by show S.dp.length + 1 ≠ h; omega⟩
    · show plain (R S.sv _)
      rw [r2]; exact ⟨trivial, trivial⟩
    · show ip _ _ (R S.sv _)
      rw [r2, l1]
      have hk : (v.take (S.lev h)).length = S.lev h := by rw [List.length_take]; omega
      refine ⟨⟨trivial, trivial⟩, ⟨trivial, trivial⟩, ⟨⟨v, g2, by rw [l2, hk]; exact Nat.le_refl _, by rw [l2, List.take_take, Nat.min_self]⟩, ⟨v, g3, by rw [l3, hk]; exact Nat.le_refl _, by rw [l3, List.take_take, Nat.min_self]⟩⟩⟩
  · obtain ⟨v', a, b, c⟩ := hp
    rw [hG] at a; cases a
    have n2 : S.dp.length ∉ dom (S.spl h v).sv := by
      have : S.dp.length ≠ h := by omega
      simpa [dom, AS.spl, this] using d2
    have n3 : S.dp.length + 1 ∉ dom (S.spl h v).sv := by
      have : S.dp.length + 1 ≠ h := by omega
      simpa [dom, AS.spl, this] using d3
    refine ⟨PH.hole (v := v) g2 ?_ ?_ n2, PH.hole (v := v) g3 ?_ ?_ n3⟩
    · rw [show (S.spl h v).lev S.dp.length = S.lev h from l2]; exact b
    · rw [show (S.spl h v).lev S.dp.length = S.lev h from l2]; exact c
    · rw [show (S.spl h v).lev (S.dp.length + 1) = S.lev h from l3]; exact b
    · rw [show (S.spl h v).lev (S.dp.length + 1) = S.lev h from l3]; exact c
/-- one more hole, and what it is -/
theorem Mod.push {κ : Nat} {S : AS} (hI : Inv S) {θ θ' : Nat → Ty} (hm : Mod κ S θ) (d : Nat) (o : Option (List Nat)) (ha : ∀ i, i < S.dp.length → θ' i = θ i) (hn : ∀ v, o = some v → Gnd (κ + d) (θ' S.dp.length)) : Mod κ (S.push d o) θ' := by
  refine ⟨fun h v hv => ?_, fun p hp => ?_⟩
  · by_cases hlt : h < S.dp.length
    · have : S.G[h]? = some (some v) := by
        have h2 : (S.G ++ [o])[h]? = some (some v) := hv
        rwa [List.getElem?_append_left (by rw [← hI.len]; exact hlt)] at h2
      rw [ha h hlt, lev_push hlt]; exact hm.gnd h v this
    · have h2 : (S.G ++ [o])[h]? = some (some v) := hv
      have h3 := (List.getElem?_eq_some_iff.1 h2).1
      rw [List.length_append, ← hI.len] at h3
      have : h = S.dp.length := by simp at h3; omega
      subst this
      have h4 : (S.push d o).G[S.dp.length]? = some (some v) := hv
      rw [get_push hI] at h4
      rw [lev_push']; exact hn v (Option.some.inj h4)
  · have h1 : p.1 ∈ dom S.sv := List.mem_map_of_mem hp
    rw [ha _ (hI.dom_lt h1), hm.eq p hp]
    refine inst_congr ((hI.frs p hp).mono fun x hx => by rw [lev_push (hI.lt hx)]) ((hI.hos p hp).mono fun x ⟨v, hx⟩ => (ha x (hI.lt hx)).symm)
theorem Mod.sol {κ : Nat} {S : AS} {θ : Nat → Ty} (hm : Mod κ S θ) {h : Nat} {t : Ty} (he : θ h = gi κ S θ t) : Mod κ (S.sol h t) θ :=
  ⟨hm.gnd, fun p hp => by
    rcases List.mem_cons.1 hp with rfl | hp
    · exact he
    · exact hm.eq p hp⟩

/-! ### weights -/
def qw : Ty → Nat
  | .fn a b => if nq a + nq b = 0 then 0 else qw a + qw b + 1
  | .all a => qw a + 1
  | _ => 0
theorem plain_nq : ∀ {t : Ty}, nq t = 0 → plain t
  | .fn a b, h => by simp only [nq] at h; exact ⟨plain_nq (by omega), plain_nq (by omega)⟩
  | .all a, h => by simp [nq] at h
  | .var _, _ => trivial
  | .nat, _ => trivial
  | .fr _, _ => trivial
  | .ho _, _ => trivial
theorem nq_qw : ∀ (t : Ty), nq t ≤ qw t
  | .fn a b => by
    have h1 := nq_qw a
    have h2 := nq_qw b
    simp only [nq, qw]; split <;> omega
  | .all a => by have := nq_qw a; simp only [nq, qw]; omega
  | .var _ => Nat.le_refl _
  | .nat => Nat.le_refl _
  | .fr _ => Nat.le_refl _
  | .ho _ => Nat.le_refl _
theorem qw_plain : ∀ {t : Ty}, plain t → qw t = 0
  | .fn a b, h => by simp only [qw]; rw [nq_plain h.1, nq_plain h.2]; rfl
  | .all a, h => h.elim
  | .var _, _ => rfl
  | .nat, _ => rfl
  | .fr _, _ => rfl
  | .ho _, _ => rfl
theorem plain_qw {t : Ty} (h : qw t = 0) : plain t := plain_nq (by have := nq_qw t; omega)
theorem qw_fn (a b : Ty) : (qw (.fn a b) = 0 → qw a = 0 ∧ qw b = 0) ∧ (qw (.fn a b) ≠ 0 → qw a + qw b + 1 ≤ qw (.fn a b)) := by
  constructor
  · intro h
    have := plain_qw h
    exact ⟨qw_plain this.1, qw_plain this.2⟩
  · intro h
    simp only [qw] at h ⊢
    split
    · rename_i h0; rw [if_pos h0] at h; exact absurd rfl h
    · exact Nat.le_refl _
theorem qw_put {u : Ty} (hu : plain u) : ∀ {t : Ty} {n : Nat}, qw (Ty.put u n t) = qw t
  | .fn a b, n => by simp only [Ty.put, qw]; rw [nq_put hu, nq_put hu, qw_put hu, qw_put hu]
  | .all a, n => by simp only [Ty.put, qw]; rw [qw_put hu]
  | .var m, n => by
    unfold Ty.put; split
    · rw [qw_plain hu]; rfl
    · rfl
  | .nat, _ => rfl
  | .fr _, _ => rfl
  | .ho _, _ => rfl
theorem qw_inst {φ θ : Nat → Ty} : ∀ {t : Ty}, allF (fun i => plain (φ i)) t → allH (fun i => plain (θ i)) t → qw (inst φ θ t) = qw t
  | .fn a b, x, z => by simp only [inst, qw]; rw [nq_inst x.1 z.1, nq_inst x.2 z.2, qw_inst x.1 z.1, qw_inst x.2 z.2]
  | .all a, x, z => by simp only [inst, qw]; rw [qw_inst (t := a) x z]
  | .var _, _, _ => rfl
  | .nat, _, _ => rfl
  | .fr _, x, _ => qw_plain x
  | .ho _, _, x => qw_plain x
/-- what is found does not change the weight -/
theorem qw_R {S S' : AS} (hI : Inv S) (hI' : Inv S') (he : Ext S S') (t : Ty) : qw (R S'.sv t) = qw (R S.sv t) := by
  obtain ⟨new, e⟩ := he.sv
  have h1 : R S'.sv (R S.sv t) = R S'.sv t := by rw [e]; exact R_app hI.ok new t
  rw [← h1, R_eq S'.sv (R S.sv t)]
  exact qw_inst (allF.triv fun _ => trivial) (allH.triv fun i => hI'.ok.plain i)
theorem nq_R {S : AS} (hI : Inv S) (t : Ty) : nq (R S.sv t) = nq t := by
  rw [R_eq]; exact nq_inst (allF.triv fun _ => trivial) (allH.triv fun i => hI.ok.plain i)

/-! ### which functions there are -/
def fsI (W : List Ty) : Ty → Prop
  | .fn a b => .fn a b ∈ W ∧ fsI W a ∧ fsI W b
  | _ => True
def tops : Ty → List Ty
  | .fn a b => .fn a b :: (tops a ++ tops b)
  | _ => []
def pot : Ty → Nat
  | .fn a b => (if hasQ (.fn a b) then 1 else 0) + (pot a + pot b)
  | .all a => (tops a).length + pot a
  | _ => 0
theorem fsI.mono {W W' : List Ty} (h : ∀ x, x ∈ W → x ∈ W') : ∀ {t : Ty}, fsI W t → fsI W' t
  | .fn _ _, ⟨x, y, z⟩ => ⟨h _ x, y.mono h, z.mono h⟩
  | .all _, _ => trivial
  | .var _, _ => trivial
  | .nat, _ => trivial
  | .fr _, _ => trivial
  | .ho _, _ => trivial
theorem fsI_tops {W : List Ty} : ∀ {t : Ty}, (∀ x, x ∈ tops t → x ∈ W) → fsI W t
  | .fn a b, h => ⟨h _ (List.mem_cons_self ..), fsI_tops fun x hx => h x (List.mem_cons_of_mem _ (List.mem_append_left _ hx)), fsI_tops fun x hx => h x (List.mem_cons_of_mem _ (List.mem_append_right _ hx))⟩
  | .all _, _ => trivial
  | .var _, _ => trivial
  | .nat, _ => trivial
  | .fr _, _ => trivial
  | .ho _, _ => trivial
theorem hasQ_put {u : Ty} (hu : hasQ u = false) : ∀ {t : Ty} {n : Nat}, hasQ (Ty.put u n t) = hasQ t
  | .fn _ _, _ => by unfold Ty.put hasQ; rw [hasQ_put hu, hasQ_put hu]
  | .all _, _ => rfl
  | .var m, n => by
    unfold Ty.put; split
    · rw [hu]; rfl
    · rfl
  | .nat, _ => rfl
  | .fr _, _ => rfl
  | .ho _, _ => rfl
theorem tops_put {u : Ty} (hu : tops u = []) : ∀ {t : Ty} {n : Nat}, (tops (Ty.put u n t)).length = (tops t).length
  | .fn _ _, _ => by unfold Ty.put tops; rw [List.length_cons, List.length_append, tops_put hu, tops_put hu, List.length_cons, List.length_append]
  | .all _, _ => rfl
  | .var m, n => by
    unfold Ty.put; split
    · rw [hu]; rfl
    · rfl
  | .nat, _ => rfl
  | .fr _, _ => rfl
  | .ho _, _ => rfl
theorem pot_put {u : Ty} (hu : tops u = []) (hq : hasQ u = false) (hp : pot u = 0) : ∀ {t : Ty} {n : Nat}, pot (Ty.put u n t) = pot t
  | .fn a b, n => by
    have h := hasQ_put hq (t := .fn a b) (n := n)
    unfold Ty.put at h
    unfold Ty.put pot
    rw [pot_put hu hq hp, pot_put hu hq hp, h]
  | .all _, _ => by unfold Ty.put pot; rw [pot_put hu hq hp, tops_put hu]
  | .var m, n => by
    unfold Ty.put; split
    · rw [hp]; rfl
    · rfl
  | .nat, _ => rfl
  | .fr _, _ => rfl
  | .ho _, _ => rfl
theorem pot_plain : ∀ {t : Ty}, plain t → pot t = 0
  | .fn _ _, h => by unfold pot; rw [pot_plain h.1, pot_plain h.2, hasQ_false.2 h]; rfl
  | .all _, h => h.elim
  | .var _, _ => rfl
  | .nat, _ => rfl
  | .fr _, _ => rfl
  | .ho _, _ => rfl
theorem plain_uninst {φ θ : Nat → Ty} : ∀ {t : Ty}, plain (inst φ θ t) → plain t
  | .fn _ _, h => ⟨plain_uninst h.1, plain_uninst h.2⟩
  | .all _, h => h.elim
  | .var _, _ => trivial
  | .nat, _ => trivial
  | .fr _, _ => trivial
  | .ho _, _ => trivial
theorem Ok.plain_mem {sv : List (Nat × Ty)} (h : Ok sv) {p : Nat × Ty} (hp : p ∈ sv) : Ty.plain p.2 := by
  have h1 := h.plain p.1
  rw [R_mem h (u := p.2) hp, R_eq] at h1
  exact plain_uninst h1
theorem now_mem {sv : List (Nat × Ty)} (t : Ty) : nowA sv t = t ∨ ∃ p ∈ sv, nowA sv t = p.2 := by
  have h := ch_now sv t
  generalize nowA sv t = u at h
  induction h with
  | refl => exact .inl rfl
  | @step h u t m _ ih =>
    rcases ih with ih | ih
    · exact .inr ⟨_, m, ih⟩
    · exact .inr ih
theorem fsI.now {sv : List (Nat × Ty)} {W : List Ty} {t : Ty} (hs : ∀ p ∈ sv, fsI W p.2) (h : fsI W t) : fsI W (nowA sv t) := by
  rcases now_mem (sv := sv) t with e | ⟨p, hp, e⟩
  · rw [e]; exact h
  · rw [e]; exact hs p hp
theorem pot_now {sv : List (Nat × Ty)} (hok : Ok sv) (t : Ty) : pot (nowA sv t) ≤ pot t := by
  rcases now_mem (sv := sv) t with e | ⟨p, hp, e⟩
  · rw [e]; exact Nat.le_refl _
  · rw [e, pot_plain (hok.plain_mem hp)]; exact Nat.zero_le _
def Siz (S S' : AS) (a b : Ty) (n : Nat) : Prop := ∀ W : List Ty, (∀ p ∈ S.sv, fsI W p.2) → fsI W a → fsI W b → ∃ W' : List Ty, (∀ x, x ∈ W → x ∈ W') ∧ W'.length ≤ W.length + n ∧ ∀ p ∈ S'.sv, fsI W' p.2
theorem Siz.mono {S S' : AS} {a b : Ty} {n n' : Nat} (h : Siz S S' a b n) (hn : n ≤ n') : Siz S S' a b n' := fun W h1 h2 h3 => by
  obtain ⟨W', k1, k2, k3⟩ := h W h1 h2 h3
  exact ⟨W', k1, by omega, k3⟩

/-! ### the claim -/
def Bnd (S : AS) (q : Nat) : Prop := S.dp.length + 2 * q < lim ∧ S.way.length + q < lim ∧ S.tk.length + q < lim
def cover (S : AS) (F : List Nat) : Prop := ∀ h, h < S.dp.length → h ∉ dom S.sv → h ∈ F
structure Post (S : AS) (a b : Ty) (q : Nat) (r : Bool) (S' : AS) : Prop where
  inv : r = true → Inv S'
  ext : r = true → Ext S S'
  way : r = true → S'.way = S.way
  dpl : r = true → S'.dp.length ≤ S.dp.length + 2 * q
  tkl : r = true → S'.tk.length ≤ S.tk.length + q
  zero : r = true → q = 0 → S'.dp.length = S.dp.length ∧ (S'.sv = S.sv ∨ ∀ F, cover S F → ∃ F', F'.length < F.length ∧ cover S' F')
  snd : r = true → ∃ new, S'.tk = S.tk ++ new ∧ ∀ κ θ, Mod κ S' θ → Sub (κ + S.way.length) (gi κ S' θ a) (gi κ S' θ b) (new.map fun p => (θ p.1, κ + p.2))
  cmp : ∀ κ θ, Mod κ S θ → SubE (κ + S.way.length) (gi κ S θ a) (gi κ S θ b) → r = true ∧ ∃ θ', Mod κ S' θ' ∧ ∀ h, h < S.dp.length → θ' h = θ h
  siz : r = true → Siz S S' a b (pot a + pot b)
def Claim (wt : Bool) (q u z : Nat) : Prop := ∀ (S : AS) (a b : Ty) (F : List Nat), Inv S → IP S S.way a → IP S S.way b → qw (R S.sv a) + qw (R S.sv b) = q → cover S F → F.length = u → sz (R S.sv a) + sz (R S.sv b) = z → Bnd S q →
  ∃ r S', Ev (fun f => Md.uses f (cSol wt S) (toT a) (toT b) (S.way.length : Int)) (r, cSol wt S') ∧ Post S a b q r S'
theorem Post.fls {S : AS} {a b : Ty} {q : Nat} {S' : AS} (h : ∀ κ θ, Mod κ S θ → SubE (κ + S.way.length) (gi κ S θ a) (gi κ S θ b) → False) : Post S a b q false S' :=
  have e : ∀ {p : Prop}, false = true → p := fun h => Bool.noConfusion h
  ⟨e, e, e, e, e, e, e, fun κ θ hm hs => (h κ θ hm hs).elim, e⟩
theorem Post.mono {S : AS} {a b : Ty} {q q' : Nat} {r : Bool} {S' : AS} (h : Post S a b q r S') (hq : q ≤ q') : Post S a b q' r S' :=
  ⟨h.inv, h.ext, h.way, fun x => by have := h.dpl x; omega, fun x => by have := h.tkl x; omega, fun x e => h.zero x (by omega), h.snd, h.cmp, h.siz⟩
/-- other types with the same instances -/
theorem Post.same {S : AS} {a b a' b' : Ty} {q : Nat} {r : Bool} {S' : AS} (hI : Inv S) (h : Post S a b q r S') (ha : allF (fun x => S.G[x]? = some none) a) (hb : allF (fun x => S.G[x]? = some none) b) (ha' : allF (fun x => S.G[x]? = some none) a') (hb' : allF (fun x => S.G[x]? = some none) b')
    (ea : ∀ κ θ, Mod κ S θ → gi κ S θ a' = gi κ S θ a) (eb : ∀ κ θ, Mod κ S θ → gi κ S θ b' = gi κ S θ b)
    (hs : r = true → Siz S S' a' b' (pot a' + pot b')) : Post S a' b' q r S' :=
  ⟨h.inv, h.ext, h.way, h.dpl, h.tkl, h.zero, fun hr => by
    obtain ⟨new, h1, h2⟩ := h.snd hr
    refine ⟨new, h1, fun κ θ hm => ?_⟩
    have hm0 := hm.back hI (h.ext hr)
    have he := h.ext hr
    rw [gi_ext he ha', gi_ext he hb', ea κ θ hm0, eb κ θ hm0, ← gi_ext he ha, ← gi_ext he hb]
    exact h2 κ θ hm, fun κ θ hm hs => h.cmp κ θ hm (by rw [ea κ θ hm, eb κ θ hm] at hs; exact hs), hs⟩
theorem Post.now {S : AS} {a b : Ty} {q : Nat} {r : Bool} {S' : AS} (hI : Inv S) (ha : IP S S.way a) (hb : IP S S.way b) (h : Post S (nowA S.sv a) (nowA S.sv b) q r S') : Post S a b q r S' :=
  h.same hI (ha.now hI).frs (hb.now hI).frs ha.frs hb.frs (fun κ θ hm => (hm.now hI a).symm) (fun κ θ hm => (hm.now hI b).symm)
    fun hr W h1 h2 h3 => ((h.siz hr).mono (Nat.add_le_add (pot_now hI.ok a) (pot_now hI.ok b))) W h1 (h2.now h1) (h3.now h1)

/-- functions: from what they lead first, then to what -/
theorem step_fn {wt : Bool} {q u z : Nat} (ihq : ∀ q', q' < q → ∀ u z, Claim wt q' u z) (ihz : q = 0 → ∀ u' z', (u' < u ∨ u' = u ∧ z' < z) → Claim wt 0 u' z')
    {S : AS} {a0 a1 b0 b1 : Ty} {F : List Nat} (hI : Inv S) (ha : IP S S.way (.fn a0 a1)) (hb : IP S S.way (.fn b0 b1)) (hq : (q = 0 ∧ qw (R S.sv b0) + qw (R S.sv a0) = 0 ∧ qw (R S.sv a1) + qw (R S.sv b1) = 0) ∨ (qw (R S.sv b0) + qw (R S.sv a0)) + (qw (R S.sv a1) + qw (R S.sv b1)) + 1 ≤ q)
    (hF : cover S F) (hu : q = 0 → F.length = u) (hz : q = 0 → sz (R S.sv (.fn a0 a1)) + sz (R S.sv (.fn b0 b1)) = z) (hB : Bnd S (q - 1)) :
    ∃ r S', Ev (fun f => (Md.uses f (cSol wt S) (toT b0) (toT a0) (S.way.length : Int)).bind fun r => if r.1 then Md.uses f r.2 (toT a1) (toT b1) (S.way.length : Int) else some (false, r.2)) (r, cSol wt S') ∧ Post S (.fn a0 a1) (.fn b0 b1) (q - 1) r S' ∧ (r = true → Siz S S' (.fn a0 a1) (.fn b0 b1) ((pot b0 + pot a0) + (pot a1 + pot b1))) := by
  generalize hq0 : qw (R S.sv b0) + qw (R S.sv a0) = q0 at hq
  generalize hq1 : qw (R S.sv a1) + qw (R S.sv b1) = q1 at hq
  have hz' : q = 0 → sz (R S.sv a0) + sz (R S.sv a1) + 1 + (sz (R S.sv b0) + sz (R S.sv b1) + 1) = z := fun e => by have := hz e; rw [R_fn, R_fn] at this; exact this
  have hBd : Bnd S (q0 + q1) := by obtain ⟨x, y, w⟩ := hB; exact ⟨by omega, by omega, by omega⟩
  have hfirst : ∃ r S', Ev (fun f => Md.uses f (cSol wt S) (toT b0) (toT a0) (S.way.length : Int)) (r, cSol wt S') ∧ Post S b0 a0 q0 r S' := by
    have hB0 : Bnd S q0 := by obtain ⟨x, y, w⟩ := hBd; exact ⟨by omega, by omega, by omega⟩
    rcases Nat.eq_zero_or_pos q with e | e
    · have h0 : q0 = 0 := by omega
      subst h0
      exact ihz e u _ (.inr ⟨rfl, by have := hz' e; omega⟩) S b0 a0 F hI hb.fn1 ha.fn1 hq0 hF (hu e) rfl hB0
    · exact ihq q0 (by omega) _ _ S b0 a0 F hI hb.fn1 ha.fn1 hq0 hF rfl rfl hB0
  obtain ⟨r1, S1, he1, p1⟩ := hfirst
  cases r1 with
  | false =>
    refine ⟨false, S1, Ev.bind he1 Ev.pure, Post.fls fun κ θ hm hs => ?_, fun e => by cases e⟩
    obtain ⟨l, hs⟩ := hs
    obtain ⟨_, _, _, _, e, _, h1, _⟩ := hs.inv_fn rfl
    cases e
    have := (p1.cmp κ θ hm ⟨_, h1⟩).1
    cases this
  | true =>
    have hI1 := p1.inv rfl
    have hx1 := p1.ext rfl
    have hw1 := p1.way rfl
    have hB1 : Bnd S1 q1 := by
      have d1 := p1.dpl rfl
      have d2 := p1.tkl rfl
      obtain ⟨x, y, w⟩ := hBd
      exact ⟨by omega, by rw [hw1]; omega, by omega⟩
    have hqq : qw (R S1.sv a1) + qw (R S1.sv b1) = q1 := by rw [qw_R hI hI1 hx1, qw_R hI hI1 hx1]; exact hq1
    have ha1 : IP S1 S1.way a1 := by rw [hw1]; exact ha.fn2.ext hI hI1 hx1
    have hb1 : IP S1 S1.way b1 := by rw [hw1]; exact hb.fn2.ext hI hI1 hx1
    have hsecond : ∃ r S', Ev (fun f => Md.uses f (cSol wt S1) (toT a1) (toT b1) (S1.way.length : Int)) (r, cSol wt S') ∧ Post S1 a1 b1 q1 r S' := by
      rcases Nat.eq_zero_or_pos q with e | e
      · have h0 : q1 = 0 := by omega
        subst h0
        obtain ⟨hl, hs⟩ := p1.zero rfl (by omega)
        rcases hs with hs | hs
        · have hF1 : cover S1 F := fun h x y => hF h (by omega) (by rw [hs] at y; exact y)
          exact ihz e u _ (.inr ⟨rfl, by rw [hs]; have := hz' e; omega⟩) S1 a1 b1 F hI1 ha1 hb1 hqq hF1 (hu e) rfl hB1
        · obtain ⟨F', hlt, hF'⟩ := hs F hF
          exact ihz e F'.length _ (.inl (by have := hu e; omega)) S1 a1 b1 F' hI1 ha1 hb1 hqq hF' rfl rfl hB1
      · exact ihq q1 (by omega) _ _ S1 a1 b1 (List.range S1.dp.length) hI1 ha1 hb1 hqq (fun h x _ => List.mem_range.2 x) rfl rfl hB1
    obtain ⟨r2, S2, he2, p2⟩ := hsecond
    rw [hw1] at he2
    have hE : Ev (fun f => (Md.uses f (cSol wt S) (toT b0) (toT a0) (S.way.length : Int)).bind fun r => if r.1 then Md.uses f r.2 (toT a1) (toT b1) (S.way.length : Int) else some (false, r.2)) (r2, cSol wt S2) := Ev.bind he1 he2
    have hsz : r2 = true → Siz S S2 (.fn a0 a1) (.fn b0 b1) ((pot b0 + pot a0) + (pot a1 + pot b1)) := fun hr W h1 h2 h3 => by
      obtain ⟨W1, k1, k2, k3⟩ := p1.siz rfl W h1 h3.2.1 h2.2.1
      obtain ⟨W2, l1, l2, l3⟩ := p2.siz hr W1 k3 (h2.2.2.mono k1) (h3.2.2.mono k1)
      exact ⟨W2, fun x hx => l1 x (k1 x hx), by omega, l3⟩
    refine ⟨r2, S2, hE, ?_, hsz⟩
    have key : ∀ κ θ, Mod κ S θ → SubE (κ + S.way.length) (gi κ S θ (.fn a0 a1)) (gi κ S θ (.fn b0 b1)) → r2 = true ∧ ∃ θ', Mod κ S2 θ' ∧ ∀ h, h < S.dp.length → θ' h = θ h := by
      intro κ θ hm hs
      obtain ⟨l, hs⟩ := hs
      obtain ⟨_, _, _, _, e, _, h1, h2⟩ := hs.inv_fn rfl
      cases e
      obtain ⟨_, θ1, hm1, hag⟩ := p1.cmp κ θ hm ⟨_, h1⟩
      have h2' : SubE (κ + S1.way.length) (gi κ S1 θ1 a1) (gi κ S1 θ1 b1) := by
        rw [hw1, ha.fn2.agree hI hx1 hm hm1 hag, hb.fn2.agree hI hx1 hm hm1 hag]; exact ⟨_, h2⟩
      obtain ⟨hr, θ2, hm2, hag2⟩ := p2.cmp κ θ1 hm1 h2'
      refine ⟨hr, θ2, hm2, fun h hh => ?_⟩
      have : h < S1.dp.length := by
        obtain ⟨m, hm'⟩ := hx1.g
        rw [hI1.len, hm', List.length_append, ← hI.len]; omega
      rw [hag2 h this, hag h hh]
    cases r2 with
    | false => exact Post.fls fun κ θ hm hs => by have := (key κ θ hm hs).1; cases this
    | true =>
      have hI2 := p2.inv rfl
      have hx2 := p2.ext rfl
      refine ⟨fun _ => hI2, fun _ => hx1.trans hx2, fun _ => (p2.way rfl).trans hw1, fun _ => ?_, fun _ => ?_, fun _ e => ?_, fun _ => ?_, key, fun _ => (hsz rfl).mono (by simp only [pot]; omega)⟩
      · have := p1.dpl rfl
        have := p2.dpl rfl
        omega
      · have := p1.tkl rfl
        have := p2.tkl rfl
        omega
      · have e0 : q0 = 0 := by omega
        have e1 : q1 = 0 := by omega
        obtain ⟨l1, s1⟩ := p1.zero rfl e0
        obtain ⟨l2, s2⟩ := p2.zero rfl e1
        refine ⟨l2.trans l1, ?_⟩
        rcases s1 with s1 | s1
        · rcases s2 with s2 | s2
          · exact .inl (s2.trans s1)
          · exact .inr fun F hF => s2 F fun h x y => hF h (by omega) (by rw [s1] at y; exact y)
        · refine .inr fun F hF => ?_
          obtain ⟨F1, k1, hF1⟩ := s1 F hF
          rcases s2 with s2 | s2
          · exact ⟨F1, k1, fun h x y => hF1 h (by omega) (by rw [s2] at y; exact y)⟩
          · obtain ⟨F2, k2, hF2⟩ := s2 F1 hF1
            exact ⟨F2, by omega, hF2⟩
      · obtain ⟨n1, t1, s1⟩ := p1.snd rfl
        obtain ⟨n2, t2, s2⟩ := p2.snd rfl
        refine ⟨n1 ++ n2, by rw [t2, t1, List.append_assoc], fun κ θ hm => ?_⟩
        have hm1 := hm.back hI1 hx2
        have g1 := s1 κ θ hm1
        have g2 := s2 κ θ hm
        rw [hw1] at g2
        rw [List.map_append]
        have fa := (ha.fn1.ext hI hI1 hx1).frs
        have fb := (hb.fn1.ext hI hI1 hx1).frs
        rw [← gi_ext hx2 fa, ← gi_ext hx2 fb] at g1
        exact Sub.fn g1 g2
/-! ### a plain type is as large as what it is used as -/
def lo : Ty → Nat
  | .fn a b => lo a + lo b + 1
  | .all a => lo a
  | _ => 1
theorem lo_pos : ∀ (t : Ty), 1 ≤ lo t
  | .fn a b => by simp only [lo]; omega
  | .all a => by simp only [lo]; exact lo_pos a
  | .var _ => Nat.le_refl _
  | .nat => Nat.le_refl _
  | .fr _ => Nat.le_refl _
  | .ho _ => Nat.le_refl _
theorem lo_put {u : Ty} : ∀ {t : Ty} {n : Nat}, lo t ≤ lo (Ty.put u n t)
  | .fn a b, n => by
    have h1 := lo_put (u := u) (t := a) (n := n)
    have h2 := lo_put (u := u) (t := b) (n := n)
    simp only [Ty.put, lo]; omega
  | .all a, n => by simp only [Ty.put, lo]; exact lo_put (t := a)
  | .var m, n => by unfold Ty.put; split; exact lo_pos u; exact Nat.le_refl _
  | .nat, _ => Nat.le_refl _
  | .fr _, _ => Nat.le_refl _
  | .ho _, _ => Nat.le_refl _
theorem Sub.lo {n : Nat} {a b : Ty} {l : List (Ty × Nat)} (h : Sub n a b l) : (plain a → Sv.lo b ≤ Sv.lo a) ∧ (plain b → Sv.lo a ≤ Sv.lo b) := by
  induction h with
  | nat => exact ⟨fun _ => Nat.le_refl _, fun _ => Nat.le_refl _⟩
  | fr => exact ⟨fun _ => Nat.le_refl _, fun _ => Nat.le_refl _⟩
  | fn _ _ ih1 ih2 =>
    refine ⟨fun h => ?_, fun h => ?_⟩
    · have := ih1.2 h.1
      have := ih2.1 h.2
      simp only [Sv.lo]; omega
    · have := ih1.1 h.1
      have := ih2.2 h.2
      simp only [Sv.lo]; omega
  | @gen n a b l _ ih =>
    refine ⟨fun h => ?_, fun h => h.elim⟩
    have := ih.1 h
    have := lo_put (u := .fr n) (t := b) (n := 0)
    simp only [Sv.lo]; omega
  | @ins n a b τ l _ _ _ ih =>
    refine ⟨fun h => h.elim, fun h => ?_⟩
    have := ih.2 h
    have := lo_put (u := τ) (t := a) (n := 0)
    simp only [Sv.lo]; omega
theorem lo_occ {φ θ : Nat → Ty} {h : Nat} : ∀ {t : Ty}, hasH h t = true → lo (θ h) ≤ lo (inst φ θ t)
  | .fn a b, e => by
    simp only [hasH, Bool.or_eq_true] at e
    simp only [inst, lo]
    rcases e with e | e
    · have := lo_occ (φ := φ) (θ := θ) e; omega
    · have := lo_occ (φ := φ) (θ := θ) e; omega
  | .all a, e => by simp only [inst, lo]; exact lo_occ (t := a) e
  | .ho i, e => by
    have : i = h := by simpa [hasH] using e
    subst this; exact Nat.le_refl _
  | .var _, e => by cases e
  | .nat, e => by cases e
  | .fr _, e => by cases e
theorem lo_occ' {φ θ : Nat → Ty} {h : Nat} {a b : Ty} (e : hasH h (.fn a b) = true) : lo (θ h) < lo (inst φ θ (.fn a b)) := by
  simp only [hasH, Bool.or_eq_true] at e
  simp only [inst, lo]
  rcases e with e | e
  · have := lo_occ (φ := φ) (θ := θ) e; omega
  · have := lo_occ (φ := φ) (θ := θ) e; omega
theorem allF_uninst {P : Nat → Prop} {φ θ : Nat → Ty} : ∀ {t : Ty}, allF P (inst φ θ t) → allF (fun i => allF P (φ i)) t ∧ allH (fun i => allF P (θ i)) t
  | .fn a b, h => ⟨⟨(allF_uninst h.1).1, (allF_uninst h.2).1⟩, ⟨(allF_uninst h.1).2, (allF_uninst h.2).2⟩⟩
  | .all a, h => allF_uninst (t := a) h
  | .fr _, h => ⟨h, trivial⟩
  | .ho _, h => ⟨trivial, h⟩
  | .var _, _ => ⟨trivial, trivial⟩
  | .nat, _ => ⟨trivial, trivial⟩
theorem allH_self' {P : Nat → Prop} : ∀ {t : Ty}, (∀ i, hasH i t = true → P i) → allH P t
  | .fn a b, h => ⟨allH_self' fun i e => h i (by simp [hasH, e]), allH_self' fun i e => h i (by simp [hasH, e])⟩
  | .all a, h => allH_self' (t := a) h
  | .ho i, h => h i (by simp [hasH])
  | .var _, _ => trivial
  | .nat, _ => trivial
  | .fr _, _ => trivial
theorem allH_get {P : Nat → Prop} : ∀ {t : Ty}, allH P t → ∀ i, hasH i t = true → P i
  | .fn a b, h, i, e => by
    simp only [hasH, Bool.or_eq_true] at e
    rcases e with e | e
    · exact allH_get h.1 i e
    · exact allH_get h.2 i e
  | .all a, h, i, e => allH_get (t := a) h i e
  | .ho j, h, i, e => by
    have : j = i := by simpa [hasH] using e
    subst this; exact h
  | .var _, _, _, e => by cases e
  | .nat, _, _, e => by cases e
  | .fr _, _, _, e => by cases e

/-- nothing changes -/
theorem Post.tru {S : AS} {a b : Ty} {q : Nat} (hI : Inv S) (h : ∀ κ θ, Mod κ S θ → Sub (κ + S.way.length) (gi κ S θ a) (gi κ S θ b) []) : Post S a b q true S :=
  ⟨fun _ => hI, fun _ => Ext.refl S, fun _ => rfl, fun _ => by omega, fun _ => by omega, fun _ _ => ⟨rfl, .inl rfl⟩, fun _ => ⟨[], by simp, fun κ θ hm => h κ θ hm⟩, fun κ θ hm _ => ⟨rfl, θ, hm, fun _ _ => rfl⟩, fun _ W h _ _ => ⟨W, fun _ x => x, by omega, h⟩⟩
/-- the pair in its order -/
@[reducible] def fstp (c : Bool) (x y : Ty) : Ty := if c then x else y

/-- a hole becomes a plain type -/
theorem solve_ev {wt c : Bool} {q : Nat} {S : AS} {h : Nat} {t : Ty} (hI : Inv S) (hh : IP S S.way (.ho h)) (ht : IP S S.way t) (hd : h ∉ dom S.sv) (hno : hasH h (R S.sv t) = false) (hp : plain (R S.sv t)) :
    ∃ r S', Ev (fun f => Md.fits f (cSol wt (S.sol h t)) (h : Int) (toT t)) (r, cSol wt S') ∧ Post S (fstp c (.ho h) t) (fstp c t (.ho h)) q r S' := by
  have hh' := hh.h
  rw [R_free hd] at hh'
  obtain ⟨v, hG, hl, htk⟩ : PH S S.way h := hh'
  have hlt := hI.lt hG
  have hno' := hasH_false.1 hno
  have hok' : Ok (S.sol h t).sv := ⟨hI.ok, hd, hno', hp, ht.c⟩
  have hR : R (S.sol h t).sv t = R S.sv t := one_id hno'
  have hFr : allF (fun x => S.G[x]? = some none) (R S.sv t) := ht.f.mono fun _ x => x.1
  have hHo : allH (fun x => ∃ v, S.G[x]? = some (some v)) (R S.sv t) := ht.h.mono fun _ ⟨v, x, _⟩ => ⟨v, x⟩
  obtain ⟨r, dp', hev, hfit⟩ := fits_ev (wt := wt) (h := h) _ (S := S.sol h t) t hok' (Nat.le_refl _) (by rw [hR]; exact hp) hI.len hlt (by rw [hR]; exact hno) ⟨v, hG⟩ (by rw [hR]; exact hFr) (by rw [hR]; exact hHo)
  rw [hR] at hfit
  have hlv : ∀ x, (S.sol h t).lev x = S.lev x := fun _ => rfl
  have hnf : ∀ x, S.G[x]? = some none → hasH x (R S.sv t) = false := fun x hx => by
    rw [hasH_false]; exact hHo.mono fun i ⟨v, hv⟩ e => by subst e; rw [hv] at hx; cases hx
  have hnd : ∀ x, x ∈ dom S.sv → hasH x (R S.sv t) = false := fun x hx => by
    rw [hasH_false]; exact (hI.ok.free t).mono fun i hi e => by subst e; exact hi hx
  have hf : ∀ x, S.G[x]? = some none → dp'.getD x 0 = S.lev x := fun x hx => hfit.old x (hnf x hx)
  have hdm : ∀ x, x ∈ dom S.sv → dp'.getD x 0 = S.lev x := fun x hx => hfit.old x (hnd x hx)
  have hle : r = true → ∀ x, dp'.getD x 0 ≤ S.lev x := fun hr x => by
    cases e : hasH x (R S.sv t) with
    | true => rw [hfit.min hr x e, hlv]; exact Nat.min_le_left _ _
    | false => exact Nat.le_of_eq (hfit.old x e)
  have hlh : dp'.getD h 0 = S.lev h := hfit.old h hno
  have hlv2 : S.lev h ≤ v.length := by
    have := congrArg List.length htk
    rw [List.length_take, List.length_take] at this; omega
  have hInv0 : r = true → Inv { S with dp := dp' } := fun hr => hI.lower hfit.len hf (hle hr) hdm
  have hExt0 : r = true → Ext S { S with dp := dp' } := fun hr => Ext.lower hf (hle hr)
  refine ⟨r, ({ S with dp := dp' } : AS).sol h t, hev, ?_⟩
  have hExt : r = true → Ext S (({ S with dp := dp' } : AS).sol h t) := fun hr => (hExt0 hr).trans (Ext.sol _ _ _)
  refine ⟨fun hr => ?_, hExt, fun _ => rfl, fun _ => ?_, fun _ => ?_, fun hr _ => ⟨hfit.len, .inr fun F hF => ?_⟩, fun hr => ⟨[], by simp [AS.sol], fun κ θ hm => ?_⟩, fun κ θ hm hs => ?_, fun _ W h1 h2 h3 => ⟨W, fun _ x => x, by omega, fun p hp => by
    rcases List.mem_cons.1 hp with rfl | hp
    · cases c
      · exact h2
      · exact h3
    · exact h1 p hp⟩⟩
  · have hl0 : ({ S with dp := dp' } : AS).lev h = S.lev h := hlh
    refine Inv.sol (v := v) (hInv0 hr) hd hG (by rw [hl0]; exact hlv2) hno' hp ?_
    rw [hl0]
    have hfr := hfit.fresh hr
    have k1 : ∀ x, (PF S S.way x ∧ (S.sol h t).lev x < (S.sol h t).lev h) → PF { S with dp := dp' } (v.take (S.lev h)) x := by
      rintro x ⟨⟨g1, g2⟩, g3⟩
      refine ⟨g1, ?_⟩
      have e : ({ S with dp := dp' } : AS).lev x = S.lev x := hf x g1
      rw [e, htk, List.getElem?_take, if_pos (by rw [hlv, hlv] at g3; exact g3)]; exact g2
    have k2 : ∀ i, hasH i (R S.sv t) = true → PH { S with dp := dp' } (v.take (S.lev h)) i := by
      intro i hi
      obtain ⟨v', g1, g2, g3⟩ := allH_get ht.h i hi
      have e : ({ S with dp := dp' } : AS).lev i = Min.min (S.lev i) (S.lev h) := hfit.min hr i hi
      have hk : (v.take (S.lev h)).length = S.lev h := by rw [List.length_take]; omega
      refine ⟨v', g1, by rw [e, hk]; exact Nat.min_le_right _ _, ?_⟩
      rw [e, htk, List.take_take, show Min.min (Min.min (S.lev i) (S.lev h)) (S.lev h) = Min.min (S.lev i) (S.lev h) by omega]
      have : ∀ l : List Nat, l.take (Min.min (S.lev i) (S.lev h)) = (l.take (S.lev i)).take (S.lev h) := fun l => by rw [List.take_take, Nat.min_comm]
      rw [this v', this S.way, g3]
    exact ⟨ht.c, (ht.f.and hfr).mono k1, allH_self' k2⟩
  · show dp'.length ≤ _
    rw [hfit.len]; exact Nat.le_add_right _ _
  · exact Nat.le_add_right _ _
  · have hm : h ∈ F := hF h hlt hd
    refine ⟨F.erase h, ?_, fun x hx hxd => ?_⟩
    · rw [List.length_erase_of_mem hm]
      have : 0 < F.length := List.length_pos_of_mem hm
      omega
    · have hx' : x ≠ h ∧ x ∉ dom S.sv := by simpa [dom, AS.sol] using hxd
      have hx2 : x < dp'.length := hx
      rw [hfit.len] at hx2
      exact (List.mem_erase_of_ne hx'.1).2 (hF x hx2 hx'.2)
  · have he : θ h = gi κ (({ S with dp := dp' } : AS).sol h t) θ t := hm.eq (h, t) (List.mem_cons_self ..)
    have hg := hm.gnd h v hG
    have hsub : Sub (κ + S.way.length) (θ h) (θ h) [] := Sub.plain_refl hg.p hg.c hg.h
    have e2 : gi κ (({ S with dp := dp' } : AS).sol h t) θ (.ho h) = θ h := rfl
    cases c
    · show Sub _ (gi κ _ θ t) (gi κ _ θ (.ho h)) []
      rw [← he, e2]; exact hsub
    · show Sub _ (gi κ _ θ (.ho h)) (gi κ _ θ t) []
      rw [← he, e2]; exact hsub
  · have hg := hm.gnd h v hG
    have hpl : plain (gi κ S θ t) := by
      rw [← hm.R]
      exact plain_inst hp (allF.triv fun _ => trivial) (hHo.mono fun i ⟨v, hv⟩ => (hm.gnd i v hv).p)
    have heq : θ h = gi κ S θ t := by
      obtain ⟨l, hs⟩ := hs
      cases c
      · exact (hs.plain_eq hpl hg.p).1.symm
      · exact (hs.plain_eq hg.p hpl).1
    have hun : allF (fun x => κ + S.lev x < κ + S.lev h) (R S.sv t) ∧ allH (fun i => allF (· < κ + S.lev h) (θ i)) (R S.sv t) := by
      have := hg.l
      rw [heq, ← hm.R] at this
      exact allF_uninst this
    have hr : r = true := hfit.all (hun.1.mono fun x hx => by rw [hlv, hlv]; omega)
    refine ⟨hr, θ, Mod.sol ⟨fun i w hw => ?_, fun p hp' => ?_⟩ ?_, fun _ _ => rfl⟩
    · have hgi := hm.gnd i w hw
      cases e : hasH i (R S.sv t) with
      | true =>
        have e2 : ({ S with dp := dp' } : AS).lev i = Min.min (S.lev i) (S.lev h) := hfit.min hr i e
        rw [e2]
        exact ⟨hgi.p, hgi.c, (hgi.l.and (allH_get hun.2 i e)).mono fun x ⟨k1, k2⟩ => by omega, hgi.h⟩
      | false =>
        have e2 : ({ S with dp := dp' } : AS).lev i = S.lev i := hfit.old i e
        rw [e2]; exact hgi
    · rw [gi_ext (hExt0 hr) (hI.frs p hp')]; exact hm.eq p hp'
    · rw [gi_ext (hExt0 hr) ht.frs]; exact heq
theorem usesT_fn {wt : Bool} {S : AS} {a0 a1 b0 b1 : Ty} {d : Int} {x : Bool × Sol} (hok : Ok S.sv)
    (h : Ev (fun f => (Md.uses f (cSol wt S) (toT b0) (toT a0) d).bind fun r => if r.1 then Md.uses f r.2 (toT a1) (toT b1) d else some (false, r.2)) x) :
    Ev (fun f => Md.usesT f (cSol wt S) (toT (.fn a0 a1)) (toT (.fn b0 b1)) d) x := by
  have hb : nowA S.sv (.fn b0 b1) = .fn b0 b1 := now_now fun i e => by cases e
  have hn := now_ev hok (.fn b0 b1)
  rw [hb] at hn
  refine Ev.succ (fun f => rfl) ?_
  refine Ev.congr (G := fun f => (Md.now f (csv S.sv) (toT (.fn b0 b1))).bind fun b => if (3 : Int) = 6 then _ else _) (fun f => rfl) ?_
  refine Ev.bind hn ?_
  exact Ev.congr (fun f => rfl) h
theorem uses_fn {wt : Bool} {S : AS} {a0 a1 b0 b1 : Ty} {d : Int} {x : Bool × Sol} (hok : Ok S.sv)
    (h : Ev (fun f => (Md.uses f (cSol wt S) (toT b0) (toT a0) d).bind fun r => if r.1 then Md.uses f r.2 (toT a1) (toT b1) d else some (false, r.2)) x) :
    Ev (fun f => Md.uses f (cSol wt S) (toT (.fn a0 a1)) (toT (.fn b0 b1)) d) x := by
  have hb : nowA S.sv (.fn b0 b1) = .fn b0 b1 := now_now fun i e => by cases e
  have ha : nowA S.sv (.fn a0 a1) = .fn a0 a1 := now_now fun i e => by cases e
  have hn := now_ev hok (.fn b0 b1)
  have hn' := now_ev hok (.fn a0 a1)
  rw [hb] at hn; rw [ha] at hn'
  refine Ev.succ (fun f => rfl) ?_
  refine Ev.bind hn ?_
  refine Ev.congr (G := fun f => (Md.now f (csv S.sv) (toT (.fn a0 a1))).bind fun a => Md.usesT f (cSol wt S) a (toT (.fn b0 b1)) d) (fun f => rfl) ?_
  exact Ev.bind hn' (usesT_fn hok h)
theorem R_plain {sv : List (Nat × Ty)} (hok : Ok sv) {t : Ty} (h : plain t) : plain (R sv t) := by
  rw [R_eq]; exact plain_inst h (allF.triv fun _ => trivial) (allH.triv fun i => hok.plain i)
theorem filled_eq {f : Nat} {s : Sol} {h t : T} {c : Bool} {d : Int} : Md.filled (f + 1) s h t c d = (if t.kind = 6 ∧ t.num = h.num then some (true, s)
    else (inside f s.solved h.num t).bind fun io =>
      if io.1 then some (false, s)
      else if io.2 = false then
        match lkp s.solved h.num with
        | some _ => none
        | none => fits f { s with solved := s.solved ++ [(h.num, t)] } h.num t
      else if c then (split s h).bind fun r => uses f r.2 r.1 t d
      else (split s h).bind fun r => uses f r.2 t r.1 d) := rfl

/-- the hole's part of 'uses' -/
theorem filled_ev {wt c : Bool} {q : Nat} (ihq : ∀ q', q' < q → ∀ u z, Claim wt q' u z)
    {S : AS} {h : Nat} {t : Ty} (hI : Inv S) (hh : IP S S.way (.ho h)) (ht : IP S S.way t) (hd : h ∉ dom S.sv) (hn : nowA S.sv t = t) (hall : isAll t = false) (hq : qw (R S.sv t) ≤ q) (hB : Bnd S q) :
    ∃ r S', Ev (fun f => Md.filled f (cSol wt S) (toT (.ho h)) (toT t) c (S.way.length : Int)) (r, cSol wt S') ∧ Post S (fstp c (.ho h) t) (fstp c t (.ho h)) q r S' := by
  have hh' := hh.h
  rw [R_free hd] at hh'
  obtain ⟨v, hG, hl, htk⟩ : PH S S.way h := hh'
  have hlt := hI.lt hG
  by_cases e0 : t = .ho h
  · subst e0
    refine ⟨true, S, Ev.succ (fun f => filled_eq) (Ev.congr (G := fun _ => some (true, cSol wt S)) (fun f => if_pos ⟨rfl, rfl⟩) Ev.pure), ?_⟩
    have hs : ∀ κ θ, Mod κ S θ → Sub (κ + S.way.length) (gi κ S θ (.ho h)) (gi κ S θ (.ho h)) [] := fun κ θ hm => by
      have hg := hm.gnd h v hG
      exact Sub.plain_refl (a := θ h) hg.p hg.c hg.h
    cases c
    · exact Post.tru hI hs
    · exact Post.tru hI hs
  have hne : ¬ ((toT t).kind = 6 ∧ (toT t).num = (h : Int)) := by
    rintro ⟨k1, k2⟩
    cases t with
    | ho i => exact e0 (by rw [show i = h from Int.ofNat.inj k2])
    | var n => have : (1 : Int) = 6 := k1
               exact absurd this (by decide)
    | nat => have : (2 : Int) = 6 := k1
             exact absurd this (by decide)
    | fn a b => have : (3 : Int) = 6 := k1
                exact absurd this (by decide)
    | all a => have : (4 : Int) = 6 := k1
               exact absurd this (by decide)
    | fr n => have : (5 : Int) = 6 := k1
              exact absurd this (by decide)
  have hin := inside_ev hI.ok h _ t (Nat.le_refl _)
  cases ein : hasH h (R S.sv t) with
  | true =>
    have hfn : ∃ a b, t = .fn a b := by
      cases t with
      | fn a b => exact ⟨a, b, rfl⟩
      | all a => cases hall
      | ho i =>
        have hi := now_free hI.ok hn
        rw [R_free hi] at ein
        exact absurd (by rw [show i = h by simpa [hasH] using ein]) e0
      | nat => rw [R_nat] at ein; cases ein
      | fr i => rw [R_fr] at ein; cases ein
      | var i => rw [R_var] at ein; cases ein
    obtain ⟨a, b, rfl⟩ := hfn
    refine ⟨false, S, Ev.succ (fun f => filled_eq) (Ev.congr (fun f => if_neg hne) (Ev.bind hin ?_)), Post.fls fun κ θ hm hs => ?_⟩
    · rw [ein]
      exact Ev.congr (G := fun _ => some (false, cSol wt S)) (fun f => rfl) Ev.pure
    · have hg := hm.gnd h v hG
      have hlt : lo (θ h) < lo (gi κ S θ (.fn a b)) := by
        rw [← hm.R, R_fn] at *
        exact lo_occ' ein
      obtain ⟨l, hs⟩ := hs
      cases c
      · have h1 : lo (gi κ S θ (.fn a b)) ≤ lo (θ h) := hs.lo.2 hg.p
        omega
      · have h1 : lo (gi κ S θ (.fn a b)) ≤ lo (θ h) := hs.lo.1 hg.p
        omega
  | false =>
    cases eq : hasQ (R S.sv t) with
    | false =>
      obtain ⟨r, S', hev, hP⟩ := solve_ev (wt := wt) (c := c) (q := q) hI hh ht hd ein (hasQ_false.1 eq)
      refine ⟨r, S', Ev.succ (fun f => filled_eq) (Ev.congr (fun f => if_neg hne) (Ev.bind hin ?_)), hP⟩
      rw [ein, eq]
      refine Ev.congr (G := fun f => Md.fits f (cSol wt (S.sol h t)) (h : Int) (toT t)) (fun f => ?_) hev
      show (match lkp (csv S.sv) (h : Int) with | some _ => none | none => Md.fits f { cSol wt S with solved := csv S.sv ++ [((h : Int), toT t)] } (h : Int) (toT t)) = _
      rw [lkp_free hd]
      show Md.fits f { cSol wt S with solved := csv S.sv ++ [((h : Int), toT t)] } (h : Int) (toT t) = _
      congr 1
      simp [cSol, AS.sol, csv_cons]
    | true =>
      have hqpos : qw (R S.sv t) ≠ 0 := fun e => by
        have := hasQ_false.2 (plain_qw e)
        rw [this] at eq; cases eq
      have hfn : ∃ a b, t = .fn a b := by
        cases t with
        | fn a b => exact ⟨a, b, rfl⟩
        | all a => cases hall
        | ho i => rw [R_free (now_free hI.ok hn)] at eq; cases eq
        | nat => rw [R_nat] at eq; cases eq
        | fr i => rw [R_fr] at eq; cases eq
        | var i => rw [R_var] at eq; cases eq
      obtain ⟨t0, t1, rfl⟩ := hfn
      have hlv2 : S.lev h ≤ v.length := by
        have := congrArg List.length htk
        rw [List.length_take, List.length_take] at this; omega
      obtain ⟨hI1, hE1, hPH⟩ := hI.spl hd hG hlv2
      obtain ⟨hc1, hc2⟩ := hPH S.way ⟨v, hG, hl, htk⟩
      have hlim : lim = 1099511627776 := rfl
      obtain ⟨B1, B2, B3⟩ := hB
      rw [R_fn] at hq hqpos
      have hqf := (qw_fn (R S.sv t0) (R S.sv t1)).2 hqpos
      have hcs : ∀ i, i ∉ dom (S.spl h v).sv → qw (R (S.spl h v).sv (.ho i)) = 0 := fun i hi => by rw [R_free hi]; rfl
      have hw0 : ∀ i, qw (R (S.spl h v).sv (.ho i)) = 0 := fun i => qw_plain (hI1.ok.plain i)
      have hcfn : IP (S.spl h v) (S.spl h v).way (.fn (.ho S.dp.length) (.ho (S.dp.length + 1))) := by
        unfold IP; rw [R_fn]; exact ⟨⟨hc1.c, hc2.c⟩, ⟨hc1.f, hc2.f⟩, ⟨hc1.h, hc2.h⟩⟩
      have ht1 : IP (S.spl h v) (S.spl h v).way (.fn t0 t1) := ht.ext hI hI1 hE1
      have hspl : Md.split (cSol wt S) (toT (.ho h)) = some (toT (.fn (.ho S.dp.length) (.ho (S.dp.length + 1))), cSol wt (S.spl h v)) := split_eq hlt hd (by omega) (by omega)
      have hdl : (S.spl h v).dp.length = S.dp.length + 2 := by simp [AS.spl]
      have hBs : Bnd (S.spl h v) (q - 1) := ⟨by rw [hdl]; omega, by show S.way.length + _ < lim; omega, by show S.tk.length + _ < lim; omega⟩
      have hq0 : q ≠ 0 := by omega
      have w0 := qw_R hI hI1 hE1 t0
      have w1 := qw_R hI hI1 hE1 t1
      have hmod : ∀ κ θ τ0 τ1, Mod κ S θ → θ h = .fn τ0 τ1 → ∃ θ1, Mod κ (S.spl h v) θ1 ∧ (∀ i, i < S.dp.length → θ1 i = θ i) ∧ θ1 S.dp.length = τ0 ∧ θ1 (S.dp.length + 1) = τ1 := by
        intro κ θ τ0 τ1 hm e
        have hg := hm.gnd h v hG
        rw [e] at hg
        refine ⟨fun i => if i = S.dp.length then τ0 else if i = S.dp.length + 1 then τ1 else θ i, ?_, fun i hi => (if_neg (by omega)).trans (if_neg (by omega)), if_pos rfl, (if_neg (by omega)).trans (if_pos rfl)⟩
        rw [spl_eq]
        have m1 : Mod κ (S.push (S.lev h) (some v)) (fun i => if i = S.dp.length then τ0 else θ i) := hm.push hI _ _ (fun i hi => if_neg (by omega)) fun v' _ => by rw [if_pos rfl]; exact hg.fn1
        have hI' := hI.push (S.lev h) (some v)
        have hdl' : (S.push (S.lev h) (some v)).dp.length = S.dp.length + 1 := by simp [AS.push]
        have m2 : Mod κ ((S.push (S.lev h) (some v)).push (S.lev h) (some v)) (fun i => if i = S.dp.length then τ0 else if i = S.dp.length + 1 then τ1 else θ i) := m1.push hI' _ _ (fun i hi => by
          by_cases e1 : i = S.dp.length
          · rw [if_pos e1, if_pos e1]
          · rw [if_neg e1, if_neg e1, if_neg (by omega)]) fun v' _ => by rw [hdl', if_neg (by omega), if_pos rfl]; exact hg.fn2
        refine m2.sol ?_
        show (if h = S.dp.length then τ0 else if h = S.dp.length + 1 then τ1 else θ h) = .fn (if S.dp.length = S.dp.length then τ0 else _) (if S.dp.length + 1 = S.dp.length then τ0 else if S.dp.length + 1 = S.dp.length + 1 then τ1 else _)
        rw [if_neg (by omega), if_neg (by omega), if_pos rfl, if_neg (by omega), if_pos rfl, e]
      have hsiz : ∀ {S' : AS} (W : List Ty), (∀ p ∈ S.sv, fsI W p.2) → fsI W (.fn t0 t1) → ∀ n, (Siz (S.spl h v) S' (.fn (.ho S.dp.length) (.ho (S.dp.length + 1))) (.fn t0 t1) n ∧ n = pot t0 + pot t1 ∨ Siz (S.spl h v) S' (.fn t0 t1) (.fn (.ho S.dp.length) (.ho (S.dp.length + 1))) n ∧ n = pot t0 + pot t1) →
          ∃ W' : List Ty, (∀ x, x ∈ W → x ∈ W') ∧ W'.length ≤ W.length + pot (.fn t0 t1) ∧ ∀ p ∈ S'.sv, fsI W' p.2 := by
        intro S' W h1 h2 n hz
        have hQ : hasQ (.fn t0 t1) = true := by
          cases e : hasQ (.fn t0 t1) with
          | true => rfl
          | false =>
            have := hasQ_false.1 e
            rw [hasQ_false.2 (R_plain hI.ok this)] at eq; cases eq
        have hm : ∀ x, x ∈ W → x ∈ (Ty.fn (.ho S.dp.length) (.ho (S.dp.length + 1)) :: W) := fun x hx => List.mem_cons_of_mem _ hx
        have hc : fsI (Ty.fn (.ho S.dp.length) (.ho (S.dp.length + 1)) :: W) (.fn (.ho S.dp.length) (.ho (S.dp.length + 1))) := ⟨List.mem_cons_self .., trivial, trivial⟩
        have hsv : ∀ p ∈ (S.spl h v).sv, fsI (Ty.fn (.ho S.dp.length) (.ho (S.dp.length + 1)) :: W) p.2 := fun p hp => by
          rcases List.mem_cons.1 hp with rfl | hp
          · exact hc
          · exact (h1 p hp).mono hm
        have fin : ∀ {W' : List Ty}, W'.length ≤ (Ty.fn (.ho S.dp.length) (.ho (S.dp.length + 1)) :: W).length + (pot t0 + pot t1) → W'.length ≤ W.length + pot (.fn t0 t1) := fun hl => by
          simp only [pot, hQ, if_true]; rw [List.length_cons] at hl; omega
        rcases hz with ⟨hz, rfl⟩ | ⟨hz, rfl⟩
        · obtain ⟨W', k1, k2, k3⟩ := hz _ hsv hc (h2.mono hm)
          exact ⟨W', fun x hx => k1 x (hm x hx), fin k2, k3⟩
        · obtain ⟨W', k1, k2, k3⟩ := hz _ hsv (h2.mono hm) hc
          exact ⟨W', fun x hx => k1 x (hm x hx), fin k2, k3⟩
      cases c with
      | true =>
        obtain ⟨r, S', hev, hP, hsz⟩ := step_fn (wt := wt) (q := q) (u := 0) (z := 0) (F := List.range (S.spl h v).dp.length) (S := S.spl h v) (a0 := .ho S.dp.length) (a1 := .ho (S.dp.length + 1)) (b0 := t0) (b1 := t1) ihq (fun e => absurd e hq0) hI1 hcfn ht1
          (.inr (by rw [hw0, hw0, w0, w1]; omega)) (fun x hx _ => List.mem_range.2 hx) (fun e => absurd e hq0) (fun e => absurd e hq0) hBs
        refine ⟨r, S', Ev.succ (fun f => filled_eq) (Ev.congr (fun f => if_neg hne) (Ev.bind hin ?_)), ?_⟩
        · rw [ein, eq]
          refine Ev.congr (G := fun f => Md.uses f (cSol wt (S.spl h v)) (toT (.fn (.ho S.dp.length) (.ho (S.dp.length + 1)))) (toT (.fn t0 t1)) (S.way.length : Int)) (fun f => ?_) (uses_fn hI1.ok hev)
          show (Md.split (cSol wt S) (toT (.ho h))).bind _ = _
          rw [hspl, Option.bind_some]
        · have hback : r = true → ∀ κ θ, Mod κ S' θ → gi κ S' θ (.fn (.ho S.dp.length) (.ho (S.dp.length + 1))) = θ h := fun hr κ θ hm => by
            have hm1 := hm.back hI1 (hP.ext hr)
            rw [gi_ext (hP.ext hr) hcfn.frs]
            exact (hm1.eq (h, .fn (.ho S.dp.length) (.ho (S.dp.length + 1))) (List.mem_cons_self ..)).symm
          refine ⟨hP.inv, fun hr => hE1.trans (hP.ext hr), hP.way, fun hr => ?_, fun hr => ?_, fun _ e => absurd e hq0, fun hr => ?_, fun κ θ hm hs => ?_, fun hr W h1 h2 h3 => by
            have := hsiz (S' := S') W h1 h3 _ (.inl ⟨hsz hr, by simp only [pot]; omega⟩)
            obtain ⟨W', a, b, d⟩ := this
            exact ⟨W', a, by show _ ≤ W.length + (pot (.ho h) + pot (.fn t0 t1)); rw [show pot (.ho h) = 0 from rfl]; omega, d⟩⟩
          · have := hP.dpl hr; rw [hdl] at this; omega
          · have := hP.tkl hr
            have e : (S.spl h v).tk = S.tk := rfl
            rw [e] at this; omega
          · obtain ⟨new, k1, k2⟩ := hP.snd hr
            refine ⟨new, k1, fun κ θ hm => ?_⟩
            have := k2 κ θ hm
            rw [hback hr κ θ hm] at this
            exact this
          · obtain ⟨l, hs⟩ := hs
            have hs' : Sub (κ + S.way.length) (θ h) (.fn (gi κ S θ t0) (gi κ S θ t1)) l := hs
            have hg := hm.gnd h v hG
            obtain ⟨τ0, τ1, _, _, e, _, _, _⟩ := hs'.inv_fn' (plain_isAll hg.p)
            obtain ⟨θ1, m1, hag, z0, z1⟩ := hmod κ θ τ0 τ1 hm e
            have hs1 : SubE (κ + (S.spl h v).way.length) (gi κ (S.spl h v) θ1 (.fn (.ho S.dp.length) (.ho (S.dp.length + 1)))) (gi κ (S.spl h v) θ1 (.fn t0 t1)) := by
              rw [ht.agree hI hE1 hm m1 hag]
              have : gi κ (S.spl h v) θ1 (.fn (.ho S.dp.length) (.ho (S.dp.length + 1))) = θ h := by
                show Ty.fn (θ1 _) (θ1 _) = _
                rw [z0, z1, e]
              rw [this]; exact ⟨l, hs⟩
            obtain ⟨hr, θ', m', hag'⟩ := hP.cmp κ θ1 m1 hs1
            exact ⟨hr, θ', m', fun i hi => by rw [hag' i (by rw [hdl]; omega), hag i hi]⟩
      | false =>
        obtain ⟨r, S', hev, hP, hsz⟩ := step_fn (wt := wt) (q := q) (u := 0) (z := 0) (F := List.range (S.spl h v).dp.length) (S := S.spl h v) (b0 := .ho S.dp.length) (b1 := .ho (S.dp.length + 1)) (a0 := t0) (a1 := t1) ihq (fun e => absurd e hq0) hI1 ht1 hcfn
          (.inr (by rw [hw0, hw0, w0, w1]; omega)) (fun x hx _ => List.mem_range.2 hx) (fun e => absurd e hq0) (fun e => absurd e hq0) hBs
        refine ⟨r, S', Ev.succ (fun f => filled_eq) (Ev.congr (fun f => if_neg hne) (Ev.bind hin ?_)), ?_⟩
        · rw [ein, eq]
          refine Ev.congr (G := fun f => Md.uses f (cSol wt (S.spl h v)) (toT (.fn t0 t1)) (toT (.fn (.ho S.dp.length) (.ho (S.dp.length + 1)))) (S.way.length : Int)) (fun f => ?_) (uses_fn hI1.ok hev)
          show (Md.split (cSol wt S) (toT (.ho h))).bind _ = _
          rw [hspl, Option.bind_some]
        · have hback : r = true → ∀ κ θ, Mod κ S' θ → gi κ S' θ (.fn (.ho S.dp.length) (.ho (S.dp.length + 1))) = θ h := fun hr κ θ hm => by
            have hm1 := hm.back hI1 (hP.ext hr)
            rw [gi_ext (hP.ext hr) hcfn.frs]
            exact (hm1.eq (h, .fn (.ho S.dp.length) (.ho (S.dp.length + 1))) (List.mem_cons_self ..)).symm
          refine ⟨hP.inv, fun hr => hE1.trans (hP.ext hr), hP.way, fun hr => ?_, fun hr => ?_, fun _ e => absurd e hq0, fun hr => ?_, fun κ θ hm hs => ?_, fun hr W h1 h2 h3 => by
            have := hsiz (S' := S') W h1 h2 _ (.inr ⟨hsz hr, by simp only [pot]; omega⟩)
            obtain ⟨W', a, b, d⟩ := this
            exact ⟨W', a, by show _ ≤ W.length + (pot (.fn t0 t1) + pot (.ho h)); rw [show pot (.ho h) = 0 from rfl]; omega, d⟩⟩
          · have := hP.dpl hr; rw [hdl] at this; omega
          · have := hP.tkl hr
            have e : (S.spl h v).tk = S.tk := rfl
            rw [e] at this; omega
          · obtain ⟨new, k1, k2⟩ := hP.snd hr
            refine ⟨new, k1, fun κ θ hm => ?_⟩
            have := k2 κ θ hm
            rw [hback hr κ θ hm] at this
            exact this
          · obtain ⟨l, hs⟩ := hs
            have hs' : Sub (κ + S.way.length) (.fn (gi κ S θ t0) (gi κ S θ t1)) (θ h) l := hs
            have hg := hm.gnd h v hG
            obtain ⟨τ0, τ1, _, _, e, _, _, _⟩ := hs'.inv_fn (plain_isAll hg.p)
            obtain ⟨θ1, m1, hag, z0, z1⟩ := hmod κ θ τ0 τ1 hm e
            have hs1 : SubE (κ + (S.spl h v).way.length) (gi κ (S.spl h v) θ1 (.fn t0 t1)) (gi κ (S.spl h v) θ1 (.fn (.ho S.dp.length) (.ho (S.dp.length + 1)))) := by
              rw [ht.agree hI hE1 hm m1 hag]
              have : gi κ (S.spl h v) θ1 (.fn (.ho S.dp.length) (.ho (S.dp.length + 1))) = θ h := by
                show Ty.fn (θ1 _) (θ1 _) = _
                rw [z0, z1, e]
              rw [this]; exact ⟨l, hs⟩
            obtain ⟨hr, θ', m', hag'⟩ := hP.cmp κ θ1 m1 hs1
            exact ⟨hr, θ', m', fun i hi => by rw [hag' i (by rw [hdl]; omega), hag i hi]⟩
theorem kind_all {b : Ty} (h : isAll b = false) : (toT b).kind ≠ 4 := by
  cases b with
  | all a => cases h
  | var n => exact (by decide : (1 : Int) ≠ 4)
  | nat => exact (by decide : (2 : Int) ≠ 4)
  | fn a b => exact (by decide : (3 : Int) ≠ 4)
  | fr n => exact (by decide : (5 : Int) ≠ 4)
  | ho n => exact (by decide : (6 : Int) ≠ 4)
theorem Inv.new_free {S : AS} (hI : Inv S) : S.dp.length ∉ dom S.sv := fun hx => Nat.lt_irrefl _ (hI.dom_lt hx)
theorem uses_eq {f : Nat} {s : Sol} {a b : T} {d : Int} : Md.uses (f + 1) s a b d = (Md.now f s.solved b).bind fun b =>
      if b.kind = 4 then
        (newer s 5 d).bind fun r => (opn b r.1).bind fun t =>
          (Md.uses f { r.2 with way := s.way ++ [r.1] } a t (w64 (d + 1))).bind fun x => some (x.1, { x.2 with way := s.way })
      else
        (Md.now f s.solved a).bind fun a => Md.usesT f s a b d := rfl
theorem usesT_eq {f : Nat} {s : Sol} {a b : T} {d : Int} : Md.usesT (f + 1) s a b d = if a.kind = 4 then
      (Md.take f s d).bind fun r =>
        if r.1.2 = false then some (false, r.2)
        else (opn a r.1.1).bind fun a => (Md.now f r.2.solved a).bind fun a => Md.usesT f r.2 a b d
    else
      (Md.now f s.solved b).bind fun b =>
        if a.kind = 6 then Md.filled f s a b true d
        else if b.kind = 6 then Md.filled f s b a false d
        else if a.kind ≠ b.kind then some (false, s)
        else if a.kind = 3 then
          match a.kids, b.kids with
          | a0 :: a1 :: _, b0 :: b1 :: _ => (Md.uses f s b0 a0 d).bind fun r => if r.1 then Md.uses f r.2 a1 b1 d else some (false, r.2)
          | _, _ => none
        else some (a.num == b.num, s) := rfl

theorem usesT_ev {wt : Bool} {q u z : Nat} (ihq : ∀ q', q' < q → ∀ u z, Claim wt q' u z) (ihz : q = 0 → ∀ u' z', (u' < u ∨ u' = u ∧ z' < z) → Claim wt 0 u' z')
    {S : AS} {a b : Ty} {F : List Nat} (hI : Inv S) (ha : IP S S.way a) (hb : IP S S.way b) (hna : nowA S.sv a = a) (hnb : nowA S.sv b = b) (hall : isAll b = false) (hq : qw (R S.sv a) + qw (R S.sv b) = q)
    (hF : cover S F) (hu : F.length = u) (hz : sz (R S.sv a) + sz (R S.sv b) = z) (hB : Bnd S q) :
    ∃ r S', Ev (fun f => Md.usesT f (cSol wt S) (toT a) (toT b) (S.way.length : Int)) (r, cSol wt S') ∧ Post S a b q r S' := by
  have hlim : lim = 1099511627776 := rfl
  have hnow := now_ev hI.ok b
  rw [hnb] at hnow
  obtain ⟨B1, B2, B3⟩ := id hB
  cases eall : isAll a with
  | true =>
    cases a with
    | all a1 =>
      have hI1 : Inv S.tak := (hI.push S.way.length (some S.way)).congr rfl rfl rfl
      have hE1 : Ext S S.tak := (Ext.push hI S.way.length (some S.way)).trans (Ext.congr rfl rfl rfl)
      have hG1 : S.tak.G[S.dp.length]? = some (some S.way) := get_push hI S.way.length (some S.way)
      have hl1 : S.tak.lev S.dp.length = S.way.length := lev_push' (S := S) (d := S.way.length) (o := some S.way)
      have hc : IP S.tak S.way (.ho S.dp.length) := PH.hole hG1 (Nat.le_of_eq hl1) rfl hI.new_free
      have ha' := (ha.ext hI hI1 hE1).put hI1 hc
      have hb' := hb.ext hI hI1 hE1
      have hqa : qw (R S.sv (.all a1)) = qw (R S.sv a1) + 1 := by rw [R_all]; rfl
      have hqp : qw (R S.sv (Ty.put (.ho S.dp.length) 0 a1)) = qw (R S.sv a1) := by rw [R_put hI.ok, R_free hI.new_free, qw_put (by trivial)]
      have hdl : S.tak.dp.length = S.dp.length + 1 := by simp [AS.tak]
      have htl : S.tak.tk.length = S.tk.length + 1 := by simp [AS.tak]
      obtain ⟨r, S', hev, hP⟩ := ihq (q - 1) (by omega) _ _ S.tak (Ty.put (.ho S.dp.length) 0 a1) b (List.range S.tak.dp.length) hI1 ha' hb' (by show qw (R S.sv _) + qw (R S.sv _) = _; rw [hqp]; omega) (fun x hx _ => List.mem_range.2 hx) rfl rfl
        ⟨by rw [hdl]; omega, by show S.way.length + _ < lim; omega, by rw [htl]; omega⟩
      have hnq : nq a1 < lim := by
        have h1 := nq_R hI a1
        have h2 := nq_qw (R S.sv a1)
        omega
      refine ⟨r, S', Ev.succ (fun f => usesT_eq) ?_, ?_⟩
      · refine Ev.congr (G := fun f => (Md.take f (cSol wt S) (S.way.length : Int)).bind fun r => if r.1.2 = false then some (false, r.2)
          else (opn (toT (.all a1)) r.1.1).bind fun a => (Md.now f r.2.solved a).bind fun a => Md.usesT f r.2 a (toT b) (S.way.length : Int)) (fun f => if_pos rfl) ?_
        refine Ev.bind (take_ev (by omega) (by omega) (by omega)) ?_
        refine Ev.congr (G := fun f => (Md.now f (csv S.tak.sv) (toT (Ty.put (.ho S.dp.length) 0 a1))).bind fun a => Md.usesT f (cSol wt S.tak) a (toT b) (S.way.length : Int)) (fun f => ?_) ?_
        · refine (if_neg (fun e : true = false => Bool.noConfusion e)).trans ?_
          show (opn (toT (.all a1)) (toT (.ho S.dp.length))).bind _ = _
          rw [opn_eq hnq, Option.bind_some]; rfl
        · have h1 := Ev.pred (fun f => uses_eq) hev
          have h2 := Ev.unbind (F := fun f => Md.now f (csv S.tak.sv) (toT b)) hnow h1
          exact Ev.congr (fun f => (if_neg (kind_all hall)).symm) h2
      · have hgb : ∀ κ θ, Mod κ S' θ → Ext S S' → isAll (gi κ S' θ b) = false := fun κ θ hm he =>
          isAll_inst hall (allF.triv fun _ => trivial) ((hb.hos hI).mono fun i ⟨v, hv⟩ => (hm.gnd i v (he.get hv)).p)
        have hap : ∀ {κ : Nat} {S2 : AS} {θ : Nat → Ty}, Mod κ S2 θ → Ext S S2 → gi κ S2 θ (Ty.put (.ho S.dp.length) 0 a1) = Ty.put (θ S.dp.length) 0 (gi κ S2 θ a1) := fun {κ S2 θ} hm he =>
          inst_put (allF.triv fun _ => trivial) (allH.mono (t := a1) (fun i ⟨v, hv⟩ => (hm.gnd i v (he.get hv)).c) (ha.hos hI))
        refine ⟨hP.inv, fun hr => hE1.trans (hP.ext hr), hP.way, fun hr => ?_, fun hr => ?_, fun _ e => by omega, fun hr => ?_, fun κ θ hm hs => ?_, fun hr W k1 k2 k3 => by
          obtain ⟨W', l1, l2, l3⟩ := hP.siz hr (W ++ tops (Ty.put (.ho S.dp.length) 0 a1)) (fun p hp => (k1 p hp).mono fun x hx => List.mem_append_left _ hx) (fsI_tops fun x hx => List.mem_append_right _ hx) (k3.mono fun x hx => List.mem_append_left _ hx)
          rw [List.length_append, tops_put rfl, pot_put rfl rfl rfl] at l2
          exact ⟨W', fun x hx => l1 x (List.mem_append_left _ hx), by simp only [pot]; omega, l3⟩⟩
        · have := hP.dpl hr; omega
        · have := hP.tkl hr; omega
        · obtain ⟨new, k1, k2⟩ := hP.snd hr
          refine ⟨(S.dp.length, S.way.length) :: new, by rw [k1]; simp [AS.tak], fun κ θ hm => ?_⟩
          have he := hE1.trans (hP.ext hr)
          have k3 := k2 κ θ hm
          rw [hap hm he] at k3
          have hg := hm.gnd _ _ ((hP.ext hr).get hG1)
          have hl := (hP.ext hr).ho _ _ hG1
          rw [hl1] at hl
          exact Sub.ins (hgb κ θ hm he) (hg.mono (Nat.add_le_add_left hl κ)) k3
        · obtain ⟨l, hs⟩ := hs
          have hs' : Sub (κ + S.way.length) (.all (gi κ S θ a1)) (gi κ S θ b) l := hs
          have hbb : isAll (gi κ S θ b) = false := isAll_inst hall (allF.triv fun _ => trivial) ((hb.hos hI).mono fun i ⟨v, hv⟩ => (hm.gnd i v hv).p)
          obtain ⟨τ, l', _, hτ, hs'⟩ := hs'.inv_ins hbb
          have hm1 : Mod κ S.tak (fun i => if i = S.dp.length then τ else θ i) := (hm.push hI S.way.length (some S.way) (θ' := fun i => if i = S.dp.length then τ else θ i) (fun i hi => if_neg (by omega)) fun v _ => by rw [if_pos rfl]; exact hτ).congr rfl rfl rfl
          have hag : ∀ i, i < S.dp.length → (fun i => if i = S.dp.length then τ else θ i) i = θ i := fun i hi => if_neg (by omega)
          have hs1 : SubE (κ + S.tak.way.length) (gi κ S.tak (fun i => if i = S.dp.length then τ else θ i) (Ty.put (.ho S.dp.length) 0 a1)) (gi κ S.tak (fun i => if i = S.dp.length then τ else θ i) b) := by
            rw [hap hm1 hE1, hb.agree hI hE1 hm hm1 hag]
            have e1 : gi κ S.tak (fun i => if i = S.dp.length then τ else θ i) (.all a1) = gi κ S θ (.all a1) := ha.agree hI hE1 hm hm1 hag
            have e2 : gi κ S.tak (fun i => if i = S.dp.length then τ else θ i) a1 = gi κ S θ a1 := by
              have : Ty.all (gi κ S.tak (fun i => if i = S.dp.length then τ else θ i) a1) = Ty.all (gi κ S θ a1) := e1
              exact Ty.all.inj this
            rw [e2]
            show SubE (κ + S.way.length) (Ty.put (if S.dp.length = S.dp.length then τ else _) 0 _) _
            rw [if_pos rfl]; exact ⟨_, hs'⟩
          obtain ⟨hr, θ', m', hag'⟩ := hP.cmp κ _ hm1 hs1
          exact ⟨hr, θ', m', fun i hi => by rw [hag' i (by rw [hdl]; omega)]; exact hag i hi⟩
    | _ => cases eall
  | false =>
    have hka := kind_all eall
    -- behind the quantifiers
    have go : ∀ {G : Nat → Option (Bool × Sol)} {r : Bool} {S' : AS}, (∀ f, (if (toT a).kind = 6 then Md.filled f (cSol wt S) (toT a) (toT b) true (S.way.length : Int)
        else if (toT b).kind = 6 then Md.filled f (cSol wt S) (toT b) (toT a) false (S.way.length : Int)
        else if (toT a).kind ≠ (toT b).kind then some (false, cSol wt S)
        else if (toT a).kind = 3 then
          match (toT a).kids, (toT b).kids with
          | a0 :: a1 :: _, b0 :: b1 :: _ => (Md.uses f (cSol wt S) b0 a0 (S.way.length : Int)).bind fun r => if r.1 then Md.uses f r.2 a1 b1 (S.way.length : Int) else some (false, r.2)
          | _, _ => none
        else some ((toT a).num == (toT b).num, cSol wt S)) = G f) → Ev G (r, cSol wt S') → Ev (fun f => Md.usesT f (cSol wt S) (toT a) (toT b) (S.way.length : Int)) (r, cSol wt S') := by
      intro G r S' e h
      refine Ev.succ (fun f => usesT_eq) (Ev.congr (fun f => if_neg hka) (Ev.bind hnow ?_))
      exact Ev.congr e h
    have hbad : (∀ κ θ, Mod κ S θ → SubE (κ + S.way.length) (gi κ S θ a) (gi κ S θ b) → False) → (∀ f : Nat, (if (toT a).kind = 6 then Md.filled f (cSol wt S) (toT a) (toT b) true (S.way.length : Int)
        else if (toT b).kind = 6 then Md.filled f (cSol wt S) (toT b) (toT a) false (S.way.length : Int)
        else if (toT a).kind ≠ (toT b).kind then some (false, cSol wt S)
        else if (toT a).kind = 3 then
          match (toT a).kids, (toT b).kids with
          | a0 :: a1 :: _, b0 :: b1 :: _ => (Md.uses f (cSol wt S) b0 a0 (S.way.length : Int)).bind fun r => if r.1 then Md.uses f r.2 a1 b1 (S.way.length : Int) else some (false, r.2)
          | _, _ => none
        else some ((toT a).num == (toT b).num, cSol wt S)) = some (false, cSol wt S)) → ∃ r S', Ev (fun f => Md.usesT f (cSol wt S) (toT a) (toT b) (S.way.length : Int)) (r, cSol wt S') ∧ Post S a b q r S' :=
      fun h e => ⟨false, S, go e Ev.pure, Post.fls h⟩
    have hhole : ∀ h, a = .ho h → ∃ r S', Ev (fun f => Md.usesT f (cSol wt S) (toT a) (toT b) (S.way.length : Int)) (r, cSol wt S') ∧ Post S a b q r S' := by
      rintro h rfl
      have hd := now_free hI.ok hna
      obtain ⟨r, S', hev, hP⟩ := filled_ev (wt := wt) (c := true) ihq hI ha hb hd hnb hall (by omega) hB
      exact ⟨r, S', go (fun f => rfl) hev, hP⟩
    have hhole2 : ∀ h, b = .ho h → (toT a).kind ≠ 6 → ∃ r S', Ev (fun f => Md.usesT f (cSol wt S) (toT a) (toT b) (S.way.length : Int)) (r, cSol wt S') ∧ Post S a b q r S' := by
      rintro h rfl hk
      have hd := now_free hI.ok hnb
      obtain ⟨r, S', hev, hP⟩ := filled_ev (wt := wt) (c := false) ihq hI hb ha hd hna eall (by omega) hB
      exact ⟨r, S', go (fun f => (if_neg hk).trans (if_pos rfl)) hev, hP⟩
    cases a with
    | all a1 => cases eall
    | var n => exact absurd ha.lcl (Nat.not_lt_zero _)
    | ho h => exact hhole h rfl
    | nat =>
      cases b with
      | all _ => cases hall
      | var n => exact absurd hb.lcl (Nat.not_lt_zero _)
      | ho h => exact hhole2 h rfl (by decide)
      | nat => exact ⟨true, S, go (G := fun _ => some (true, cSol wt S)) (fun f => rfl) Ev.pure, Post.tru hI fun _ _ _ => .nat⟩
      | fn b0 b1 => exact hbad (fun κ θ _ ⟨l, hs⟩ => by cases (show Sub _ .nat (.fn _ _) l from hs)) fun f => rfl
      | fr i => exact hbad (fun κ θ _ ⟨l, hs⟩ => by cases (show Sub _ .nat (.fr _) l from hs)) fun f => rfl
    | fr i =>
      cases b with
      | all _ => cases hall
      | var n => exact absurd hb.lcl (Nat.not_lt_zero _)
      | ho h => exact hhole2 h rfl (by show (5 : Int) ≠ 6; decide)
      | nat => exact hbad (fun κ θ _ ⟨l, hs⟩ => by cases (show Sub _ (.fr _) .nat l from hs)) fun f => rfl
      | fn b0 b1 => exact hbad (fun κ θ _ ⟨l, hs⟩ => by cases (show Sub _ (.fr _) (.fn _ _) l from hs)) fun f => rfl
      | fr j =>
        by_cases e : i = j
        · subst e
          exact ⟨true, S, go (G := fun _ => some (true, cSol wt S)) (fun f => by show some (((i : Int) == (i : Int)), cSol wt S) = _; rw [beq_self_eq_true]) Ev.pure, Post.tru hI fun _ _ _ => .fr⟩
        · refine hbad (fun κ θ _ ⟨l, hs⟩ => ?_) fun f => by show some (((i : Int) == (j : Int)), cSol wt S) = _; rw [show ((i : Int) == (j : Int)) = false by simpa using fun h : (i : Int) = (j : Int) => e (by omega)]
          have hi := ha.f
          have hj := hb.f
          rw [R_fr] at hi hj
          have hi : PF S S.way i := hi
          have hj : PF S S.way j := hj
          have : S.lev i = S.lev j := by
            have hs' : Sub (κ + S.way.length) (.fr (κ + S.lev i)) (.fr (κ + S.lev j)) l := hs
            have h0 : κ + S.lev i = κ + S.lev j := by
              generalize κ + S.lev i = x at hs'
              generalize κ + S.lev j = y at hs'
              cases hs'; rfl
            omega
          have h1 := hi.2
          rw [this, hj.2] at h1
          exact e (Option.some.inj h1).symm
    | fn a0 a1 =>
      cases b with
      | all _ => cases hall
      | var n => exact absurd hb.lcl (Nat.not_lt_zero _)
      | ho h => exact hhole2 h rfl (by show (3 : Int) ≠ 6; decide)
      | nat => exact hbad (fun κ θ _ ⟨l, hs⟩ => by cases (show Sub _ (.fn _ _) .nat l from hs)) fun f => rfl
      | fr i => exact hbad (fun κ θ _ ⟨l, hs⟩ => by cases (show Sub _ (.fn _ _) (.fr _) l from hs)) fun f => rfl
      | fn b0 b1 =>
        have h1 := qw_fn (R S.sv a0) (R S.sv a1)
        have h2 := qw_fn (R S.sv b0) (R S.sv b1)
        have hq' := hq
        rw [R_fn, R_fn] at hq'
        have hc : (q = 0 ∧ qw (R S.sv b0) + qw (R S.sv a0) = 0 ∧ qw (R S.sv a1) + qw (R S.sv b1) = 0) ∨ (qw (R S.sv b0) + qw (R S.sv a0)) + (qw (R S.sv a1) + qw (R S.sv b1)) + 1 ≤ q := by
          by_cases e1 : qw (.fn (R S.sv a0) (R S.sv a1)) = 0
          · have k1 := h1.1 e1
            by_cases e2 : qw (.fn (R S.sv b0) (R S.sv b1)) = 0
            · have k2 := h2.1 e2
              left; omega
            · have k2 := h2.2 e2
              right; omega
          · have k1 := h1.2 e1
            by_cases e2 : qw (.fn (R S.sv b0) (R S.sv b1)) = 0
            · have k2 := h2.1 e2
              right; omega
            · have k2 := h2.2 e2
              right; omega
        obtain ⟨r, S', hev, hP, _⟩ := step_fn (wt := wt) ihq ihz hI ha hb hc hF (fun _ => hu) (fun _ => hz) ⟨by omega, by omega, by omega⟩
        exact ⟨r, S', usesT_fn hI.ok hev, hP.mono (by omega)⟩

theorem claim (wt : Bool) : ∀ q u z, Claim wt q u z := by
  intro q
  induction q using Nat.strongRecOn with
  | _ q ihq =>
  intro u
  induction u using Nat.strongRecOn with
  | _ u ihu =>
  intro z
  induction z using Nat.strongRecOn with
  | _ z ihz =>
  intro S a b F hI ha hb hq hF hu hz hB
  have hlim : lim = 1099511627776 := rfl
  have ihz' : q = 0 → ∀ u' z', (u' < u ∨ u' = u ∧ z' < z) → Claim wt 0 u' z' := by
    rintro rfl u' z' (h | ⟨rfl, h⟩)
    · exact ihu u' h z'
    · exact ihz z' h
  have hqn : qw (R S.sv (nowA S.sv a)) + qw (R S.sv (nowA S.sv b)) = q := by rw [R_now hI.ok, R_now hI.ok]; exact hq
  have hna : nowA S.sv (nowA S.sv a) = nowA S.sv a := now_now fun i e => now_free hI.ok e
  have hnb : nowA S.sv (nowA S.sv b) = nowA S.sv b := now_now fun i e => now_free hI.ok e
  obtain ⟨B1, B2, B3⟩ := id hB
  cases hall : isAll (nowA S.sv b) with
  | false =>
    obtain ⟨r, S', hev, hP⟩ := usesT_ev (wt := wt) ihq ihz' hI (ha.now hI) (hb.now hI) hna hnb hall hqn hF hu (by rw [R_now hI.ok, R_now hI.ok]; exact hz) hB
    refine ⟨r, S', Ev.succ (fun f => uses_eq) (Ev.bind (now_ev hI.ok b) ?_), hP.now hI ha hb⟩
    refine Ev.congr (fun f => if_neg (kind_all hall)) (Ev.bind (now_ev hI.ok a) ?_)
    exact hev
  | true =>
    obtain ⟨b1, hb1⟩ : ∃ b1, nowA S.sv b = .all b1 := by
      cases e : nowA S.sv b with
      | all b1 => exact ⟨b1, rfl⟩
      | _ => rw [e] at hall; cases hall
    have hball : IP S S.way (.all b1) := by rw [← hb1]; exact hb.now hI
    obtain ⟨S1, hS1⟩ : ∃ S1 : AS, S1 = { S.push S.way.length none with way := S.way ++ [S.dp.length] } := ⟨_, rfl⟩
    have hI1 : Inv S1 := by rw [hS1]; exact (hI.push S.way.length none).congr rfl rfl rfl
    have hE1 : Ext S S1 := by rw [hS1]; exact (Ext.push hI S.way.length none).trans (Ext.congr rfl rfl rfl)
    have hG1 : S1.G[S.dp.length]? = some none := by rw [hS1]; exact get_push hI S.way.length none
    have hl1 : S1.lev S.dp.length = S.way.length := by rw [hS1]; exact lev_push' (S := S) (d := S.way.length) (o := none)
    have hw1 : S1.way = S.way ++ [S.dp.length] := by rw [hS1]
    have hsv : S1.sv = S.sv := by rw [hS1]; rfl
    have hdl : S1.dp.length = S.dp.length + 1 := by rw [hS1]; simp [AS.push]
    have htl : S1.tk = S.tk := by rw [hS1]; rfl
    have hwl : S1.way.length = S.way.length + 1 := by rw [hw1]; simp
    have ha1 : IP S1 S1.way a := by rw [hw1]; exact (ha.ext hI hI1 hE1).app
    have hf : IP S1 S1.way (.fr S.dp.length) := by
      unfold IP; rw [R_fr]
      exact ⟨trivial, ⟨hG1, by rw [hl1, hw1]; simp⟩, trivial⟩
    have hbp : IP S1 S1.way (Ty.put (.fr S.dp.length) 0 b1) := IP.put hI1 (by rw [hw1]; exact (hball.ext hI hI1 hE1).app) hf
    have hqb : qw (R S.sv b) = qw (R S.sv b1) + 1 := by rw [← R_now hI.ok b, hb1, R_all]; rfl
    have hqp : qw (R S.sv (Ty.put (.fr S.dp.length) 0 b1)) = qw (R S.sv b1) := by rw [R_put hI.ok, R_fr, qw_put (by trivial)]
    have hnq : nq b1 < lim := by
      have h1 := nq_R hI b1
      have h2 := nq_qw (R S.sv b1)
      omega
    obtain ⟨r, S2, hev, hP⟩ := ihq (q - 1) (by omega) _ _ S1 a (Ty.put (.fr S.dp.length) 0 b1) (List.range S1.dp.length) hI1 ha1 hbp (by rw [hsv, hqp]; omega) (fun x hx _ => List.mem_range.2 hx) rfl rfl
      ⟨by rw [hdl]; omega, by rw [hwl]; omega, by rw [htl]; omega⟩
    refine ⟨r, { S2 with way := S.way }, Ev.succ (fun f => uses_eq) (Ev.bind (now_ev hI.ok b) ?_), ?_⟩
    · rw [hb1]
      refine Ev.congr (fun f => if_pos rfl) ?_
      refine Ev.congr (G := fun f => (Md.uses f (cSol wt S1) (toT a) (toT (Ty.put (.fr S.dp.length) 0 b1)) (S1.way.length : Int)).bind fun x => some (x.1, { x.2 with way := (cSol wt S).way })) (fun f => ?_) (Ev.bind hev (Ev.congr (fun f => by rfl) Ev.pure))
      rw [newer_fr (by omega) (by omega), Option.bind_some, opn_eq hnq, Option.bind_some, w64_id (by omega) (by omega), show ((S.way.length : Int) + 1) = (S1.way.length : Int) by omega]
      have e : ({ cSol wt { S with dp := S.dp ++ [S.way.length], G := S.G ++ [none] } with way := (cSol wt S).way ++ [toT (.fr S.dp.length)] } : Sol) = cSol wt S1 := by
        rw [hS1]; simp [cSol, AS.push]
      rw [← e]
    · have hap : ∀ {κ : Nat} {S2 : AS} {θ : Nat → Ty}, Mod κ S2 θ → Ext S1 S2 → gi κ S2 θ (Ty.put (.fr S.dp.length) 0 b1) = Ty.put (.fr (κ + S.way.length)) 0 (gi κ S2 θ b1) := fun {κ S2 θ} hm he => by
        have := inst_put (φ := fun x => .fr (κ + S2.lev x)) (θ := θ) (u := .fr S.dp.length) (t := b1) (n := 0) (allF.triv fun _ => trivial) (allH.mono (t := b1) (fun i ⟨v, hv⟩ => (hm.gnd i v ((hE1.trans he).get hv)).c) (hball.hos hI))
        have e2 : inst (fun x => .fr (κ + S2.lev x)) θ (.fr S.dp.length) = .fr (κ + S.way.length) := by
          show Ty.fr (κ + S2.lev S.dp.length) = _
          rw [he.fr _ hG1, hl1]
        rw [e2] at this
        exact this
      have hE2 : r = true → Ext S S2 := fun hr => hE1.trans (hP.ext hr)
      have hgb : ∀ {κ : Nat} {S2 : AS} {θ : Nat → Ty}, Mod κ S2 θ → Ext S S2 → gi κ S2 θ b = .all (gi κ S2 θ b1) := fun {κ S2 θ} hm he => by
        rw [gi_ext he hb.frs, ← (hm.back hI he).now hI b, hb1, ← gi_ext he hball.frs]; rfl
      refine ⟨fun hr => (hP.inv hr).congr rfl rfl rfl, fun hr => (hE2 hr).trans (Ext.congr rfl rfl rfl), fun _ => rfl, fun hr => ?_, fun hr => ?_, fun _ e => by omega, fun hr => ?_, fun κ θ hm hs => ?_, fun hr W k1 k2 k3 => by
        have hpn := pot_now hI.ok b
        rw [hb1] at hpn
        obtain ⟨W', l1, l2, l3⟩ := hP.siz hr (W ++ tops (Ty.put (.fr S.dp.length) 0 b1)) (fun p hp => (k1 p (by rw [← hsv]; exact hp)).mono fun x hx => List.mem_append_left _ hx) (k2.mono fun x hx => List.mem_append_left _ hx) (fsI_tops fun x hx => List.mem_append_right _ hx)
        rw [List.length_append, tops_put rfl, pot_put rfl rfl rfl] at l2
        simp only [pot] at hpn
        exact ⟨W', fun x hx => l1 x (List.mem_append_left _ hx), by omega, l3⟩⟩
      · have := hP.dpl hr
        show S2.dp.length ≤ _
        omega
      · have := hP.tkl hr
        show S2.tk.length ≤ _
        rw [htl] at this; omega
      · obtain ⟨new, k1, k2⟩ := hP.snd hr
        refine ⟨new, by rw [← htl]; exact k1, fun κ θ hm => ?_⟩
        have hm2 : Mod κ S2 θ := hm.congr rfl rfl rfl
        have k3 := k2 κ θ hm2
        rw [hap hm2 (hP.ext hr), hwl] at k3
        show Sub (κ + S.way.length) (gi κ S2 θ a) (gi κ S2 θ b) _
        rw [hgb hm2 (hE2 hr)]
        exact Sub.gen k3
      · obtain ⟨l, hs⟩ := hs
        rw [hgb hm (Ext.refl S)] at hs
        have hm1 : Mod κ S1 θ := by rw [hS1]; exact (hm.push hI S.way.length none (fun _ _ => rfl) fun v e => by cases e).congr rfl rfl rfl
        have hs1 : SubE (κ + S1.way.length) (gi κ S1 θ a) (gi κ S1 θ (Ty.put (.fr S.dp.length) 0 b1)) := by
          rw [hap hm1 (Ext.refl S1), hwl, gi_ext hE1 ha.frs, gi_ext (t := b1) hE1 hball.frs]
          exact ⟨l, hs.inv_gen⟩
        obtain ⟨hr, θ', m', hag'⟩ := hP.cmp κ θ hm1 hs1
        exact ⟨hr, θ', m'.congr rfl rfl rfl, fun i hi => hag' i (by omega)⟩
theorem toT_inj : ∀ {x y : Ty}, toT x = toT y → x = y
  | .var n, y, h => by cases y <;> simp [toT] at h; (congr 1; omega)
  | .nat, y, h => by cases y <;> simp [toT] at h; rfl
  | .fn a b, y, h => by
    cases y <;> simp [toT] at h
    rw [toT_inj h.1, toT_inj h.2]
  | .all a, y, h => by
    cases y <;> simp [toT] at h
    rw [toT_inj h]
  | .fr n, y, h => by cases y <;> simp [toT] at h; (congr 1; omega)
  | .ho n, y, h => by cases y <;> simp [toT] at h; (congr 1; omega)
/-- a right type as a type at work -/
structure CT (n : Nat) (t : Ty) : Prop where
  c : lc n t
  f : allF (fun _ => False) t
  h : allH (fun _ => False) t
theorem CT.wf {t : Ty} (h : CT 0 t) (n : Nat) : WF n t := ⟨h.c, h.f.mono fun _ x => x.elim, h.h⟩
theorem rgt_ty : ∀ (t : T) {d : Int}, 0 ≤ d → rgt d t → ∃ x, toT x = t ∧ CT d.toNat x ∧ sz x = nds t ∧ (Md.plain t = true ↔ Ty.plain x)
  | .mk k num [], d, hd, h => by
    unfold rgt at h
    rcases h.1 with ⟨rfl, hn, _⟩ | ⟨rfl, rfl, _⟩ | ⟨_, _, h2⟩ | ⟨_, _, h2⟩
    · exact ⟨.var num.toNat, by show T.mk 1 ((num.toNat : Nat) : Int) [] = _; rw [Int.toNat_of_nonneg hn.1], ⟨by show num.toNat < d.toNat; omega, trivial, trivial⟩, rfl, ⟨fun _ => trivial, fun _ => rfl⟩⟩
    · exact ⟨.nat, rfl, ⟨trivial, trivial, trivial⟩, rfl, ⟨fun _ => trivial, fun _ => rfl⟩⟩
    · cases h2
    · cases h2
  | .mk k num [a], d, hd, h => by
    unfold rgt at h
    rcases h.1 with ⟨_, _, h2⟩ | ⟨_, _, h2⟩ | ⟨_, _, h2⟩ | ⟨rfl, rfl, _⟩
    · cases h2
    · cases h2
    · simp at h2
    · have h2 := h.2
      rw [if_pos rfl] at h2; unfold rgts at h2
      obtain ⟨x, h1, h3, h4, h5⟩ := rgt_ty a (by omega) h2.1
      refine ⟨.all x, by show T.mk 4 0 [toT x] = _; rw [h1], ⟨?_, h3.f, h3.h⟩, ?_, ⟨fun h => by simp [Md.plain] at h, fun h => h.elim⟩⟩
      · have := h3.c
        rw [show (d + 1).toNat = d.toNat + 1 by omega] at this; exact this
      · show sz x + 1 = _
        rw [h4]; rw [nds_mk, ndss_cons]; rfl
  | .mk k num [a, b], d, hd, h => by
    unfold rgt at h
    rcases h.1 with ⟨_, _, h2⟩ | ⟨_, _, h2⟩ | ⟨rfl, rfl, _⟩ | ⟨_, _, h2⟩
    · cases h2
    · cases h2
    · have h2 := h.2
      rw [if_neg (by decide)] at h2; unfold rgts at h2
      obtain ⟨ha, h2⟩ := h2
      unfold rgts at h2
      obtain ⟨x, h1, h3, h4, h5⟩ := rgt_ty a hd ha
      obtain ⟨y, g1, g3, g4, g5⟩ := rgt_ty b hd h2.1
      refine ⟨.fn x y, by show T.mk 3 0 [toT x, toT y] = _; rw [h1, g1], ⟨⟨h3.c, g3.c⟩, ⟨h3.f, g3.f⟩, ⟨h3.h, g3.h⟩⟩, ?_, ?_⟩
      · show sz x + sz y + 1 = _
        rw [h4, g4, nds_mk, ndss_cons, ndss_cons]; show _ = nds a + (nds b + 0) + 1; omega
      · show _ ↔ (Ty.plain x ∧ Ty.plain y)
        rw [← h5, ← g5]; simp [Md.plain, Md.plains]
    · simp at h2
  | .mk k num (_ :: _ :: _ :: _), d, hd, h => by
    unfold rgt at h
    rcases h.1 with ⟨_, _, h2⟩ | ⟨_, _, h2⟩ | ⟨_, _, h2⟩ | ⟨_, _, h2⟩ <;> simp at h2
theorem same_eq : ∀ {x y : Ty}, Md.same (toT x) (toT y) = decide (x = y) := by
  intro x
  induction x with
  | var n => intro y; cases y <;> simp [Md.same, Md.sames] <;> (rw [Bool.eq_iff_iff]; simp; omega)
  | nat => intro y; cases y <;> simp [toT, Md.same, Md.sames]
  | fn a b iha ihb => intro y; cases y <;> simp [toT, Md.same, Md.sames, iha, ihb]
  | all a iha => intro y; cases y <;> simp [toT, Md.same, Md.sames, iha]
  | fr n => intro y; cases y <;> simp [Md.same, Md.sames] <;> (rw [Bool.eq_iff_iff]; simp; omega)
  | ho n => intro y; cases y <;> simp [Md.same, Md.sames] <;> (rw [Bool.eq_iff_iff]; simp; omega)

/-- a type can be used as another one -/
def Use (a b : T) : Prop := ∃ x y, toT x = a ∧ toT y = b ∧ SubE 0 x y
noncomputable def usB (a b : T) : Bool := @decide (Use a b) (Classical.propDecidable _)
theorem usB_true {a b : T} : usB a b = true ↔ Use a b := by unfold usB; simp
def S0 : AS := ⟨[], [], [], [], []⟩
theorem S0_inv : Inv S0 := ⟨trivial, rfl, (fun p hp => by cases hp), (fun p hp => by cases hp), (fun h hh => by cases hh)⟩
theorem CT.gi {t : Ty} (h : CT 0 t) {κ : Nat} {S : AS} {θ : Nat → Ty} : gi κ S θ t = t := (h.wf 0).inst_id' fun i hi => absurd hi (Nat.not_lt_zero _)
theorem S0_mod (κ : Nat) (θ : Nat → Ty) : Mod κ S0 θ := ⟨fun h v hv => by simp [S0] at hv, fun p hp => by cases hp⟩
theorem nq_sz : ∀ (t : Ty), qw t ≤ sz t
  | .fn a b => by
    have h1 := nq_sz a
    have h2 := nq_sz b
    simp only [qw, sz]; split <;> omega
  | .all a => by have := nq_sz a; simp only [qw, sz]; omega
  | .var _ => Nat.zero_le _
  | .nat => Nat.zero_le _
  | .fr _ => Nat.zero_le _
  | .ho _ => Nat.zero_le _
end Go.Proofs.Ytjgnhhgigickaaa.Sv
