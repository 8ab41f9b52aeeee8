/- The texts W44 W45 K19 W46 M4 W40 W41 M6 M8 M9 W47 K16 K20 Read, joined by wip/tools/squeeze.py: contracts of the given program's functions and plain laws. Conditions: each theorem's own. -/
import Derived.Test.YtjgnhhgigickaaaC5
import Derived.Laws.Cells
import Derived.Test.YtjgnhhgigickaaaRows
import Derived.ProofKit
set_option linter.all false

/- Walks of the given program's functions: Clone of bytes, Of. Printed by tools/w44.py. Conditions: none. -/

namespace Go.Proofs.Ytjgnhhgigickaaa.Wk
open Go Md
set_option maxRecDepth 20000
set_option linter.unusedVariables false
set_option linter.unusedSimpArgs false
attribute [local irreducible] endQ

theorem ByS.src {G : GH} : ∀ {n b off : Nat}, ByS G (some ⟨b, off, none⟩) n → ∃ news : List Value, news.length = n ∧ (∀ (j : Nat) (u : Value), news[j]? = some u → GC G ⟨b, off + j, none⟩ u) ∧ (news.all (·.oneCell')) = true ∧ ∀ (j : Nat) (x : Value), news[j]? = some x → ∃ u, x = .int .u8 u
 | 0, _, _, _ => ⟨[], rfl, (fun j u h => by simp at h), rfl, (fun j u h => by simp at h)⟩
 | n + 1, b, off, h => by
  obtain ⟨b', off', u, he, hu⟩ := h 0 (Nat.succ_pos _)
  cases he
  obtain ⟨news, hl, hj, ho, hx⟩ := ByS.src (n := n) (b := b) (off := off + 1) (fun i hi => by
   obtain ⟨b', off', u, he, hu⟩ := h (i + 1) (by omega)
   cases he
   exact ⟨b, off + 1, u, rfl, by rw [show off + 1 + i = off + (i + 1) by omega]; exact hu⟩)
  refine ⟨.int .u8 u :: news, by simp [hl], fun j v hv => ?_, by simp only [List.all_cons, ho]; rfl, fun j v hv => ?_⟩
  ·cases j with
   | zero => simp at hv; subst hv; exact hu
   | succ j => rw [show off + (j + 1) = off + 1 + j by omega]; exact hj j v (by simpa using hv)
  ·cases j with
   | zero => simp at hv; exact ⟨u, hv.symm⟩
   | succ j => exact hx j v (by simpa using hv)

theorem c62 {G : GH} {L : LH} {w : World} {A : Option Addr} {n c : Nat} (hB : ByS G A n) (hl : n < lim) (hst : St G L w) : Cal Try.prog 62 #[.slice A n c] w fun x w' => ∃ G' A' c', Le G G' ∧ x = .slice A' n c' ∧ ByS G' A' n ∧ St G' L w' := by
 have hlim : lim = 1099511627776 := rfl
 obtain _ | n := n
 ·obtain _ | a := A
  ·skip
   refine cal_of_W Try.func62 rfl (Nat.le_of_ble_eq_true (by kernel_rfl)) ?_
   refine W_seq ?_
   refine W_rg [(.p, 0)] hst ?_
   refine r_en [] [] [(2, .slice none 0 0)] rc_nil ?_
   refine W_seq ?_
   refine W_seq ?_
   refine W_rg [(.p, 0), (.p, 1)] hst ?_
   refine r_en [] [] [(3, .slice none 0 c), (4, .bool true)] rc_nil ?_
   refine W_cT ?_
   refine W_seq ?_
   refine W_rg [(.p, 0)] hst ?_
   refine r_en [] [] [(2, .slice none 0 0)] rc_nil ?_
   refine W_ret ?_
   refine q_rt [] [] (.slice none 0 0) rc_nil hst ?_
   exact ⟨G, _, _, Le.refl _, rfl, (fun i hi => absurd hi (Nat.not_lt_zero _)), hst⟩
  ·skip
   refine cal_of_W Try.func62 rfl (Nat.le_of_ble_eq_true (by kernel_rfl)) ?_
   refine W_seq ?_
   refine W_rg [(.p, 0)] hst ?_
   refine r_en [] [] [(2, .slice none 0 0)] rc_nil ?_
   refine W_seq ?_
   refine W_seq ?_
   refine W_rg [(.p, 0), (.p, 1)] hst ?_
   refine r_en [] [] [(3, .slice ((some a)) 0 c), (4, .bool false)] rc_nil ?_
   refine W_cF ?_
   refine W_skip ?_
   refine W_seq ?_
   refine W_rg [(.f, 0), (.p, 1), (.f, 2), (.p, 3)] hst ?_
   refine m_new (.cells #[] 5) (fun b1 => .slice (some ⟨b1, 0, none⟩) 0 0) (some 5) (fun b => by kernel_rfl) hst (fun b1 w1 hst => ?_)
   refine r_sg [(.p, 1)] [] [] [(6, .slice ((some a)) 0 c)] rc_nil ?_
   refine m_pv (.slice (some ⟨b1, 0, none⟩) 0 0) (some 7) (by kernel_rfl) hst ?_
   refine r_en [] [] [(2, .slice (some ⟨b1, 0, none⟩) 0 0)] rc_nil ?_
   refine W_ret ?_
   refine q_rt [] [] (.slice (some ⟨b1, 0, none⟩) 0 0) rc_nil hst ?_
   exact ⟨G, _, _, Le.refl _, rfl, (fun i hi => absurd hi (Nat.not_lt_zero _)), hst.drop [_]⟩
 ·skip
  have hstk := hst
  obtain ⟨eb, eo, _, rfl, _⟩ := hB 0 (Nat.succ_pos _)
  have hst := hstk; clear hstk
  obtain ⟨news, hnl, hnj, hno, hnx⟩ := ByS.src hB
  refine cal_of_W Try.func62 rfl (Nat.le_of_ble_eq_true (by kernel_rfl)) ?_
  refine W_seq ?_
  refine W_rg [(.p, 0)] hst ?_
  refine r_en [] [] [(2, .slice none 0 0)] rc_nil ?_
  refine W_seq ?_
  refine W_seq ?_
  refine W_rg [(.p, 0), (.p, 1)] hst ?_
  refine r_en [] [] [(3, .slice (some ⟨eb, eo, none⟩) ((n + 1)) c), (4, .bool false)] rc_nil ?_
  refine W_cF ?_
  refine W_skip ?_
  refine W_seq ?_
  refine W_rg [(.f, 0), (.p, 1), (.f, 2), (.p, 3)] hst ?_
  refine m_new (.cells #[] 5) (fun b1 => .slice (some ⟨b1, 0, none⟩) 0 0) (some 5) (fun b => by kernel_rfl) hst (fun b1 w1 hst => ?_)
  refine r_sg [(.p, 1)] [] [] [(6, .slice (some ⟨eb, eo, none⟩) ((n + 1)) c)] rc_nil ?_
  refine m_append (v := .slice (some ⟨b1, 0, none⟩) 0 0) (sb := eb) (so := eo) (m := n + 1) (mc := c) el35 [] (Lp := [(b1, .cells (List.toArray []) 5 (0, 0))]) (B := L) (n := 0) (cs := []) news (d := (some 7)) (show opAt _ _ _ = some (.call { callee := .builtin .append, args := #[(.tmp 5), (.tmp 6)], argTypes := #[35, 35] }, _) by kernel_rfl) (by kernel_rfl) (by kernel_rfl) ⟨rfl, .inr ⟨b1, 0, [], rfl, rfl, Nat.le_refl _, rfl, rfl⟩⟩ hst (by omega) (fun j u hu => (hnj j u hu).cell hst.imm) hno (Nat.succ_pos _) (by omega) (by omega) (fun v2 Lp2 w1 hos hst => ?_)
  obtain ⟨hcl, ⟨_, h0, _⟩ | ⟨nb, nc, arr, rfl, rfl, hnc, harr, htk⟩⟩ := hos
  ·simp at h0
  refine r_en [] [] [(2, .slice (some ⟨nb, 0, none⟩) (0 + (n + 1)) nc)] rc_nil ?_
  refine W_ret ?_
  refine q_rt [] [] (.slice (some ⟨nb, 0, none⟩) (0 + (n + 1)) nc) rc_nil hst ?_
  obtain ⟨G2, hG2, hF2, hst⟩ := St.freeze [(nb, .cells (List.toArray arr) 5 (0, 0))] hst
  have hf := hF2 _ (.head _)
  refine ⟨G2, some ⟨nb, 0, none⟩, nc, hG2, by rw [Nat.zero_add], fun i hi => ?_, hst⟩
  have hi2 : i < news.length := by omega
  obtain ⟨x, hx⟩ := get_of_lt hi2
  obtain ⟨u, rfl⟩ := hnx i x hx
  refine ⟨nb, 0, u, rfl, GC.of hf ?_⟩
  rw [List.nil_append] at htk; rw [← htk, List.getElem?_take] at hx; rw [Nat.zero_add]; split at hx
  ·simpa using hx
  ·cases hx

theorem c20 {G : GH} {L : LH} {w : World} {A : Option Addr} {n c : Nat} (hB : ByS G A n) (hc : n ≤ c) (hst : St G L w) : Cal Try.prog 20 #[.slice A n c] w fun x w' => ∃ G' sb A' n' c', Le G G' ∧ x = .pointer (some ⟨sb, 0, none⟩) ∧ ByS G' A' n' ∧ n' < lim ∧ St G' ((sb, StB A' n' c' 0 88172645463325252) :: L) w' := by
 have hlim : lim = 1099511627776 := rfl
 refine cal_of_W Try.func20 rfl (Nat.le_of_ble_eq_true (by kernel_rfl)) ?_
 refine W_seq ?_
 refine W_rg [(.p, 0)] hst ?_
 refine r_en [] [] [(2, .pointer none)] rc_nil ?_
 refine W_seq ?_
 refine W_rg [(.p, 0), (.p, 1), (.p, 2), (.p, 3), (.p, 4), (.f, 5), (.p, 6), (.f, 7), (.p, 8)] hst ?_
 refine r_sg [(.p, 0), (.p, 1), (.p, 2), (.p, 3)] [] [] [(3, .slice A n c), (4, .slice A n c), (5, iN (((n : Nat) : Int))), (6, iN (if (300 : Int) < (((n : Nat) : Int)) then 300 else ((n : Nat) : Int)))] rc_nil ?_
 have hmin : (if (300 : Int) < (((n : Nat) : Int)) then 300 else ((n : Nat) : Int)) = ((min n 300 : Nat) : Int) := by split <;> omega
 refine m_sliceTo (n := n) (c := c) (A := A) (hi := min n 300) (some 7) (show opAt _ _ _ = some (.slice 35 (.tmp 3) none (some (.tmp 6)) none, _) by kernel_rfl) (by kernel_rfl) (by rw [← hmin]; kernel_rfl) Try.underlying35 (by kernel_rfl) (by omega) ?_
 refine m_cl #[.slice A ((min n 300)) c] (some 8) (c62 (n := min n 300) (fun i hi => hB i (by omega)) (by omega) hst) ?_
 rintro _ w1 ⟨G1, A1, c1, hG1, rfl, hB1, hst⟩
 refine nx hst ?_
 refine r_sg [(.p, 6)] [] [] [(9, .agg #[.slice A1 ((min n 300)) c1, iN 0, .int .u64 88172645463325252])] rc_nil ?_
 refine m_new (.cells #[.slice A1 ((min n 300)) c1, iN 0, .int .u64 88172645463325252] 96) (fun b1 => pN b1 0) (some 10) (fun b => by kernel_rfl) hst (fun b1 w1 hst => ?_)
 refine r_en [] [] [(2, pN b1 0)] rc_nil ?_
 refine W_ret ?_
 refine q_rt [] [] (pN b1 0) rc_nil hst ?_
 exact ⟨G1, _, A1, _, c1, hG1, rfl, hB1, by omega, hst⟩

end Go.Proofs.Ytjgnhhgigickaaa.Wk
/- Walks of the given program's functions: made, Made. Printed by tools/w45.py. Conditions: none. -/

namespace Go.Proofs.Ytjgnhhgigickaaa.Wk
open Go Md
set_option maxRecDepth 20000
set_option linter.unusedVariables false
set_option linter.unusedSimpArgs false
attribute [local irreducible] endQ

mutual
/-- a right type within so many quantifiers, of whatever size -/
def rgt : Int → T → Prop
 | d, .mk k num ks => (k = 1 ∧ (0 ≤ num ∧ num < d) ∧ ks.length = 0 ∨ k = 2 ∧ num = 0 ∧ ks.length = 0 ∨ k = 3 ∧ num = 0 ∧ ks.length = 2 ∨ k = 4 ∧ num = 0 ∧ ks.length = 1) ∧ rgts (if k = 4 then d + 1 else d) ks
def rgts : Int → List T → Prop
 | _, [] => True
 | d, t :: ts => rgt d t ∧ rgts d ts
end
theorem rgt_nt {d : Int} : rgt d nt := by unfold nt rgt; exact ⟨.inr (.inl ⟨rfl, rfl, rfl⟩), by unfold rgts; trivial⟩
theorem rgt_vr {d n : Int} (h : 0 ≤ n ∧ n < d) : rgt d (vr n) := by unfold vr rgt; exact ⟨.inl ⟨rfl, h, rfl⟩, by unfold rgts; trivial⟩
theorem rgt_fn {d : Int} {a b : T} (ha : rgt d a) (hb : rgt d b) : rgt d (fn a b) := by
 unfold fn rgt
 refine ⟨.inr (.inr (.inl ⟨rfl, rfl, rfl⟩)), ?_⟩
 rw [if_neg (by decide)]; unfold rgts; exact ⟨ha, by unfold rgts; exact ⟨hb, by unfold rgts; trivial⟩⟩
theorem rgt_al {d : Int} {a : T} (ha : rgt (d + 1) a) : rgt d (al a) := by
 unfold al rgt
 refine ⟨.inr (.inr (.inr ⟨rfl, rfl, rfl⟩)), ?_⟩
 rw [if_pos rfl]; unfold rgts; exact ⟨ha, by unfold rgts; trivial⟩
theorem nds_nt : nds nt = 1 := rfl
theorem nds_vr (n : Int) : nds (vr n) = 1 := rfl
theorem nds_fn (a b : T) : nds (fn a b) = nds a + nds b + 1 := by unfold fn; rw [nds_mk, ndss_cons, ndss_cons]; rfl
theorem nds_al (a : T) : nds (al a) = nds a + 1 := by unfold al; rw [nds_mk, ndss_cons]; rfl
theorem plain_fn (a b : T) : plain (fn a b) = (plain a && plain b) := by show (decide ((3 : Int) ≠ 4) && (plain a && (plain b && true))) = _; simp
def MD (G : GH) (L : LH) (sb lb : Nat) (A : Option Addr) (n c at_ : Nat) (wi l : Int) (pl : Bool) (x : Value) (w' : World) : Prop :=
 ∃ G' t at' sd', Le G G' ∧ IsPoly G' x t ∧ rgt wi t ∧ (nds t : Int) ≤ l ∧ (pl = true → plain t = true) ∧ at' ≤ at_ + 2 * nds t ∧ St G' ((lb, .cells #[.int .i64 (l - (nds t : Int))] 3) :: (sb, StB A n c at' sd') :: L) w'

theorem c61 : ∀ (N : Nat) {G : GH} {L : LH} {w : World} {sb lb n c at_ : Nat} {A : Option Addr} {sd wi l : Int} {pl : Bool}, l ≤ (N : Int) → 1 ≤ l → l ≤ 1000 → 0 ≤ wi → wi + l ≤ 2000 → (at_ : Int) + 2 * l ≤ 5000 → ByS G A n → n < lim → St G ((lb, .cells #[.int .i64 l] 3) :: (sb, StB A n c at_ sd) :: L) w →
  Cal Try.prog 61 #[.pointer (some ⟨sb, 0, none⟩), .pointer (some ⟨lb, 0, none⟩), .int .i64 wi, .bool pl] w (MD G L sb lb A n c at_ wi l pl) := by
 intro N
 induction N with
 | zero => intro G L w sb lb n c at_ A sd wi l pl h1 h2; omega
 | succ N ih =>
 intro G L w sb lb n c at_ A sd wi l pl hN hl1 hl2 hwi hwl hat hB hn hst
 have hlim : lim = 1099511627776 := rfl
 have hm1 : IntKind.wrap .i64 (l - 1) = l - 1 := wrap_id (by omega) (by omega)
 have hm2 : IntKind.wrap .i64 (l - 1 - 1) = l - 2 := by rw [wrap_id] <;> omega
 refine cal_of_W Try.func61 rfl (Nat.le_of_ble_eq_true (by kernel_rfl)) ?_
 refine W_seq ?_
 refine W_rg [(.f, 0)] hst ?_
 refine m_new (.cells #[iN 0, iN 0, .slice none 0 0] 24) (fun b1 => pN b1 0) (some 8) (fun b => by kernel_rfl) hst (fun b1 w1 hst => ?_)
 refine r_nil ?_
 refine W_seq ?_
 refine W_rg [(.p, 0), (.p, 1), (.l, 2), (.p, 3), (.p, 4), (.f, 5)] hst ?_
 refine r_sg [(.p, 0), (.p, 1), (.l, 2), (.p, 3), (.p, 4)] [[iN l]] [(⟨lb, 0, none⟩, iN l)] [(11, pN lb 0), (12, pN lb 0), (13, iN l), (14, iN (IntKind.wrap .i64 (l - 1))), (15, pN lb 0)] (rc_L 1 rfl rfl rc_nil) ?_
 refine m_st ((b1, .cells #[iN 0, iN 0, .slice none 0 0] 24) :: (lb, .cells #[iN (IntKind.wrap .i64 (l - 1))] 3) :: (sb, .cells #[.slice A n c, iN (((at_ : Nat) : Int)), .int .u64 sd] 96) :: L) 1 [(0, iN (IntKind.wrap .i64 (l - 1)))] [iN (IntKind.wrap .i64 (l - 1))] none hst (fun w1 hst => ?_)
 refine r_nil ?_
 refine W_seq ?_
 rw [hm1] at hst
 refine W_rg [(.p, 0), (.f, 1), (.p, 2)] hst ?_
 refine r_sg [(.p, 0)] [] [] [(16, pN sb 0)] rc_nil ?_
 have hst := St.swap (A := [(b1, .cells #[iN 0, iN 0, .slice none 0 0] 24), (lb, .cells #[iN (l - 1)] 3)]) (B := [(sb, .cells #[.slice A n c, iN (((at_ : Nat) : Int)), .int .u64 sd] 96)]) (C := L) hst
 refine m_cl #[pN sb 0, iN 6] (some 17) (c32 hB hn (by omega) hst) ?_
 rintro _ w1 ⟨k1, ak1, sk1, rfl, hk1a, hk1b, hk1t, hst⟩
 have hst := St.swap (A := [(sb, .cells #[.slice A n c, iN (((ak1 : Nat) : Int)), .int .u64 sk1] 96)]) (B := [(b1, .cells #[iN 0, iN 0, .slice none 0 0] 24), (lb, .cells #[iN (l - 1)] 3)]) (C := L) hst
 have hst : St G ((b1, .cells #[iN 0, iN 0, .slice none 0 0] 24) :: (lb, .cells #[iN (l - 1)] 3) :: (sb, .cells #[.slice A n c, iN (((ak1 : Nat) : Int)), .int .u64 sk1] 96) :: L) w1 := hst
 refine nx hst ?_
 refine r_en [] [] [(9, iN k1)] rc_nil ?_
 refine W_seq ?_
 refine W_block ?_
 refine W_seq ?_
 refine W_rg [(.p, 0), (.p, 1), (.l, 2), (.p, 3), (.p, 4), (.p, 5), (.p, 6), (.p, 7), (.p, 8)] hst ?_
 refine r_sg [(.p, 0), (.p, 1), (.l, 2), (.p, 3), (.p, 4)] [[iN (l - 1)]] [(⟨lb, 0, none⟩, iN (l - 1))] [(19, pN lb 0), (20, pN lb 0), (21, iN (l - 1)), (22, .bool (decide ((l - 1) ≥ 2))), (23, .bool (decide ((l - 1) ≥ 2)))] (rc_L 1 rfl rfl rc_nil) ?_
 rcases Bool.eq_false_or_eq_true (decide ((l - 1) ≥ 2)) with hc2 | hc2
 ·rw [hc2]
  have hp3 := hc2
  simp only [decide_eq_true_eq, decide_eq_false_iff_not, beq_iff_eq, beq_eq_false_iff_ne, bne_iff_ne, bne_eq_false_iff_eq, Bool.not_eq_true', Bool.not_eq_false', Bool.and_eq_true, Bool.and_eq_false_iff, ne_eq] at hp3
  refine r_en [] [] [(24, iN k1), (25, .bool (decide (k1 < 3))), (26, .bool (decide (k1 < 3))), (18, .bool (decide (k1 < 3)))] rc_nil ?_
  refine W_cd (b := decide (k1 < 3)) (fun hc4 => ?_) (fun hc4 => ?_)
  ·skip
   have hp5 := hc4
   simp only [decide_eq_true_eq, decide_eq_false_iff_not, beq_iff_eq, beq_eq_false_iff_ne, bne_iff_ne, bne_eq_false_iff_eq, Bool.not_eq_true', Bool.not_eq_false', Bool.and_eq_true, Bool.and_eq_false_iff, ne_eq] at hp5
   refine W_seq ?_
   refine W_rg [(.p, 0), (.p, 1), (.l, 2), (.p, 3), (.p, 4), (.f, 5)] hst ?_
   refine r_sg [(.p, 0), (.p, 1), (.l, 2), (.p, 3), (.p, 4)] [[iN (l - 1)]] [(⟨lb, 0, none⟩, iN (l - 1))] [(27, pN lb 0), (28, pN lb 0), (29, iN (l - 1)), (30, iN (IntKind.wrap .i64 ((l - 1) - 1))), (31, pN lb 0)] (rc_L 1 rfl rfl rc_nil) ?_
   refine m_st ((b1, .cells #[iN 0, iN 0, .slice none 0 0] 24) :: (lb, .cells #[iN (IntKind.wrap .i64 ((l - 1) - 1))] 3) :: (sb, .cells #[.slice A n c, iN (((ak1 : Nat) : Int)), .int .u64 sk1] 96) :: L) 1 [(0, iN (IntKind.wrap .i64 ((l - 1) - 1)))] [iN (IntKind.wrap .i64 ((l - 1) - 1))] none hst (fun w1 hst => ?_)
   refine r_nil ?_
   refine W_seqI (fun ρ D w => ∃ (GJ : GH) (ta : T) (aj : Nat) (sj : Int) (pA : Option Addr) (qA : Nat) (b10 : Nat), EqS ρ [(0, pN sb 0), (1, pN lb 0), (2, iN wi), (3, .bool pl), (8, pN b1 0), (10, pN b10 0)] ∧ D = [] ∧ St GJ ((b10, .cells #[iN ta.kind, iN ta.num, .slice pA ta.kids.length qA] 24) :: (b1, .cells #[iN 0, iN 0, .slice none 0 0] 24) :: (lb, .cells #[iN (l - 2 - (nds ta : Int))] 3) :: (sb, .cells #[.slice A n c, iN (((aj : Nat) : Int)), .int .u64 sj] 96) :: L) w ∧ (Le G GJ) ∧ (IsPoly GJ (.agg #[iN ta.kind, iN ta.num, .slice pA ta.kids.length qA]) ta) ∧ (rgt wi ta) ∧ ((nds ta : Int) ≤ l - 2) ∧ (pl = true → plain ta = true) ∧ (aj ≤ at_ + 1 + 2 * nds ta)) ?_ ?_
   ·skip
    rw [hm2] at hst
    refine W_rg [(.p, 0), (.p, 1), (.p, 2), (.p, 3), (.f, 4), (.f, 5), (.f, 6)] hst ?_
    refine r_sg [(.p, 0), (.p, 1), (.p, 2), (.p, 3)] [] [] [(32, pN sb 0), (33, pN lb 0), (34, iN wi), (35, .bool pl)] rc_nil ?_
    have hst := St.swap (A := [(b1, .cells #[iN 0, iN 0, .slice none 0 0] 24)]) (B := [(lb, .cells #[iN (l - 2)] 3), (sb, .cells #[.slice A n c, iN (((ak1 : Nat) : Int)), .int .u64 sk1] 96)]) (C := L) hst
    refine m_cl #[pN sb 0, pN lb 0, iN wi, .bool pl] (some 36) (ih (l := l - 2) (wi := wi) (by omega) (by omega) (by omega) (by omega) (by omega) (by omega) hB hn hst) ?_
    rintro x1 w1 ⟨G1, t1, at1, sd1, hG1, hx1, hr1, hd1, hp1, ha1, hst⟩
    obtain ⟨xA1, xc1, rfl, _, _⟩ := id hx1.open
    have hst := St.swap (A := [(lb, .cells #[iN (l - 2 - (nds t1 : Int))] 3), (sb, .cells #[.slice A n c, iN (((at1 : Nat) : Int)), .int .u64 sd1] 96)]) (B := [(b1, .cells #[iN 0, iN 0, .slice none 0 0] 24)]) (C := L) hst
    have hst : St G1 ((b1, .cells #[iN 0, iN 0, .slice none 0 0] 24) :: (lb, .cells #[iN (l - 2 - (nds t1 : Int))] 3) :: (sb, .cells #[.slice A n c, iN (((at1 : Nat) : Int)), .int .u64 sd1] 96) :: L) w1 := hst
    refine nx hst ?_
    refine m_new (.cells #[iN 0, iN 0, .slice none 0 0] 24) (fun b6 => pN b6 0) (some 10) (fun b => by kernel_rfl) hst (fun b6 w1 hst => ?_)
    refine m_st ((b6, .cells #[iN t1.kind, iN t1.num, .slice xA1 t1.kids.length xc1] 24) :: (b1, .cells #[iN 0, iN 0, .slice none 0 0] 24) :: (lb, .cells #[iN (l - 2 - (nds t1 : Int))] 3) :: (sb, .cells #[.slice A n c, iN (((at1 : Nat) : Int)), .int .u64 sd1] 96) :: L) 0 [(0, iN t1.kind), (1, iN t1.num), (2, .slice xA1 t1.kids.length xc1)] [iN t1.kind, iN t1.num, .slice xA1 t1.kids.length xc1] none hst (fun w1 hst => ?_)
    refine r_nil ?_
    exact ⟨G1, t1, at1, sd1, xA1, xc1, b6, ⟨by kernel_rfl, by kernel_rfl, by kernel_rfl, by kernel_rfl, by kernel_rfl, by kernel_rfl, trivial⟩, rfl, hst, hG1, (hx1), hr1, hd1, hp1, by omega⟩
   clear hst; rintro ρ D w1 ⟨GJ, ta, aj, sj, pA, qA, b10, hE7, rfl, hst, hGJ, hta, hra, hda, hpa, haj⟩
   refine W_env hE7 ?_
   refine W_seq ?_
   refine W_rg [(.p, 0), (.p, 1), (.l, 2), (.p, 3), (.p, 4), (.f, 5)] hst ?_
   refine r_sg [(.p, 0), (.p, 1), (.l, 2), (.p, 3), (.p, 4)] [[iN (l - 2 - (nds ta : Int))]] [(⟨lb, 0, none⟩, iN (l - 2 - (nds ta : Int)))] [(37, pN lb 0), (38, pN lb 0), (39, iN (l - 2 - (nds ta : Int))), (40, iN (IntKind.wrap .i64 ((l - 2 - (nds ta : Int)) + 1))), (41, pN lb 0)] (rc_L 2 rfl rfl rc_nil) ?_
   refine m_st ((b10, .cells #[iN ta.kind, iN ta.num, .slice pA ta.kids.length qA] 24) :: (b1, .cells #[iN 0, iN 0, .slice none 0 0] 24) :: (lb, .cells #[iN (IntKind.wrap .i64 ((l - 2 - (nds ta : Int)) + 1))] 3) :: (sb, .cells #[.slice A n c, iN (((aj : Nat) : Int)), .int .u64 sj] 96) :: L) 2 [(0, iN (IntKind.wrap .i64 ((l - 2 - (nds ta : Int)) + 1)))] [iN (IntKind.wrap .i64 ((l - 2 - (nds ta : Int)) + 1))] none hst (fun w1 hst => ?_)
   refine r_nil ?_
   refine W_seq ?_
   have hm3 : IntKind.wrap .i64 (l - 2 - (nds ta : Int) + 1) = l - 1 - (nds ta : Int) := by rw [wrap_id] <;> omega
   rw [hm3] at hst
   refine W_regd [(.l, 0), (.p, 1), (.p, 2), (.p, 3), (.p, 4), (.e, 5), (.f, 6), (.f, 7)] (SS GJ ([(b10, .cells #[iN ta.kind, iN ta.num, .slice pA ta.kids.length qA] 24)])) mixed (by kernel_rfl) (by kernel_rfl) (by kernel_rfl) (by kernel_rfl) (fun w1 hw1 => ?_)
   have hst := hst.heap hw1; refine ⟨hst.ss' (Le.refl _) (fun p hp => by rw [List.mem_singleton.1 hp]; simp), ?_⟩
   refine r_sg [(.l, 0), (.p, 1), (.p, 2), (.p, 3), (.p, 4)] [[iN ta.kind, iN ta.num, .slice pA ta.kids.length qA]] [(⟨b10, 0, none⟩, iN ta.kind), (⟨b10, 1, none⟩, iN ta.num), (⟨b10, 2, none⟩, .slice pA ta.kids.length qA)] [(42, .agg #[iN ta.kind, iN ta.num, .slice pA ta.kids.length qA]), (43, pN sb 0), (44, pN lb 0), (45, iN wi), (46, .bool pl)] (rc_L 0 rfl rfl (rc_L 0 rfl rfl (rc_L 0 rfl rfl rc_nil))) ?_
   have hst := St.swap (A := [(b10, .cells #[iN ta.kind, iN ta.num, .slice pA ta.kids.length qA] 24), (b1, .cells #[iN 0, iN 0, .slice none 0 0] 24)]) (B := [(lb, .cells #[iN (l - 1 - (nds ta : Int))] 3), (sb, .cells #[.slice A n c, iN (((aj : Nat) : Int)), .int .u64 sj] 96)]) (C := L) hst
   refine m_callE #[pN sb 0, pN lb 0, iN wi, .bool pl] (some 47) (by kernel_rfl) (ih (l := l - 1 - (nds ta : Int)) (wi := wi) (by omega) (by omega) (by omega) (by omega) (by omega) (by omega) (hB.mono (hGJ)) hn hst) ?_
   rintro x2 w1 ⟨G2, t2, at2, sd2, hG2, hx2, hr2, hd2, hp2, ha2, hst⟩
   obtain ⟨xA2, xc2, rfl, _, _⟩ := id hx2.open
   have hst := St.swap (A := [(lb, .cells #[iN (l - 1 - (nds ta : Int) - (nds t2 : Int))] 3), (sb, .cells #[.slice A n c, iN (((at2 : Nat) : Int)), .int .u64 sd2] 96)]) (B := [(b10, .cells #[iN ta.kind, iN ta.num, .slice pA ta.kids.length qA] 24), (b1, .cells #[iN 0, iN 0, .slice none 0 0] 24)]) (C := L) hst
   have hst : St G2 ((b10, .cells #[iN ta.kind, iN ta.num, .slice pA ta.kids.length qA] 24) :: (b1, .cells #[iN 0, iN 0, .slice none 0 0] 24) :: (lb, .cells #[iN (l - 1 - (nds ta : Int) - (nds t2 : Int))] 3) :: (sb, .cells #[.slice A n c, iN (((at2 : Nat) : Int)), .int .u64 sd2] 96) :: L) w1 := hst
   refine ⟨hst.ss' ((Le.refl _).trans hG2) (fun p hp => by rw [List.mem_singleton.1 hp]; simp), ?_⟩
   refine m_cl #[.agg #[iN ta.kind, iN ta.num, .slice pA ta.kids.length qA], .agg #[iN t2.kind, iN t2.num, .slice xA2 t2.kids.length xc2]] (some 48) (c26 ((hta).mono (hG2)) (hx2) hst) ?_
   rintro x3 w1 ⟨G3, hG3, hx3, hst⟩
   obtain ⟨xA3, xc3, rfl, _, _⟩ := id hx3.open
   refine nx hst ?_
   refine m_st ((b10, .cells #[iN ta.kind, iN ta.num, .slice pA ta.kids.length qA] 24) :: (b1, .cells #[iN ((fn ta t2).kind), iN ((fn ta t2).num), .slice xA3 ((fn ta t2).kids.length) xc3] 24) :: (lb, .cells #[iN (l - 1 - (nds ta : Int) - (nds t2 : Int))] 3) :: (sb, .cells #[.slice A n c, iN (((at2 : Nat) : Int)), .int .u64 sd2] 96) :: L) 1 [(0, iN ((fn ta t2).kind)), (1, iN ((fn ta t2).num)), (2, .slice xA3 ((fn ta t2).kids.length) xc3)] [iN ((fn ta t2).kind), iN ((fn ta t2).num), .slice xA3 ((fn ta t2).kids.length) xc3] none hst (fun w1 hst => ?_)
   refine r_nil ?_
   refine W_ret ?_
   refine q_rt [iN ((fn ta t2).kind), iN ((fn ta t2).num), .slice xA3 ((fn ta t2).kids.length) xc3] [(⟨b1, 0, none⟩, iN ((fn ta t2).kind)), (⟨b1, 1, none⟩, iN ((fn ta t2).num)), (⟨b1, 2, none⟩, .slice xA3 ((fn ta t2).kids.length) xc3)] (.agg #[iN ((fn ta t2).kind), iN ((fn ta t2).num), .slice xA3 ((fn ta t2).kids.length) xc3]) (rc_L 1 rfl rfl (rc_L 1 rfl rfl (rc_L 1 rfl rfl rc_nil))) hst ?_
   have hnd := nds_fn ta t2
   have hlv : l - 1 - (nds ta : Int) - (nds t2 : Int) = l - (nds (fn ta t2) : Int) := by rw [hnd]; omega
   rw [hlv] at hst
   exact ⟨G3, fn ta t2, at2, _, ((hGJ).trans hG2).trans hG3, (hx3), rgt_fn hra hr2, by rw [hnd]; omega, (fun h => by rw [plain_fn, hpa h, hp2 h]; rfl), by rw [hnd]; omega, hst.drop [_, _]⟩
  ·skip
   have hp8 := hc4
   simp only [decide_eq_true_eq, decide_eq_false_iff_not, beq_iff_eq, beq_eq_false_iff_ne, bne_iff_ne, bne_eq_false_iff_eq, Bool.not_eq_true', Bool.not_eq_false', Bool.and_eq_true, Bool.and_eq_false_iff, ne_eq] at hp8
   refine W_seq ?_
   refine W_rg [(.p, 0), (.p, 1), (.l, 2), (.p, 3), (.p, 4), (.p, 5), (.p, 6), (.p, 7), (.p, 8), (.p, 9), (.p, 10), (.p, 11), (.p, 12)] hst ?_
   refine r_sg [(.p, 0), (.p, 1), (.l, 2), (.p, 3), (.p, 4)] [[iN (l - 1)]] [(⟨lb, 0, none⟩, iN (l - 1))] [(50, pN lb 0), (51, pN lb 0), (52, iN (l - 1)), (53, .bool (decide ((l - 1) ≥ 1))), (54, .bool (decide ((l - 1) ≥ 1)))] (rc_L 1 rfl rfl rc_nil) ?_
   rcases Bool.eq_false_or_eq_true (decide ((l - 1) ≥ 1)) with hc9 | hc9
   ·rw [hc9]
    have hp10 := hc9
    simp only [decide_eq_true_eq, decide_eq_false_iff_not, beq_iff_eq, beq_eq_false_iff_ne, bne_iff_ne, bne_eq_false_iff_eq, Bool.not_eq_true', Bool.not_eq_false', Bool.and_eq_true, Bool.and_eq_false_iff, ne_eq] at hp10
    refine r_sg [(.p, 5), (.p, 6), (.p, 7), (.p, 8)] [] [] [(55, iN k1), (56, .bool (k1 == 3)), (57, .bool (k1 == 3)), (58, .bool (k1 == 3))] rc_nil ?_
    rcases Bool.eq_false_or_eq_true (k1 == 3) with hc11 | hc11
    ·rw [hc11]
     have hp12 := hc11
     simp only [decide_eq_true_eq, decide_eq_false_iff_not, beq_iff_eq, beq_eq_false_iff_ne, bne_iff_ne, bne_eq_false_iff_eq, Bool.not_eq_true', Bool.not_eq_false', Bool.and_eq_true, Bool.and_eq_false_iff, ne_eq] at hp12
     refine r_en [] [] [(59, .bool pl), (60, .bool (!pl)), (61, .bool (!pl)), (49, .bool (!pl))] rc_nil ?_
     refine W_cd (b := !pl) (fun hc13 => ?_) (fun hc13 => ?_)
     ·skip
      have hpl : pl = false := by simpa using hc13
      refine W_seq ?_
      refine W_rg [(.p, 0), (.p, 1), (.p, 2), (.p, 3), (.p, 4), (.f, 5), (.f, 6), (.f, 7)] hst ?_
      refine r_sg [(.p, 0), (.p, 1), (.p, 2), (.p, 3), (.p, 4)] [] [] [(62, pN sb 0), (63, pN lb 0), (64, iN wi), (65, iN (IntKind.wrap .i64 (wi + 1))), (66, .bool pl)] rc_nil ?_
      have hst := St.swap (A := [(b1, .cells #[iN 0, iN 0, .slice none 0 0] 24)]) (B := [(lb, .cells #[iN (l - 1)] 3), (sb, .cells #[.slice A n c, iN (((ak1 : Nat) : Int)), .int .u64 sk1] 96)]) (C := L) hst
      have hw1 : IntKind.wrap .i64 (wi + 1) = wi + 1 := wrap_id (by omega) (by omega)
      rw [hw1]
      refine m_cl #[pN sb 0, pN lb 0, iN (wi + 1), .bool pl] (some 67) (ih (l := l - 1) (wi := wi + 1) (by omega) (by omega) (by omega) (by omega) (by omega) (by omega) hB hn hst) ?_
      rintro x4 w1 ⟨G4, t4, at4, sd4, hG4, hx4, hr4, hd4, hp4, ha4, hst⟩
      obtain ⟨xA4, xc4, rfl, _, _⟩ := id hx4.open
      have hst := St.swap (A := [(lb, .cells #[iN (l - 1 - (nds t4 : Int))] 3), (sb, .cells #[.slice A n c, iN (((at4 : Nat) : Int)), .int .u64 sd4] 96)]) (B := [(b1, .cells #[iN 0, iN 0, .slice none 0 0] 24)]) (C := L) hst
      have hst : St G4 ((b1, .cells #[iN 0, iN 0, .slice none 0 0] 24) :: (lb, .cells #[iN (l - 1 - (nds t4 : Int))] 3) :: (sb, .cells #[.slice A n c, iN (((at4 : Nat) : Int)), .int .u64 sd4] 96) :: L) w1 := hst
      refine nx hst ?_
      refine m_cl #[.agg #[iN t4.kind, iN t4.num, .slice xA4 t4.kids.length xc4]] (some 68) (c49 (hx4) hst) ?_
      rintro x5 w1 ⟨G5, hG5, hx5, hst⟩
      obtain ⟨xA5, xc5, rfl, _, _⟩ := id hx5.open
      refine nx hst ?_
      refine m_st ((b1, .cells #[iN ((al t4).kind), iN ((al t4).num), .slice xA5 ((al t4).kids.length) xc5] 24) :: (lb, .cells #[iN (l - 1 - (nds t4 : Int))] 3) :: (sb, .cells #[.slice A n c, iN (((at4 : Nat) : Int)), .int .u64 sd4] 96) :: L) 0 [(0, iN ((al t4).kind)), (1, iN ((al t4).num)), (2, .slice xA5 ((al t4).kids.length) xc5)] [iN ((al t4).kind), iN ((al t4).num), .slice xA5 ((al t4).kids.length) xc5] none hst (fun w1 hst => ?_)
      refine r_nil ?_
      refine W_ret ?_
      refine q_rt [iN ((al t4).kind), iN ((al t4).num), .slice xA5 ((al t4).kids.length) xc5] [(⟨b1, 0, none⟩, iN ((al t4).kind)), (⟨b1, 1, none⟩, iN ((al t4).num)), (⟨b1, 2, none⟩, .slice xA5 ((al t4).kids.length) xc5)] (.agg #[iN ((al t4).kind), iN ((al t4).num), .slice xA5 ((al t4).kids.length) xc5]) (rc_L 0 rfl rfl (rc_L 0 rfl rfl (rc_L 0 rfl rfl rc_nil))) hst ?_
      have hnd := nds_al t4
      have hlv : l - 1 - (nds t4 : Int) = l - (nds (al t4) : Int) := by rw [hnd]; omega
      rw [hlv] at hst
      exact ⟨G5, al t4, at4, _, (hG4).trans hG5, (hx5), rgt_al hr4, by rw [hnd]; omega, (fun h => by rw [hpl] at h; cases h), by rw [hnd]; omega, hst.drop [_]⟩
     ·skip
      refine W_seq ?_
      refine W_rg [(.p, 0), (.p, 1), (.p, 2), (.p, 3), (.p, 4), (.p, 5), (.p, 6)] hst ?_
      refine r_sg [(.p, 0), (.p, 1), (.p, 2)] [] [] [(70, iN wi), (71, .bool (decide (wi > 0))), (72, .bool (decide (wi > 0)))] rc_nil ?_
      rcases Bool.eq_false_or_eq_true (decide (wi > 0)) with hc14 | hc14
      ·rw [hc14]
       have hp15 := hc14
       simp only [decide_eq_true_eq, decide_eq_false_iff_not, beq_iff_eq, beq_eq_false_iff_ne, bne_iff_ne, bne_eq_false_iff_eq, Bool.not_eq_true', Bool.not_eq_false', Bool.and_eq_true, Bool.and_eq_false_iff, ne_eq] at hp15
       refine r_en [] [] [(73, iN k1), (74, .bool (k1 != 5)), (75, .bool (k1 != 5)), (69, .bool (k1 != 5))] rc_nil ?_
       refine W_cd (b := k1 != 5) (fun hc16 => ?_) (fun hc16 => ?_)
       ·skip
        have hp17 := hc16
        simp only [decide_eq_true_eq, decide_eq_false_iff_not, beq_iff_eq, beq_eq_false_iff_ne, bne_iff_ne, bne_eq_false_iff_eq, Bool.not_eq_true', Bool.not_eq_false', Bool.and_eq_true, Bool.and_eq_false_iff, ne_eq] at hp17
        refine W_seq ?_
        refine W_rg [(.p, 0), (.p, 1), (.f, 2), (.f, 3), (.f, 4)] hst ?_
        refine r_sg [(.p, 0), (.p, 1)] [] [] [(76, pN sb 0), (77, iN wi)] rc_nil ?_
        have hst := St.swap (A := [(b1, .cells #[iN 0, iN 0, .slice none 0 0] 24), (lb, .cells #[iN (l - 1)] 3)]) (B := [(sb, .cells #[.slice A n c, iN (((ak1 : Nat) : Int)), .int .u64 sk1] 96)]) (C := L) hst
        refine m_cl #[pN sb 0, iN wi] (some 78) (c32 hB hn (by omega) hst) ?_
        rintro _ w1 ⟨k2, ak2, sk2, rfl, hk2a, hk2b, hk2t, hst⟩
        have hst := St.swap (A := [(sb, .cells #[.slice A n c, iN (((ak2 : Nat) : Int)), .int .u64 sk2] 96)]) (B := [(b1, .cells #[iN 0, iN 0, .slice none 0 0] 24), (lb, .cells #[iN (l - 1)] 3)]) (C := L) hst
        have hst : St G ((b1, .cells #[iN 0, iN 0, .slice none 0 0] 24) :: (lb, .cells #[iN (l - 1)] 3) :: (sb, .cells #[.slice A n c, iN (((ak2 : Nat) : Int)), .int .u64 sk2] 96) :: L) w1 := hst
        refine nx hst ?_
        refine m_cl #[iN k2] (some 79) (c50  hst) ?_
        rintro x6 w1 ⟨G6, hG6, hx6, hst⟩
        obtain ⟨xA6, xc6, rfl, _, _⟩ := id hx6.open
        refine nx hst ?_
        refine m_st ((b1, .cells #[iN ((vr k2).kind), iN ((vr k2).num), .slice xA6 ((vr k2).kids.length) xc6] 24) :: (lb, .cells #[iN (l - 1)] 3) :: (sb, .cells #[.slice A n c, iN (((ak2 : Nat) : Int)), .int .u64 sk2] 96) :: L) 0 [(0, iN ((vr k2).kind)), (1, iN ((vr k2).num)), (2, .slice xA6 ((vr k2).kids.length) xc6)] [iN ((vr k2).kind), iN ((vr k2).num), .slice xA6 ((vr k2).kids.length) xc6] none hst (fun w1 hst => ?_)
        refine r_nil ?_
        refine W_ret ?_
        refine q_rt [iN ((vr k2).kind), iN ((vr k2).num), .slice xA6 ((vr k2).kids.length) xc6] [(⟨b1, 0, none⟩, iN ((vr k2).kind)), (⟨b1, 1, none⟩, iN ((vr k2).num)), (⟨b1, 2, none⟩, .slice xA6 ((vr k2).kids.length) xc6)] (.agg #[iN ((vr k2).kind), iN ((vr k2).num), .slice xA6 ((vr k2).kids.length) xc6]) (rc_L 0 rfl rfl (rc_L 0 rfl rfl (rc_L 0 rfl rfl rc_nil))) hst ?_
        have hnd := nds_vr k2
        have hlv : l - 1 = l - (nds (vr k2) : Int) := by rw [hnd]; omega
        rw [hlv] at hst
        exact ⟨G6, vr k2, ak2, _, hG6, (hx6), rgt_vr (hk2b (by omega)), by rw [hnd]; omega, (fun _ => rfl), by rw [hnd]; omega, hst.drop [_]⟩
       ·skip
        have hp18 := hc16
        simp only [decide_eq_true_eq, decide_eq_false_iff_not, beq_iff_eq, beq_eq_false_iff_ne, bne_iff_ne, bne_eq_false_iff_eq, Bool.not_eq_true', Bool.not_eq_false', Bool.and_eq_true, Bool.and_eq_false_iff, ne_eq] at hp18
        refine W_skip ?_
        refine W_seq ?_
        refine W_rg [(.f, 0), (.f, 1)] hst ?_
        refine m_cl #[] (some 80) (c27  hst) ?_
        rintro x7 w1 ⟨G7, hG7, hx7, hst⟩
        obtain ⟨xA7, xc7, rfl, _, _⟩ := id hx7.open
        refine nx hst ?_
        refine m_st ((b1, .cells #[iN ((nt).kind), iN ((nt).num), .slice xA7 ((nt).kids.length) xc7] 24) :: (lb, .cells #[iN (l - 1)] 3) :: (sb, .cells #[.slice A n c, iN (((ak1 : Nat) : Int)), .int .u64 sk1] 96) :: L) 0 [(0, iN ((nt).kind)), (1, iN ((nt).num)), (2, .slice xA7 ((nt).kids.length) xc7)] [iN ((nt).kind), iN ((nt).num), .slice xA7 ((nt).kids.length) xc7] none hst (fun w1 hst => ?_)
        refine r_nil ?_
        refine W_ret ?_
        refine q_rt [iN ((nt).kind), iN ((nt).num), .slice xA7 ((nt).kids.length) xc7] [(⟨b1, 0, none⟩, iN ((nt).kind)), (⟨b1, 1, none⟩, iN ((nt).num)), (⟨b1, 2, none⟩, .slice xA7 ((nt).kids.length) xc7)] (.agg #[iN ((nt).kind), iN ((nt).num), .slice xA7 ((nt).kids.length) xc7]) (rc_L 0 rfl rfl (rc_L 0 rfl rfl (rc_L 0 rfl rfl rc_nil))) hst ?_
        have hnd := nds_nt
        have hlv : l - 1 = l - (nds (nt) : Int) := by rw [hnd]; omega
        rw [hlv] at hst
        exact ⟨G7, nt, ak1, _, hG7, (hx7), rgt_nt, by rw [hnd]; omega, (fun _ => rfl), by rw [hnd]; omega, hst.drop [_]⟩
      ·rw [hc14]
       have hp19 := hc14
       simp only [decide_eq_true_eq, decide_eq_false_iff_not, beq_iff_eq, beq_eq_false_iff_ne, bne_iff_ne, bne_eq_false_iff_eq, Bool.not_eq_true', Bool.not_eq_false', Bool.and_eq_true, Bool.and_eq_false_iff, ne_eq] at hp19
       refine r_en [] [] [(73, undef), (74, undef), (75, .bool false), (69, .bool false)] rc_nil ?_
       refine W_cF ?_
       refine W_skip ?_
       refine W_seq ?_
       refine W_rg [(.f, 0), (.f, 1)] hst ?_
       refine m_cl #[] (some 80) (c27  hst) ?_
       rintro x8 w1 ⟨G8, hG8, hx8, hst⟩
       obtain ⟨xA8, xc8, rfl, _, _⟩ := id hx8.open
       refine nx hst ?_
       refine m_st ((b1, .cells #[iN ((nt).kind), iN ((nt).num), .slice xA8 ((nt).kids.length) xc8] 24) :: (lb, .cells #[iN (l - 1)] 3) :: (sb, .cells #[.slice A n c, iN (((ak1 : Nat) : Int)), .int .u64 sk1] 96) :: L) 0 [(0, iN ((nt).kind)), (1, iN ((nt).num)), (2, .slice xA8 ((nt).kids.length) xc8)] [iN ((nt).kind), iN ((nt).num), .slice xA8 ((nt).kids.length) xc8] none hst (fun w1 hst => ?_)
       refine r_nil ?_
       refine W_ret ?_
       refine q_rt [iN ((nt).kind), iN ((nt).num), .slice xA8 ((nt).kids.length) xc8] [(⟨b1, 0, none⟩, iN ((nt).kind)), (⟨b1, 1, none⟩, iN ((nt).num)), (⟨b1, 2, none⟩, .slice xA8 ((nt).kids.length) xc8)] (.agg #[iN ((nt).kind), iN ((nt).num), .slice xA8 ((nt).kids.length) xc8]) (rc_L 0 rfl rfl (rc_L 0 rfl rfl (rc_L 0 rfl rfl rc_nil))) hst ?_
       have hnd := nds_nt
       have hlv : l - 1 = l - (nds (nt) : Int) := by rw [hnd]; omega
       rw [hlv] at hst
       exact ⟨G8, nt, ak1, _, hG8, (hx8), rgt_nt, by rw [hnd]; omega, (fun _ => rfl), by rw [hnd]; omega, hst.drop [_]⟩
    ·rw [hc11]
     have hp20 := hc11
     simp only [decide_eq_true_eq, decide_eq_false_iff_not, beq_iff_eq, beq_eq_false_iff_ne, bne_iff_ne, bne_eq_false_iff_eq, Bool.not_eq_true', Bool.not_eq_false', Bool.and_eq_true, Bool.and_eq_false_iff, ne_eq] at hp20
     refine r_en [] [] [(59, undef), (60, undef), (61, .bool false), (49, .bool false)] rc_nil ?_
     refine W_cF ?_
     refine W_seq ?_
     refine W_rg [(.p, 0), (.p, 1), (.p, 2), (.p, 3), (.p, 4), (.p, 5), (.p, 6)] hst ?_
     refine r_sg [(.p, 0), (.p, 1), (.p, 2)] [] [] [(70, iN wi), (71, .bool (decide (wi > 0))), (72, .bool (decide (wi > 0)))] rc_nil ?_
     rcases Bool.eq_false_or_eq_true (decide (wi > 0)) with hc21 | hc21
     ·rw [hc21]
      have hp22 := hc21
      simp only [decide_eq_true_eq, decide_eq_false_iff_not, beq_iff_eq, beq_eq_false_iff_ne, bne_iff_ne, bne_eq_false_iff_eq, Bool.not_eq_true', Bool.not_eq_false', Bool.and_eq_true, Bool.and_eq_false_iff, ne_eq] at hp22
      refine r_en [] [] [(73, iN k1), (74, .bool (k1 != 5)), (75, .bool (k1 != 5)), (69, .bool (k1 != 5))] rc_nil ?_
      refine W_cd (b := k1 != 5) (fun hc23 => ?_) (fun hc23 => ?_)
      ·skip
       have hp24 := hc23
       simp only [decide_eq_true_eq, decide_eq_false_iff_not, beq_iff_eq, beq_eq_false_iff_ne, bne_iff_ne, bne_eq_false_iff_eq, Bool.not_eq_true', Bool.not_eq_false', Bool.and_eq_true, Bool.and_eq_false_iff, ne_eq] at hp24
       refine W_seq ?_
       refine W_rg [(.p, 0), (.p, 1), (.f, 2), (.f, 3), (.f, 4)] hst ?_
       refine r_sg [(.p, 0), (.p, 1)] [] [] [(76, pN sb 0), (77, iN wi)] rc_nil ?_
       have hst := St.swap (A := [(b1, .cells #[iN 0, iN 0, .slice none 0 0] 24), (lb, .cells #[iN (l - 1)] 3)]) (B := [(sb, .cells #[.slice A n c, iN (((ak1 : Nat) : Int)), .int .u64 sk1] 96)]) (C := L) hst
       refine m_cl #[pN sb 0, iN wi] (some 78) (c32 hB hn (by omega) hst) ?_
       rintro _ w1 ⟨k3, ak3, sk3, rfl, hk3a, hk3b, hk3t, hst⟩
       have hst := St.swap (A := [(sb, .cells #[.slice A n c, iN (((ak3 : Nat) : Int)), .int .u64 sk3] 96)]) (B := [(b1, .cells #[iN 0, iN 0, .slice none 0 0] 24), (lb, .cells #[iN (l - 1)] 3)]) (C := L) hst
       have hst : St G ((b1, .cells #[iN 0, iN 0, .slice none 0 0] 24) :: (lb, .cells #[iN (l - 1)] 3) :: (sb, .cells #[.slice A n c, iN (((ak3 : Nat) : Int)), .int .u64 sk3] 96) :: L) w1 := hst
       refine nx hst ?_
       refine m_cl #[iN k3] (some 79) (c50  hst) ?_
       rintro x9 w1 ⟨G9, hG9, hx9, hst⟩
       obtain ⟨xA9, xc9, rfl, _, _⟩ := id hx9.open
       refine nx hst ?_
       refine m_st ((b1, .cells #[iN ((vr k3).kind), iN ((vr k3).num), .slice xA9 ((vr k3).kids.length) xc9] 24) :: (lb, .cells #[iN (l - 1)] 3) :: (sb, .cells #[.slice A n c, iN (((ak3 : Nat) : Int)), .int .u64 sk3] 96) :: L) 0 [(0, iN ((vr k3).kind)), (1, iN ((vr k3).num)), (2, .slice xA9 ((vr k3).kids.length) xc9)] [iN ((vr k3).kind), iN ((vr k3).num), .slice xA9 ((vr k3).kids.length) xc9] none hst (fun w1 hst => ?_)
       refine r_nil ?_
       refine W_ret ?_
       refine q_rt [iN ((vr k3).kind), iN ((vr k3).num), .slice xA9 ((vr k3).kids.length) xc9] [(⟨b1, 0, none⟩, iN ((vr k3).kind)), (⟨b1, 1, none⟩, iN ((vr k3).num)), (⟨b1, 2, none⟩, .slice xA9 ((vr k3).kids.length) xc9)] (.agg #[iN ((vr k3).kind), iN ((vr k3).num), .slice xA9 ((vr k3).kids.length) xc9]) (rc_L 0 rfl rfl (rc_L 0 rfl rfl (rc_L 0 rfl rfl rc_nil))) hst ?_
       have hnd := nds_vr k3
       have hlv : l - 1 = l - (nds (vr k3) : Int) := by rw [hnd]; omega
       rw [hlv] at hst
       exact ⟨G9, vr k3, ak3, _, hG9, (hx9), rgt_vr (hk3b (by omega)), by rw [hnd]; omega, (fun _ => rfl), by rw [hnd]; omega, hst.drop [_]⟩
      ·skip
       have hp25 := hc23
       simp only [decide_eq_true_eq, decide_eq_false_iff_not, beq_iff_eq, beq_eq_false_iff_ne, bne_iff_ne, bne_eq_false_iff_eq, Bool.not_eq_true', Bool.not_eq_false', Bool.and_eq_true, Bool.and_eq_false_iff, ne_eq] at hp25
       refine W_skip ?_
       refine W_seq ?_
       refine W_rg [(.f, 0), (.f, 1)] hst ?_
       refine m_cl #[] (some 80) (c27  hst) ?_
       rintro x10 w1 ⟨G10, hG10, hx10, hst⟩
       obtain ⟨xA10, xc10, rfl, _, _⟩ := id hx10.open
       refine nx hst ?_
       refine m_st ((b1, .cells #[iN ((nt).kind), iN ((nt).num), .slice xA10 ((nt).kids.length) xc10] 24) :: (lb, .cells #[iN (l - 1)] 3) :: (sb, .cells #[.slice A n c, iN (((ak1 : Nat) : Int)), .int .u64 sk1] 96) :: L) 0 [(0, iN ((nt).kind)), (1, iN ((nt).num)), (2, .slice xA10 ((nt).kids.length) xc10)] [iN ((nt).kind), iN ((nt).num), .slice xA10 ((nt).kids.length) xc10] none hst (fun w1 hst => ?_)
       refine r_nil ?_
       refine W_ret ?_
       refine q_rt [iN ((nt).kind), iN ((nt).num), .slice xA10 ((nt).kids.length) xc10] [(⟨b1, 0, none⟩, iN ((nt).kind)), (⟨b1, 1, none⟩, iN ((nt).num)), (⟨b1, 2, none⟩, .slice xA10 ((nt).kids.length) xc10)] (.agg #[iN ((nt).kind), iN ((nt).num), .slice xA10 ((nt).kids.length) xc10]) (rc_L 0 rfl rfl (rc_L 0 rfl rfl (rc_L 0 rfl rfl rc_nil))) hst ?_
       have hnd := nds_nt
       have hlv : l - 1 = l - (nds (nt) : Int) := by rw [hnd]; omega
       rw [hlv] at hst
       exact ⟨G10, nt, ak1, _, hG10, (hx10), rgt_nt, by rw [hnd]; omega, (fun _ => rfl), by rw [hnd]; omega, hst.drop [_]⟩
     ·rw [hc21]
      have hp26 := hc21
      simp only [decide_eq_true_eq, decide_eq_false_iff_not, beq_iff_eq, beq_eq_false_iff_ne, bne_iff_ne, bne_eq_false_iff_eq, Bool.not_eq_true', Bool.not_eq_false', Bool.and_eq_true, Bool.and_eq_false_iff, ne_eq] at hp26
      refine r_en [] [] [(73, undef), (74, undef), (75, .bool false), (69, .bool false)] rc_nil ?_
      refine W_cF ?_
      refine W_skip ?_
      refine W_seq ?_
      refine W_rg [(.f, 0), (.f, 1)] hst ?_
      refine m_cl #[] (some 80) (c27  hst) ?_
      rintro x11 w1 ⟨G11, hG11, hx11, hst⟩
      obtain ⟨xA11, xc11, rfl, _, _⟩ := id hx11.open
      refine nx hst ?_
      refine m_st ((b1, .cells #[iN ((nt).kind), iN ((nt).num), .slice xA11 ((nt).kids.length) xc11] 24) :: (lb, .cells #[iN (l - 1)] 3) :: (sb, .cells #[.slice A n c, iN (((ak1 : Nat) : Int)), .int .u64 sk1] 96) :: L) 0 [(0, iN ((nt).kind)), (1, iN ((nt).num)), (2, .slice xA11 ((nt).kids.length) xc11)] [iN ((nt).kind), iN ((nt).num), .slice xA11 ((nt).kids.length) xc11] none hst (fun w1 hst => ?_)
      refine r_nil ?_
      refine W_ret ?_
      refine q_rt [iN ((nt).kind), iN ((nt).num), .slice xA11 ((nt).kids.length) xc11] [(⟨b1, 0, none⟩, iN ((nt).kind)), (⟨b1, 1, none⟩, iN ((nt).num)), (⟨b1, 2, none⟩, .slice xA11 ((nt).kids.length) xc11)] (.agg #[iN ((nt).kind), iN ((nt).num), .slice xA11 ((nt).kids.length) xc11]) (rc_L 0 rfl rfl (rc_L 0 rfl rfl (rc_L 0 rfl rfl rc_nil))) hst ?_
      have hnd := nds_nt
      have hlv : l - 1 = l - (nds (nt) : Int) := by rw [hnd]; omega
      rw [hlv] at hst
      exact ⟨G11, nt, ak1, _, hG11, (hx11), rgt_nt, by rw [hnd]; omega, (fun _ => rfl), by rw [hnd]; omega, hst.drop [_]⟩
   ·rw [hc9]
    have hp27 := hc9
    simp only [decide_eq_true_eq, decide_eq_false_iff_not, beq_iff_eq, beq_eq_false_iff_ne, bne_iff_ne, bne_eq_false_iff_eq, Bool.not_eq_true', Bool.not_eq_false', Bool.and_eq_true, Bool.and_eq_false_iff, ne_eq] at hp27
    refine r_en [] [] [(55, undef), (56, undef), (57, .bool false), (58, .bool false), (59, undef), (60, undef), (61, .bool false), (49, .bool false)] rc_nil ?_
    refine W_cF ?_
    refine W_seq ?_
    refine W_rg [(.p, 0), (.p, 1), (.p, 2), (.p, 3), (.p, 4), (.p, 5), (.p, 6)] hst ?_
    refine r_sg [(.p, 0), (.p, 1), (.p, 2)] [] [] [(70, iN wi), (71, .bool (decide (wi > 0))), (72, .bool (decide (wi > 0)))] rc_nil ?_
    rcases Bool.eq_false_or_eq_true (decide (wi > 0)) with hc28 | hc28
    ·rw [hc28]
     have hp29 := hc28
     simp only [decide_eq_true_eq, decide_eq_false_iff_not, beq_iff_eq, beq_eq_false_iff_ne, bne_iff_ne, bne_eq_false_iff_eq, Bool.not_eq_true', Bool.not_eq_false', Bool.and_eq_true, Bool.and_eq_false_iff, ne_eq] at hp29
     refine r_en [] [] [(73, iN k1), (74, .bool (k1 != 5)), (75, .bool (k1 != 5)), (69, .bool (k1 != 5))] rc_nil ?_
     refine W_cd (b := k1 != 5) (fun hc30 => ?_) (fun hc30 => ?_)
     ·skip
      have hp31 := hc30
      simp only [decide_eq_true_eq, decide_eq_false_iff_not, beq_iff_eq, beq_eq_false_iff_ne, bne_iff_ne, bne_eq_false_iff_eq, Bool.not_eq_true', Bool.not_eq_false', Bool.and_eq_true, Bool.and_eq_false_iff, ne_eq] at hp31
      refine W_seq ?_
      refine W_rg [(.p, 0), (.p, 1), (.f, 2), (.f, 3), (.f, 4)] hst ?_
      refine r_sg [(.p, 0), (.p, 1)] [] [] [(76, pN sb 0), (77, iN wi)] rc_nil ?_
      have hst := St.swap (A := [(b1, .cells #[iN 0, iN 0, .slice none 0 0] 24), (lb, .cells #[iN (l - 1)] 3)]) (B := [(sb, .cells #[.slice A n c, iN (((ak1 : Nat) : Int)), .int .u64 sk1] 96)]) (C := L) hst
      refine m_cl #[pN sb 0, iN wi] (some 78) (c32 hB hn (by omega) hst) ?_
      rintro _ w1 ⟨k4, ak4, sk4, rfl, hk4a, hk4b, hk4t, hst⟩
      have hst := St.swap (A := [(sb, .cells #[.slice A n c, iN (((ak4 : Nat) : Int)), .int .u64 sk4] 96)]) (B := [(b1, .cells #[iN 0, iN 0, .slice none 0 0] 24), (lb, .cells #[iN (l - 1)] 3)]) (C := L) hst
      have hst : St G ((b1, .cells #[iN 0, iN 0, .slice none 0 0] 24) :: (lb, .cells #[iN (l - 1)] 3) :: (sb, .cells #[.slice A n c, iN (((ak4 : Nat) : Int)), .int .u64 sk4] 96) :: L) w1 := hst
      refine nx hst ?_
      refine m_cl #[iN k4] (some 79) (c50  hst) ?_
      rintro x12 w1 ⟨G12, hG12, hx12, hst⟩
      obtain ⟨xA12, xc12, rfl, _, _⟩ := id hx12.open
      refine nx hst ?_
      refine m_st ((b1, .cells #[iN ((vr k4).kind), iN ((vr k4).num), .slice xA12 ((vr k4).kids.length) xc12] 24) :: (lb, .cells #[iN (l - 1)] 3) :: (sb, .cells #[.slice A n c, iN (((ak4 : Nat) : Int)), .int .u64 sk4] 96) :: L) 0 [(0, iN ((vr k4).kind)), (1, iN ((vr k4).num)), (2, .slice xA12 ((vr k4).kids.length) xc12)] [iN ((vr k4).kind), iN ((vr k4).num), .slice xA12 ((vr k4).kids.length) xc12] none hst (fun w1 hst => ?_)
      refine r_nil ?_
      refine W_ret ?_
      refine q_rt [iN ((vr k4).kind), iN ((vr k4).num), .slice xA12 ((vr k4).kids.length) xc12] [(⟨b1, 0, none⟩, iN ((vr k4).kind)), (⟨b1, 1, none⟩, iN ((vr k4).num)), (⟨b1, 2, none⟩, .slice xA12 ((vr k4).kids.length) xc12)] (.agg #[iN ((vr k4).kind), iN ((vr k4).num), .slice xA12 ((vr k4).kids.length) xc12]) (rc_L 0 rfl rfl (rc_L 0 rfl rfl (rc_L 0 rfl rfl rc_nil))) hst ?_
      have hnd := nds_vr k4
      have hlv : l - 1 = l - (nds (vr k4) : Int) := by rw [hnd]; omega
      rw [hlv] at hst
      exact ⟨G12, vr k4, ak4, _, hG12, (hx12), rgt_vr (hk4b (by omega)), by rw [hnd]; omega, (fun _ => rfl), by rw [hnd]; omega, hst.drop [_]⟩
     ·skip
      have hp32 := hc30
      simp only [decide_eq_true_eq, decide_eq_false_iff_not, beq_iff_eq, beq_eq_false_iff_ne, bne_iff_ne, bne_eq_false_iff_eq, Bool.not_eq_true', Bool.not_eq_false', Bool.and_eq_true, Bool.and_eq_false_iff, ne_eq] at hp32
      refine W_skip ?_
      refine W_seq ?_
      refine W_rg [(.f, 0), (.f, 1)] hst ?_
      refine m_cl #[] (some 80) (c27  hst) ?_
      rintro x13 w1 ⟨G13, hG13, hx13, hst⟩
      obtain ⟨xA13, xc13, rfl, _, _⟩ := id hx13.open
      refine nx hst ?_
      refine m_st ((b1, .cells #[iN ((nt).kind), iN ((nt).num), .slice xA13 ((nt).kids.length) xc13] 24) :: (lb, .cells #[iN (l - 1)] 3) :: (sb, .cells #[.slice A n c, iN (((ak1 : Nat) : Int)), .int .u64 sk1] 96) :: L) 0 [(0, iN ((nt).kind)), (1, iN ((nt).num)), (2, .slice xA13 ((nt).kids.length) xc13)] [iN ((nt).kind), iN ((nt).num), .slice xA13 ((nt).kids.length) xc13] none hst (fun w1 hst => ?_)
      refine r_nil ?_
      refine W_ret ?_
      refine q_rt [iN ((nt).kind), iN ((nt).num), .slice xA13 ((nt).kids.length) xc13] [(⟨b1, 0, none⟩, iN ((nt).kind)), (⟨b1, 1, none⟩, iN ((nt).num)), (⟨b1, 2, none⟩, .slice xA13 ((nt).kids.length) xc13)] (.agg #[iN ((nt).kind), iN ((nt).num), .slice xA13 ((nt).kids.length) xc13]) (rc_L 0 rfl rfl (rc_L 0 rfl rfl (rc_L 0 rfl rfl rc_nil))) hst ?_
      have hnd := nds_nt
      have hlv : l - 1 = l - (nds (nt) : Int) := by rw [hnd]; omega
      rw [hlv] at hst
      exact ⟨G13, nt, ak1, _, hG13, (hx13), rgt_nt, by rw [hnd]; omega, (fun _ => rfl), by rw [hnd]; omega, hst.drop [_]⟩
    ·rw [hc28]
     have hp33 := hc28
     simp only [decide_eq_true_eq, decide_eq_false_iff_not, beq_iff_eq, beq_eq_false_iff_ne, bne_iff_ne, bne_eq_false_iff_eq, Bool.not_eq_true', Bool.not_eq_false', Bool.and_eq_true, Bool.and_eq_false_iff, ne_eq] at hp33
     refine r_en [] [] [(73, undef), (74, undef), (75, .bool false), (69, .bool false)] rc_nil ?_
     refine W_cF ?_
     refine W_skip ?_
     refine W_seq ?_
     refine W_rg [(.f, 0), (.f, 1)] hst ?_
     refine m_cl #[] (some 80) (c27  hst) ?_
     rintro x14 w1 ⟨G14, hG14, hx14, hst⟩
     obtain ⟨xA14, xc14, rfl, _, _⟩ := id hx14.open
     refine nx hst ?_
     refine m_st ((b1, .cells #[iN ((nt).kind), iN ((nt).num), .slice xA14 ((nt).kids.length) xc14] 24) :: (lb, .cells #[iN (l - 1)] 3) :: (sb, .cells #[.slice A n c, iN (((ak1 : Nat) : Int)), .int .u64 sk1] 96) :: L) 0 [(0, iN ((nt).kind)), (1, iN ((nt).num)), (2, .slice xA14 ((nt).kids.length) xc14)] [iN ((nt).kind), iN ((nt).num), .slice xA14 ((nt).kids.length) xc14] none hst (fun w1 hst => ?_)
     refine r_nil ?_
     refine W_ret ?_
     refine q_rt [iN ((nt).kind), iN ((nt).num), .slice xA14 ((nt).kids.length) xc14] [(⟨b1, 0, none⟩, iN ((nt).kind)), (⟨b1, 1, none⟩, iN ((nt).num)), (⟨b1, 2, none⟩, .slice xA14 ((nt).kids.length) xc14)] (.agg #[iN ((nt).kind), iN ((nt).num), .slice xA14 ((nt).kids.length) xc14]) (rc_L 0 rfl rfl (rc_L 0 rfl rfl (rc_L 0 rfl rfl rc_nil))) hst ?_
     have hnd := nds_nt
     have hlv : l - 1 = l - (nds (nt) : Int) := by rw [hnd]; omega
     rw [hlv] at hst
     exact ⟨G14, nt, ak1, _, hG14, (hx14), rgt_nt, by rw [hnd]; omega, (fun _ => rfl), by rw [hnd]; omega, hst.drop [_]⟩
 ·rw [hc2]
  have hp34 := hc2
  simp only [decide_eq_true_eq, decide_eq_false_iff_not, beq_iff_eq, beq_eq_false_iff_ne, bne_iff_ne, bne_eq_false_iff_eq, Bool.not_eq_true', Bool.not_eq_false', Bool.and_eq_true, Bool.and_eq_false_iff, ne_eq] at hp34
  refine r_en [] [] [(24, undef), (25, undef), (26, .bool false), (18, .bool false)] rc_nil ?_
  refine W_cF ?_
  refine W_seq ?_
  refine W_rg [(.p, 0), (.p, 1), (.l, 2), (.p, 3), (.p, 4), (.p, 5), (.p, 6), (.p, 7), (.p, 8), (.p, 9), (.p, 10), (.p, 11), (.p, 12)] hst ?_
  refine r_sg [(.p, 0), (.p, 1), (.l, 2), (.p, 3), (.p, 4)] [[iN (l - 1)]] [(⟨lb, 0, none⟩, iN (l - 1))] [(50, pN lb 0), (51, pN lb 0), (52, iN (l - 1)), (53, .bool (decide ((l - 1) ≥ 1))), (54, .bool (decide ((l - 1) ≥ 1)))] (rc_L 1 rfl rfl rc_nil) ?_
  rcases Bool.eq_false_or_eq_true (decide ((l - 1) ≥ 1)) with hc35 | hc35
  ·rw [hc35]
   have hp36 := hc35
   simp only [decide_eq_true_eq, decide_eq_false_iff_not, beq_iff_eq, beq_eq_false_iff_ne, bne_iff_ne, bne_eq_false_iff_eq, Bool.not_eq_true', Bool.not_eq_false', Bool.and_eq_true, Bool.and_eq_false_iff, ne_eq] at hp36
   refine r_sg [(.p, 5), (.p, 6), (.p, 7), (.p, 8)] [] [] [(55, iN k1), (56, .bool (k1 == 3)), (57, .bool (k1 == 3)), (58, .bool (k1 == 3))] rc_nil ?_
   rcases Bool.eq_false_or_eq_true (k1 == 3) with hc37 | hc37
   ·rw [hc37]
    have hp38 := hc37
    simp only [decide_eq_true_eq, decide_eq_false_iff_not, beq_iff_eq, beq_eq_false_iff_ne, bne_iff_ne, bne_eq_false_iff_eq, Bool.not_eq_true', Bool.not_eq_false', Bool.and_eq_true, Bool.and_eq_false_iff, ne_eq] at hp38
    refine r_en [] [] [(59, .bool pl), (60, .bool (!pl)), (61, .bool (!pl)), (49, .bool (!pl))] rc_nil ?_
    refine W_cd (b := !pl) (fun hc39 => ?_) (fun hc39 => ?_)
    ·skip
     have hpl : pl = false := by simpa using hc39
     refine W_seq ?_
     refine W_rg [(.p, 0), (.p, 1), (.p, 2), (.p, 3), (.p, 4), (.f, 5), (.f, 6), (.f, 7)] hst ?_
     refine r_sg [(.p, 0), (.p, 1), (.p, 2), (.p, 3), (.p, 4)] [] [] [(62, pN sb 0), (63, pN lb 0), (64, iN wi), (65, iN (IntKind.wrap .i64 (wi + 1))), (66, .bool pl)] rc_nil ?_
     have hst := St.swap (A := [(b1, .cells #[iN 0, iN 0, .slice none 0 0] 24)]) (B := [(lb, .cells #[iN (l - 1)] 3), (sb, .cells #[.slice A n c, iN (((ak1 : Nat) : Int)), .int .u64 sk1] 96)]) (C := L) hst
     have hw1 : IntKind.wrap .i64 (wi + 1) = wi + 1 := wrap_id (by omega) (by omega)
     rw [hw1]
     refine m_cl #[pN sb 0, pN lb 0, iN (wi + 1), .bool pl] (some 67) (ih (l := l - 1) (wi := wi + 1) (by omega) (by omega) (by omega) (by omega) (by omega) (by omega) hB hn hst) ?_
     rintro x15 w1 ⟨G15, t15, at15, sd15, hG15, hx15, hr15, hd15, hp15, ha15, hst⟩
     obtain ⟨xA15, xc15, rfl, _, _⟩ := id hx15.open
     have hst := St.swap (A := [(lb, .cells #[iN (l - 1 - (nds t15 : Int))] 3), (sb, .cells #[.slice A n c, iN (((at15 : Nat) : Int)), .int .u64 sd15] 96)]) (B := [(b1, .cells #[iN 0, iN 0, .slice none 0 0] 24)]) (C := L) hst
     have hst : St G15 ((b1, .cells #[iN 0, iN 0, .slice none 0 0] 24) :: (lb, .cells #[iN (l - 1 - (nds t15 : Int))] 3) :: (sb, .cells #[.slice A n c, iN (((at15 : Nat) : Int)), .int .u64 sd15] 96) :: L) w1 := hst
     refine nx hst ?_
     refine m_cl #[.agg #[iN t15.kind, iN t15.num, .slice xA15 t15.kids.length xc15]] (some 68) (c49 (hx15) hst) ?_
     rintro x16 w1 ⟨G16, hG16, hx16, hst⟩
     obtain ⟨xA16, xc16, rfl, _, _⟩ := id hx16.open
     refine nx hst ?_
     refine m_st ((b1, .cells #[iN ((al t15).kind), iN ((al t15).num), .slice xA16 ((al t15).kids.length) xc16] 24) :: (lb, .cells #[iN (l - 1 - (nds t15 : Int))] 3) :: (sb, .cells #[.slice A n c, iN (((at15 : Nat) : Int)), .int .u64 sd15] 96) :: L) 0 [(0, iN ((al t15).kind)), (1, iN ((al t15).num)), (2, .slice xA16 ((al t15).kids.length) xc16)] [iN ((al t15).kind), iN ((al t15).num), .slice xA16 ((al t15).kids.length) xc16] none hst (fun w1 hst => ?_)
     refine r_nil ?_
     refine W_ret ?_
     refine q_rt [iN ((al t15).kind), iN ((al t15).num), .slice xA16 ((al t15).kids.length) xc16] [(⟨b1, 0, none⟩, iN ((al t15).kind)), (⟨b1, 1, none⟩, iN ((al t15).num)), (⟨b1, 2, none⟩, .slice xA16 ((al t15).kids.length) xc16)] (.agg #[iN ((al t15).kind), iN ((al t15).num), .slice xA16 ((al t15).kids.length) xc16]) (rc_L 0 rfl rfl (rc_L 0 rfl rfl (rc_L 0 rfl rfl rc_nil))) hst ?_
     have hnd := nds_al t15
     have hlv : l - 1 - (nds t15 : Int) = l - (nds (al t15) : Int) := by rw [hnd]; omega
     rw [hlv] at hst
     exact ⟨G16, al t15, at15, _, (hG15).trans hG16, (hx16), rgt_al hr15, by rw [hnd]; omega, (fun h => by rw [hpl] at h; cases h), by rw [hnd]; omega, hst.drop [_]⟩
    ·skip
     refine W_seq ?_
     refine W_rg [(.p, 0), (.p, 1), (.p, 2), (.p, 3), (.p, 4), (.p, 5), (.p, 6)] hst ?_
     refine r_sg [(.p, 0), (.p, 1), (.p, 2)] [] [] [(70, iN wi), (71, .bool (decide (wi > 0))), (72, .bool (decide (wi > 0)))] rc_nil ?_
     rcases Bool.eq_false_or_eq_true (decide (wi > 0)) with hc40 | hc40
     ·rw [hc40]
      have hp41 := hc40
      simp only [decide_eq_true_eq, decide_eq_false_iff_not, beq_iff_eq, beq_eq_false_iff_ne, bne_iff_ne, bne_eq_false_iff_eq, Bool.not_eq_true', Bool.not_eq_false', Bool.and_eq_true, Bool.and_eq_false_iff, ne_eq] at hp41
      refine r_en [] [] [(73, iN k1), (74, .bool (k1 != 5)), (75, .bool (k1 != 5)), (69, .bool (k1 != 5))] rc_nil ?_
      refine W_cd (b := k1 != 5) (fun hc42 => ?_) (fun hc42 => ?_)
      ·skip
       have hp43 := hc42
       simp only [decide_eq_true_eq, decide_eq_false_iff_not, beq_iff_eq, beq_eq_false_iff_ne, bne_iff_ne, bne_eq_false_iff_eq, Bool.not_eq_true', Bool.not_eq_false', Bool.and_eq_true, Bool.and_eq_false_iff, ne_eq] at hp43
       refine W_seq ?_
       refine W_rg [(.p, 0), (.p, 1), (.f, 2), (.f, 3), (.f, 4)] hst ?_
       refine r_sg [(.p, 0), (.p, 1)] [] [] [(76, pN sb 0), (77, iN wi)] rc_nil ?_
       have hst := St.swap (A := [(b1, .cells #[iN 0, iN 0, .slice none 0 0] 24), (lb, .cells #[iN (l - 1)] 3)]) (B := [(sb, .cells #[.slice A n c, iN (((ak1 : Nat) : Int)), .int .u64 sk1] 96)]) (C := L) hst
       refine m_cl #[pN sb 0, iN wi] (some 78) (c32 hB hn (by omega) hst) ?_
       rintro _ w1 ⟨k5, ak5, sk5, rfl, hk5a, hk5b, hk5t, hst⟩
       have hst := St.swap (A := [(sb, .cells #[.slice A n c, iN (((ak5 : Nat) : Int)), .int .u64 sk5] 96)]) (B := [(b1, .cells #[iN 0, iN 0, .slice none 0 0] 24), (lb, .cells #[iN (l - 1)] 3)]) (C := L) hst
       have hst : St G ((b1, .cells #[iN 0, iN 0, .slice none 0 0] 24) :: (lb, .cells #[iN (l - 1)] 3) :: (sb, .cells #[.slice A n c, iN (((ak5 : Nat) : Int)), .int .u64 sk5] 96) :: L) w1 := hst
       refine nx hst ?_
       refine m_cl #[iN k5] (some 79) (c50  hst) ?_
       rintro x17 w1 ⟨G17, hG17, hx17, hst⟩
       obtain ⟨xA17, xc17, rfl, _, _⟩ := id hx17.open
       refine nx hst ?_
       refine m_st ((b1, .cells #[iN ((vr k5).kind), iN ((vr k5).num), .slice xA17 ((vr k5).kids.length) xc17] 24) :: (lb, .cells #[iN (l - 1)] 3) :: (sb, .cells #[.slice A n c, iN (((ak5 : Nat) : Int)), .int .u64 sk5] 96) :: L) 0 [(0, iN ((vr k5).kind)), (1, iN ((vr k5).num)), (2, .slice xA17 ((vr k5).kids.length) xc17)] [iN ((vr k5).kind), iN ((vr k5).num), .slice xA17 ((vr k5).kids.length) xc17] none hst (fun w1 hst => ?_)
       refine r_nil ?_
       refine W_ret ?_
       refine q_rt [iN ((vr k5).kind), iN ((vr k5).num), .slice xA17 ((vr k5).kids.length) xc17] [(⟨b1, 0, none⟩, iN ((vr k5).kind)), (⟨b1, 1, none⟩, iN ((vr k5).num)), (⟨b1, 2, none⟩, .slice xA17 ((vr k5).kids.length) xc17)] (.agg #[iN ((vr k5).kind), iN ((vr k5).num), .slice xA17 ((vr k5).kids.length) xc17]) (rc_L 0 rfl rfl (rc_L 0 rfl rfl (rc_L 0 rfl rfl rc_nil))) hst ?_
       have hnd := nds_vr k5
       have hlv : l - 1 = l - (nds (vr k5) : Int) := by rw [hnd]; omega
       rw [hlv] at hst
       exact ⟨G17, vr k5, ak5, _, hG17, (hx17), rgt_vr (hk5b (by omega)), by rw [hnd]; omega, (fun _ => rfl), by rw [hnd]; omega, hst.drop [_]⟩
      ·skip
       have hp44 := hc42
       simp only [decide_eq_true_eq, decide_eq_false_iff_not, beq_iff_eq, beq_eq_false_iff_ne, bne_iff_ne, bne_eq_false_iff_eq, Bool.not_eq_true', Bool.not_eq_false', Bool.and_eq_true, Bool.and_eq_false_iff, ne_eq] at hp44
       refine W_skip ?_
       refine W_seq ?_
       refine W_rg [(.f, 0), (.f, 1)] hst ?_
       refine m_cl #[] (some 80) (c27  hst) ?_
       rintro x18 w1 ⟨G18, hG18, hx18, hst⟩
       obtain ⟨xA18, xc18, rfl, _, _⟩ := id hx18.open
       refine nx hst ?_
       refine m_st ((b1, .cells #[iN ((nt).kind), iN ((nt).num), .slice xA18 ((nt).kids.length) xc18] 24) :: (lb, .cells #[iN (l - 1)] 3) :: (sb, .cells #[.slice A n c, iN (((ak1 : Nat) : Int)), .int .u64 sk1] 96) :: L) 0 [(0, iN ((nt).kind)), (1, iN ((nt).num)), (2, .slice xA18 ((nt).kids.length) xc18)] [iN ((nt).kind), iN ((nt).num), .slice xA18 ((nt).kids.length) xc18] none hst (fun w1 hst => ?_)
       refine r_nil ?_
       refine W_ret ?_
       refine q_rt [iN ((nt).kind), iN ((nt).num), .slice xA18 ((nt).kids.length) xc18] [(⟨b1, 0, none⟩, iN ((nt).kind)), (⟨b1, 1, none⟩, iN ((nt).num)), (⟨b1, 2, none⟩, .slice xA18 ((nt).kids.length) xc18)] (.agg #[iN ((nt).kind), iN ((nt).num), .slice xA18 ((nt).kids.length) xc18]) (rc_L 0 rfl rfl (rc_L 0 rfl rfl (rc_L 0 rfl rfl rc_nil))) hst ?_
       have hnd := nds_nt
       have hlv : l - 1 = l - (nds (nt) : Int) := by rw [hnd]; omega
       rw [hlv] at hst
       exact ⟨G18, nt, ak1, _, hG18, (hx18), rgt_nt, by rw [hnd]; omega, (fun _ => rfl), by rw [hnd]; omega, hst.drop [_]⟩
     ·rw [hc40]
      have hp45 := hc40
      simp only [decide_eq_true_eq, decide_eq_false_iff_not, beq_iff_eq, beq_eq_false_iff_ne, bne_iff_ne, bne_eq_false_iff_eq, Bool.not_eq_true', Bool.not_eq_false', Bool.and_eq_true, Bool.and_eq_false_iff, ne_eq] at hp45
      refine r_en [] [] [(73, undef), (74, undef), (75, .bool false), (69, .bool false)] rc_nil ?_
      refine W_cF ?_
      refine W_skip ?_
      refine W_seq ?_
      refine W_rg [(.f, 0), (.f, 1)] hst ?_
      refine m_cl #[] (some 80) (c27  hst) ?_
      rintro x19 w1 ⟨G19, hG19, hx19, hst⟩
      obtain ⟨xA19, xc19, rfl, _, _⟩ := id hx19.open
      refine nx hst ?_
      refine m_st ((b1, .cells #[iN ((nt).kind), iN ((nt).num), .slice xA19 ((nt).kids.length) xc19] 24) :: (lb, .cells #[iN (l - 1)] 3) :: (sb, .cells #[.slice A n c, iN (((ak1 : Nat) : Int)), .int .u64 sk1] 96) :: L) 0 [(0, iN ((nt).kind)), (1, iN ((nt).num)), (2, .slice xA19 ((nt).kids.length) xc19)] [iN ((nt).kind), iN ((nt).num), .slice xA19 ((nt).kids.length) xc19] none hst (fun w1 hst => ?_)
      refine r_nil ?_
      refine W_ret ?_
      refine q_rt [iN ((nt).kind), iN ((nt).num), .slice xA19 ((nt).kids.length) xc19] [(⟨b1, 0, none⟩, iN ((nt).kind)), (⟨b1, 1, none⟩, iN ((nt).num)), (⟨b1, 2, none⟩, .slice xA19 ((nt).kids.length) xc19)] (.agg #[iN ((nt).kind), iN ((nt).num), .slice xA19 ((nt).kids.length) xc19]) (rc_L 0 rfl rfl (rc_L 0 rfl rfl (rc_L 0 rfl rfl rc_nil))) hst ?_
      have hnd := nds_nt
      have hlv : l - 1 = l - (nds (nt) : Int) := by rw [hnd]; omega
      rw [hlv] at hst
      exact ⟨G19, nt, ak1, _, hG19, (hx19), rgt_nt, by rw [hnd]; omega, (fun _ => rfl), by rw [hnd]; omega, hst.drop [_]⟩
   ·rw [hc37]
    have hp46 := hc37
    simp only [decide_eq_true_eq, decide_eq_false_iff_not, beq_iff_eq, beq_eq_false_iff_ne, bne_iff_ne, bne_eq_false_iff_eq, Bool.not_eq_true', Bool.not_eq_false', Bool.and_eq_true, Bool.and_eq_false_iff, ne_eq] at hp46
    refine r_en [] [] [(59, undef), (60, undef), (61, .bool false), (49, .bool false)] rc_nil ?_
    refine W_cF ?_
    refine W_seq ?_
    refine W_rg [(.p, 0), (.p, 1), (.p, 2), (.p, 3), (.p, 4), (.p, 5), (.p, 6)] hst ?_
    refine r_sg [(.p, 0), (.p, 1), (.p, 2)] [] [] [(70, iN wi), (71, .bool (decide (wi > 0))), (72, .bool (decide (wi > 0)))] rc_nil ?_
    rcases Bool.eq_false_or_eq_true (decide (wi > 0)) with hc47 | hc47
    ·rw [hc47]
     have hp48 := hc47
     simp only [decide_eq_true_eq, decide_eq_false_iff_not, beq_iff_eq, beq_eq_false_iff_ne, bne_iff_ne, bne_eq_false_iff_eq, Bool.not_eq_true', Bool.not_eq_false', Bool.and_eq_true, Bool.and_eq_false_iff, ne_eq] at hp48
     refine r_en [] [] [(73, iN k1), (74, .bool (k1 != 5)), (75, .bool (k1 != 5)), (69, .bool (k1 != 5))] rc_nil ?_
     refine W_cd (b := k1 != 5) (fun hc49 => ?_) (fun hc49 => ?_)
     ·skip
      have hp50 := hc49
      simp only [decide_eq_true_eq, decide_eq_false_iff_not, beq_iff_eq, beq_eq_false_iff_ne, bne_iff_ne, bne_eq_false_iff_eq, Bool.not_eq_true', Bool.not_eq_false', Bool.and_eq_true, Bool.and_eq_false_iff, ne_eq] at hp50
      refine W_seq ?_
      refine W_rg [(.p, 0), (.p, 1), (.f, 2), (.f, 3), (.f, 4)] hst ?_
      refine r_sg [(.p, 0), (.p, 1)] [] [] [(76, pN sb 0), (77, iN wi)] rc_nil ?_
      have hst := St.swap (A := [(b1, .cells #[iN 0, iN 0, .slice none 0 0] 24), (lb, .cells #[iN (l - 1)] 3)]) (B := [(sb, .cells #[.slice A n c, iN (((ak1 : Nat) : Int)), .int .u64 sk1] 96)]) (C := L) hst
      refine m_cl #[pN sb 0, iN wi] (some 78) (c32 hB hn (by omega) hst) ?_
      rintro _ w1 ⟨k6, ak6, sk6, rfl, hk6a, hk6b, hk6t, hst⟩
      have hst := St.swap (A := [(sb, .cells #[.slice A n c, iN (((ak6 : Nat) : Int)), .int .u64 sk6] 96)]) (B := [(b1, .cells #[iN 0, iN 0, .slice none 0 0] 24), (lb, .cells #[iN (l - 1)] 3)]) (C := L) hst
      have hst : St G ((b1, .cells #[iN 0, iN 0, .slice none 0 0] 24) :: (lb, .cells #[iN (l - 1)] 3) :: (sb, .cells #[.slice A n c, iN (((ak6 : Nat) : Int)), .int .u64 sk6] 96) :: L) w1 := hst
      refine nx hst ?_
      refine m_cl #[iN k6] (some 79) (c50  hst) ?_
      rintro x20 w1 ⟨G20, hG20, hx20, hst⟩
      obtain ⟨xA20, xc20, rfl, _, _⟩ := id hx20.open
      refine nx hst ?_
      refine m_st ((b1, .cells #[iN ((vr k6).kind), iN ((vr k6).num), .slice xA20 ((vr k6).kids.length) xc20] 24) :: (lb, .cells #[iN (l - 1)] 3) :: (sb, .cells #[.slice A n c, iN (((ak6 : Nat) : Int)), .int .u64 sk6] 96) :: L) 0 [(0, iN ((vr k6).kind)), (1, iN ((vr k6).num)), (2, .slice xA20 ((vr k6).kids.length) xc20)] [iN ((vr k6).kind), iN ((vr k6).num), .slice xA20 ((vr k6).kids.length) xc20] none hst (fun w1 hst => ?_)
      refine r_nil ?_
      refine W_ret ?_
      refine q_rt [iN ((vr k6).kind), iN ((vr k6).num), .slice xA20 ((vr k6).kids.length) xc20] [(⟨b1, 0, none⟩, iN ((vr k6).kind)), (⟨b1, 1, none⟩, iN ((vr k6).num)), (⟨b1, 2, none⟩, .slice xA20 ((vr k6).kids.length) xc20)] (.agg #[iN ((vr k6).kind), iN ((vr k6).num), .slice xA20 ((vr k6).kids.length) xc20]) (rc_L 0 rfl rfl (rc_L 0 rfl rfl (rc_L 0 rfl rfl rc_nil))) hst ?_
      have hnd := nds_vr k6
      have hlv : l - 1 = l - (nds (vr k6) : Int) := by rw [hnd]; omega
      rw [hlv] at hst
      exact ⟨G20, vr k6, ak6, _, hG20, (hx20), rgt_vr (hk6b (by omega)), by rw [hnd]; omega, (fun _ => rfl), by rw [hnd]; omega, hst.drop [_]⟩
     ·skip
      have hp51 := hc49
      simp only [decide_eq_true_eq, decide_eq_false_iff_not, beq_iff_eq, beq_eq_false_iff_ne, bne_iff_ne, bne_eq_false_iff_eq, Bool.not_eq_true', Bool.not_eq_false', Bool.and_eq_true, Bool.and_eq_false_iff, ne_eq] at hp51
      refine W_skip ?_
      refine W_seq ?_
      refine W_rg [(.f, 0), (.f, 1)] hst ?_
      refine m_cl #[] (some 80) (c27  hst) ?_
      rintro x21 w1 ⟨G21, hG21, hx21, hst⟩
      obtain ⟨xA21, xc21, rfl, _, _⟩ := id hx21.open
      refine nx hst ?_
      refine m_st ((b1, .cells #[iN ((nt).kind), iN ((nt).num), .slice xA21 ((nt).kids.length) xc21] 24) :: (lb, .cells #[iN (l - 1)] 3) :: (sb, .cells #[.slice A n c, iN (((ak1 : Nat) : Int)), .int .u64 sk1] 96) :: L) 0 [(0, iN ((nt).kind)), (1, iN ((nt).num)), (2, .slice xA21 ((nt).kids.length) xc21)] [iN ((nt).kind), iN ((nt).num), .slice xA21 ((nt).kids.length) xc21] none hst (fun w1 hst => ?_)
      refine r_nil ?_
      refine W_ret ?_
      refine q_rt [iN ((nt).kind), iN ((nt).num), .slice xA21 ((nt).kids.length) xc21] [(⟨b1, 0, none⟩, iN ((nt).kind)), (⟨b1, 1, none⟩, iN ((nt).num)), (⟨b1, 2, none⟩, .slice xA21 ((nt).kids.length) xc21)] (.agg #[iN ((nt).kind), iN ((nt).num), .slice xA21 ((nt).kids.length) xc21]) (rc_L 0 rfl rfl (rc_L 0 rfl rfl (rc_L 0 rfl rfl rc_nil))) hst ?_
      have hnd := nds_nt
      have hlv : l - 1 = l - (nds (nt) : Int) := by rw [hnd]; omega
      rw [hlv] at hst
      exact ⟨G21, nt, ak1, _, hG21, (hx21), rgt_nt, by rw [hnd]; omega, (fun _ => rfl), by rw [hnd]; omega, hst.drop [_]⟩
    ·rw [hc47]
     have hp52 := hc47
     simp only [decide_eq_true_eq, decide_eq_false_iff_not, beq_iff_eq, beq_eq_false_iff_ne, bne_iff_ne, bne_eq_false_iff_eq, Bool.not_eq_true', Bool.not_eq_false', Bool.and_eq_true, Bool.and_eq_false_iff, ne_eq] at hp52
     refine r_en [] [] [(73, undef), (74, undef), (75, .bool false), (69, .bool false)] rc_nil ?_
     refine W_cF ?_
     refine W_skip ?_
     refine W_seq ?_
     refine W_rg [(.f, 0), (.f, 1)] hst ?_
     refine m_cl #[] (some 80) (c27  hst) ?_
     rintro x22 w1 ⟨G22, hG22, hx22, hst⟩
     obtain ⟨xA22, xc22, rfl, _, _⟩ := id hx22.open
     refine nx hst ?_
     refine m_st ((b1, .cells #[iN ((nt).kind), iN ((nt).num), .slice xA22 ((nt).kids.length) xc22] 24) :: (lb, .cells #[iN (l - 1)] 3) :: (sb, .cells #[.slice A n c, iN (((ak1 : Nat) : Int)), .int .u64 sk1] 96) :: L) 0 [(0, iN ((nt).kind)), (1, iN ((nt).num)), (2, .slice xA22 ((nt).kids.length) xc22)] [iN ((nt).kind), iN ((nt).num), .slice xA22 ((nt).kids.length) xc22] none hst (fun w1 hst => ?_)
     refine r_nil ?_
     refine W_ret ?_
     refine q_rt [iN ((nt).kind), iN ((nt).num), .slice xA22 ((nt).kids.length) xc22] [(⟨b1, 0, none⟩, iN ((nt).kind)), (⟨b1, 1, none⟩, iN ((nt).num)), (⟨b1, 2, none⟩, .slice xA22 ((nt).kids.length) xc22)] (.agg #[iN ((nt).kind), iN ((nt).num), .slice xA22 ((nt).kids.length) xc22]) (rc_L 0 rfl rfl (rc_L 0 rfl rfl (rc_L 0 rfl rfl rc_nil))) hst ?_
     have hnd := nds_nt
     have hlv : l - 1 = l - (nds (nt) : Int) := by rw [hnd]; omega
     rw [hlv] at hst
     exact ⟨G22, nt, ak1, _, hG22, (hx22), rgt_nt, by rw [hnd]; omega, (fun _ => rfl), by rw [hnd]; omega, hst.drop [_]⟩
  ·rw [hc35]
   have hp53 := hc35
   simp only [decide_eq_true_eq, decide_eq_false_iff_not, beq_iff_eq, beq_eq_false_iff_ne, bne_iff_ne, bne_eq_false_iff_eq, Bool.not_eq_true', Bool.not_eq_false', Bool.and_eq_true, Bool.and_eq_false_iff, ne_eq] at hp53
   refine r_en [] [] [(55, undef), (56, undef), (57, .bool false), (58, .bool false), (59, undef), (60, undef), (61, .bool false), (49, .bool false)] rc_nil ?_
   refine W_cF ?_
   refine W_seq ?_
   refine W_rg [(.p, 0), (.p, 1), (.p, 2), (.p, 3), (.p, 4), (.p, 5), (.p, 6)] hst ?_
   refine r_sg [(.p, 0), (.p, 1), (.p, 2)] [] [] [(70, iN wi), (71, .bool (decide (wi > 0))), (72, .bool (decide (wi > 0)))] rc_nil ?_
   rcases Bool.eq_false_or_eq_true (decide (wi > 0)) with hc54 | hc54
   ·rw [hc54]
    have hp55 := hc54
    simp only [decide_eq_true_eq, decide_eq_false_iff_not, beq_iff_eq, beq_eq_false_iff_ne, bne_iff_ne, bne_eq_false_iff_eq, Bool.not_eq_true', Bool.not_eq_false', Bool.and_eq_true, Bool.and_eq_false_iff, ne_eq] at hp55
    refine r_en [] [] [(73, iN k1), (74, .bool (k1 != 5)), (75, .bool (k1 != 5)), (69, .bool (k1 != 5))] rc_nil ?_
    refine W_cd (b := k1 != 5) (fun hc56 => ?_) (fun hc56 => ?_)
    ·skip
     have hp57 := hc56
     simp only [decide_eq_true_eq, decide_eq_false_iff_not, beq_iff_eq, beq_eq_false_iff_ne, bne_iff_ne, bne_eq_false_iff_eq, Bool.not_eq_true', Bool.not_eq_false', Bool.and_eq_true, Bool.and_eq_false_iff, ne_eq] at hp57
     refine W_seq ?_
     refine W_rg [(.p, 0), (.p, 1), (.f, 2), (.f, 3), (.f, 4)] hst ?_
     refine r_sg [(.p, 0), (.p, 1)] [] [] [(76, pN sb 0), (77, iN wi)] rc_nil ?_
     have hst := St.swap (A := [(b1, .cells #[iN 0, iN 0, .slice none 0 0] 24), (lb, .cells #[iN (l - 1)] 3)]) (B := [(sb, .cells #[.slice A n c, iN (((ak1 : Nat) : Int)), .int .u64 sk1] 96)]) (C := L) hst
     refine m_cl #[pN sb 0, iN wi] (some 78) (c32 hB hn (by omega) hst) ?_
     rintro _ w1 ⟨k7, ak7, sk7, rfl, hk7a, hk7b, hk7t, hst⟩
     have hst := St.swap (A := [(sb, .cells #[.slice A n c, iN (((ak7 : Nat) : Int)), .int .u64 sk7] 96)]) (B := [(b1, .cells #[iN 0, iN 0, .slice none 0 0] 24), (lb, .cells #[iN (l - 1)] 3)]) (C := L) hst
     have hst : St G ((b1, .cells #[iN 0, iN 0, .slice none 0 0] 24) :: (lb, .cells #[iN (l - 1)] 3) :: (sb, .cells #[.slice A n c, iN (((ak7 : Nat) : Int)), .int .u64 sk7] 96) :: L) w1 := hst
     refine nx hst ?_
     refine m_cl #[iN k7] (some 79) (c50  hst) ?_
     rintro x23 w1 ⟨G23, hG23, hx23, hst⟩
     obtain ⟨xA23, xc23, rfl, _, _⟩ := id hx23.open
     refine nx hst ?_
     refine m_st ((b1, .cells #[iN ((vr k7).kind), iN ((vr k7).num), .slice xA23 ((vr k7).kids.length) xc23] 24) :: (lb, .cells #[iN (l - 1)] 3) :: (sb, .cells #[.slice A n c, iN (((ak7 : Nat) : Int)), .int .u64 sk7] 96) :: L) 0 [(0, iN ((vr k7).kind)), (1, iN ((vr k7).num)), (2, .slice xA23 ((vr k7).kids.length) xc23)] [iN ((vr k7).kind), iN ((vr k7).num), .slice xA23 ((vr k7).kids.length) xc23] none hst (fun w1 hst => ?_)
     refine r_nil ?_
     refine W_ret ?_
     refine q_rt [iN ((vr k7).kind), iN ((vr k7).num), .slice xA23 ((vr k7).kids.length) xc23] [(⟨b1, 0, none⟩, iN ((vr k7).kind)), (⟨b1, 1, none⟩, iN ((vr k7).num)), (⟨b1, 2, none⟩, .slice xA23 ((vr k7).kids.length) xc23)] (.agg #[iN ((vr k7).kind), iN ((vr k7).num), .slice xA23 ((vr k7).kids.length) xc23]) (rc_L 0 rfl rfl (rc_L 0 rfl rfl (rc_L 0 rfl rfl rc_nil))) hst ?_
     have hnd := nds_vr k7
     have hlv : l - 1 = l - (nds (vr k7) : Int) := by rw [hnd]; omega
     rw [hlv] at hst
     exact ⟨G23, vr k7, ak7, _, hG23, (hx23), rgt_vr (hk7b (by omega)), by rw [hnd]; omega, (fun _ => rfl), by rw [hnd]; omega, hst.drop [_]⟩
    ·skip
     have hp58 := hc56
     simp only [decide_eq_true_eq, decide_eq_false_iff_not, beq_iff_eq, beq_eq_false_iff_ne, bne_iff_ne, bne_eq_false_iff_eq, Bool.not_eq_true', Bool.not_eq_false', Bool.and_eq_true, Bool.and_eq_false_iff, ne_eq] at hp58
     refine W_skip ?_
     refine W_seq ?_
     refine W_rg [(.f, 0), (.f, 1)] hst ?_
     refine m_cl #[] (some 80) (c27  hst) ?_
     rintro x24 w1 ⟨G24, hG24, hx24, hst⟩
     obtain ⟨xA24, xc24, rfl, _, _⟩ := id hx24.open
     refine nx hst ?_
     refine m_st ((b1, .cells #[iN ((nt).kind), iN ((nt).num), .slice xA24 ((nt).kids.length) xc24] 24) :: (lb, .cells #[iN (l - 1)] 3) :: (sb, .cells #[.slice A n c, iN (((ak1 : Nat) : Int)), .int .u64 sk1] 96) :: L) 0 [(0, iN ((nt).kind)), (1, iN ((nt).num)), (2, .slice xA24 ((nt).kids.length) xc24)] [iN ((nt).kind), iN ((nt).num), .slice xA24 ((nt).kids.length) xc24] none hst (fun w1 hst => ?_)
     refine r_nil ?_
     refine W_ret ?_
     refine q_rt [iN ((nt).kind), iN ((nt).num), .slice xA24 ((nt).kids.length) xc24] [(⟨b1, 0, none⟩, iN ((nt).kind)), (⟨b1, 1, none⟩, iN ((nt).num)), (⟨b1, 2, none⟩, .slice xA24 ((nt).kids.length) xc24)] (.agg #[iN ((nt).kind), iN ((nt).num), .slice xA24 ((nt).kids.length) xc24]) (rc_L 0 rfl rfl (rc_L 0 rfl rfl (rc_L 0 rfl rfl rc_nil))) hst ?_
     have hnd := nds_nt
     have hlv : l - 1 = l - (nds (nt) : Int) := by rw [hnd]; omega
     rw [hlv] at hst
     exact ⟨G24, nt, ak1, _, hG24, (hx24), rgt_nt, by rw [hnd]; omega, (fun _ => rfl), by rw [hnd]; omega, hst.drop [_]⟩
   ·rw [hc54]
    have hp59 := hc54
    simp only [decide_eq_true_eq, decide_eq_false_iff_not, beq_iff_eq, beq_eq_false_iff_ne, bne_iff_ne, bne_eq_false_iff_eq, Bool.not_eq_true', Bool.not_eq_false', Bool.and_eq_true, Bool.and_eq_false_iff, ne_eq] at hp59
    refine r_en [] [] [(73, undef), (74, undef), (75, .bool false), (69, .bool false)] rc_nil ?_
    refine W_cF ?_
    refine W_skip ?_
    refine W_seq ?_
    refine W_rg [(.f, 0), (.f, 1)] hst ?_
    refine m_cl #[] (some 80) (c27  hst) ?_
    rintro x25 w1 ⟨G25, hG25, hx25, hst⟩
    obtain ⟨xA25, xc25, rfl, _, _⟩ := id hx25.open
    refine nx hst ?_
    refine m_st ((b1, .cells #[iN ((nt).kind), iN ((nt).num), .slice xA25 ((nt).kids.length) xc25] 24) :: (lb, .cells #[iN (l - 1)] 3) :: (sb, .cells #[.slice A n c, iN (((ak1 : Nat) : Int)), .int .u64 sk1] 96) :: L) 0 [(0, iN ((nt).kind)), (1, iN ((nt).num)), (2, .slice xA25 ((nt).kids.length) xc25)] [iN ((nt).kind), iN ((nt).num), .slice xA25 ((nt).kids.length) xc25] none hst (fun w1 hst => ?_)
    refine r_nil ?_
    refine W_ret ?_
    refine q_rt [iN ((nt).kind), iN ((nt).num), .slice xA25 ((nt).kids.length) xc25] [(⟨b1, 0, none⟩, iN ((nt).kind)), (⟨b1, 1, none⟩, iN ((nt).num)), (⟨b1, 2, none⟩, .slice xA25 ((nt).kids.length) xc25)] (.agg #[iN ((nt).kind), iN ((nt).num), .slice xA25 ((nt).kids.length) xc25]) (rc_L 0 rfl rfl (rc_L 0 rfl rfl (rc_L 0 rfl rfl rc_nil))) hst ?_
    have hnd := nds_nt
    have hlv : l - 1 = l - (nds (nt) : Int) := by rw [hnd]; omega
    rw [hlv] at hst
    exact ⟨G25, nt, ak1, _, hG25, (hx25), rgt_nt, by rw [hnd]; omega, (fun _ => rfl), by rw [hnd]; omega, hst.drop [_]⟩

theorem c19 {G : GH} {L : LH} {w : World} {sb n c at_ : Nat} {A : Option Addr} {sd l : Int} {pl : Bool} (hl1 : 1 ≤ l) (hl2 : l ≤ 1000) (hat : (at_ : Int) + 2 * l ≤ 5000) (hB : ByS G A n) (hn : n < lim) (hst : St G ((sb, StB A n c at_ sd) :: L) w) :
  Cal Try.prog 19 #[.pointer (some ⟨sb, 0, none⟩), .int .i64 l, .bool pl] w fun x w' => ∃ G' t at' sd', Le G G' ∧ IsPoly G' x t ∧ rgt 0 t ∧ (nds t : Int) ≤ l ∧ (pl = true → plain t = true) ∧ at' ≤ at_ + 2 * nds t ∧ St G' ((sb, StB A n c at' sd') :: L) w' := by
 refine cal_of_W Try.func19 rfl (Nat.le_of_ble_eq_true (by kernel_rfl)) ?_
 refine W_seq ?_
 refine W_rg [(.f, 0)] hst ?_
 refine m_new (.cells #[iN 0, iN 0, .slice none 0 0] 24) (fun b1 => pN b1 0) (some 6) (fun b => by kernel_rfl) hst (fun b1 w1 hst => ?_)
 refine r_nil ?_
 refine W_seq ?_
 refine W_rg [(.p, 0), (.f, 1), (.f, 2)] hst ?_
 refine r_sg [(.p, 0)] [] [] [(8, iN l)] rc_nil ?_
 refine m_new (.cells #[iN 0] 3) (fun b2 => pN b2 0) (some 7) (fun b => by kernel_rfl) hst (fun b2 w1 hst => ?_)
 refine m_st ((b2, .cells #[iN l] 3) :: (b1, .cells #[iN 0, iN 0, .slice none 0 0] 24) :: (sb, .cells #[.slice A n c, iN (((at_ : Nat) : Int)), .int .u64 sd] 96) :: L) 0 [(0, iN l)] [iN l] none hst (fun w1 hst => ?_)
 refine r_nil ?_
 refine W_seq ?_
 refine W_rg [(.p, 0), (.p, 1), (.f, 2), (.f, 3)] hst ?_
 refine r_sg [(.p, 0), (.p, 1)] [] [] [(9, pN sb 0), (10, .bool pl)] rc_nil ?_
 have hst := St.swap (A := [(b2, .cells #[iN l] 3), (b1, .cells #[iN 0, iN 0, .slice none 0 0] 24)]) (B := [(sb, .cells #[.slice A n c, iN (((at_ : Nat) : Int)), .int .u64 sd] 96)]) (C := L) hst
 have hst := St.swap (A := [(sb, .cells #[.slice A n c, iN (((at_ : Nat) : Int)), .int .u64 sd] 96)]) (B := [(b2, .cells #[iN l] 3)]) (C := (b1, .cells #[iN 0, iN 0, .slice none 0 0] 24) :: L) hst
 refine m_cl #[pN sb 0, pN b2 0, iN 0, .bool pl] (some 11) (c61 l.toNat (by omega) hl1 hl2 (Int.le_refl _) (by omega) hat hB hn hst) ?_
 rintro x1 w1 ⟨G1, t, at2, sd2, hG1, hx, hr, hd, hp, ha, hst⟩
 obtain ⟨xA, xc, rfl, _, _⟩ := id hx.open
 have hst := hst.drop [_]
 have hst := St.swap (A := [(sb, StB A n c at2 sd2)]) (B := [(b1, .cells #[iN 0, iN 0, .slice none 0 0] 24)]) (C := L) hst
 have hst : St G1 ((b1, .cells #[iN 0, iN 0, .slice none 0 0] 24) :: (sb, .cells #[.slice A n c, iN (((at2 : Nat) : Int)), .int .u64 sd2] 96) :: L) w1 := hst
 refine nx hst ?_
 refine m_st ((b1, .cells #[iN t.kind, iN t.num, .slice xA t.kids.length xc] 24) :: (sb, .cells #[.slice A n c, iN (((at2 : Nat) : Int)), .int .u64 sd2] 96) :: L) 0 [(0, iN t.kind), (1, iN t.num), (2, .slice xA t.kids.length xc)] [iN t.kind, iN t.num, .slice xA t.kids.length xc] none hst (fun w1 hst => ?_)
 refine r_nil ?_
 refine W_ret ?_
 refine q_rt [iN t.kind, iN t.num, .slice xA t.kids.length xc] [(⟨b1, 0, none⟩, iN t.kind), (⟨b1, 1, none⟩, iN t.num), (⟨b1, 2, none⟩, .slice xA t.kids.length xc)] (.agg #[iN t.kind, iN t.num, .slice xA t.kids.length xc]) (rc_L 0 rfl rfl (rc_L 0 rfl rfl (rc_L 0 rfl rfl rc_nil))) hst ?_
 exact ⟨G1, t, at2, sd2, hG1, hx, hr, hd, hp, ha, hst.drop [_]⟩

end Go.Proofs.Ytjgnhhgigickaaa.Wk
/- The bytes of a string, written to, and a string of bytes again. Conditions: none; over any program. -/

namespace Go.Proofs.Ytjgnhhgigickaaa.Wk
open Go Md

section
variable {P : Program} {ops : Array Oper} {K : Env → World → Prop} {rest : List (Mv × Nat)} {S : World → Prop} {ρ : Env} {w : World} {i : Nat} {G : GH} {L : LH}
theorem m_strBytes2 {src dst e : TypeId} {x : Operand} {l : List UInt8} {d : Option Nat} (h : opAt ops i ρ = some (.convert src dst x, d)) (hx : ev ρ x = .string (bs l)) (hs : P.underlying src = some .string) (hd : P.underlying dst = some (.slice e)) (he : P.underlying e = some (.int .u8)) (hst : St G L w)
    (hk : ∀ b c row f1 f2 w', (∀ (i : Nat) (u : UInt8), l[i]? = some u → row[i]? = some (Value.int .u8 (u.toNat : Int))) → l.length ≤ c → row.length ≤ f1 → St G ((b, .cells (List.toArray row) e (f1, f2)) :: L) w' → RunD P ops K rest (SS G ((b, .cells (List.toArray row) e (f1, f2)) :: L)) (updo ρ d (.slice (some ⟨b, 0, none⟩) l.length c)) w') :
    RunD P ops K ((.f, i) :: rest) S ρ w := by
  refine m_fF h fun o ho => ?_
  have hrun := run_bytes_of_string w src dst e (bs l) hs hd he
  have hcap : l.length ≤ grownCap w (bs l).size 0 e := by
    unfold grownCap; rw [bs_size]; simp [Question.cut]
  generalize hgc : grownCap w (bs l).size 0 e = gc at *
  have hex : (execOp (ev ρ) o).run P w = .ok (.value (.slice (some ⟨w.heap.size, 0, none⟩) (bs l).size gc)) (w.drew.alloc (.cells (bytesRow (bs l) gc) e ((bytesRow (bs l) gc).size, (bytesRow (bs l) gc).size + 1))) := by
    simp [execOp, ho, hx, hrun, Result.andThen]
  have hd' : St G L w.drew := hst.heap ⟨rfl, rfl, rfl⟩
  have hst' := hd'.push (.cells (List.toArray (bytesRow (bs l) gc).toList) e ((bytesRow (bs l) gc).size, (bytesRow (bs l) gc).size + 1))
  refine OpE_ok hex ⟨_, St.ss ?_, hk w.heap.size gc (bytesRow (bs l) gc).toList (bytesRow (bs l) gc).size ((bytesRow (bs l) gc).size + 1) _ (fun i u hu => ?_) hcap (Nat.le_of_eq (Array.length_toList)) ?_⟩
  · exact hst'
  · have hlt := (List.getElem?_eq_some_iff.1 hu).1
    simp only [bytesRow, bs, Array.toList_append, Array.toList_map]
    rw [List.getElem?_append_left (by simpa using hlt), List.getElem?_map, hu]; rfl
  · exact hst'
theorem fold_bytes : ∀ (l : List UInt8) (acc : ByteArray), (l.map fun u => (u.toNat : Int)).foldl (fun r n => r.push (UInt8.ofNat n.toNat)) acc = ⟨acc.data ++ l.toArray⟩
  | [], acc => by simp
  | u :: l, acc => by
    rw [List.map_cons, List.foldl_cons, fold_bytes l]
    have : UInt8.ofNat ((u.toNat : Int)).toNat = u := by simp
    rw [this]
    apply ByteArray.ext
    simp [ByteArray.push]
theorem m_bytesStr {src dst e T : TypeId} {x : Operand} {d : Option Nat} {b c : Nat} {l : List UInt8} {row : List Value} {fz : Nat × Nat} (h : opAt ops i ρ = some (.convert src dst x, d)) (hx : ev ρ x = .slice (some ⟨b, 0, none⟩) l.length c)
    (hs : P.underlying src = some (.slice e)) (he : P.underlying e = some (.int .u8)) (hd : P.underlying dst = some .string) (hL : ∀ w', S w' → w'.heap[b]? = some (.cells (List.toArray row) T fz)) (hrow : ∀ (i : Nat) (u : UInt8), l[i]? = some u → row[i]? = some (Value.int .u8 (u.toNat : Int)))
    (hk : RunD P ops K rest S (updo ρ d (.string (bs l))) w) : RunD P ops K ((.l, i) :: rest) S ρ w := by
  refine m_lF _ h (fun o ho w' hS => ?_) hk
  have hb := hL w' hS
  have hload : (loadCells ⟨b, 0, none⟩ l.length).run P w' = .ok ((l.map fun u => (u.toNat : Int)).map (Value.int .u8)).toArray w' := by
    have := run_loadCells_list (P := P) (w := w') ⟨b, 0, none⟩ ((l.map fun u => (u.toNat : Int)).map (Value.int .u8)) (fun j v hv => by
      rw [List.getElem?_map, List.getElem?_map] at hv
      cases hu : l[j]? with
      | none => rw [hu] at hv; cases hv
      | some u =>
        rw [hu] at hv; simp only [Option.map_some, Option.some.injEq] at hv; subst hv
        have ha : (⟨b, 0, none⟩ : Addr).add j = ⟨b, j, none⟩ := by
          unfold Addr.add; split
          · rename_i h0; subst h0; rfl
          · simp
        rw [ha, cell_of hb]
        simpa using hrow j u hu)
    simpa using this
  have hrun := run_convert_bytes_string (P := P) w' src dst e (some ⟨b, 0, none⟩) l.length c hs he hd
  rw [run_bytesToString w' _ _ _ _ hload, fold_bytes] at hrun
  have hbs : (⟨ByteArray.empty.data ++ l.toArray⟩ : ByteArray) = bs l := by
    apply ByteArray.ext; simp [bs]
  rw [hbs] at hrun
  simp [execOp, ho, hx, hrun, Result.andThen]
end
/-- a byte written into a row -/
theorem row_set {l : List UInt8} {row : List Value} {p : Nat} {u : UInt8} (hp : p < l.length) (hrow : ∀ (i : Nat) (u : UInt8), l[i]? = some u → row[i]? = some (Value.int .u8 (u.toNat : Int))) :
    ∀ (i : Nat) (x : UInt8), (l.set p u)[i]? = some x → (row.set p (.int .u8 (u.toNat : Int)))[i]? = some (Value.int .u8 (x.toNat : Int)) := by
  intro i x hx
  rw [List.getElem?_set] at hx ⊢
  by_cases h : p = i
  · subst h
    rw [if_pos rfl] at hx ⊢
    obtain ⟨y, hy⟩ := get_of_lt hp
    have hr := (List.getElem?_eq_some_iff.1 (hrow p y hy)).1
    rw [if_pos hp] at hx
    rw [if_pos hr]
    cases hx; rfl
  · rw [if_neg h] at hx ⊢
    exact hrow i x hx
end Go.Proofs.Ytjgnhhgigickaaa.Wk
/- Walks of the given program's functions: equal, nodes, plain. Printed by tools/w46.py. Conditions: none. -/

namespace Go.Proofs.Ytjgnhhgigickaaa.Wk
open Go Md
set_option maxRecDepth 20000
set_option linter.unusedVariables false
set_option linter.unusedSimpArgs false
attribute [local irreducible] endQ

theorem c23 : ∀ (f : Nat) {G : GH} {L : LH} {w : World} {va vb : Value} {a b : T}, T.sz a < f → T.sz a < lim → IsPoly G va a → IsPoly G vb b → St G L w → Cal Try.prog 23 #[va, vb] w fun x w' => x = .bool (same a b) ∧ St G L w' := by
 intro f
 induction f with
 | zero => intro G L w va vb a b h; omega
 | succ f ih =>
 intro G L w va vb a b hf hz hva hvb hst
 have hlim : lim = 1099511627776 := rfl
 have hln := T.len_le a
 obtain ⟨aA, ac, rfl, hac, hak⟩ := id hva.open
 obtain ⟨bA, bc, rfl, hbc, hbk⟩ := id hvb.open
 refine cal_of_W Try.func23 rfl (Nat.le_of_ble_eq_true (by kernel_rfl)) ?_
 refine W_seq ?_
 refine W_rg [(.f, 0), (.f, 1), (.p, 2)] hst ?_
 refine m_new (.cells #[iN a.kind, iN a.num, .slice aA a.kids.length ac] 24) (fun b1 => pN b1 0) (some 2) (fun b => by kernel_rfl) hst (fun b1 w1 hst => ?_)
 refine m_new (.cells #[iN b.kind, iN b.num, .slice bA b.kids.length bc] 24) (fun b2 => pN b2 0) (some 3) (fun b => by kernel_rfl) hst (fun b2 w1 hst => ?_)
 refine r_en [] [] [(4, .bool false)] rc_nil ?_
 refine W_seq ?_
 refine W_seq ?_
 refine W_rg [(.p, 0), (.l, 1), (.p, 2), (.l, 3), (.p, 4), (.p, 5), (.p, 6), (.l, 7), (.p, 8), (.l, 9), (.p, 10), (.p, 11), (.p, 12), (.p, 13), (.l, 14), (.p, 15), (.p, 16), (.l, 17), (.p, 18), (.p, 19), (.p, 20)] hst ?_
 refine r_sg [(.p, 0), (.l, 1), (.p, 2), (.l, 3), (.p, 4), (.p, 5)] [[iN a.kind], [iN b.kind]] [(⟨b1, 0, none⟩, iN a.kind), (⟨b2, 0, none⟩, iN b.kind)] [(6, pN b1 0), (7, iN a.kind), (8, pN b2 0), (9, iN b.kind), (10, .bool (a.kind != b.kind)), (11, .bool (a.kind != b.kind))] (rc_L 1 rfl rfl (rc_L 0 rfl rfl rc_nil)) ?_
 rcases Bool.eq_false_or_eq_true (a.kind != b.kind) with hc3 | hc3
 ·rw [hc3]
  have hr := same_kind hc3
  refine r_en [] [] [(12, undef), (13, undef), (14, undef), (15, undef), (16, undef), (17, .bool true), (18, .bool true), (19, undef), (20, undef), (21, undef), (22, undef), (23, undef), (24, undef), (25, undef), (26, .bool true)] rc_nil ?_
  refine W_cT ?_
  refine W_seq ?_
  refine W_rg [(.p, 0)] hst ?_
  refine r_en [] [] [(4, .bool false)] rc_nil ?_
  refine W_ret ?_
  refine q_rt [] [] (.bool false) rc_nil hst ?_
  exact ⟨by rw [hr], hst.drop [_, _]⟩
 ·rw [hc3]
  have hnkind := hc3
  refine r_sg [(.p, 6), (.l, 7), (.p, 8), (.l, 9), (.p, 10), (.p, 11), (.p, 12)] [[iN a.num], [iN b.num]] [(⟨b1, 1, none⟩, iN a.num), (⟨b2, 1, none⟩, iN b.num)] [(12, pN b1 1), (13, iN a.num), (14, pN b2 1), (15, iN b.num), (16, .bool (a.num != b.num)), (17, .bool (a.num != b.num)), (18, .bool (a.num != b.num))] (rc_L 1 rfl rfl (rc_L 0 rfl rfl rc_nil)) ?_
  rcases Bool.eq_false_or_eq_true (a.num != b.num) with hc4 | hc4
  ·rw [hc4]
   have hr := same_num hc4
   refine r_en [] [] [(19, undef), (20, undef), (21, undef), (22, undef), (23, undef), (24, undef), (25, undef), (26, .bool true)] rc_nil ?_
   refine W_cT ?_
   refine W_seq ?_
   refine W_rg [(.p, 0)] hst ?_
   refine r_en [] [] [(4, .bool false)] rc_nil ?_
   refine W_ret ?_
   refine q_rt [] [] (.bool false) rc_nil hst ?_
   exact ⟨by rw [hr], hst.drop [_, _]⟩
  ·rw [hc4]
   have hnnum := hc4
   refine r_en [[.slice aA a.kids.length ac], [.slice bA b.kids.length bc]] [(⟨b1, 2, none⟩, .slice aA a.kids.length ac), (⟨b2, 2, none⟩, .slice bA b.kids.length bc)] [(19, pN b1 2), (20, .slice aA a.kids.length ac), (21, iN (((a.kids.length : Nat) : Int))), (22, pN b2 2), (23, .slice bA b.kids.length bc), (24, iN (((b.kids.length : Nat) : Int))), (25, .bool ((((a.kids.length : Nat) : Int)) != (((b.kids.length : Nat) : Int)))), (26, .bool ((((a.kids.length : Nat) : Int)) != (((b.kids.length : Nat) : Int))))] (rc_L 1 rfl rfl (rc_L 0 rfl rfl rc_nil)) ?_
   refine W_cd (b := (((a.kids.length : Nat) : Int)) != (((b.kids.length : Nat) : Int))) (fun hc5 => ?_) (fun hc5 => ?_)
   ·skip
    have hr := same_len hc5
    refine W_seq ?_
    refine W_rg [(.p, 0)] hst ?_
    refine r_en [] [] [(4, .bool false)] rc_nil ?_
    refine W_ret ?_
    refine q_rt [] [] (.bool false) rc_nil hst ?_
    exact ⟨by rw [hr], hst.drop [_, _]⟩
   ·skip
    obtain ⟨hsk, hsl⟩ := same_kids hnkind hnnum hc5
    refine W_skip ?_
    refine W_seq ?_
    refine W_seq ?_
    refine W_rg [(.p, 0), (.l, 1), (.p, 2), (.p, 3)] hst ?_
    refine r_en [[.slice aA a.kids.length ac]] [(⟨b1, 2, none⟩, .slice aA a.kids.length ac)] [(27, pN b1 2), (28, .slice aA a.kids.length ac), (29, iN (((a.kids.length : Nat) : Int))), (30, iN 0)] (rc_L 1 rfl rfl rc_nil) ?_
    refine W_block ?_
    refine W_loop (fun m ρ D w => ∃ (k : Nat), EqS ρ [(2, pN b1 0), (3, pN b2 0), (29, iN (((a.kids.length : Nat) : Int))), (30, iN (((k : Nat) : Int)))] ∧ D = [] ∧ St G ((b2, .cells #[iN b.kind, iN b.num, .slice bA b.kids.length bc] 24) :: (b1, .cells #[iN a.kind, iN a.num, .slice aA a.kids.length ac] 24) :: L) w ∧ (k ≤ a.kids.length) ∧ (same a b = sames (a.kids.drop k) (b.kids.drop k)) ∧ a.kids.length - k = m) (a.kids.length - 0) ⟨0, ⟨by kernel_rfl, by kernel_rfl, by kernel_rfl, by kernel_rfl, trivial⟩, rfl, hst, Nat.zero_le _, hsk, rfl⟩ ?_
    clear hst; rintro m6 ρ D w1 ⟨k, hE7, rfl, hst, hkk, hsm, hm8⟩
    refine W_env hE7 ?_
    refine W_seq ?_
    refine W_rg [(.p, 0)] hst ?_
    refine r_en [] [] [(31, .bool (decide ((((k : Nat) : Int)) < (((a.kids.length : Nat) : Int)))))] rc_nil ?_
    refine W_seq ?_
    refine W_cd (b := decide ((((k : Nat) : Int)) < (((a.kids.length : Nat) : Int)))) (fun hc9 => ?_) (fun hc9 => ?_)
    ·skip
     have hlt : k < a.kids.length := by have := of_decide_eq_true hc9; omega
     have hlt2 : k < b.kids.length := by omega
     obtain ⟨q, hq⟩ := get_of_lt hlt; obtain ⟨p, hp⟩ := get_of_lt hlt2
     have hqz := T.sz_kid hq
     have hstk := hst
     obtain ⟨eb1, eo1, qA, qc, rfl, hq0, hq1, hq2, hqp⟩ := (hak).elem hq
     have hst := hstk; clear hstk
     have hstk := hst
     obtain ⟨eb2, eo2, pA, pc, rfl, hp0, hp1, hp2, hpp⟩ := (hbk).elem hp
     have hst := hstk; clear hstk
     rw [drop_cons hq, drop_cons hp] at hsm; unfold sames at hsm
     refine W_skip ?_
     refine W_seq ?_
     refine W_block ?_
     refine W_seq ?_
     refine W_rg [(.p, 0), (.p, 1)] hst ?_
     refine r_en [] [] [(32, iN (((k : Nat) : Int))), (5, iN (((k : Nat) : Int)))] rc_nil ?_
     refine W_seq ?_
     refine W_rgd [(.p, 0), (.l, 1), (.p, 2), (.p, 3), (.l, 4), (.p, 5), (.l, 6), (.p, 7), (.p, 8), (.l, 9), (.f, 10), (.p, 11)] hst (fun w1 hst => ?_)
     refine r_sg [(.p, 0), (.l, 1), (.p, 2)] [[.slice (some ⟨eb1, eo1, none⟩) a.kids.length ac]] [(⟨b1, 2, none⟩, .slice (some ⟨eb1, eo1, none⟩) a.kids.length ac)] [(33, pN b1 2), (34, .slice (some ⟨eb1, eo1, none⟩) a.kids.length ac), (35, iN (((k : Nat) : Int)))] (rc_L 1 rfl rfl rc_nil) ?_
     refine m_idx (sz := 3) (b := eb1) (off := eo1) (n := a.kids.length) (c := ac) (k := k) (some 36) (show opAt _ _ _ = some (.indexAddr 22 (.tmp 34) (.tmp 35), _) by kernel_rfl) (by kernel_rfl) (by kernel_rfl) Try.underlying22 sz24 hlt ?_
     refine r_sg [(.l, 4), (.p, 5), (.l, 6), (.p, 7)] [[iN q.kind, iN q.num, .slice qA q.kids.length qc], [.slice (some ⟨eb2, eo2, none⟩) b.kids.length bc]] [(⟨eb1, eo1 + k * 3, none⟩, iN q.kind), (⟨eb1, eo1 + k * 3 + 1, none⟩, iN q.num), (⟨eb1, eo1 + k * 3 + 2, none⟩, .slice qA q.kids.length qc), (⟨b2, 2, none⟩, .slice (some ⟨eb2, eo2, none⟩) b.kids.length bc)] [(37, .agg #[iN q.kind, iN q.num, .slice qA q.kids.length qc]), (38, pN b2 2), (39, .slice (some ⟨eb2, eo2, none⟩) b.kids.length bc), (40, iN (((k : Nat) : Int)))] (rc_C hq0 (rc_C hq1 (rc_C hq2 (rc_L 0 rfl rfl rc_nil)))) ?_
     refine m_idx (sz := 3) (b := eb2) (off := eo2) (n := b.kids.length) (c := bc) (k := k) (some 41) (show opAt _ _ _ = some (.indexAddr 22 (.tmp 39) (.tmp 40), _) by kernel_rfl) (by kernel_rfl) (by kernel_rfl) Try.underlying22 sz24 hlt2 ?_
     refine r_sg [(.l, 9)] [[iN p.kind, iN p.num, .slice pA p.kids.length pc]] [(⟨eb2, eo2 + k * 3, none⟩, iN p.kind), (⟨eb2, eo2 + k * 3 + 1, none⟩, iN p.num), (⟨eb2, eo2 + k * 3 + 2, none⟩, .slice pA p.kids.length pc)] [(42, .agg #[iN p.kind, iN p.num, .slice pA p.kids.length pc])] (rc_C hp0 (rc_C hp1 (rc_C hp2 rc_nil))) ?_
     refine m_cl #[.agg #[iN q.kind, iN q.num, .slice qA q.kids.length qc], .agg #[iN p.kind, iN p.num, .slice pA p.kids.length pc]] (some 43) (ih (a := q) (b := p) (by omega) (by omega) hqp hpp hst) ?_
     rintro _ w1 ⟨rfl, hst⟩
     refine nx hst ?_
     refine r_en [] [] [(44, .bool (!(same q p)))] rc_nil ?_
     refine W_cd (b := !(same q p)) (fun hc10 => ?_) (fun hc10 => ?_)
     ·skip
      have hr : same a b = false := by have := hc10; rw [Bool.not_eq_true'] at this; rw [hsm, this]; rfl
      refine W_seq ?_
      refine W_rg [(.p, 0)] hst ?_
      refine r_en [] [] [(4, .bool false)] rc_nil ?_
      refine W_ret ?_
      refine q_rt [] [] (.bool false) rc_nil hst ?_
      exact ⟨by rw [hr], hst.drop [_, _]⟩
     ·skip
      have hqp1 : same q p = true := by have := hc10; rw [Bool.not_eq_false'] at this; exact this
      refine W_skip ?_
      refine W_rg [(.p, 0), (.p, 1)] hst ?_
      refine r_en [] [] [(45, iN (IntKind.wrap .i64 ((((k : Nat) : Int)) + 1))), (30, iN (IntKind.wrap .i64 ((((k : Nat) : Int)) + 1)))] rc_nil ?_
      exact ⟨_, (by omega), k + 1, ⟨by kernel_rfl, by kernel_rfl, by kernel_rfl, (by rw [← wrap_succ (k := k) (by omega)]; kernel_rfl), trivial⟩, rfl, hst, hlt, (by rw [hsm, hqp1]; rfl), rfl⟩
    ·skip
     rw [List.drop_of_length_le (by have := of_decide_eq_false hc9; omega), List.drop_of_length_le (by have := of_decide_eq_false hc9; omega)] at hsm
     have hr : same a b = true := hsm
     refine W_exit ?_
     refine W_seq ?_
     refine W_rg [(.p, 0)] hst ?_
     refine r_en [] [] [(4, .bool true)] rc_nil ?_
     refine W_ret ?_
     refine q_rt [] [] (.bool true) rc_nil hst ?_
     exact ⟨by rw [hr], hst.drop [_, _]⟩

theorem ndss_take : ∀ {ts : List T} {k : Nat} {q : T}, ts[k]? = some q → ndss (ts.take (k + 1)) = ndss (ts.take k) + nds q
 | [], _, _, h => by simp at h
 | t :: ts, 0, q, h => by
  simp at h; subst h
  show ndss [t] = ndss [] + nds t
  rw [ndss_cons]; show nds t + 0 = 0 + nds t; omega
 | t :: ts, k + 1, q, h => by
  have := ndss_take (ts := ts) (k := k) (by simpa using h)
  show ndss (t :: ts.take (k + 1)) = ndss (t :: ts.take k) + nds q
  rw [ndss_cons, ndss_cons, this]; omega
theorem ndss_take_le : ∀ (ts : List T) (k : Nat), ndss (ts.take k) ≤ ndss ts
 | [], k => by simp
 | t :: ts, 0 => Nat.zero_le _
 | t :: ts, k + 1 => by
  have := ndss_take_le ts k
  show ndss (t :: ts.take k) ≤ _
  rw [ndss_cons, ndss_cons]; omega
theorem nds_kids (t : T) : nds t = ndss t.kids + 1 := by cases t; rfl
theorem c24 : ∀ (f : Nat) {G : GH} {L : LH} {w : World} {v : Value} {t : T}, nds t < f → nds t ≤ 1000000 → T.sz t < lim → IsPoly G v t → St G L w → Cal Try.prog 24 #[v] w fun x w' => x = .int .i64 ((nds t : Nat) : Int) ∧ St G L w' := by
 intro f
 induction f with
 | zero => intro G L w v t h; omega
 | succ f ih =>
 intro G L w v t hf hn hz hv hst
 have hlim : lim = 1099511627776 := rfl
 have hln := T.len_le t
 obtain ⟨tA, tc, rfl, htc, htk⟩ := id hv.open
 refine cal_of_W Try.func24 rfl (Nat.le_of_ble_eq_true (by kernel_rfl)) ?_
 refine W_seq ?_
 refine W_rg [(.f, 0), (.p, 1)] hst ?_
 refine m_new (.cells #[iN t.kind, iN t.num, .slice tA t.kids.length tc] 24) (fun b1 => pN b1 0) (some 1) (fun b => by kernel_rfl) hst (fun b1 w1 hst => ?_)
 refine r_en [] [] [(2, iN 0)] rc_nil ?_
 refine W_seq ?_
 refine W_rg [(.p, 0)] hst ?_
 refine r_en [] [] [(3, iN 1)] rc_nil ?_
 refine W_seq ?_
 refine W_seq ?_
 refine W_rg [(.p, 0), (.l, 1), (.p, 2), (.p, 3)] hst ?_
 refine r_en [[.slice tA t.kids.length tc]] [(⟨b1, 2, none⟩, .slice tA t.kids.length tc)] [(6, pN b1 2), (7, .slice tA t.kids.length tc), (8, iN (((t.kids.length : Nat) : Int))), (9, iN 0)] (rc_L 0 rfl rfl rc_nil) ?_
 refine W_block ?_
 refine W_loop (fun m ρ D w => ∃ (k : Nat) (mn : Nat), EqS ρ [(3, iN (((mn : Nat) : Int))), (7, .slice tA t.kids.length tc), (8, iN (((t.kids.length : Nat) : Int))), (9, iN (((k : Nat) : Int)))] ∧ D = [] ∧ St G ((b1, .cells #[iN t.kind, iN t.num, .slice tA t.kids.length tc] 24) :: L) w ∧ (k ≤ t.kids.length) ∧ (mn = ndss (t.kids.take k) + 1) ∧ t.kids.length - k = m) (t.kids.length - 0) ⟨0, 1, ⟨by kernel_rfl, by kernel_rfl, by kernel_rfl, by kernel_rfl, trivial⟩, rfl, hst, Nat.zero_le _, rfl, rfl⟩ ?_
 clear hst; rintro m2 ρ D w1 ⟨k, mn, hE3, rfl, hst, hkk, hmn, hm4⟩
 refine W_env hE3 ?_
 refine W_seq ?_
 refine W_rg [(.p, 0)] hst ?_
 refine r_en [] [] [(10, .bool (decide ((((k : Nat) : Int)) < (((t.kids.length : Nat) : Int)))))] rc_nil ?_
 refine W_seq ?_
 refine W_cd (b := decide ((((k : Nat) : Int)) < (((t.kids.length : Nat) : Int)))) (fun hc5 => ?_) (fun hc5 => ?_)
 ·skip
  have hlt : k < t.kids.length := by have := of_decide_eq_true hc5; omega
  obtain ⟨q, hq⟩ := get_of_lt hlt
  have hqz := T.sz_kid hq
  have hqn := nds_kid hq
  have hqt := ndss_take hq
  have hstk := hst
  obtain ⟨eb1, eo1, qA, qc, rfl, hq0, hq1, hq2, hqp⟩ := (htk).elem hq
  have hst := hstk; clear hstk
  refine W_skip ?_
  refine W_seq ?_
  refine W_block ?_
  refine W_seq ?_
  refine W_rg [(.p, 0), (.l, 1), (.f, 2), (.f, 3)] hst ?_
  refine m_idx (sz := 3) (b := eb1) (off := eo1) (n := t.kids.length) (c := tc) (k := k) (some 11) (show opAt _ _ _ = some (.indexAddr 22 (.tmp 7) (.tmp 9), _) by kernel_rfl) (by kernel_rfl) (by kernel_rfl) Try.underlying22 sz24 hlt ?_
  refine r_sg [(.l, 1)] [[iN q.kind, iN q.num, .slice qA q.kids.length qc]] [(⟨eb1, eo1 + k * 3, none⟩, iN q.kind), (⟨eb1, eo1 + k * 3 + 1, none⟩, iN q.num), (⟨eb1, eo1 + k * 3 + 2, none⟩, .slice qA q.kids.length qc)] [(12, .agg #[iN q.kind, iN q.num, .slice qA q.kids.length qc])] (rc_C hq0 (rc_C hq1 (rc_C hq2 rc_nil))) ?_
  refine m_new (.cells #[iN 0, iN 0, .slice none 0 0] 24) (fun b6 => pN b6 0) (some 5) (fun b => by kernel_rfl) hst (fun b6 w1 hst => ?_)
  refine m_st ((b6, .cells #[iN q.kind, iN q.num, .slice qA q.kids.length qc] 24) :: (b1, .cells #[iN t.kind, iN t.num, .slice (some ⟨eb1, eo1, none⟩) t.kids.length tc] 24) :: L) 0 [(0, iN q.kind), (1, iN q.num), (2, .slice qA q.kids.length qc)] [iN q.kind, iN q.num, .slice qA q.kids.length qc] none hst (fun w1 hst => ?_)
  refine r_nil ?_
  refine W_rg [(.p, 0), (.l, 1), (.f, 2), (.p, 3), (.p, 4)] hst ?_
  refine r_sg [(.p, 0), (.l, 1)] [[iN q.kind, iN q.num, .slice qA q.kids.length qc]] [(⟨b6, 0, none⟩, iN q.kind), (⟨b6, 1, none⟩, iN q.num), (⟨b6, 2, none⟩, .slice qA q.kids.length qc)] [(13, iN (((mn : Nat) : Int))), (14, .agg #[iN q.kind, iN q.num, .slice qA q.kids.length qc])] (rc_L 0 rfl rfl (rc_L 0 rfl rfl (rc_L 0 rfl rfl rc_nil))) ?_
  refine m_cl #[.agg #[iN q.kind, iN q.num, .slice qA q.kids.length qc]] (some 15) (ih (t := q) (by omega) (by omega) (by omega) hqp hst) ?_
  rintro _ w1 ⟨rfl, hst⟩
  have hle1 : ndss (t.kids.take (k + 1)) ≤ ndss t.kids := ndss_take_le _ _
  have hnk := nds_kids t
  have hwn : IntKind.wrap .i64 (((mn : Nat) : Int) + ((nds q : Nat) : Int)) = ((mn + nds q : Nat) : Int) := by rw [wrap_id] <;> omega
  refine nx hst ?_
  refine r_en [] [] [(16, iN (IntKind.wrap .i64 ((((mn : Nat) : Int)) + (((nds q : Nat) : Int))))), (3, iN (IntKind.wrap .i64 ((((mn : Nat) : Int)) + (((nds q : Nat) : Int)))))] rc_nil ?_
  refine W_rg [(.p, 0), (.p, 1)] hst ?_
  refine r_en [] [] [(17, iN (IntKind.wrap .i64 ((((k : Nat) : Int)) + 1))), (9, iN (IntKind.wrap .i64 ((((k : Nat) : Int)) + 1)))] rc_nil ?_
  exact ⟨_, (by omega), k + 1, mn + nds q, ⟨(by rw [← hwn]; kernel_rfl), by kernel_rfl, by kernel_rfl, (by rw [← wrap_succ (k := k) (by omega)]; kernel_rfl), trivial⟩, rfl, (hst.drop [_]), hlt, (by rw [hqt, hmn]; omega), rfl⟩
 ·skip
  have hge : k = t.kids.length := by have := of_decide_eq_false hc5; omega
  refine W_exit ?_
  refine W_seq ?_
  refine W_rg [(.p, 0), (.p, 1)] hst ?_
  refine r_en [] [] [(18, iN (((mn : Nat) : Int))), (2, iN (((mn : Nat) : Int)))] rc_nil ?_
  refine W_ret ?_
  refine q_rt [] [] (iN (((mn : Nat) : Int))) rc_nil hst ?_
  have hr : nds t = mn := by rw [nds_kids, hmn, List.take_of_length_le (by omega)]
  exact ⟨by rw [hr], hst.drop [_]⟩

theorem plain_eq (t : T) : plain t = (decide (t.kind ≠ 4) && plains t.kids) := by cases t; rfl
theorem c22 : ∀ (f : Nat) {G : GH} {L : LH} {w : World} {v : Value} {t : T}, T.sz t < f → T.sz t < lim → IsPoly G v t → St G L w → Cal Try.prog 22 #[v] w fun x w' => x = .bool (plain t) ∧ St G L w' := by
 intro f
 induction f with
 | zero => intro G L w v t h; omega
 | succ f ih =>
 intro G L w v t hf hz hv hst
 have hlim : lim = 1099511627776 := rfl
 have hln := T.len_le t
 have hpe := plain_eq t
 obtain ⟨tA, tc, rfl, htc, htk⟩ := id hv.open
 refine cal_of_W Try.func22 rfl (Nat.le_of_ble_eq_true (by kernel_rfl)) ?_
 refine W_seq ?_
 refine W_rg [(.f, 0), (.p, 1)] hst ?_
 refine m_new (.cells #[iN t.kind, iN t.num, .slice tA t.kids.length tc] 24) (fun b1 => pN b1 0) (some 1) (fun b => by kernel_rfl) hst (fun b1 w1 hst => ?_)
 refine r_en [] [] [(2, .bool false)] rc_nil ?_
 refine W_seq ?_
 refine W_seq ?_
 refine W_rg [(.p, 0), (.l, 1), (.p, 2)] hst ?_
 refine r_en [[iN t.kind]] [(⟨b1, 0, none⟩, iN t.kind)] [(5, pN b1 0), (6, iN t.kind), (7, .bool (t.kind == 4))] (rc_L 0 rfl rfl rc_nil) ?_
 refine W_cd (b := t.kind == 4) (fun hc2 => ?_) (fun hc2 => ?_)
 ·skip
  have hr : plain t = false := by rw [hpe, show t.kind = 4 by simpa using hc2]; rfl
  refine W_seq ?_
  refine W_rg [(.p, 0)] hst ?_
  refine r_en [] [] [(2, .bool false)] rc_nil ?_
  refine W_ret ?_
  refine q_rt [] [] (.bool false) rc_nil hst ?_
  exact ⟨by rw [hr], hst.drop [_]⟩
 ·skip
  have hpk : plain t = plains t.kids := by rw [hpe]; have : decide (t.kind ≠ 4) = true := decide_eq_true (by simpa using hc2); rw [this]; rfl
  refine W_skip ?_
  refine W_seq ?_
  refine W_seq ?_
  refine W_rg [(.p, 0), (.l, 1), (.p, 2), (.p, 3)] hst ?_
  refine r_en [[.slice tA t.kids.length tc]] [(⟨b1, 2, none⟩, .slice tA t.kids.length tc)] [(8, pN b1 2), (9, .slice tA t.kids.length tc), (10, iN (((t.kids.length : Nat) : Int))), (11, iN 0)] (rc_L 0 rfl rfl rc_nil) ?_
  refine W_block ?_
  refine W_loop (fun m ρ D w => ∃ (k : Nat), EqS ρ [(9, .slice tA t.kids.length tc), (10, iN (((t.kids.length : Nat) : Int))), (11, iN (((k : Nat) : Int)))] ∧ D = [] ∧ St G ((b1, .cells #[iN t.kind, iN t.num, .slice tA t.kids.length tc] 24) :: L) w ∧ (k ≤ t.kids.length) ∧ (plain t = plains (t.kids.drop k)) ∧ t.kids.length - k = m) (t.kids.length - 0) ⟨0, ⟨by kernel_rfl, by kernel_rfl, by kernel_rfl, trivial⟩, rfl, hst, Nat.zero_le _, hpk, rfl⟩ ?_
  clear hst; rintro m3 ρ D w1 ⟨k, hE4, rfl, hst, hkk, hpp, hm5⟩
  refine W_env hE4 ?_
  refine W_seq ?_
  refine W_rg [(.p, 0)] hst ?_
  refine r_en [] [] [(12, .bool (decide ((((k : Nat) : Int)) < (((t.kids.length : Nat) : Int)))))] rc_nil ?_
  refine W_seq ?_
  refine W_cd (b := decide ((((k : Nat) : Int)) < (((t.kids.length : Nat) : Int)))) (fun hc6 => ?_) (fun hc6 => ?_)
  ·skip
   have hlt : k < t.kids.length := by have := of_decide_eq_true hc6; omega
   obtain ⟨q, hq⟩ := get_of_lt hlt
   have hqz := T.sz_kid hq
   have hstk := hst
   obtain ⟨eb1, eo1, qA, qc, rfl, hq0, hq1, hq2, hqp⟩ := (htk).elem hq
   have hst := hstk; clear hstk
   rw [drop_cons hq, plains] at hpp
   refine W_skip ?_
   refine W_seq ?_
   refine W_block ?_
   refine W_seq ?_
   refine W_rg [(.p, 0), (.l, 1), (.f, 2), (.f, 3)] hst ?_
   refine m_idx (sz := 3) (b := eb1) (off := eo1) (n := t.kids.length) (c := tc) (k := k) (some 13) (show opAt _ _ _ = some (.indexAddr 22 (.tmp 9) (.tmp 11), _) by kernel_rfl) (by kernel_rfl) (by kernel_rfl) Try.underlying22 sz24 hlt ?_
   refine r_sg [(.l, 1)] [[iN q.kind, iN q.num, .slice qA q.kids.length qc]] [(⟨eb1, eo1 + k * 3, none⟩, iN q.kind), (⟨eb1, eo1 + k * 3 + 1, none⟩, iN q.num), (⟨eb1, eo1 + k * 3 + 2, none⟩, .slice qA q.kids.length qc)] [(14, .agg #[iN q.kind, iN q.num, .slice qA q.kids.length qc])] (rc_C hq0 (rc_C hq1 (rc_C hq2 rc_nil))) ?_
   refine m_new (.cells #[iN 0, iN 0, .slice none 0 0] 24) (fun b7 => pN b7 0) (some 4) (fun b => by kernel_rfl) hst (fun b7 w1 hst => ?_)
   refine m_st ((b7, .cells #[iN q.kind, iN q.num, .slice qA q.kids.length qc] 24) :: (b1, .cells #[iN t.kind, iN t.num, .slice (some ⟨eb1, eo1, none⟩) t.kids.length tc] 24) :: L) 0 [(0, iN q.kind), (1, iN q.num), (2, .slice qA q.kids.length qc)] [iN q.kind, iN q.num, .slice qA q.kids.length qc] none hst (fun w1 hst => ?_)
   refine r_nil ?_
   refine W_seq ?_
   refine W_rg [(.l, 0), (.f, 1), (.p, 2)] hst ?_
   refine r_sg [(.l, 0)] [[iN q.kind, iN q.num, .slice qA q.kids.length qc]] [(⟨b7, 0, none⟩, iN q.kind), (⟨b7, 1, none⟩, iN q.num), (⟨b7, 2, none⟩, .slice qA q.kids.length qc)] [(15, .agg #[iN q.kind, iN q.num, .slice qA q.kids.length qc])] (rc_L 0 rfl rfl (rc_L 0 rfl rfl (rc_L 0 rfl rfl rc_nil))) ?_
   refine m_cl #[.agg #[iN q.kind, iN q.num, .slice qA q.kids.length qc]] (some 16) (ih (t := q) (by omega) (by omega) hqp hst) ?_
   rintro _ w1 ⟨rfl, hst⟩
   refine nx hst ?_
   refine r_en [] [] [(17, .bool (!(plain q)))] rc_nil ?_
   refine W_cd (b := !(plain q)) (fun hc8 => ?_) (fun hc8 => ?_)
   ·skip
    have hr : plain t = false := by have := hc8; rw [Bool.not_eq_true'] at this; rw [hpp, this]; rfl
    refine W_seq ?_
    refine W_rg [(.p, 0)] hst ?_
    refine r_en [] [] [(2, .bool false)] rc_nil ?_
    refine W_ret ?_
    refine q_rt [] [] (.bool false) rc_nil hst ?_
    exact ⟨by rw [hr], hst.drop [_, _]⟩
   ·skip
    have hq1 : plain q = true := by have := hc8; rw [Bool.not_eq_false'] at this; exact this
    refine W_skip ?_
    refine W_rg [(.p, 0), (.p, 1)] hst ?_
    refine r_en [] [] [(18, iN (IntKind.wrap .i64 ((((k : Nat) : Int)) + 1))), (11, iN (IntKind.wrap .i64 ((((k : Nat) : Int)) + 1)))] rc_nil ?_
    exact ⟨_, (by omega), k + 1, ⟨by kernel_rfl, by kernel_rfl, (by rw [← wrap_succ (k := k) (by omega)]; kernel_rfl), trivial⟩, rfl, (hst.drop [_]), hlt, (by rw [hpp, hq1]; rfl), rfl⟩
  ·skip
   rw [List.drop_of_length_le (by have := of_decide_eq_false hc6; omega), plains] at hpp
   have hr : plain t = true := hpp
   refine W_exit ?_
   refine W_seq ?_
   refine W_rg [(.p, 0)] hst ?_
   refine r_en [] [] [(2, .bool true)] rc_nil ?_
   refine W_ret ?_
   refine q_rt [] [] (.bool true) rc_nil hst ?_
   exact ⟨by rw [hr], hst.drop [_]⟩

end Go.Proofs.Ytjgnhhgigickaaa.Wk
/- The plain law behind RankTexts: the program and the reference read a text alike. Conditions: none. -/

namespace Go.Proofs.Ytjgnhhgigickaaa.Wk
open Go Md

theorem word_append : ∀ (l1 l2 s : List UInt8) (a : Nat), word (l1 ++ l2) s a = if (word l1 s a).1 = false then (false, (word l1 s a).2) else word l2 s (word l1 s a).2
  | [], l2, s, a => by simp [word]
  | c :: l1, l2, s, a => by
    simp only [List.cons_append, word]
    split
    · exact word_append l1 l2 s (a + 1)
    · simp
theorem word_ge : ∀ (l s : List UInt8) (a : Nat), a ≤ (word l s a).2
  | [], _, _ => Nat.le_refl _
  | c :: l, s, a => by
    unfold word; split
    · have := word_ge l s (a + 1); omega
    · exact Nat.le_refl _
theorem word_fst {c : UInt8} {l s : List UInt8} {a : Nat} (h : ¬ s[a]? = some c) : word (c :: l) s a = (false, a) := by unfold word; rw [if_neg h]
theorem next_is {s : List UInt8} {a : Nat} {c : UInt8} (hc : c ≠ 0) : Md.next s a = c ↔ s[a]? = some c := by
  unfold Md.next
  cases h : s[a]? with
  | none => simp; exact fun h => hc h.symm
  | some b => simp

/-- what the answers of both have to do with one another -/
def Rel (s : List UInt8) (inner : Bool) (at_ : Nat) (q r : (T × Bool) × Nat) : Prop :=
  q.2 = r.2 ∧ at_ ≤ q.2 ∧ q.2 ≤ s.length ∧
  (q.1.2 = true → r.1.2 = false ∧ r.1.1 = q.1.1 ∧ (q.1.1.kids.length = 0 ↔ q.1.1.kind ≠ 3 ∧ q.1.1.kind ≠ 4) ∧ (inner = false → q.2 = s.length) ∧ (inner = true → s[q.2]? = some 41)) ∧
  (q.1.2 = false → r.1.2 = true ∨ (inner = false → q.2 ≠ s.length) ∧ (inner = true → ¬ s[q.2]? = some 41))
/-- the reference, behind the first part of a type -/
def rcont (f : Nat) (s : List UInt8) (at_ : Nat) (n : Int) (must : Bool) (t : T) : Option ((T × Bool) × Nat) :=
  if must = false ∧ ¬ s[at_]? = some 32 then some ((t, false), at_)
  else if (word [32, 45, 62, 32] s at_).1 = false then some ((t, true), (word [32, 45, 62, 32] s at_).2)
  else (rtyped f s (word [32, 45, 62, 32] s at_).2 n).bind fun p => some ((.mk 3 0 [t, p.1.1], p.1.2), p.2)
def Both (s : List UInt8) (m : Nat) : Prop := ∀ (at_ : Nat) (n : Int) (inner : Bool) (f g : Nat), at_ ≤ s.length → s.length - at_ ≤ m → 0 ≤ n → n ≤ 26 → 3 * (s.length - at_) + 3 ≤ f → 3 * (s.length - at_) + 3 ≤ g →
  ∃ q r, Md.typ f s at_ n inner = some q ∧ rtyped g s at_ n = some r ∧ Rel s inner at_ q r
theorem rest_law {s : List UInt8} {m : Nat} (ih : ∀ k, k < m → Both s k) {at_ : Nat} {n : Int} {inner must : Bool} {f g : Nat} {t : T} (h1 : at_ ≤ s.length) (h2 : s.length - at_ < m) (h3 : 0 ≤ n) (h4 : n ≤ 26) (hf : 3 * (s.length - at_) + 2 ≤ f) (hg : 3 * (s.length - at_) + 2 ≤ g)
    (hk : t.kids.length = 0 ↔ t.kind ≠ 3 ∧ t.kind ≠ 4) : ∃ q r, Md.rest f s at_ n inner must t = some q ∧ rcont g s at_ n must t = some r ∧ Rel s inner at_ q r := by
  obtain _ | f := f
  · omega
  unfold Md.rest rcont
  by_cases c : must = false ∧ (at_ = s.length ∧ inner = false ∨ inner = true ∧ Md.next s at_ = 41)
  · rw [if_pos c]
    obtain ⟨rfl, c⟩ := c
    have hn : ¬ s[at_]? = some 32 := by
      rcases c with ⟨c, _⟩ | ⟨_, c⟩
      · rw [List.getElem?_eq_none (by omega)]; simp
      · rw [(next_is (by decide)).1 c]; simp
    rw [if_pos ⟨rfl, hn⟩]
    refine ⟨_, _, rfl, rfl, rfl, Nat.le_refl _, h1, fun _ => ⟨rfl, rfl, hk, ?_, ?_⟩, fun h => by cases h⟩
    · rcases c with ⟨c, _⟩ | ⟨c, _⟩
      · exact fun _ => c
      · exact fun h => by rw [c] at h; cases h
    · rcases c with ⟨_, c⟩ | ⟨_, c⟩
      · exact fun h => by rw [c] at h; cases h
      · exact fun _ => (next_is (by decide)).1 c
  · rw [if_neg c]
    have hle := word_le [32, 45, 62, 32] s at_ h1
    have hge := word_ge [32, 45, 62, 32] s at_
    by_cases w : (word [32, 45, 62, 32] s at_).1 = false
    · rw [if_pos w]
      by_cases c2 : must = false ∧ ¬ s[at_]? = some 32
      · rw [if_pos c2]
        have hw := word_fst (l := [45, 62, 32]) c2.2
        refine ⟨_, _, rfl, rfl, by rw [hw], hge, hle, (fun h => by cases h), fun _ => .inr ⟨fun hi hx => c ⟨c2.1, .inl ⟨by rw [hw] at hx; exact hx, hi⟩⟩, fun hi hx => c ⟨c2.1, .inr ⟨hi, (next_is (by decide)).2 (by rw [hw] at hx; exact hx)⟩⟩⟩⟩
      · rw [if_neg c2, if_pos w]
        exact ⟨_, _, rfl, rfl, rfl, hge, hle, (fun h => by cases h), fun _ => .inl rfl⟩
    · rw [if_neg w]
      have hs := word_step _ _ _ (by simpa using w)
      simp only [List.length_cons, List.length_nil] at hs
      have c2 : ¬ (must = false ∧ ¬ s[at_]? = some 32) := fun hx => by rw [word_fst hx.2] at w; exact w rfl
      rw [if_neg c2, if_neg w]
      obtain ⟨q, r, hq, hr, e1, e2, e3, e4, e5⟩ := ih (s.length - (word [32, 45, 62, 32] s at_).2) (by omega) (word [32, 45, 62, 32] s at_).2 n inner f g hle (Nat.le_refl _) h3 h4 (by omega) (by omega)
      rw [hq, hr]
      refine ⟨_, _, rfl, rfl, e1, by show _ ≤ q.2; omega, e3, fun h => ?_, e5⟩
      obtain ⟨a1, a2, a3, a4, a5⟩ := e4 h
      refine ⟨a1, by show T.mk 3 0 [t, r.1.1] = _; rw [a2], ?_, a4, a5⟩
      simp
theorem typ_law {s : List UInt8} : ∀ m, Both s m := by
  intro m
  induction m using Nat.strongRecOn with
  | _ m ih =>
  intro at_ n inner f g h1 h2 h3 h4 hf hg
  obtain _ | f := f
  · omega
  obtain _ | g := g
  · omega
  unfold Md.typ rtyped
  dsimp only
  have hq26 : (Md.next s at_ = 97 ∧ n < 26 ∧ (n = 0 ∨ s[at_ + 1]? = some 108)) ↔ (s[at_]? = some 97 ∧ n ≠ 26 ∧ (n = 0 ∨ s[at_ + 1]? = some 108)) := by
    rw [next_is (by decide)]
    exact ⟨fun ⟨a, b, c⟩ => ⟨a, by omega, c⟩, fun ⟨a, b, c⟩ => ⟨a, by omega, c⟩⟩
  -- the end of a simple part
  have fin : ∀ (must : Bool) (t : T) (a : Nat), (must = true ↔ s[at_]? = some 40) → at_ < a → a ≤ s.length → (t.kids.length = 0 ↔ t.kind ≠ 3 ∧ t.kind ≠ 4) →
      ∃ q r, Md.rest f s a n inner must t = some q ∧ (if (((t, false), a) : (T × Bool) × Nat).1.2 = true ∨ (s[at_]? ≠ some 40 ∧ s[(((t, false), a) : (T × Bool) × Nat).2]? ≠ some 32) then some ((t, false), a)
        else if (word [32, 45, 62, 32] s a).1 = false then some ((t, true), (word [32, 45, 62, 32] s a).2)
        else (rtyped g s (word [32, 45, 62, 32] s a).2 n).bind fun p => some ((.mk 3 0 [t, p.1.1], p.1.2), p.2)) = some r ∧ Rel s inner at_ q r := by
    intro must t a hm ha1 ha2 hk
    obtain ⟨q, r, hq, hr, e1, e2, e3, e4, e5⟩ := rest_law ih (inner := inner) (must := must) (f := f) (g := g) (t := t) ha2 (by omega) h3 h4 (by omega) (by omega) hk
    refine ⟨q, r, hq, ?_, e1, by omega, e3, e4, e5⟩
    rw [← hr]
    unfold rcont
    by_cases c : must = false ∧ ¬ s[a]? = some 32
    · rw [if_pos c, if_pos (.inr ⟨fun h => by rw [hm.2 h] at c; exact absurd c.1 (by decide), c.2⟩)]
    · rw [if_neg c, if_neg]
      rintro (h | ⟨h, h'⟩)
      · cases h
      · refine c ⟨?_, h'⟩
        cases must
        · rfl
        · exact absurd (hm.1 rfl) h
  by_cases k78 : Md.next s at_ = 78
  · have k := (next_is (by decide)).1 k78
    have hlt := (List.getElem?_eq_some_iff.1 k).1
    rw [if_pos k78, if_neg (by rw [k]; intro h; simp at h)]
    obtain _ | g := g
    · omega
    unfold rsimple
    rw [if_pos k]
    exact fin false (.mk 2 0 []) (at_ + 1) (by rw [k]; simp) (by omega) hlt (by simp [T.kind])
  rw [if_neg k78]
  by_cases k40 : Md.next s at_ = 40
  · have k := (next_is (by decide)).1 k40
    have hlt := (List.getElem?_eq_some_iff.1 k).1
    rw [if_pos k40, if_neg (by rw [k]; intro h; simp at h)]
    obtain _ | g := g
    · omega
    unfold rsimple
    rw [if_neg (by rw [k]; simp), if_pos k]
    obtain ⟨q, r, hq, hr, e1, e2, e3, e4, e5⟩ := ih (s.length - (at_ + 1)) (by omega) (at_ + 1) n true f g hlt (Nat.le_refl _) h3 h4 (by omega) (by omega)
    rw [hq, hr]
    obtain ⟨⟨t, ok⟩, a⟩ := q
    obtain ⟨⟨u, wr⟩, a'⟩ := r
    dsimp only at e1 e2 e3 e4 e5
    subst e1
    simp only [Option.bind_some]
    cases ok
    · rw [if_pos (.inl rfl)]
      have hwr : ∃ z, (if wr = false ∧ u.kind ≠ 3 ∧ u.kind ≠ 4 then some ((u, true), a) else if wr = true then some ((u, true), a) else some ((u, !(word [41] s a).1), (word [41] s a).2)) = some ((z, true), a) := by
        cases wr
        · by_cases c : u.kind ≠ 3 ∧ u.kind ≠ 4
          · exact ⟨u, by rw [if_pos ⟨rfl, c⟩]⟩
          · refine ⟨u, ?_⟩
            rw [if_neg (fun h => c h.2), if_neg (by decide)]
            rcases e5 rfl with h | ⟨_, h⟩
            · cases h
            · rw [word_fst (h rfl)]; rfl
        · exact ⟨u, by rw [if_neg (fun h => by cases h.1), if_pos rfl]⟩
      obtain ⟨z, hz⟩ := hwr
      rw [hz]
      simp only [Option.bind_some]
      refine ⟨_, ((z, true), a), rfl, by rw [if_pos (.inl (by trivial))], rfl, by show at_ ≤ a; omega, e3, (fun h => by cases h), fun _ => .inl rfl⟩
    · obtain ⟨hw0, rfl, hk, _, h41⟩ := e4 rfl
      subst hw0
      have h41 := h41 rfl
      have hlt2 := (List.getElem?_eq_some_iff.1 h41).1
      have hw : word [41] s a = (true, a + 1) := by unfold word; rw [if_pos h41]; rfl
      by_cases c : u.kids.length = 0
      · rw [if_pos (.inr c), if_pos ⟨rfl, hk.1 c⟩]
        simp only [Option.bind_some]
        refine ⟨_, ((u, true), a), rfl, by rw [if_pos (.inl (by trivial))], rfl, by show at_ ≤ a; omega, e3, (fun h => by cases h), fun _ => .inl rfl⟩
      · rw [if_neg (fun h => h.elim (fun h => by cases h) c), hw, if_neg (by simp), if_neg (fun h => c (hk.2 h.2)), if_neg (by simp)]
        simp only [Option.bind_some, Bool.not_true]
        exact fin true u (a + 1) (by rw [k]; simp) (by omega) hlt2 hk
  rw [if_neg k40]
  by_cases kq : Md.next s at_ = 97 ∧ n < 26 ∧ (n = 0 ∨ s[at_ + 1]? = some 108)
  · rw [if_pos kq, if_pos (hq26.1 kq)]
    obtain _ | f := f
    · omega
    obtain _ | g := g
    · omega
    unfold Md.quantifier rall
    dsimp only
    have l1 := word_le [97, 108, 108, 32] s at_ h1
    have g1 := word_ge [97, 108, 108, 32] s at_
    by_cases w1 : (word [97, 108, 108, 32] s at_).1 = false
    · rw [if_pos w1, if_pos w1]
      exact ⟨_, _, rfl, rfl, rfl, g1, l1, (fun h => by cases h), fun _ => .inl rfl⟩
    rw [if_neg w1, if_neg w1]
    have s1 := word_step _ _ _ (by simpa using w1)
    simp only [List.length_cons, List.length_nil] at s1
    rw [word_append (rletter n)]
    have l2 := word_le (rletter n) s _ l1
    have g2 := word_ge (rletter n) s (word [97, 108, 108, 32] s at_).2
    by_cases w2 : (word (rletter n) s (word [97, 108, 108, 32] s at_).2).1 = false
    · rw [if_pos w2]
      have w2' : (word [byt (w64 (97 + n))] s (word [97, 108, 108, 32] s at_).2).1 = false := w2
      rw [if_pos w2', if_pos rfl]
      exact ⟨_, _, rfl, rfl, rfl, Nat.le_trans g1 g2, l2, (fun h => by cases h), fun _ => .inl rfl⟩
    rw [if_neg w2]
    have w2' : ¬ (word [byt (w64 (97 + n))] s (word [97, 108, 108, 32] s at_).2).1 = false := w2
    rw [if_neg w2']
    have l3 := word_le [46, 32] s _ l2
    have g3 := word_ge [46, 32] s (word (rletter n) s (word [97, 108, 108, 32] s at_).2).2
    by_cases w3 : (word [46, 32] s (word (rletter n) s (word [97, 108, 108, 32] s at_).2).2).1 = false
    · rw [if_pos w3]
      have w3' : (word [46, 32] s (word [byt (w64 (97 + n))] s (word [97, 108, 108, 32] s at_).2).2).1 = false := w3
      rw [if_pos w3']
      exact ⟨_, _, rfl, rfl, rfl, Nat.le_trans g1 (Nat.le_trans g2 g3), l3, (fun h => by cases h), fun _ => .inl rfl⟩
    rw [if_neg w3]
    have w3' : ¬ (word [46, 32] s (word [byt (w64 (97 + n))] s (word [97, 108, 108, 32] s at_).2).2).1 = false := w3
    rw [if_neg w3']
    have hn1 : w64 (n + 1) = n + 1 := w64_id (by omega) (by omega)
    rw [hn1]
    obtain ⟨q, r, hq, hr, e1, e2, e3, e4, e5⟩ := ih (s.length - (word [46, 32] s (word (rletter n) s (word [97, 108, 108, 32] s at_).2).2).2) (by omega) (word [46, 32] s (word (rletter n) s (word [97, 108, 108, 32] s at_).2).2).2 (n + 1) inner f g l3 (Nat.le_refl _) (by omega) (by omega) (by omega) (by omega)
    have hq' : Md.typ f s (word [46, 32] s (word [byt (w64 (97 + n))] s (word [97, 108, 108, 32] s at_).2).2).2 (n + 1) inner = some q := hq
    rw [hq', hr]
    refine ⟨_, _, rfl, rfl, e1, by show at_ ≤ q.2; omega, e3, fun h => ?_, e5⟩
    obtain ⟨a1, a2, a3, a4, a5⟩ := e4 h
    exact ⟨a1, by show T.mk 4 0 [r.1.1] = _; rw [a2], by simp, a4, a5⟩
  rw [if_neg kq, if_neg (fun h => kq (hq26.2 h))]
  obtain _ | g := g
  · omega
  unfold rsimple
  have n78 : ¬ s[at_]? = some 78 := fun h => k78 ((next_is (by decide)).2 h)
  have n40 : ¬ s[at_]? = some 40 := fun h => k40 ((next_is (by decide)).2 h)
  rw [if_neg n78, if_neg n40]
  cases hc : s[at_]? with
  | none =>
    have hnx : Md.next s at_ = 0 := by unfold Md.next; rw [hc]; rfl
    rw [hnx, if_neg (fun h => absurd h.1 (by decide))]
    exact ⟨_, ((t0, true), at_), rfl, by simp only [Option.bind_some]; rw [if_pos (.inl (by trivial))], rfl, Nat.le_refl _, h1, (fun h => by cases h), fun _ => .inl rfl⟩
  | some c =>
    have hnx : Md.next s at_ = c := by unfold Md.next; rw [hc]; rfl
    have hlt := (List.getElem?_eq_some_iff.1 hc).1
    rw [hnx]
    by_cases k : c ≥ 97 ∧ ((c - 97).toNat : Int) < n
    · rw [if_pos k]
      dsimp only
      rw [if_pos k]
      simp only [Option.bind_some]
      have := fin false (.mk 1 (w64 (w64 (n - 1) - ((c - 97).toNat : Int))) []) (at_ + 1) ⟨fun h => (by cases h), fun h => absurd h n40⟩ (by omega) hlt (by simp [T.kind])
      rw [hc] at this
      exact this
    · rw [if_neg k]
      dsimp only
      rw [if_neg k]
      exact ⟨_, ((t0, true), at_), rfl, by simp only [Option.bind_some]; rw [if_pos (.inl (by trivial))], rfl, Nat.le_refl _, h1, (fun h => by cases h), fun _ => .inl rfl⟩
end Go.Proofs.Ytjgnhhgigickaaa.Wk
/- Walks of the given program's functions: Clone, opened. Printed by tools/w40.py. Conditions: none. -/

namespace Go.Proofs.Ytjgnhhgigickaaa.Wk
open Go Md
set_option maxRecDepth 20000
set_option linter.unusedVariables false
set_option linter.unusedSimpArgs false
attribute [local irreducible] endQ
theorem at1 (vs r : List Value) {x0 x1 x2 : Value} {n : Nat} (h : vs.length = n) : (List.toArray (vs ++ x0 :: x1 :: x2 :: r))[n + 1]? = some x1 := by
 subst h; simp only [List.getElem?_toArray]; rw [List.getElem?_append_right (by omega), show vs.length + 1 - vs.length = 1 by omega]; rfl
theorem at2 (vs r : List Value) {x0 x1 x2 : Value} {n : Nat} (h : vs.length = n) : (List.toArray (vs ++ x0 :: x1 :: x2 :: r))[n + 2]? = some x2 := by
 subst h; simp only [List.getElem?_toArray]; rw [List.getElem?_append_right (by omega), show vs.length + 2 - vs.length = 2 by omega]; rfl

end Go.Proofs.Ytjgnhhgigickaaa.Wk
/- Walks of the given program's functions: spoil, Open. Printed by tools/w41.py. Conditions: none. -/

namespace Go.Proofs.Ytjgnhhgigickaaa.Wk
open Go Md
set_option maxRecDepth 20000
set_option linter.unusedVariables false
set_option linter.unusedSimpArgs false
attribute [local irreducible] endQ

theorem OwnPs.open {us : List Value} {q : T} {ts : List T} {F : LH} (h : OwnPs us (q :: ts) F) : ∃ A c ur F1 F2, us = .int .i64 q.kind :: .int .i64 q.num :: .slice A q.kids.length c :: ur ∧ F = F1 ++ F2 ∧ OwnP (.agg #[.int .i64 q.kind, .int .i64 q.num, .slice A q.kids.length c]) q F1 ∧ OwnPs ur ts F2 := by
 unfold OwnPs at h
 obtain ⟨v0, v1, v2, r, F1, F2, rfl, rfl, h1, h2⟩ := h
 obtain ⟨A, c, he⟩ := id h1.shape
 simp only [Value.agg.injEq] at he
 have he := congrArg Array.toList he
 simp only [List.cons.injEq, and_true] at he
 obtain ⟨rfl, rfl, rfl⟩ := he
 exact ⟨A, c, r, F1, F2, rfl, rfl, h1, h2⟩

end Go.Proofs.Ytjgnhhgigickaaa.Wk
/- The plain laws behind RankTypes: ranks, whether two types are the same, and what opening makes, are in the program as in the reference. Conditions: none. -/

namespace Go.Proofs.Ytjgnhhgigickaaa.Wk
open Go Md

theorem rank_law0 : ∀ (f : Nat) {t : T}, wf t → nds t ≤ f → nds t ≤ 1000000 → ∃ r, Md.rank f t = some r ∧ rrank f t = some r ∧ 0 ≤ r ∧ r ≤ (nds t : Int)
  | 0, t, _, h, _ => by have := nds_pos t; omega
  | f + 1, .mk k num ks, hw, hf, hb => by
    rw [nds_mk] at hf hb ⊢
    unfold wf at hw
    obtain ⟨hk, hks⟩ := hw
    unfold Md.rank rrank
    dsimp only [T.kind, T.kids]
    rcases hk with ⟨hk | hk, hl⟩ | ⟨hk, hl⟩ | ⟨hk, hl⟩
    · subst hk; exact ⟨0, by rw [if_neg (by decide), if_neg (by decide)], by rw [if_neg (by decide), if_neg (by decide)], Int.le_refl _, by omega⟩
    · subst hk; exact ⟨0, by rw [if_neg (by decide), if_neg (by decide)], by rw [if_neg (by decide), if_neg (by decide)], Int.le_refl _, by omega⟩
    · subst hk
      match ks, hl, hks with
      | [a, b], _, hks =>
        unfold wfs wfs at hks
        rw [ndss_cons, ndss_cons] at hf hb ⊢
        obtain ⟨n, a1, a2, a3, a4⟩ := rank_law0 f hks.1 (by omega) (by omega)
        obtain ⟨m, b1, b2, b3, b4⟩ := rank_law0 f hks.2.1 (by omega) (by omega)
        rw [if_neg (by decide), if_pos (by trivial), if_neg (by decide), if_pos (by trivial)]
        dsimp only
        rw [a1, b1, a2, b2]
        have hw1 : w64 (n + 1) = n + 1 := w64_id (by omega) (by omega)
        refine ⟨if n > 0 then max m (w64 (n + 1)) else m, rfl, ?_, ?_, ?_⟩
        · show some _ = some _
          congr 1; rw [hw1]; split <;> omega
        · rw [hw1]; split <;> omega
        · rw [hw1]; split <;> omega
    · subst hk
      match ks, hl, hks with
      | [a], _, hks =>
        unfold wfs at hks
        rw [ndss_cons] at hf hb ⊢
        obtain ⟨n, a1, a2, a3, a4⟩ := rank_law0 f hks.1 (by omega) (by omega)
        rw [if_pos (by trivial), if_pos (by trivial)]
        dsimp only
        rw [a1, a2]
        exact ⟨max 1 n, rfl, rfl, by omega, by omega⟩
mutual
/-- no variable leads out of so many quantifiers -/
def clo : Int → T → Prop
  | d, .mk k num ks => (k = 1 → 0 ≤ num ∧ num < d) ∧ clos (if k = 4 then d + 1 else d) ks
def clos : Int → List T → Prop
  | _, [] => True
  | d, t :: ts => clo d t ∧ clos d ts
end
end Go.Proofs.Ytjgnhhgigickaaa.Wk
/- The plain laws behind RankRead: what is printed is read as it was; what is read was printed; ranks of functions. Conditions: none. -/

namespace Go.Proofs.Ytjgnhhgigickaaa.Wk
open Go Md

/-! ### right types, made -/
mutual
theorem rgt_rt : ∀ (t : T) {n ar m : Int}, 0 ≤ n → n ≤ 26 → 0 ≤ ar → ar ≤ m → m + (nds t : Int) ≤ 12 → rgt (ar + n) t → rtWalk n ar m t = (0, m + (nds t : Int))
  | .mk k num ks, n, ar, m, h0, h1, h2, h3, h4, h => by
    rw [nds_mk] at h4 ⊢
    unfold rgt at h
    obtain ⟨hk, hks⟩ := h
    unfold rtWalk
    dsimp only
    have hw : w64 (ar + n) = ar + n := w64_id (by omega) (by omega)
    have hm : w64 (m + 1) = m + 1 := w64_id (by omega) (by omega)
    have ha : w64 (ar + 1) = ar + 1 := w64_id (by omega) (by omega)
    have hn : rtNode ar n m k num ks.length = 0 := by
      rw [rtNode_eq (wi := ar + n) (by omega) hw.symm]
      rw [if_neg (by omega)]
      rw [if_neg (by omega), if_neg (by unfold wantsR; split <;> (try split) <;> omega), if_neg (by omega)]
    rw [if_pos hn, hm, ha]
    have := rgts_rt ks (n := n) (ar := if k = 4 then ar + 1 else ar) (m := m + 1) h0 h1 (by split <;> omega) (by split <;> omega) (by omega) (by
      have e : (if k = 4 then ar + 1 else ar) + n = (if k = 4 then ar + n + 1 else ar + n) := by split <;> omega
      rw [e]; exact hks)
    rw [this]
    congr 1; omega
theorem rgts_rt : ∀ (ts : List T) {n ar m : Int}, 0 ≤ n → n ≤ 26 → 0 ≤ ar → ar ≤ m → m + (ndss ts : Int) ≤ 12 → rgts (ar + n) ts → rtList n ar m ts = (0, m + (ndss ts : Int))
  | [], _, _, m, _, _, _, _, _, _ => by unfold rtList ndss; simp
  | t :: ts, n, ar, m, h0, h1, h2, h3, h4, h => by
    rw [ndss_cons] at h4 ⊢
    unfold rgts at h
    have hp := nds_pos t
    unfold rtList
    dsimp only
    rw [rgt_rt t h0 h1 h2 h3 (by omega) h.1, if_pos rfl, rgts_rt ts h0 h1 h2 (by omega) (by omega) h.2]
    congr 1; omega
end
theorem rgt_right {t : T} {n : Int} (h0 : 0 ≤ n) (h1 : n ≤ 26) (h2 : nds t ≤ 12) (h : rgt n t) : right t n = 0 := by
  unfold right
  rw [if_neg (by omega), rgt_rt t h0 h1 (Int.le_refl _) (Int.le_refl _) (by omega) (by simpa using h)]
theorem rgt_closed {t : T} (h2 : nds t ≤ 12) (h : rgt 0 t) : closed [t] = 0 := by
  unfold closed; rw [if_pos (rgt_right (Int.le_refl _) (by decide) h2 h)]; rfl
mutual
theorem rgt_wf : ∀ {t : T} {d : Int}, rgt d t → wf t
  | .mk k num ks, d, h => by
    unfold rgt at h
    unfold wf wfn
    exact ⟨by have := h.1; omega, rgts_wf h.2⟩
theorem rgts_wf : ∀ {ts : List T} {d : Int}, rgts d ts → wfs ts
  | [], _, _ => by unfold wfs; trivial
  | t :: ts, d, h => by unfold rgts at h; unfold wfs; exact ⟨rgt_wf h.1, rgts_wf h.2⟩
end

/-! ### what is printed is read -/
theorem word_pre : ∀ (l x z : List UInt8), word l (x ++ (l ++ z)) x.length = (true, x.length + l.length)
  | [], x, z => rfl
  | c :: l, x, z => by
    unfold word
    have h1 : (x ++ (c :: l ++ z))[x.length]? = some c := by rw [List.getElem?_append_right (Nat.le_refl _)]; simp
    rw [if_pos h1]
    have := word_pre l (x ++ [c]) z
    simp only [List.append_assoc, List.cons_append, List.nil_append, List.length_append, List.length_cons, List.length_nil, Nat.zero_add] at this ⊢
    rw [this]; congr 1; omega
theorem at_pre (x z : List UInt8) (c : UInt8) : (x ++ c :: z)[x.length]? = some c := by rw [List.getElem?_append_right (Nat.le_refl _)]; simp
theorem at_pre1 (x z : List UInt8) (c d : UInt8) : (x ++ c :: d :: z)[x.length + 1]? = some d := by rw [List.getElem?_append_right (by omega)]; simp
theorem byt_toNat {x : Int} (h0 : 0 ≤ x) (h1 : x < 256) : (byt x).toNat = x.toNat := by
  have e2 : IntKind.wrap .u8 x = x := by simp [IntKind.wrap, IntKind.bits, IntKind.signed]; omega
  unfold byt
  rw [e2]
  simp [UInt8.toNat_ofNat']; omega
/-- a leaf is read at once -/
theorem leaf_first {f g : Nat} {s : List UInt8} {a : Nat} {n : Int} {inner : Bool} {t : T} {p : List UInt8} (hr : rgt n t) (hk : t.kids = []) (h0 : 0 ≤ n) (hn : n ≤ 26) (hp : Md.printed (f + 1) t n = some p) :
    ∃ c, p = [c] ∧ (s[a]? = some c → s[a + 1]? ≠ some 108 → Md.typ (g + 1) s a n inner = Md.rest g s (a + 1) n inner false t) := by
  obtain ⟨k, num, ks⟩ := t
  have hk : ks = [] := hk
  subst hk
  unfold rgt at hr
  unfold Md.printed at hp
  dsimp only [T.kind, T.num, T.kids] at hp
  rcases hr.1 with ⟨rfl, hb, _⟩ | ⟨rfl, rfl, _⟩ | ⟨_, _, h⟩ | ⟨_, _, h⟩
  · rw [if_neg (by decide), if_pos rfl, Option.some.injEq] at hp
    have e : w64 (w64 (w64 (97 + n) - 1) - num) = 97 + (n - 1 - num) := by simp only [w64_def]; omega
    rw [e] at hp
    refine ⟨_, hp.symm, fun hs hs1 => ?_⟩
    have hc := byt_toNat (x := 97 + (n - 1 - num)) (by omega) (by omega)
    generalize hcd : byt (97 + (n - 1 - num)) = c at hs hc
    have hnx : Md.next s a = c := by unfold Md.next; rw [hs]; rfl
    unfold Md.typ
    dsimp only
    rw [hnx]
    have hge : (97 : Nat) ≤ c.toNat := by rw [hc]; omega
    have hsub : (c - 97).toNat = c.toNat - 97 := by
      rw [UInt8.toNat_sub_of_le]
      · rfl
      · exact UInt8.le_iff_toNat_le.2 hge
    rw [if_neg (fun h => by subst h; simp at hge), if_neg (fun h => by subst h; simp at hge), if_neg (fun h => by
      rcases h.2.2 with h | h
      · omega
      · exact hs1 h), if_pos ⟨UInt8.le_iff_toNat_le.2 hge, by rw [hsub]; omega⟩]
    congr 2
    rw [hsub, hc]; simp only [w64_def]; omega
  · rw [if_pos rfl, Option.some.injEq] at hp
    refine ⟨78, hp.symm, fun hs _ => ?_⟩
    have hnx : Md.next s a = 78 := by unfold Md.next; rw [hs]; rfl
    unfold Md.typ
    dsimp only
    rw [hnx, if_pos rfl]
  · simp at h
  · simp at h
theorem typ_pr : ∀ (f : Nat) {t : T} {n : Int} {p : List UInt8}, rgt n t → 0 ≤ n → n + (nds t : Int) ≤ 27 → Md.printed f t n = some p → ∀ (x y : List UInt8) (inner : Bool) (g : Nat), 3 * nds t + 3 ≤ g → (inner = false → y = []) → (inner = true → y.head? = some 41) →
    Md.typ g (x ++ (p ++ y)) x.length n inner = some ((t, true), x.length + p.length)
  | 0, _, _, _, _, _, _, h => by cases h
  | f + 1, t, n, p, hr, h0, hn, hp => by
    intro x y inner g hg hy1 hy2
    have hst : ∀ (z : List UInt8), (x ++ (p ++ y)) = z → True := fun _ _ => trivial
    -- the end of the text, or a bracket
    have stop : ∀ (w : List UInt8), (w ++ y).length = w.length ∧ inner = false ∨ inner = true ∧ Md.next (w ++ y) w.length = 41 := by
      intro w
      cases inner
      · left; rw [hy1 rfl]; simp
      · right; refine ⟨rfl, ?_⟩
        have := hy2 rfl
        cases y with
        | nil => simp at this
        | cons c y => simp at this; subst this; unfold Md.next; rw [at_pre]; rfl
    by_cases hk0 : t.kids = []
    · obtain _ | g := g
      · omega
      obtain ⟨c, rfl, hc⟩ := leaf_first (f := f) (g := g) (s := x ++ (p ++ y)) (a := x.length) (inner := inner) hr hk0 h0 (by have := nds_pos t; omega) hp
      rw [hc (by simpa using at_pre x y c) (by
        have e : x ++ ([c] ++ y) = (x ++ [c]) ++ y := by simp
        rw [e]
        cases inner
        · rw [hy1 rfl]; rw [List.getElem?_eq_none (by simp)]; simp
        · have := hy2 rfl
          cases y with
          | nil => simp at this
          | cons d y => simp at this; subst this; have := at_pre (x ++ [c]) y 41; simp at this ⊢)]
      obtain _ | g := g
      · omega
      unfold Md.rest
      have hs := stop (x ++ [c])
      have e : x ++ ([c] ++ y) = (x ++ [c]) ++ y := by simp
      rw [e, if_pos ⟨rfl, by
        rcases hs with ⟨h1, h2⟩ | ⟨h1, h2⟩
        · exact .inl ⟨by rw [h1]; simp, h2⟩
        · exact .inr ⟨h1, by simpa using h2⟩⟩]
      simp
    · obtain ⟨k, num, ks⟩ := t
      have hk0 : ks ≠ [] := hk0
      have hrr := hr
      unfold rgt at hr
      obtain ⟨hk, hks⟩ := hr
      rw [nds_mk] at hn hg
      unfold Md.printed at hp
      dsimp only [T.kind, T.num, T.kids] at hp
      rcases hk with ⟨_, _, h⟩ | ⟨_, _, h⟩ | ⟨rfl, rfl, hl⟩ | ⟨rfl, rfl, hl⟩
      · exact absurd (List.eq_nil_of_length_eq_zero h) hk0
      · exact absurd (List.eq_nil_of_length_eq_zero h) hk0
      · -- a function
        match ks, hl with
        | [a, b], _ =>
          rw [ndss_cons, ndss_cons] at hn hg
          rw [if_neg (by decide)] at hks
          unfold rgts rgts at hks
          rw [if_neg (by decide), if_neg (by decide), if_neg (by decide)] at hp
          dsimp only at hp
          obtain ⟨pa, hpa, hp⟩ := Option.bind_eq_some_iff.1 hp
          obtain ⟨pb, hpb, hp⟩ := Option.bind_eq_some_iff.1 hp
          obtain ⟨_, rfl⟩ := cap_some hp
          have na := nds_pos a; have nb := nds_pos b
          -- behind the arrow
          have arrow : ∀ (w : List UInt8) (must : Bool) (g : Nat), 3 * nds b + 4 ≤ g → Md.rest g (w ++ ([32, 45, 62, 32] ++ (pb ++ y))) w.length n inner must a = some ((.mk 3 0 [a, b], true), w.length + 4 + pb.length) := by
            intro w must g hg
            obtain _ | g := g
            · omega
            unfold Md.rest
            have h32 : (w ++ ([32, 45, 62, 32] ++ (pb ++ y)))[w.length]? = some 32 := at_pre w _ 32
            have hnx : Md.next (w ++ ([32, 45, 62, 32] ++ (pb ++ y))) w.length = 32 := by unfold Md.next; rw [h32]; rfl
            rw [if_neg (by
              rintro ⟨_, ⟨h1, _⟩ | ⟨_, h1⟩⟩
              · rw [List.getElem?_eq_none (Nat.le_of_eq h1.symm)] at h32; cases h32
              · rw [hnx] at h1; exact absurd h1 (by decide)), word_pre, if_neg (by simp)]
            have ih := typ_pr f hks.2.1 h0 (by omega) hpb (w ++ [32, 45, 62, 32]) y inner g (by omega) hy1 hy2
            have e : (w ++ [32, 45, 62, 32]) ++ (pb ++ y) = w ++ ([32, 45, 62, 32] ++ (pb ++ y)) := by simp
            rw [e] at ih
            simp only [List.length_append, List.length_cons, List.length_nil, Nat.zero_add] at ih
            simp only [List.length_cons, List.length_nil, Nat.zero_add]
            rw [ih]
            rfl
          by_cases hak : a.kids = []
          · obtain _ | f := f
            · cases hpa
            obtain _ | g := g
            · omega
            have hcond : ¬ a.kids.length > 0 := by rw [hak]; simp
            rw [if_neg hcond]
            obtain ⟨c, rfl, _⟩ := leaf_first (f := f) (g := g) (s := []) (a := x.length) (inner := inner) hks.1 hak h0 (by omega) hpa
            have e : x ++ (([c] ++ [32, 45, 62, 32] ++ pb) ++ y) = (x ++ [c]) ++ ([32, 45, 62, 32] ++ (pb ++ y)) := by simp
            rw [e]
            obtain ⟨c', hc', hcc⟩ := leaf_first (f := f) (g := g) (s := (x ++ [c]) ++ ([32, 45, 62, 32] ++ (pb ++ y))) (a := x.length) (inner := inner) hks.1 hak h0 (by omega) hpa
            have hceq : c = c' := by simpa using hc'
            subst hceq
            rw [hcc (by simpa using at_pre x ([32, 45, 62, 32] ++ (pb ++ y)) c) (by rw [show ((x ++ [c]) ++ ([32, 45, 62, 32] ++ (pb ++ y)))[x.length + 1]? = some 32 by simpa using at_pre1 x ([45, 62, 32] ++ (pb ++ y)) c 32]; decide)]
            have := arrow (x ++ [c]) false g (by omega)
            simp only [List.length_append, List.length_cons, List.length_nil, Nat.zero_add] at this ⊢
            rw [this]; congr 2; omega
          · have hcond : a.kids.length > 0 := List.length_pos_iff.2 hak
            rw [if_pos hcond]
            obtain _ | g := g
            · omega
            have e : x ++ ((([40] ++ pa ++ [41]) ++ [32, 45, 62, 32] ++ pb) ++ y) = (x ++ [40]) ++ (pa ++ ([41] ++ ([32, 45, 62, 32] ++ (pb ++ y)))) := by simp
            rw [e]
            have hnx : Md.next ((x ++ [40]) ++ (pa ++ ([41] ++ ([32, 45, 62, 32] ++ (pb ++ y))))) x.length = 40 := by
              have := at_pre x (pa ++ ([41] ++ ([32, 45, 62, 32] ++ (pb ++ y)))) 40
              unfold Md.next
              rw [show (x ++ [40]) ++ (pa ++ ([41] ++ ([32, 45, 62, 32] ++ (pb ++ y)))) = x ++ 40 :: (pa ++ ([41] ++ ([32, 45, 62, 32] ++ (pb ++ y)))) by simp, this]; rfl
            unfold Md.typ
            dsimp only
            rw [hnx, if_neg (by decide), if_pos rfl]
            have ih := typ_pr f hks.1 h0 (by omega) hpa (x ++ [40]) ([41] ++ ([32, 45, 62, 32] ++ (pb ++ y))) true g (by omega) (fun h => by cases h) (fun _ => rfl)
            have hl1 : (x ++ [40]).length = x.length + 1 := by simp
            rw [hl1] at ih
            rw [ih]
            simp only [Option.bind_some]
            rw [if_neg (by simp; omega)]
            have hw := word_pre [41] ((x ++ [40]) ++ pa) ([32, 45, 62, 32] ++ (pb ++ y))
            have e2 : ((x ++ [40]) ++ pa) ++ ([41] ++ ([32, 45, 62, 32] ++ (pb ++ y))) = (x ++ [40]) ++ (pa ++ ([41] ++ ([32, 45, 62, 32] ++ (pb ++ y)))) := by simp
            have hl2 : ((x ++ [40]) ++ pa).length = x.length + 1 + pa.length := by simp; omega
            rw [e2, hl2] at hw
            rw [hw, if_neg (by simp)]
            have := arrow ((x ++ [40]) ++ pa ++ [41]) true g (by omega)
            have e3 : ((x ++ [40]) ++ pa ++ [41]) ++ ([32, 45, 62, 32] ++ (pb ++ y)) = (x ++ [40]) ++ (pa ++ ([41] ++ ([32, 45, 62, 32] ++ (pb ++ y)))) := by simp
            have hl3 : ((x ++ [40]) ++ pa ++ [41]).length = x.length + 1 + pa.length + 1 := by simp; omega
            rw [e3, hl3] at this
            simp only [List.length_cons, List.length_nil, Nat.zero_add]
            rw [this]
            simp only [List.length_append, List.length_cons, List.length_nil]
            congr 2; omega
      · -- a quantifier
        match ks, hl with
        | [a], _ =>
          rw [ndss_cons] at hn hg
          rw [if_pos rfl] at hks
          unfold rgts at hks
          rw [if_neg (by decide), if_neg (by decide), if_pos rfl] at hp
          dsimp only at hp
          obtain ⟨pa, hpa, hp⟩ := Option.bind_eq_some_iff.1 hp
          obtain ⟨_, rfl⟩ := cap_some hp
          have na := nds_pos a
          have hn1 : w64 (n + 1) = n + 1 := w64_id (by omega) (by omega)
          rw [hn1] at hpa
          generalize hcd : byt (w64 (97 + n)) = c
          obtain _ | g := g
          · omega
          obtain _ | g := g
          · omega
          have e : x ++ ((([97, 108, 108, 32] ++ [c] ++ [46, 32]) ++ pa) ++ y) = x ++ ([97, 108, 108, 32] ++ ([c] ++ ([46, 32] ++ (pa ++ y)))) := by simp
          rw [e]
          have hnx : Md.next (x ++ ([97, 108, 108, 32] ++ ([c] ++ ([46, 32] ++ (pa ++ y))))) x.length = 97 := by
            unfold Md.next; rw [show (x ++ ([97, 108, 108, 32] ++ ([c] ++ ([46, 32] ++ (pa ++ y)))))[x.length]? = some 97 from at_pre x _ 97]; rfl
          have h108 : (x ++ ([97, 108, 108, 32] ++ ([c] ++ ([46, 32] ++ (pa ++ y)))))[x.length + 1]? = some 108 := at_pre1 x _ 97 108
          unfold Md.typ
          dsimp only
          rw [hnx, if_neg (by decide), if_neg (by decide), if_pos ⟨rfl, by omega, .inr h108⟩]
          unfold Md.quantifier
          dsimp only
          have w1 := word_pre [97, 108, 108, 32] x ([c] ++ ([46, 32] ++ (pa ++ y)))
          simp only [List.length_cons, List.length_nil, Nat.zero_add] at w1
          rw [w1, if_neg (by simp), hcd]
          dsimp only
          have w2 := word_pre [c] (x ++ [97, 108, 108, 32]) ([46, 32] ++ (pa ++ y))
          have e2 : (x ++ [97, 108, 108, 32]) ++ ([c] ++ ([46, 32] ++ (pa ++ y))) = x ++ ([97, 108, 108, 32] ++ ([c] ++ ([46, 32] ++ (pa ++ y)))) := by simp
          have hl2 : (x ++ [97, 108, 108, 32]).length = x.length + (1 + 1 + 1 + 1) := by simp
          simp only [List.length_cons, List.length_nil, Nat.zero_add] at w2
          rw [e2, hl2] at w2
          rw [w2, if_neg (by simp)]
          dsimp only
          have w3 := word_pre [46, 32] (x ++ [97, 108, 108, 32] ++ [c]) (pa ++ y)
          have e3 : (x ++ [97, 108, 108, 32] ++ [c]) ++ ([46, 32] ++ (pa ++ y)) = x ++ ([97, 108, 108, 32] ++ ([c] ++ ([46, 32] ++ (pa ++ y)))) := by simp
          have hl3 : (x ++ [97, 108, 108, 32] ++ [c]).length = x.length + (1 + 1 + 1 + 1) + 1 := by simp
          simp only [List.length_cons, List.length_nil, Nat.zero_add] at w3
          rw [e3, hl3] at w3
          rw [w3, if_neg (by simp), hn1]
          have ih := typ_pr f hks.1 (by omega) (by omega) hpa (x ++ [97, 108, 108, 32] ++ [c] ++ [46, 32]) y inner g (by omega) hy1 hy2
          have e4 : (x ++ [97, 108, 108, 32] ++ [c] ++ [46, 32]) ++ (pa ++ y) = x ++ ([97, 108, 108, 32] ++ ([c] ++ ([46, 32] ++ (pa ++ y)))) := by simp
          have hl4 : (x ++ [97, 108, 108, 32] ++ [c] ++ [46, 32]).length = x.length + (1 + 1 + 1 + 1) + 1 + (1 + 1) := by simp
          rw [e4, hl4] at ih
          rw [ih]
          simp only [Option.bind_some, List.length_append, List.length_cons, List.length_nil]
          congr 2; omega
theorem printed_ne : ∀ {f : Nat} {t : T} {n : Int} {p : List UInt8}, Md.printed f t n = some p → p ≠ []
  | 0, _, _, _, h => by cases h
  | f + 1, t, n, p, h => by
    unfold Md.printed at h
    split at h
    · cases h; simp
    split at h
    · cases h; simp
    split at h
    · split at h
      · obtain ⟨s, _, h⟩ := Option.bind_eq_some_iff.1 h
        obtain ⟨_, rfl⟩ := cap_some h; simp
      · cases h
    · split at h
      · obtain ⟨s, _, h⟩ := Option.bind_eq_some_iff.1 h
        obtain ⟨r, _, h⟩ := Option.bind_eq_some_iff.1 h
        obtain ⟨_, rfl⟩ := cap_some h; simp
      · cases h
theorem read_law {t : T} (h : rgt 0 t) (hn : nds t ≤ 12) : ∃ f r, Md.Print f t = some (r, 0) ∧ r ≠ [] ∧ r.length ≤ 120 ∧ ∃ g, Md.Parse g r = some ((t, 0), 0) := by
  have hc := rgt_closed hn h
  obtain ⟨r, hr, _, hl⟩ := printed_eq (nds t) (n := 0) (rgt_wf h) (Nat.le_refl _) (by omega)
  refine ⟨nds t, r, by unfold Md.Print; rw [if_neg (fun x => x hc), hr]; rfl, printed_ne hr, by omega, 3 * nds t + 3, ?_⟩
  have := typ_pr (nds t) h (Int.le_refl _) (by omega) hr [] [] false (3 * nds t + 3) (Nat.le_refl _) (fun _ => rfl) (fun h => by cases h)
  simp only [List.nil_append, List.append_nil, List.length_nil, Nat.zero_add] at this
  unfold Md.Parse
  rw [if_neg (by omega), this]
  simp only [Option.bind_some]
  rw [if_neg (by decide), if_neg (fun x => x hc)]
end Go.Proofs.Ytjgnhhgigickaaa.Wk
/- The plain laws behind RankRead: what is read was printed; the index; ranks of functions. Conditions: none. -/

namespace Go.Proofs.Ytjgnhhgigickaaa.Wk
open Go Md

/-- the text of a type, with whatever fuel that is enough -/
def Pr (n : Int) (t : T) (p : List UInt8) : Prop := ∃ g, ∀ h, g ≤ h → Md.printed h t n = some p
theorem word_drop : ∀ (l s : List UInt8) (a : Nat), (word l s a).1 = true → s.drop a = l ++ s.drop (a + l.length)
  | [], s, a, _ => rfl
  | c :: l, s, a, h => by
    unfold word at h
    split at h
    · rename_i hc
      rw [drop_cons hc, word_drop l s (a + 1) h]
      simp only [List.cons_append, List.length_cons]
      congr 2; rw [show a + 1 + l.length = a + (l.length + 1) by omega]
    · cases h
theorem drop_add {s p y : List UInt8} {a : Nat} (h : s.drop a = p ++ y) : s.drop (a + p.length) = y := by
  rw [← List.drop_drop, h, List.drop_left]
theorem len_le {s p y : List UInt8} {a : Nat} (h : s.drop a = p ++ y) : p.length ≤ s.length := by
  have := congrArg List.length h
  simp at this; omega
theorem Pr.fn {n : Int} {u q : T} {pu pq : List UInt8} (hu : Pr n u pu) (hq : Pr n q pq) (hl : ((if u.kids.length > 0 then ([40] ++ pu) ++ [41] else pu) ++ [32, 45, 62, 32] ++ pq).length < lim) :
    Pr n (.mk 3 0 [u, q]) ((if u.kids.length > 0 then ([40] ++ pu) ++ [41] else pu) ++ [32, 45, 62, 32] ++ pq) := by
  obtain ⟨g1, h1⟩ := hu
  obtain ⟨g2, h2⟩ := hq
  refine ⟨max g1 g2 + 1, fun h hh => ?_⟩
  obtain _ | h := h
  · omega
  unfold Md.printed
  dsimp only [T.kind, T.num, T.kids]
  rw [if_neg (by decide), if_neg (by decide), if_neg (by decide), h1 h (by omega), h2 h (by omega)]
  show cap _ = _
  unfold cap; rw [if_pos hl]
theorem Pr.al {n : Int} {q : T} {pq : List UInt8} (hq : Pr (w64 (n + 1)) q pq) (hl : (([97, 108, 108, 32] ++ [byt (w64 (97 + n))] ++ [46, 32]) ++ pq).length < lim) : Pr n (.mk 4 0 [q]) (([97, 108, 108, 32] ++ [byt (w64 (97 + n))] ++ [46, 32]) ++ pq) := by
  obtain ⟨g2, h2⟩ := hq
  refine ⟨g2 + 1, fun h hh => ?_⟩
  obtain _ | h := h
  · omega
  unfold Md.printed
  dsimp only [T.kind, T.num, T.kids]
  rw [if_neg (by decide), if_neg (by decide), if_pos (by trivial), h2 h (by omega)]
  show cap _ = _
  unfold cap; rw [if_pos hl]
theorem Pr.nt {n : Int} : Pr n (.mk 2 0 []) [78] := ⟨1, fun h hh => by obtain _ | h := h; · omega
                                                                       · unfold Md.printed; rfl⟩
theorem Pr.vr {n : Int} {c : UInt8} (h0 : 97 ≤ c.toNat) (hn : n ≤ 26) (hn0 : 0 ≤ n) : Pr n (.mk 1 (w64 (w64 (n - 1) - ((c - 97).toNat : Int))) []) [c] := by
  refine ⟨1, fun h hh => ?_⟩
  obtain _ | h := h
  · omega
  unfold Md.printed
  dsimp only [T.kind, T.num, T.kids]
  rw [if_neg (by decide), if_pos (by trivial)]
  have hc := c.toNat_lt
  have hsub : (c - 97).toNat = c.toNat - 97 := by
    rw [UInt8.toNat_sub_of_le]
    · rfl
    · exact UInt8.le_iff_toNat_le.2 h0
  have e : w64 (w64 (w64 (97 + n) - 1) - w64 (w64 (n - 1) - ((c - 97).toNat : Int))) = (c.toNat : Int) := by rw [hsub]; simp only [w64_def]; omega
  rw [e]
  have : byt (c.toNat : Int) = c := UInt8.toNat_inj.1 (by rw [byt_toNat (by omega) (by omega)]; omega)
  rw [this]
theorem pr_typ : ∀ (f : Nat), (∀ {s : List UInt8} {a a2 : Nat} {n : Int} {i : Bool} {t : T}, Md.typ f s a n i = some ((t, true), a2) → 0 ≤ n → n ≤ 26 → s.length < lim → ∃ p y, Pr n t p ∧ s.drop a = p ++ y ∧ a2 = a + p.length) ∧
    (∀ {s : List UInt8} {a a2 : Nat} {n : Int} {i m : Bool} {u t : T}, Md.rest f s a n i m u = some ((t, true), a2) → 0 ≤ n → n ≤ 26 → s.length < lim → (t = u ∧ a2 = a ∧ m = false) ∨ ∃ q p y, t = .mk 3 0 [u, q] ∧ Pr n q p ∧ s.drop a = [32, 45, 62, 32] ++ p ++ y ∧ a2 = a + (4 + p.length)) ∧
    (∀ {s : List UInt8} {a a2 : Nat} {n : Int} {i : Bool} {t : T}, Md.quantifier f s a n i = some ((t, true), a2) → 0 ≤ n → n < 26 → s.length < lim → ∃ p y, Pr n t p ∧ s.drop a = p ++ y ∧ a2 = a + p.length)
  | 0 => ⟨(fun h => nomatch h), (fun h => nomatch h), (fun h => nomatch h)⟩
  | f + 1 => by
    have ih := pr_typ f
    refine ⟨fun {s a a2 n i t} h h0 hn hl => ?_, fun {s a a2 n i m u t} h h0 hn hl => ?_, fun {s a a2 n i t} h h0 hn hl => ?_⟩
    · -- a first part, and what comes behind it
      have both : ∀ (pu z : List UInt8) (u : T) (pt : List UInt8) (m : Bool) (b : Nat), Pr n u pu → pt = (if u.kids.length > 0 then ([40] ++ pu) ++ [41] else pu) → (m = false → u.kids.length = 0) → s.drop a = pt ++ z → b = a + pt.length → Md.rest f s b n i m u = some ((t, true), a2) →
          ∃ p y, Pr n t p ∧ s.drop a = p ++ y ∧ a2 = a + p.length := by
        intro pu z u pt m b hu hpt hm hs hb hr
        subst hb
        rcases ih.2.1 hr h0 hn hl with ⟨rfl, rfl, hmf⟩ | ⟨q, p, y, rfl, hq, hd, rfl⟩
        · have hk := hm hmf
          rw [if_neg (by omega)] at hpt
          subst hpt
          exact ⟨pt, z, hu, hs, rfl⟩
        · have hz := drop_add hs
          rw [hz] at hd
          have hs2 : s.drop a = (pt ++ [32, 45, 62, 32] ++ p) ++ y := by rw [hs, hd]; simp
          refine ⟨pt ++ [32, 45, 62, 32] ++ p, y, ?_, hs2, by simp; omega⟩
          have hlen := len_le hs2
          rw [hpt] at hlen ⊢
          exact Pr.fn hu hq (by omega)
      unfold Md.typ at h
      dsimp only at h
      split at h
      · rename_i hc
        have hs := drop_cons ((next_is (by decide)).1 hc)
        exact both [78] _ _ [78] false _ Pr.nt (by simp) (fun _ => rfl) hs rfl h
      split at h
      · rename_i hc
        have hs := drop_cons ((next_is (by decide)).1 hc)
        obtain ⟨⟨⟨q, qb⟩, b⟩, hq, h⟩ := Option.bind_eq_some_iff.1 h
        dsimp only at h
        split at h
        · cases h
        split at h
        · cases h
        · rename_i h1 h2
          have hqb : qb = true := by cases qb; · exact absurd (Or.inl rfl) h1
                                     · rfl
          subst hqb
          have hkq : ¬ q.kids.length = 0 := fun x => h1 (.inr x)
          obtain ⟨p, y, hp, hd, rfl⟩ := ih.1 hq h0 hn hl
          have hw1 : (word [41] s (a + 1 + p.length)).1 = true := by simpa using h2
          have hw := word_drop _ _ _ hw1
          have hw2 := word_step _ _ _ hw1
          have hy := drop_add hd
          rw [hw] at hy
          have hs2 : s.drop a = ([40] ++ p ++ [41]) ++ s.drop (a + 1 + p.length + [41].length) := by rw [hs, hd, ← hy]; simp
          rw [hw2] at h
          refine both p _ q ([40] ++ p ++ [41]) true _ hp (by rw [if_pos (by omega)]) (fun h => by cases h) hs2 (by simp; omega) h
      split at h
      · rename_i hc
        exact ih.2.2 h h0 hc.2.1 hl
      split at h
      · rename_i hc
        have hge : 97 ≤ (Md.next s a).toNat := UInt8.le_iff_toNat_le.1 hc.1
        have hsa : s[a]? = some (Md.next s a) := by
          cases hx : s[a]? with
          | none => have : Md.next s a = 0 := by unfold Md.next; rw [hx]; rfl
                    rw [this] at hge; simp at hge
          | some c => unfold Md.next; rw [hx]; rfl
        have hs := drop_cons hsa
        exact both [Md.next s a] _ _ [Md.next s a] false _ (Pr.vr hge hn h0) (by simp) (fun _ => rfl) hs rfl h
      · cases h
    · unfold Md.rest at h
      split at h
      · rename_i hc
        cases h
        exact .inl ⟨rfl, rfl, hc.1⟩
      split at h
      · cases h
      · rename_i h2
        have hw1 : (word [32, 45, 62, 32] s a).1 = true := by simpa using h2
        have hw := word_drop _ _ _ hw1
        have hw2 := word_step _ _ _ hw1
        obtain ⟨⟨⟨q, qb⟩, b⟩, hq, h⟩ := Option.bind_eq_some_iff.1 h
        dsimp only at h
        cases h
        rw [hw2] at hq
        obtain ⟨p, y, hp, hd, rfl⟩ := ih.1 hq h0 hn hl
        exact .inr ⟨q, p, y, rfl, hp, by rw [hw, hd]; simp, by simp; omega⟩
    · unfold Md.quantifier at h
      dsimp only at h
      split at h
      · cases h
      split at h
      · cases h
      split at h
      · cases h
      · rename_i h1 h2 h3
        have a1 : (word [97, 108, 108, 32] s a).1 = true := by simpa using h1
        have s1 := word_step _ _ _ a1
        have d1 := word_drop _ _ _ a1
        rw [s1] at h2 h3 h
        have a2' : (word [byt (w64 (97 + n))] s (a + ([97, 108, 108, 32] : List UInt8).length)).1 = true := by simpa using h2
        have s2 := word_step _ _ _ a2'
        have d2 := word_drop _ _ _ a2'
        rw [s2] at h3 h
        have a3 : (word [46, 32] s (a + ([97, 108, 108, 32] : List UInt8).length + [byt (w64 (97 + n))].length)).1 = true := by simpa using h3
        have s3 := word_step _ _ _ a3
        have d3 := word_drop _ _ _ a3
        rw [s3] at h
        obtain ⟨⟨⟨q, qb⟩, b⟩, hq, h⟩ := Option.bind_eq_some_iff.1 h
        dsimp only at h
        cases h
        have hn1 : w64 (n + 1) = n + 1 := w64_id (by omega) (by omega)
        have hq' := hq
        rw [hn1] at hq'
        obtain ⟨p, y, hp, hd, rfl⟩ := ih.1 hq' (by omega) (by omega) hl
        have hs : s.drop a = (([97, 108, 108, 32] ++ [byt (w64 (97 + n))] ++ [46, 32]) ++ p) ++ y := by rw [d1, d2, d3, hd]; simp
        have hlen := len_le hs
        exact ⟨_, y, Pr.al (by rw [hn1]; exact hp) (by omega), hs, by simp; omega⟩
/-- what is read was printed; and the index lies in the text -/
theorem written_law (s : List UInt8) (hs : s.length < 65536) : ∃ f t a e, Md.Parse f s = some ((t, a), e) ∧ 0 ≤ a ∧ a ≤ (s.length : Int) ∧ T.sz t + 1 < lim ∧ (e = 0 → ∃ g, Md.Print g t = some (s, 0)) := by
  have hlim : lim = 1099511627776 := rfl
  obtain ⟨q, r, hq, hr, e1, e2, e3, e4, e5⟩ := typ_law (s := s) s.length 0 0 false (3 * s.length + 3) (3 * s.length + 3) (Nat.zero_le _) (by omega) (by decide) (by decide) (by omega) (by omega)
  obtain ⟨⟨t, ok⟩, a⟩ := q
  dsimp only at e1 e2 e3 e4 e5
  unfold Md.Parse
  refine ⟨3 * s.length + 3, ?_⟩
  rw [if_neg (by omega), hq]
  simp only [Option.bind_some]
  cases ok
  · exact ⟨t0, (a : Int), 4, by rw [if_pos rfl], by omega, by omega, by decide, fun h => by cases h⟩
  · obtain ⟨_, _, _, hlen, _⟩ := e4 rfl
    have hlen := hlen rfl
    rw [if_neg (by decide)]
    by_cases hc : closed [t] ≠ 0
    · exact ⟨t0, 0, closed [t], by rw [if_pos hc], by decide, by omega, by decide, fun h => absurd h hc⟩
    · obtain ⟨p, y, ⟨g, hp⟩, hd, ha⟩ := (pr_typ _).1 hq (Int.le_refl _) (by decide) (by omega)
      have hy : y = [] := by
        have := congrArg List.length hd
        simp at this
        exact List.eq_nil_of_length_eq_zero (by omega)
      subst hy
      have hsp : s = p := by simpa using hd
      have hsz := (typ_sz _).1 hq
      refine ⟨t, 0, 0, by rw [if_neg hc], by decide, by omega, by omega, fun _ => ⟨g, ?_⟩⟩
      unfold Md.Print
      rw [if_neg hc, hp g (Nat.le_refl _), ← hsp]; rfl

/-! ### ranks -/
theorem rank_plain : ∀ {f : Nat} {t : T} {r : Int}, wf t → nds t ≤ 1000000 → Md.rank f t = some r → 0 ≤ r ∧ r ≤ (nds t : Int) ∧ (r = 0 → plain t = true)
  | 0, _, _, _, _, h => by cases h
  | f + 1, .mk k num ks, r, hw, hb, h => by
    rw [nds_mk] at hb ⊢
    unfold wf at hw
    obtain ⟨hk, hks⟩ := hw
    unfold Md.rank at h
    rcases hk with ⟨hk | hk, hl⟩ | ⟨hk, hl⟩ | ⟨hk, hl⟩
    · subst hk
      rw [if_neg (by decide), if_neg (by decide)] at h; cases h
      have : ks = [] := List.eq_nil_of_length_eq_zero hl
      subst this; exact ⟨Int.le_refl _, by omega, fun _ => rfl⟩
    · subst hk
      rw [if_neg (by decide), if_neg (by decide)] at h; cases h
      have : ks = [] := List.eq_nil_of_length_eq_zero hl
      subst this; exact ⟨Int.le_refl _, by omega, fun _ => rfl⟩
    · subst hk
      match ks, hl, hks with
      | [a, b], _, hks =>
        unfold wfs wfs at hks
        rw [if_neg (by decide), if_pos (by trivial)] at h
        dsimp only at h
        obtain ⟨m, hm, h⟩ := Option.bind_eq_some_iff.1 h
        obtain ⟨n, hn, h⟩ := Option.bind_eq_some_iff.1 h
        simp only [Option.some.injEq] at h
        rw [ndss_cons, ndss_cons] at hb ⊢
        have i1 := rank_plain hks.1 (by omega) hn
        have i2 := rank_plain hks.2.1 (by omega) hm
        have hw1 : w64 (n + 1) = n + 1 := w64_id (by omega) (by omega)
        rw [hw1] at h
        show 0 ≤ r ∧ _ ∧ (r = 0 → plain (.mk 3 num [a, b]) = true)
        by_cases hp : n > 0
        · rw [if_pos hp] at h
          exact ⟨by omega, by omega, fun h0 => by omega⟩
        · rw [if_neg hp] at h
          refine ⟨by omega, by omega, fun h0 => ?_⟩
          rw [show plain (.mk 3 num [a, b]) = (plain a && plain b) from plain_fn a b, i1.2.2 (by omega), i2.2.2 (by omega)]; rfl
    · subst hk
      match ks, hl, hks with
      | [a], _, hks =>
        unfold wfs at hks
        rw [if_pos (by trivial)] at h
        dsimp only at h
        obtain ⟨n, hn, h⟩ := Option.bind_eq_some_iff.1 h
        simp only [Option.some.injEq] at h
        rw [ndss_cons] at hb ⊢
        have i1 := rank_plain hks.1 (by omega) hn
        exact ⟨by omega, by omega, fun h0 => by omega⟩
theorem ranks_law {t : T} (h : rgt 0 t) (hn : nds t ≤ 10) : ∃ f n, Md.Rank f t = some (n, 0) ∧ 0 ≤ n ∧ n ≤ 1000 ∧ (n = 0 → plain t = true) ∧ (∃ g, Md.Rank g (fn t nt) = some (if n > 0 then n + 1 else 0, 0)) ∧ ∃ g, Md.Rank g (fn nt t) = some (n, 0) := by
  have hw := rgt_wf h
  obtain ⟨r, p, _, r0, r1⟩ := rank_law0 (nds t) hw (Nat.le_refl _) (by omega)
  have hpl := rank_plain hw (by omega) p
  have c0 := rgt_closed (by omega) h
  have h1 : rgt 0 (fn t nt) := rgt_fn h rgt_nt
  have h2 : rgt 0 (fn nt t) := rgt_fn rgt_nt h
  have c1 := rgt_closed (t := fn t nt) (by rw [nds_fn, nds_nt]; omega) h1
  have c2 := rgt_closed (t := fn nt t) (by rw [nds_fn, nds_nt]; omega) h2
  have hnt : ∀ f, Md.rank (f + 1) nt = some 0 := fun f => rfl
  obtain ⟨m, hm⟩ : ∃ m, nds t = m + 1 := ⟨nds t - 1, by have := nds_pos t; omega⟩
  refine ⟨nds t, r, by unfold Md.Rank; rw [if_pos c0, p]; rfl, r0, by omega, hpl.2.2, ⟨nds t + 1, ?_⟩, nds t + 1, ?_⟩
  · unfold Md.Rank
    rw [if_pos c1]
    have : Md.rank (nds t + 1) (fn t nt) = some (if r > 0 then r + 1 else 0) := by
      rw [rank_eq]
      show ((Md.rank (nds t) nt).bind fun out => (Md.rank (nds t) t).bind fun n => some (if n > 0 then max out (w64 (n + 1)) else out)) = _
      rw [p, hm, hnt m]
      show some _ = some _
      congr 1
      rw [w64_id (by omega) (by omega)]
      split <;> omega
    rw [this]; rfl
  · unfold Md.Rank
    rw [if_pos c2]
    have : Md.rank (nds t + 1) (fn nt t) = some r := by
      rw [rank_eq]
      show ((Md.rank (nds t) t).bind fun out => (Md.rank (nds t) nt).bind fun n => some (if n > 0 then max out (w64 (n + 1)) else out)) = _
      rw [p, hm, hnt m]
      rfl
    rw [this]; rfl
end Go.Proofs.Ytjgnhhgigickaaa.Wk
/- Walks of the given program's functions: RankRead. Printed by tools/w47.py. Conditions: none. -/

namespace Go.Proofs.Ytjgnhhgigickaaa.Wk
open Go Md
set_option maxRecDepth 20000
set_option linter.unusedVariables false
set_option linter.unusedSimpArgs false
attribute [local irreducible] endQ

theorem let11 {k : Nat} (h : k < 11) : ∃ x : UInt8, (#[.int .u8 78, .int .u8 97, .int .u8 98, .int .u8 99, .int .u8 32, .int .u8 40, .int .u8 41, .int .u8 45, .int .u8 62, .int .u8 46, .int .u8 108] : Array Value)[0 + k * 1]? = some (.int .u8 (x.toNat : Int)) :=
 match k, h with
 | 0, _ => ⟨78, rfl⟩
 | 1, _ => ⟨97, rfl⟩
 | 2, _ => ⟨98, rfl⟩
 | 3, _ => ⟨99, rfl⟩
 | 4, _ => ⟨32, rfl⟩
 | 5, _ => ⟨40, rfl⟩
 | 6, _ => ⟨41, rfl⟩
 | 7, _ => ⟨45, rfl⟩
 | 8, _ => ⟨62, rfl⟩
 | 9, _ => ⟨46, rfl⟩
 | 10, _ => ⟨108, rfl⟩
 | k + 11, h => absurd h (by omega)
section
variable {P : Program} {ops : Array Oper} {K : Env → World → Prop} {rest : List (Mv × Nat)} {S : World → Prop} {ρ : Env} {w : World} {i : Nat} {G : GH} {L : LH}
theorem m_mark {t e : TypeId} {x : Operand} {b n c : Nat} {C : Array Value} {T : TypeId} {L' : LH} (d : Option Nat) (j : Nat) (h : opAt ops i ρ = some (.convert t t x, d)) (hx : ev ρ x = .slice (some ⟨b, 0, none⟩) n c)
  (ht : P.underlying t = some (.slice e)) (he : P.underlying e = some (.int .u8)) (hst : St G L w) (hL : L[j]? = some (b, .cells C T (0, 0))) (hL' : L.set j (b, .cells C T (C.size, C.size + 1)) = L')
  (hk : ∀ w', St G L' w' → RunD P ops K rest (SS G L') (updo ρ d (.slice (some ⟨b, 0, none⟩) n c)) w') : RunD P ops K ((.f, i) :: rest) S ρ w := by
 refine m_fF h fun o ho => ?_
 have hb := hst.loc _ (List.mem_of_getElem? hL)
 have hlt : b < w.heap.size := by
  rcases Nat.lt_or_ge b w.heap.size with h' | h'
  ·exact h'
  ·rw [Array.getElem?_eq_none h'] at hb; cases hb
 have hsh : w.shape? b = some (T, C.size) := by unfold World.shape?; rw [hb]
 have hst' : St G L' (w.freeze ⟨b, C.size, none⟩ 1) := by
  rw [← hL']
  refine hst.set hL ?_ (fun y hy => ?_) (by unfold World.freeze; rw [if_neg (by decide)]; exact ⟨rfl, rfl⟩)
  ·unfold World.freeze
   rw [if_neg (by decide)]
   show (w.heap.modify b _)[b]? = _
   rw [Array.getElem?_modify, if_pos rfl, hb]; rfl
  ·unfold World.freeze
   rw [if_neg (by decide)]
   show (w.heap.modify b _)[y]? = _
   rw [Array.getElem?_modify, if_neg (fun h => hy h.symm)]
 have hrun : (convert t t (.slice (some ⟨b, 0, none⟩) n c)).run P w = .ok (.slice (some ⟨b, 0, none⟩) n c) (w.freeze ⟨b, C.size, none⟩ 1) := by
  simp [convert, run_underlying ht, run_underlying he, markStringish, hsh]
 have hex : (execOp (ev ρ) o).run P w = .ok (.value (.slice (some ⟨b, 0, none⟩) n c)) (w.freeze ⟨b, C.size, none⟩ 1) := by
  simp [execOp, ho, hx, hrun, Result.andThen]
 exact OpE_ok hex ⟨_, hst'.ss, hk _ hst'⟩
end
theorem rem_nat {x n : Nat} (hx : x < 256) : Int.tmod (IntKind.wrap .i64 ((x : Nat) : Int)) ((n : Nat) : Int) = ((x % n : Nat) : Int) := by
 rw [wrap_id (by omega) (by omega)]; rfl
theorem rem_11 {x : Nat} (hx : x < 256) : Int.tmod (IntKind.wrap .i64 ((x : Nat) : Int)) 11 = ((x % 11 : Nat) : Int) := rem_nat hx
theorem c23t {G : GH} {L : LH} {w : World} {va vb : Value} {a : T} (hz : T.sz a < lim) (hva : IsPoly G va a) (hvb : IsPoly G vb a) (hst : St G L w) : Cal Try.prog 23 #[va, vb] w fun x w' => x = .bool true ∧ St G L w' := by
 have := c23 _ (Nat.lt_succ_self _) hz hva hvb hst
 rwa [same_refl] at this
theorem c22t {G : GH} {L : LH} {w : World} {v : Value} {t : T} (hz : T.sz t < lim) (hv : IsPoly G v t) (hp : plain t = true) (hst : St G L w) : Cal Try.prog 22 #[v] w fun x w' => x = .bool true ∧ St G L w' := by
 have := c22 _ (Nat.lt_succ_self _) hz hv hst
 rwa [hp] at this

theorem c5 {G : GH} {L : LH} {w : World} {A : Option Addr} {n c p u : Nat} (hB : ByS G A n) (hc : n ≤ c) (hp : p < 256) (hu : u < 256) (hst : St G L w) : Cal Try.prog 5 #[.slice A n c, .int .u8 ((p : Nat) : Int), .int .u8 ((u : Nat) : Int)] w fun x w' => x = .bool true ∧ St G L w' := by
 have hlim : lim = 1099511627776 := rfl
 refine cal_of_W Try.func5 rfl (Nat.le_of_ble_eq_true (by kernel_rfl)) ?_
 refine W_seq ?_
 refine W_rg [(.p, 0)] hst ?_
 refine r_en [] [] [(6, .bool false)] rc_nil ?_
 refine W_seq ?_
 refine W_rg [(.p, 0), (.f, 1), (.f, 2), (.f, 3), (.f, 4)] hst ?_
 refine r_sg [(.p, 0)] [] [] [(21, .slice A n c)] rc_nil ?_
 refine m_cl #[.slice A n c] (some 22) (c20 hB hc hst) ?_
 rintro _ w1 ⟨G1, sb, A', n', c', hG1, rfl, hB', hn', hst⟩
 refine nx hst ?_
 refine m_cl #[pN sb 0, iN 12, .bool false] (some 23) (c19 (at_ := 0) (by decide) (by decide) (by decide) hB' hn' hst) ?_
 rintro x1 w1 ⟨G2, t, at1, sd1, hG2, hx, hrt, hnt, _, _, hst⟩
 obtain ⟨xA, xc, rfl, _, _⟩ := id hx.open
 have hsz : T.sz t ≤ 24 := by have b := sz_nds t; omega
 obtain ⟨fp, r, hp1, hp2, hp3, fq, hq⟩ := read_law hrt (by omega)
 refine nx hst ?_
 refine m_new (.cells #[iN 0, iN 0, .slice none 0 0] 24) (fun b1 => pN b1 0) (some 7) (fun b => by kernel_rfl) hst (fun b1 w1 hst => ?_)
 refine m_st ((b1, .cells #[iN t.kind, iN t.num, .slice xA t.kids.length xc] 24) :: (sb, .cells #[.slice A' n' c', iN (((at1 : Nat) : Int)), .int .u64 sd1] 96) :: L) 0 [(0, iN t.kind), (1, iN t.num), (2, .slice xA t.kids.length xc)] [iN t.kind, iN t.num, .slice xA t.kids.length xc] none hst (fun w1 hst => ?_)
 refine r_nil ?_
 refine W_seq ?_
 refine W_rg [(.l, 0), (.f, 1), (.p, 2), (.p, 3), (.p, 4), (.p, 5), (.p, 6)] hst ?_
 refine r_sg [(.l, 0)] [[iN t.kind, iN t.num, .slice xA t.kids.length xc]] [(⟨b1, 0, none⟩, iN t.kind), (⟨b1, 1, none⟩, iN t.num), (⟨b1, 2, none⟩, .slice xA t.kids.length xc)] [(25, .agg #[iN t.kind, iN t.num, .slice xA t.kids.length xc])] (rc_L 0 rfl rfl (rc_L 0 rfl rfl (rc_L 0 rfl rfl rc_nil))) ?_
 refine m_cl #[.agg #[iN t.kind, iN t.num, .slice xA t.kids.length xc]] (some 26) (c14 (hx) (by omega) hst hp1) ?_
 rintro _ w1 ⟨G3, hG3, rfl, hst⟩
 refine nx hst ?_
 refine r_en [] [] [(24, .tuple #[.string (bs r), iN 0]), (27, .string (bs r)), (28, iN 0), (8, .string (bs r)), (9, iN 0)] rc_nil ?_
 refine W_seq ?_
 refine W_rg [(.p, 0), (.f, 1), (.p, 2), (.p, 3), (.p, 4), (.p, 5), (.f, 6), (.f, 7), (.p, 8), (.p, 9)] hst ?_
 refine r_sg [(.p, 0)] [] [] [(30, .string (bs r))] rc_nil ?_
 refine m_cl #[.string (bs r)] (some 31) (c16 (by omega) hst hq) ?_
 rintro _ w1 ⟨G4, yA, yc, rfl, hG4, hy, hst⟩
 refine nx hst ?_
 refine r_sg [(.p, 2), (.p, 3), (.p, 4), (.p, 5)] [] [] [(29, .tuple #[.agg #[iN t.kind, iN t.num, .slice yA t.kids.length yc], iN 0, iN 0]), (32, .agg #[iN t.kind, iN t.num, .slice yA t.kids.length yc]), (33, iN 0), (34, iN 0)] rc_nil ?_
 refine m_new (.cells #[iN 0, iN 0, .slice none 0 0] 24) (fun b2 => pN b2 0) (some 10) (fun b => by kernel_rfl) hst (fun b2 w1 hst => ?_)
 refine m_st ((b2, .cells #[iN t.kind, iN t.num, .slice yA t.kids.length yc] 24) :: (b1, .cells #[iN t.kind, iN t.num, .slice xA t.kids.length xc] 24) :: (sb, .cells #[.slice A' n' c', iN (((at1 : Nat) : Int)), .int .u64 sd1] 96) :: L) 0 [(0, iN t.kind), (1, iN t.num), (2, .slice yA t.kids.length yc)] [iN t.kind, iN t.num, .slice yA t.kids.length yc] none hst (fun w1 hst => ?_)
 refine r_en [] [] [(11, iN 0), (12, iN 0)] rc_nil ?_
 refine W_seq ?_
 refine W_seq ?_
 refine W_rg [(.p, 0), (.p, 1), (.p, 2), (.p, 3), (.p, 4), (.p, 5), (.p, 6), (.p, 7), (.p, 8), (.p, 9), (.p, 10), (.l, 11), (.l, 12), (.f, 13), (.p, 14), (.p, 15), (.p, 16), (.p, 17), (.p, 18), (.p, 19), (.p, 20)] hst ?_
 refine r_sg [(.p, 0), (.p, 1), (.p, 2), (.p, 3), (.p, 4), (.p, 5), (.p, 6), (.p, 7), (.p, 8), (.p, 9), (.p, 10), (.l, 11), (.l, 12)] [[iN t.kind, iN t.num, .slice xA t.kids.length xc], [iN t.kind, iN t.num, .slice yA t.kids.length yc]] [(⟨b1, 0, none⟩, iN t.kind), (⟨b1, 1, none⟩, iN t.num), (⟨b1, 2, none⟩, .slice xA t.kids.length xc), (⟨b2, 0, none⟩, iN t.kind), (⟨b2, 1, none⟩, iN t.num), (⟨b2, 2, none⟩, .slice yA t.kids.length yc)] [(35, iN 0), (36, .bool false), (37, .bool false), (38, iN 0), (39, .bool false), (40, .bool false), (41, .bool false), (42, iN 0), (43, .bool false), (44, .bool false), (45, .bool false), (46, .agg #[iN t.kind, iN t.num, .slice xA t.kids.length xc]), (47, .agg #[iN t.kind, iN t.num, .slice yA t.kids.length yc])] (rc_L 1 rfl rfl (rc_L 1 rfl rfl (rc_L 1 rfl rfl (rc_L 0 rfl rfl (rc_L 0 rfl rfl (rc_L 0 rfl rfl rc_nil)))))) ?_
 refine m_cl #[.agg #[iN t.kind, iN t.num, .slice xA t.kids.length xc], .agg #[iN t.kind, iN t.num, .slice yA t.kids.length yc]] (some 48) (c23t (a := t) (by omega) ((hx).mono ((hG3).trans hG4)) (hy) hst) ?_
 rintro _ w1 ⟨rfl, hst⟩
 refine nx hst ?_
 refine r_en [] [] [(49, .bool false), (50, .bool false), (51, .bool false), (52, .string (bs r)), (53, iN (((r.length : Nat) : Int))), (54, .bool ((((r.length : Nat) : Int)) == 0)), (55, .bool ((((r.length : Nat) : Int)) == 0))] rc_nil ?_
 have hd3 : ((((r.length : Nat) : Int)) == 0) = false := by simp [hp2]
 refine W_condF (by refine Eq.trans (b := .bool ((((r.length : Nat) : Int)) == 0)) ?_ (congrArg Value.bool hd3); kernel_rfl) ?_
 refine W_skip ?_
 refine W_seq ?_
 refine W_rg [(.p, 0), (.f, 1), (.p, 2)] hst ?_
 refine r_sg [(.p, 0)] [] [] [(56, .string (bs r))] rc_nil ?_
 refine m_strBytes2 (l := r) (d := (some 57)) (show opAt _ _ _ = some (.convert 9 35 (.tmp 56), _) by kernel_rfl) (by kernel_rfl) Try.underlying9 Try.underlying35 Try.underlying5 hst (fun bb bc row f1 f2 w1 hrow hbc hf1 hst => ?_)
 refine r_en [] [] [(13, .slice (some ⟨bb, 0, none⟩) r.length bc)] rc_nil ?_
 refine W_seq ?_
 have hr0 : 0 < r.length := List.length_pos_iff.2 hp2
 have hkr : p % r.length < r.length := Nat.mod_lt _ hr0
 have hk11 : u % 11 < 11 := Nat.mod_lt _ (by decide)
 refine W_rgd [(.p, 0), (.p, 1), (.p, 2), (.p, 3), (.p, 4), (.p, 5), (.p, 8), (.p, 9), (.p, 10), (.f, 6), (.f, 7), (.p, 11), (.l, 12), (.p, 13), (.f, 14)] hst (fun w1 hst => ?_)
 refine r_sg [(.p, 0), (.p, 1), (.p, 2), (.p, 3), (.p, 4)] [] [] [(58, .slice (some ⟨bb, 0, none⟩) r.length bc), (59, .int .u8 (((p : Nat) : Int))), (60, iN (IntKind.wrap .i64 (((p : Nat) : Int)))), (61, .slice (some ⟨bb, 0, none⟩) r.length bc), (62, iN (((r.length : Nat) : Int)))] rc_nil ?_
 refine m_rem (k := .i64) (a := IntKind.wrap .i64 (((p : Nat) : Int))) (b := ((r.length : Nat) : Int)) (dd := (some 63)) (show opAt _ _ _ = some (.binOp .rem 3 (.tmp 60) (.tmp 62) 3, _) by kernel_rfl) (by kernel_rfl) (by kernel_rfl) (by omega) (((p % r.length : Nat)) : Int) (rem_nat hp) ?_
 refine r_sg [(.p, 8), (.p, 9)] [] [] [(66, .int .u8 (((u : Nat) : Int))), (67, iN (IntKind.wrap .i64 (((u : Nat) : Int))))] rc_nil ?_
 refine m_rem (k := .i64) (a := IntKind.wrap .i64 (((u : Nat) : Int))) (b := 11) (dd := (some 68)) (show opAt _ _ _ = some (.binOp .rem 3 (.tmp 67) (.const (iN 11)) 3, _) by kernel_rfl) (by kernel_rfl) (by kernel_rfl) (by decide) (((u % 11 : Nat)) : Int) (rem_11 hu) ?_
 refine m_new (.cells #[.int .u8 78, .int .u8 97, .int .u8 98, .int .u8 99, .int .u8 32, .int .u8 40, .int .u8 41, .int .u8 45, .int .u8 62, .int .u8 46, .int .u8 108] 5) (fun b4 => .slice (some ⟨b4, 0, none⟩) 11 11) (some 64) (fun b => by kernel_rfl) hst (fun b4 w1 hst => ?_)
 refine m_mark (n := 11) (c := 11) (L' := (b4, .cells #[.int .u8 78, .int .u8 97, .int .u8 98, .int .u8 99, .int .u8 32, .int .u8 40, .int .u8 41, .int .u8 45, .int .u8 62, .int .u8 46, .int .u8 108] 5 (11, 12)) :: (bb, .cells (List.toArray row) 5 (f1, f2)) :: (b2, .cells #[iN t.kind, iN t.num, .slice yA t.kids.length yc] 24) :: (b1, .cells #[iN t.kind, iN t.num, .slice xA t.kids.length xc] 24) :: (sb, .cells #[.slice A' n' c', iN (((at1 : Nat) : Int)), .int .u64 sd1] 96) :: L) (some 65) 0 (show opAt _ _ _ = some (.convert 35 35 (.tmp 64), _) by kernel_rfl) (by kernel_rfl) Try.underlying35 Try.underlying5 hst rfl rfl (fun w1 hst => ?_)
 refine m_idx (sz := 1) (b := b4) (off := 0) (n := 11) (c := 11) (k := (u % 11)) (some 69) (show opAt _ _ _ = some (.indexAddr 35 (.tmp 65) (.tmp 68), _) by kernel_rfl) (by kernel_rfl) (by kernel_rfl) Try.underlying35 sz5 hk11 ?_
 obtain ⟨uc, huc⟩ := let11 hk11
 refine r_sg [(.l, 12)] [[.int .u8 ((uc.toNat : Int))]] [(⟨b4, 0 + (u % 11) * 1, none⟩, .int .u8 ((uc.toNat : Int)))] [(70, .int .u8 ((uc.toNat : Int)))] (rc_L 0 rfl huc rc_nil) ?_
 refine m_idx (sz := 1) (b := bb) (off := 0) (n := r.length) (c := bc) (k := (p % r.length)) (some 71) (show opAt _ _ _ = some (.indexAddr 35 (.tmp 58) (.tmp 63), _) by kernel_rfl) (by kernel_rfl) (by kernel_rfl) Try.underlying35 sz5 hkr ?_
 have hrl : p % r.length < row.length := by obtain ⟨y, hy⟩ := get_of_lt hkr; exact (List.getElem?_eq_some_iff.1 (hrow _ y hy)).1
 refine m_store (L' := (b4, .cells #[.int .u8 78, .int .u8 97, .int .u8 98, .int .u8 99, .int .u8 32, .int .u8 40, .int .u8 41, .int .u8 45, .int .u8 62, .int .u8 46, .int .u8 108] 5 (11, 12)) :: (bb, .cells (List.toArray (row.set (0 + p % r.length * 1) (.int .u8 (uc.toNat : Int)))) 5 (f1, f2)) :: (b2, .cells #[iN t.kind, iN t.num, .slice yA t.kids.length yc] 24) :: (b1, .cells #[iN t.kind, iN t.num, .slice xA t.kids.length xc] 24) :: (sb, .cells #[.slice A' n' c', iN (((at1 : Nat) : Int)), .int .u64 sd1] 96) :: L) 1 [(0 + p % r.length * 1, .int .u8 ((uc.toNat : Int)))] (row.set (0 + p % r.length * 1) (.int .u8 ((uc.toNat : Int)))) none (by kernel_rfl) hst rfl (by simp; omega) rfl rfl (fun w1 hst => ?_)
 obtain ⟨l2, hl2⟩ : ∃ l2, l2 = r.set (p % r.length) uc := ⟨_, rfl⟩
 have hl2n : l2.length = r.length := by rw [hl2, List.length_set]
 have hrow2 := row_set (u := uc) hkr hrow; rw [← hl2] at hrow2
 rw [show 0 + p % r.length * 1 = p % r.length by omega] at hst
 rw [← hl2n]
 refine r_nil ?_
 refine W_seq ?_
 refine W_rg [(.p, 0), (.l, 1), (.f, 2), (.p, 3), (.p, 4), (.p, 5), (.p, 6), (.f, 7), (.f, 8), (.p, 9), (.p, 10)] hst ?_
 refine r_sg [(.p, 0)] [] [] [(73, .slice (some ⟨bb, 0, none⟩) l2.length bc)] rc_nil ?_
 refine m_bytesStr (l := l2) (c := bc) (d := (some 74)) (show opAt _ _ _ = some (.convert 35 9 (.tmp 73), _) by kernel_rfl) (by kernel_rfl) Try.underlying35 Try.underlying5 Try.underlying9 (fun w2 hS => hS.2 _ (.tail _ (.head _))) hrow2 ?_
 obtain ⟨fw, tw, aw, ew, hw1, hw2, hw3, hwz, hw4⟩ := written_law l2 (by omega)
 refine m_cl #[.string (bs l2)] (some 75) (c16 (by omega) hst hw1) ?_
 rintro _ w1 ⟨G5, zA, zc, rfl, hG5, hz, hst⟩
 refine nx hst ?_
 refine r_sg [(.p, 3), (.p, 4), (.p, 5), (.p, 6)] [] [] [(72, .tuple #[.agg #[iN tw.kind, iN tw.num, .slice zA tw.kids.length zc], iN aw, iN ew]), (76, .agg #[iN tw.kind, iN tw.num, .slice zA tw.kids.length zc]), (77, iN aw), (78, iN ew)] rc_nil ?_
 refine m_new (.cells #[iN 0, iN 0, .slice none 0 0] 24) (fun b5 => pN b5 0) (some 14) (fun b => by kernel_rfl) hst (fun b5 w1 hst => ?_)
 refine m_st ((b5, .cells #[iN tw.kind, iN tw.num, .slice zA tw.kids.length zc] 24) :: (b4, .cells #[.int .u8 78, .int .u8 97, .int .u8 98, .int .u8 99, .int .u8 32, .int .u8 40, .int .u8 41, .int .u8 45, .int .u8 62, .int .u8 46, .int .u8 108] 5 (11, 12)) :: (bb, .cells (List.toArray (row.set (p % r.length) (.int .u8 (uc.toNat : Int)))) 5 (f1, f2)) :: (b2, .cells #[iN t.kind, iN t.num, .slice yA t.kids.length yc] 24) :: (b1, .cells #[iN t.kind, iN t.num, .slice xA t.kids.length xc] 24) :: (sb, .cells #[.slice A' n' c', iN (((at1 : Nat) : Int)), .int .u64 sd1] 96) :: L) 0 [(0, iN tw.kind), (1, iN tw.num), (2, .slice zA tw.kids.length zc)] [iN tw.kind, iN tw.num, .slice zA tw.kids.length zc] none hst (fun w1 hst => ?_)
 refine r_en [] [] [(11, iN aw), (12, iN ew)] rc_nil ?_
 refine W_seqI (fun ρ D w => ∃ (zz : Nat), EqS ρ [(7, pN b1 0)] ∧ D = [] ∧ St G5 ((b5, .cells #[iN tw.kind, iN tw.num, .slice zA tw.kids.length zc] 24) :: (b4, .cells #[.int .u8 78, .int .u8 97, .int .u8 98, .int .u8 99, .int .u8 32, .int .u8 40, .int .u8 41, .int .u8 45, .int .u8 62, .int .u8 46, .int .u8 108] 5 (11, 12)) :: (bb, .cells (List.toArray (row.set (p % r.length) (.int .u8 (uc.toNat : Int)))) 5 (f1, f2)) :: (b2, .cells #[iN t.kind, iN t.num, .slice yA t.kids.length yc] 24) :: (b1, .cells #[iN t.kind, iN t.num, .slice xA t.kids.length xc] 24) :: (sb, .cells #[.slice A' n' c', iN (((at1 : Nat) : Int)), .int .u64 sd1] 96) :: L) w) ?_ ?_
 ·skip
  refine W_seq ?_
  refine W_rg [(.p, 0), (.p, 1)] hst ?_
  refine r_en [] [] [(79, iN ew), (80, .bool (ew == 0))] rc_nil ?_
  refine W_cd (b := ew == 0) (fun hc6 => ?_) (fun hc6 => ?_)
  ·skip
   have he0 : ew = 0 := by simpa using hc6
   refine W_seq ?_
   refine W_rg [(.l, 0), (.f, 1), (.p, 2), (.p, 3), (.p, 4), (.p, 5), (.p, 6)] hst ?_
   refine r_sg [(.l, 0)] [[iN tw.kind, iN tw.num, .slice zA tw.kids.length zc]] [(⟨b5, 0, none⟩, iN tw.kind), (⟨b5, 1, none⟩, iN tw.num), (⟨b5, 2, none⟩, .slice zA tw.kids.length zc)] [(82, .agg #[iN tw.kind, iN tw.num, .slice zA tw.kids.length zc])] (rc_L 0 rfl rfl (rc_L 0 rfl rfl (rc_L 0 rfl rfl rc_nil))) ?_
   obtain ⟨gw, hw5⟩ := hw4 he0
   refine m_cl #[.agg #[iN tw.kind, iN tw.num, .slice zA tw.kids.length zc]] (some 83) (c14 (hz) (by omega) hst hw5) ?_
   rintro _ w1 ⟨G6, hG6, rfl, hst⟩
   refine nx hst ?_
   refine r_en [] [] [(81, .tuple #[.string (bs l2), iN 0]), (84, .string (bs l2)), (85, iN 0), (15, .string (bs l2)), (16, iN 0)] rc_nil ?_
   refine W_seq ?_
   refine W_rg [(.p, 0), (.p, 1), (.p, 2), (.p, 3), (.p, 4), (.l, 5), (.p, 6), (.p, 7)] hst ?_
   refine r_sg [(.p, 0), (.p, 1), (.p, 2), (.p, 3), (.p, 4)] [] [] [(86, iN 0), (87, .bool false), (88, .bool false), (89, .string (bs l2)), (90, .slice (some ⟨bb, 0, none⟩) l2.length bc)] rc_nil ?_
   refine m_bytesStr (l := l2) (c := bc) (d := (some 91)) (show opAt _ _ _ = some (.convert 35 9 (.tmp 90), _) by kernel_rfl) (by kernel_rfl) Try.underlying35 Try.underlying5 Try.underlying9 (fun w2 hS => hS.2 _ (.tail _ (.tail _ (.head _)))) hrow2 ?_
   refine r_en [] [] [(92, .bool (!((bs l2).toList == (bs l2).toList))), (93, .bool (!((bs l2).toList == (bs l2).toList)))] rc_nil ?_
   have hd7 : (!((bs l2).toList == (bs l2).toList)) = false := by simp
   refine W_condF (by refine Eq.trans (b := .bool (!((bs l2).toList == (bs l2).toList))) ?_ (congrArg Value.bool hd7); kernel_rfl) ?_
   refine W_skip ?_
   replace hst := hst.weak (hG6)
   exact ⟨0, ⟨by kernel_rfl, trivial⟩, rfl, hst⟩
  ·skip
   refine W_seq ?_
   refine W_rg [(.p, 0), (.p, 1), (.p, 2), (.p, 3), (.p, 4), (.p, 5), (.p, 6), (.p, 7)] hst ?_
   refine r_sg [(.p, 0), (.p, 1), (.p, 2)] [] [] [(94, iN aw), (95, .bool (decide (aw < 0))), (96, .bool (decide (aw < 0)))] rc_nil ?_
   have hd8 : (decide (aw < 0)) = false := by simp; omega
   rw [hd8]
   refine r_en [] [] [(97, iN aw), (98, .slice (some ⟨bb, 0, none⟩) l2.length bc), (99, iN (((l2.length : Nat) : Int))), (100, .bool (decide (aw > (((l2.length : Nat) : Int))))), (101, .bool (decide (aw > (((l2.length : Nat) : Int)))))] rc_nil ?_
   have hd9 : (decide (aw > (((l2.length : Nat) : Int)))) = false := by simp; omega
   refine W_condF (by refine Eq.trans (b := .bool (decide (aw > (((l2.length : Nat) : Int))))) ?_ (congrArg Value.bool hd9); kernel_rfl) ?_
   refine W_skip ?_
   exact ⟨0, ⟨by kernel_rfl, trivial⟩, rfl, hst⟩
 clear hst; rintro ρ D w1 ⟨zz, hE10, rfl, hst⟩
 refine W_env hE10 ?_
 refine W_seq ?_
 refine W_seq ?_
 refine W_rg [(.l, 0), (.f, 1), (.p, 2)] hst ?_
 refine r_sg [(.l, 0)] [[iN t.kind, iN t.num, .slice xA t.kids.length xc]] [(⟨b1, 0, none⟩, iN t.kind), (⟨b1, 1, none⟩, iN t.num), (⟨b1, 2, none⟩, .slice xA t.kids.length xc)] [(102, .agg #[iN t.kind, iN t.num, .slice xA t.kids.length xc])] (rc_L 4 rfl rfl (rc_L 4 rfl rfl (rc_L 4 rfl rfl rc_nil))) ?_
 refine m_cl #[.agg #[iN t.kind, iN t.num, .slice xA t.kids.length xc]] (some 103) (c24 (t := t) _ (Nat.lt_succ_self _) (by omega) (by omega) ((hx).mono (((hG3).trans hG4).trans hG5)) hst) ?_
 rintro _ w1 ⟨rfl, hst⟩
 refine nx hst ?_
 refine r_en [] [] [(104, .bool (decide ((((nds t : Nat) : Int)) > 10)))] rc_nil ?_
 refine W_cd (b := decide ((((nds t : Nat) : Int)) > 10)) (fun hc11 => ?_) (fun hc11 => ?_)
 ·skip
  refine W_seq ?_
  refine W_rg [(.f, 0), (.p, 1)] hst ?_
  refine m_cl #[] (some 105) (c12 hst) ?_
  rintro _ w1 ⟨rfl, hst⟩
  refine nx hst ?_
  refine r_en [] [] [(6, .bool true)] rc_nil ?_
  refine W_ret ?_
  refine q_rt [] [] (.bool true) rc_nil hst ?_
  replace hst := hst.weak (((((hG1).trans hG2).trans hG3).trans hG4).trans hG5)
  exact ⟨rfl, hst.drop [_, _, _, _, _, _]⟩
 ·skip
  have hn10 : nds t ≤ 10 := by have := of_decide_eq_false hc11; omega
  refine W_skip ?_
  refine W_seq ?_
  refine W_rg [(.l, 0), (.f, 1), (.p, 2), (.p, 3), (.p, 4), (.p, 5), (.p, 6)] hst ?_
  refine r_sg [(.l, 0)] [[iN t.kind, iN t.num, .slice xA t.kids.length xc]] [(⟨b1, 0, none⟩, iN t.kind), (⟨b1, 1, none⟩, iN t.num), (⟨b1, 2, none⟩, .slice xA t.kids.length xc)] [(107, .agg #[iN t.kind, iN t.num, .slice xA t.kids.length xc])] (rc_L 4 rfl rfl (rc_L 4 rfl rfl (rc_L 4 rfl rfl rc_nil))) ?_
  obtain ⟨fk, rn, hk1, hk2, hk2b, hk3, ⟨fk2, hk4⟩, fk3, hk7⟩ := ranks_law hrt hn10
  obtain ⟨r1, hr1⟩ : ∃ r1, r1 = if rn > 0 then rn + 1 else 0 := ⟨_, rfl⟩
  have hk5 := hk4; rw [← hr1] at hk5
  have hszA : T.sz (fn t nt) + 1 < lim := by have b := sz_nds (fn t nt); rw [nds_fn, show nds nt = 1 from rfl] at b; omega
  have hszB : T.sz (fn nt t) + 1 < lim := by have b := sz_nds (fn nt t); rw [nds_fn, show nds nt = 1 from rfl] at b; omega
  refine m_cl #[.agg #[iN t.kind, iN t.num, .slice xA t.kids.length xc]] (some 108) (c25 ((hx).mono (((hG3).trans hG4).trans hG5)) (by omega) hst hk1) ?_
  rintro _ w1 ⟨G7, hG7, rfl, hst⟩
  refine nx hst ?_
  refine r_en [] [] [(106, .tuple #[iN rn, iN 0]), (109, iN rn), (110, iN 0), (17, iN rn), (9, iN 0)] rc_nil ?_
  refine W_seq ?_
  refine W_rgd [(.l, 0), (.e, 1), (.f, 2), (.f, 3), (.p, 4), (.p, 5), (.p, 6), (.p, 7), (.p, 8)] hst (fun w1 hst => ?_)
  refine r_sg [(.l, 0)] [[iN t.kind, iN t.num, .slice xA t.kids.length xc]] [(⟨b1, 0, none⟩, iN t.kind), (⟨b1, 1, none⟩, iN t.num), (⟨b1, 2, none⟩, .slice xA t.kids.length xc)] [(112, .agg #[iN t.kind, iN t.num, .slice xA t.kids.length xc])] (rc_L 4 rfl rfl (rc_L 4 rfl rfl (rc_L 4 rfl rfl rc_nil))) ?_
  refine m_callE #[] (some 113) (by kernel_rfl) (c27  hst) ?_
  rintro x8 w1 ⟨G8, hG8, hx8, hst⟩
  refine ⟨hst.ss' ((Le.refl _).trans hG8) (fun _ hp => hp), ?_⟩
  refine m_cl #[.agg #[iN t.kind, iN t.num, .slice xA t.kids.length xc], x8] (some 114) (c26 ((hx).mono (((((hG3).trans hG4).trans hG5).trans hG7).trans hG8)) (hx8) hst) ?_
  rintro x9 w1 ⟨G9, hG9, hx9, hst⟩
  refine nx hst ?_
  refine m_cl #[x9] (some 115) (c25 (hx9) (hszA) hst hk5) ?_
  rintro _ w1 ⟨G10, hG10, rfl, hst⟩
  refine nx hst ?_
  refine r_en [] [] [(111, .tuple #[iN r1, iN 0]), (116, iN r1), (117, iN 0), (18, iN r1), (12, iN 0)] rc_nil ?_
  refine W_seq ?_
  refine W_rgd [(.l, 1), (.e, 0), (.f, 2), (.f, 3), (.p, 4), (.p, 5), (.p, 6), (.p, 7), (.p, 8)] hst (fun w1 hst => ?_)
  refine r_sg [(.l, 1)] [[iN t.kind, iN t.num, .slice xA t.kids.length xc]] [(⟨b1, 0, none⟩, iN t.kind), (⟨b1, 1, none⟩, iN t.num), (⟨b1, 2, none⟩, .slice xA t.kids.length xc)] [(120, .agg #[iN t.kind, iN t.num, .slice xA t.kids.length xc])] (rc_L 4 rfl rfl (rc_L 4 rfl rfl (rc_L 4 rfl rfl rc_nil))) ?_
  refine m_callE #[] (some 119) (by kernel_rfl) (c27  hst) ?_
  rintro x11 w1 ⟨G11, hG11, hx11, hst⟩
  refine ⟨hst.ss' ((Le.refl _).trans hG11) (fun _ hp => hp), ?_⟩
  refine m_cl #[x11, .agg #[iN t.kind, iN t.num, .slice xA t.kids.length xc]] (some 121) (c26 (hx11) ((hx).mono ((((((((hG3).trans hG4).trans hG5).trans hG7).trans hG8).trans hG9).trans hG10).trans hG11)) hst) ?_
  rintro x12 w1 ⟨G12, hG12, hx12, hst⟩
  refine nx hst ?_
  refine m_cl #[x12] (some 122) (c25 (hx12) (hszB) hst hk7) ?_
  rintro _ w1 ⟨G13, hG13, rfl, hst⟩
  refine nx hst ?_
  refine r_en [] [] [(118, .tuple #[iN rn, iN 0]), (123, iN rn), (124, iN 0), (19, iN rn), (20, iN 0)] rc_nil ?_
  refine W_seq ?_
  refine W_seq ?_
  refine W_rg [(.p, 0), (.p, 1)] hst ?_
  refine r_en [] [] [(125, iN rn), (126, .bool (decide (rn > 0)))] rc_nil ?_
  refine W_cd (b := decide (rn > 0)) (fun hc12 => ?_) (fun hc12 => ?_)
  ·skip
   have hrn : rn > 0 := of_decide_eq_true hc12
   refine W_seq ?_
   refine W_rg [(.p, 0), (.p, 1), (.p, 2), (.p, 3), (.p, 4), (.p, 5), (.p, 6), (.p, 7), (.p, 8), (.p, 9), (.p, 10), (.p, 11), (.p, 12), (.p, 13), (.p, 14), (.p, 15), (.p, 16), (.p, 17), (.p, 18), (.p, 19), (.p, 20), (.p, 21), (.f, 22), (.p, 23), (.p, 24)] hst ?_
   refine r_sg [(.p, 0), (.p, 1), (.p, 2), (.p, 3), (.p, 4), (.p, 5), (.p, 6), (.p, 7), (.p, 8), (.p, 9), (.p, 10), (.p, 11), (.p, 12), (.p, 13), (.p, 14), (.p, 15), (.p, 16)] [] [] [(127, iN 0), (128, .bool true), (129, .bool true), (130, iN 0), (131, .bool true), (132, .bool true), (133, .bool true), (134, iN 0), (135, .bool true), (136, .bool true), (137, .bool true), (138, iN r1), (139, iN rn), (140, iN (IntKind.wrap .i64 (rn + 1))), (141, .bool (r1 == (IntKind.wrap .i64 (rn + 1)))), (142, .bool (r1 == (IntKind.wrap .i64 (rn + 1)))), (143, .bool (r1 == (IntKind.wrap .i64 (rn + 1))))] rc_nil ?_
   have hd13 : (r1 == (IntKind.wrap .i64 (rn + 1))) = true := by have := of_decide_eq_true hc12; rw [hr1, if_pos this, wrap_id (by omega) (by omega)]; simp
   rw [hd13]
   refine r_sg [(.p, 17), (.p, 18), (.p, 19), (.p, 20), (.p, 21)] [] [] [(144, iN rn), (145, iN rn), (146, .bool (rn == rn)), (147, .bool (rn == rn)), (148, .bool (rn == rn))] rc_nil ?_
   have hd14 : (rn == rn) = true := by simp
   rw [hd14]
   refine m_cl #[] (some 149) (c12 hst) ?_
   rintro _ w1 ⟨rfl, hst⟩
   refine nx hst ?_
   refine r_en [] [] [(150, .bool true), (6, .bool true)] rc_nil ?_
   refine W_ret ?_
   refine q_rt [] [] (.bool true) rc_nil hst ?_
   replace hst := hst.weak ((((((((((((hG1).trans hG2).trans hG3).trans hG4).trans hG5).trans hG7).trans hG8).trans hG9).trans hG10).trans hG11).trans hG12).trans hG13)
   exact ⟨rfl, hst.drop [_, _, _, _, _, _]⟩
  ·skip
   have hrn : ¬ rn > 0 := of_decide_eq_false hc12
   refine W_skip ?_
   refine W_seq ?_
   refine W_rg [(.p, 0), (.p, 1), (.p, 2), (.p, 3), (.p, 4), (.p, 5), (.p, 6), (.p, 7), (.p, 8), (.p, 9), (.p, 10), (.p, 11), (.p, 12), (.p, 13), (.p, 14), (.p, 15), (.p, 16), (.p, 17), (.p, 18), (.p, 19), (.p, 20), (.p, 21), (.p, 22), (.l, 23), (.f, 24), (.p, 25), (.p, 26), (.f, 27), (.p, 28), (.p, 29)] hst ?_
   refine r_sg [(.p, 0), (.p, 1), (.p, 2), (.p, 3), (.p, 4), (.p, 5), (.p, 6), (.p, 7), (.p, 8), (.p, 9), (.p, 10), (.p, 11), (.p, 12), (.p, 13), (.p, 14)] [] [] [(151, iN 0), (152, .bool true), (153, .bool true), (154, iN 0), (155, .bool true), (156, .bool true), (157, .bool true), (158, iN 0), (159, .bool true), (160, .bool true), (161, .bool true), (162, iN rn), (163, .bool (rn == 0)), (164, .bool (rn == 0)), (165, .bool (rn == 0))] rc_nil ?_
   have hd15 : (rn == 0) = true := by have := of_decide_eq_false hc12; simp; omega
   rw [hd15]
   refine r_sg [(.p, 15), (.p, 16), (.p, 17), (.p, 18)] [] [] [(166, iN r1), (167, .bool (r1 == 0)), (168, .bool (r1 == 0)), (169, .bool (r1 == 0))] rc_nil ?_
   have hd16 : (r1 == 0) = true := by have := of_decide_eq_false hc12; rw [hr1, if_neg this]; rfl
   rw [hd16]
   refine r_sg [(.p, 19), (.p, 20), (.p, 21), (.p, 22)] [] [] [(170, iN rn), (171, .bool (rn == 0)), (172, .bool (rn == 0)), (173, .bool (rn == 0))] rc_nil ?_
   have hd17 : (rn == 0) = true := by have := of_decide_eq_false hc12; simp; omega
   rw [hd17]
   refine r_sg [(.l, 23)] [[iN t.kind, iN t.num, .slice xA t.kids.length xc]] [(⟨b1, 0, none⟩, iN t.kind), (⟨b1, 1, none⟩, iN t.num), (⟨b1, 2, none⟩, .slice xA t.kids.length xc)] [(174, .agg #[iN t.kind, iN t.num, .slice xA t.kids.length xc])] (rc_L 4 rfl rfl (rc_L 4 rfl rfl (rc_L 4 rfl rfl rc_nil))) ?_
   refine m_cl #[.agg #[iN t.kind, iN t.num, .slice xA t.kids.length xc]] (some 175) (c22t (t := t) (by omega) ((hx).mono ((((((((((hG3).trans hG4).trans hG5).trans hG7).trans hG8).trans hG9).trans hG10).trans hG11).trans hG12).trans hG13)) (hk3 (by omega)) hst) ?_
   rintro _ w1 ⟨rfl, hst⟩
   refine nx hst ?_
   refine r_sg [(.p, 25), (.p, 26)] [] [] [(176, .bool true), (177, .bool true)] rc_nil ?_
   refine m_cl #[] (some 178) (c12 hst) ?_
   rintro _ w1 ⟨rfl, hst⟩
   refine nx hst ?_
   refine r_en [] [] [(179, .bool true), (6, .bool true)] rc_nil ?_
   refine W_ret ?_
   refine q_rt [] [] (.bool true) rc_nil hst ?_
   replace hst := hst.weak ((((((((((((hG1).trans hG2).trans hG3).trans hG4).trans hG5).trans hG7).trans hG8).trans hG9).trans hG10).trans hG11).trans hG12).trans hG13)
   exact ⟨rfl, hst.drop [_, _, _, _, _, _]⟩

end Go.Proofs.Ytjgnhhgigickaaa.Wk
/- From a reading of an argument to the walk's words: a type read as data is a tree in memory; and back: behind a call that leaves all old blocks alone the arguments read as before. Conditions: none. -/

namespace Go.Proofs.Ytjgnhhgigickaaa.Wk
open Go Md Go.ChangeShapes Go.WideShapes Go.ChangeAt Go.RowKit

/-- all that is there -/
def WG (w : World) : GH := ⟨fun b => w.heap[b]?, w.os, w.output⟩
theorem WG.st (w : World) : St (WG w) [] w := ⟨fun _ _ h => h, (fun p hp => by cases hp), (fun p hp => by cases hp), List.nodup_nil, rfl, rfl⟩

/-- behind the call: what was there is there -/
theorem kept_of {w w' : World} (h : St (WG w) [] w') (may : MemPlace → Prop) : w.keptBut w' may := by
  refine ⟨h.os, h.out, fun i hi => ?_⟩
  have hx : w.heap[i]? = some (w.heap[i]'hi) := Array.getElem?_eq_getElem hi
  have := h.imm i _ hx
  rw [this, hx]
  cases w.heap[i]'hi with
  | cells c t fz => exact ⟨rfl, rfl, rfl, fun _ _ => rfl⟩
  | map es ck => exact .inr ⟨rfl, rfl⟩
  | _ => rfl
theorem same_of {w w' : World} (h : St (WG w) [] w') {x : MemPlace} (hx : x.block < w.heap.size) : w.sameAt w' x := by
  have h0 : w.heap[x.block]? = some (w.heap[x.block]'hx) := Array.getElem?_eq_getElem hx
  have h1 := h.imm _ _ h0
  cases x with
  | cell b off => show (match w'.heap[b]? with | some (.cells c _ _) => _ | _ => none) = (match w.heap[b]? with | some (.cells c _ _) => _ | _ => none); rw [show w'.heap[b]? = w.heap[b]? from h1.trans h0.symm]
  | map b => exact h1.trans h0.symm
theorem Try.laidOut : laidOutB Try.prog = true := by kernel_rfl
theorem trod_kept {H : Type} {enc : TypeId × Value → H} {t : TypeId} (hr : Try.prog.readableRec t = true) (hrow : t < Try.prog.types.size) {w w' : World} {v : Value} {d : DataW H} {ps : List MemPlace}
    (h : DataW.Trod enc Try.prog w 0 (fun _ => true) true t v d ps) (hs : St (WG w) [] w') (hlt : ∀ x ∈ ps, x.block < w.heap.size) :
    DataW.Trod enc Try.prog w' 0 (fun b => decide (b < w.heap.size)) true t v d ps :=
  WideElems.Trod_stays Try.laidOut hr hrow h (fun x hx => same_of hs (hlt x hx)) (fun x hx => by simpa using hlt x hx)
/-- the row's word of a call that answers true and leaves all alone -/
theorem post_true {H : Type} {enc : TypeId × Value → H} {f : Func} {s : ChangeSpec} {apart fresh handsOn : Bool} {w w' : World} {args : Array Value} {ds : List (DataW H)} {before : List MemPlace}
    (hW : DataW.Whole enc Try.prog f.params.toList s.vars apart w args.toList ds [] before) (hv : s.vars = []) (hrt : f.resultTypes = #[4]) (hres : (s.fn H (ds ++ [])).results = [.lit (.bool true)]) (hra : (s.fn H (ds ++ [])).args = ds) (hrv : (s.fn H (ds ++ [])).vars = [])
    (hargs : DataW.TrodAll enc Try.prog w' 0 (fun b => decide (b < w.heap.size)) true f.params.toList args.toList ds before) (hs : St (WG w) [] w') :
    s.post enc Try.prog f apart fresh handsOn false w args (.bool true) w' := by
  refine ⟨ds, [], before, [], before, [], hW, ?_, by rw [hra]; exact hargs, by rw [hrv, hv]; rfl, kept_of hs _, fun h => by cases h⟩
  rw [hrt, hres]
  exact trodAll_mk1 (shut_bool Try.underlying4 true)
end Go.Proofs.Ytjgnhhgigickaaa.Wk
/- From a reading of bytes to the walk's words: a slice of bytes read as data, and a byte. Conditions: none. -/

namespace Go.Proofs.Ytjgnhhgigickaaa.Wk
open Go Md Go.ChangeShapes Go.WideShapes Go.ChangeAt Go.RowKit

set_option maxRecDepth 100000 in
theorem read_bytes {H : Type} {enc : TypeId × Value → H} {w : World} {sp : Nat → Bool} {held : Bool} {v : Value} {d : DataW H} {ps : List MemPlace} {b0 : Nat} (hok : Value.okWide Try.prog w .any b0 35 v) (h : DataW.Trod enc Try.prog w 0 sp held 35 v d ps) : ∃ A n c, v = .slice A n c ∧ ByS (WG w) A n ∧ n ≤ c := by
  obtain ⟨f, hf⟩ := h
  have key : ∀ {x : Addr} {v : Value}, w.cell? x = some v → x.spot = none ∧ GC (WG w) ⟨x.block, x.off, none⟩ v := by
    intro x v hx
    unfold World.cell? at hx
    split at hx
    · rename_i c T fz hb
      split at hx
      · cases hx
      · rename_i hs
        exact ⟨by cases hh : x.spot with | none => rfl | some y => rw [hh] at hs; simp at hs, c, T, fz, hb, rfl, hx⟩
    · cases hx
  have hv1 : ∃ A n c, v = .slice A n c := by
    obtain ⟨A, n, c, rfl⟩ := okWide_slice Try.underlying35 hok
    exact ⟨A, n, c, rfl⟩
  obtain ⟨A, n, c, rfl⟩ := hv1
  refine ⟨A, n, c, rfl, ?_⟩
  rcases Go.ChangeShapes.open_ints Try.underlying35 Try.underlying5 (by kernel_rfl) hf with ⟨h1, _⟩ | ⟨a, len, cap, zs, h1, _, hl, _, hz, _, hc, _⟩
  · simp only [Value.cells, List.cons.injEq, Value.slice.injEq, and_true] at h1
    obtain ⟨rfl, rfl, rfl⟩ := h1
    exact ⟨fun i hi => absurd hi (Nat.not_lt_zero _), Nat.le_refl _⟩
  · simp only [Value.cells, List.cons.injEq, Value.slice.injEq, and_true] at h1
    obtain ⟨rfl, rfl, rfl⟩ := h1
    refine ⟨fun i hi => ?_, hl⟩
    have hzl : i < zs.length := by rw [hz]; split <;> omega
    obtain ⟨k1, k2⟩ := key (hc i hzl)
    have hab : (a.add i).block = a.block := by unfold Addr.add; split <;> rfl
    have hao : (a.add i).off = a.off + i := by unfold Addr.add; split <;> simp_all
    have hsp : a.spot = none := by
      have := (key (hc 0 (by omega))).1
      simpa [Addr.add] using this
    rw [hab, hao] at k2
    exact ⟨a.block, a.off, _, by cases a; simp only at hsp; subst hsp; rfl, k2⟩
set_option maxRecDepth 100000 in
theorem read_byte {H : Type} {enc : TypeId × Value → H} {w : World} {sp : Nat → Bool} {held : Bool} {v : Value} {d : DataW H} {ps : List MemPlace} {b0 : Nat} (hok : Value.okWide Try.prog w .any b0 5 v) (h : DataW.Trod enc Try.prog w 0 sp held 5 v d ps) :
    ∃ n : Nat, n < 256 ∧ v = .int .u8 ((n : Nat) : Int) ∧ ps = [] := by
  obtain ⟨n, rfl, rfl, rfl, hw⟩ := open_int Try.underlying5 hok h
  have : IntKind.min .u8 ≤ n ∧ n ≤ IntKind.max .u8 := by simpa [Lit.wf] using hw
  have h1 : IntKind.min .u8 = 0 := by decide
  have h2 : IntKind.max .u8 = 255 := by decide
  rw [h1, h2] at this
  exact ⟨n.toNat, by omega, by rw [Int.toNat_of_nonneg this.1], rfl⟩
end Go.Proofs.Ytjgnhhgigickaaa.Wk
/- RankRead holds: the law returns true for all bytes, every place and every letter, and they read afterwards as they read before. Conditions: none but those that the given row itself bears. -/

namespace Go.Proofs.Ytjgnhhgigickaaa
open Go.ChangeShapes Go.WideShapes Go.ChangeAt Go.RowKit

theorem ownR : ownKnob Try.prog.godebug = none := by kernel_rfl

set_option maxRecDepth 100000 in
theorem read_lifted (os : Os) (started : os.Started) (H : Type) (enc : TypeId × Value → H) :
    ReturnsInHanded {} Try.checked os 5 .any (Rows.rankReadSpec.pre6 enc Try.prog Try.f5 Rows.rankReadRow.domain false) (Rows.rankReadSpec.post enc Try.prog Try.f5 false true false false) := by
  refine returnsInHanded_of_change (C := Try.checked) ownR started (by kernel_rfl) Try.func5
    (ChangeSpec.witness6 (enc := enc) (C := Try.checked) false ⟨#[], #[.slice none 0 0, .int .u8 0, .int .u8 0], []⟩ 8 (by kernel_rfl) (by kernel_rfl) (by kernel_rfl) (by kernel_rfl)) ?_
  intro W base args ds gs before hval0 hW _ _
  have hval : ∀ (j : Nat) t v, Try.f5.params[j]? = some t → args[j]? = some v → Value.okWide Try.prog W .any base t v := hval0
  have hW' := hW
  obtain ⟨p, q, hA0, hV, rfl, _, _⟩ := hW
  have hA : DataW.TrodAll enc Try.prog W 0 (fun _ => true) true Try.f5.params.toList args.toList ds p := hA0
  rw [Try.params5] at hA hval
  obtain ⟨v0, v1, v2, d0, d1, d2, p0, p1, p2, rfl, rfl, rfl, h0, h1, h2⟩ := trodAll_three hA
  obtain ⟨rfl, rfl⟩ := trodVars_none hV
  obtain ⟨A, n, c, rfl, hB, hc⟩ := Wk.read_bytes (hval 0 35 v0 rfl rfl) h0
  obtain ⟨pl, hpl, rfl, rfl⟩ := Wk.read_byte (hval 1 5 v1 rfl rfl) h1
  obtain ⟨u, hu, rfl, rfl⟩ := Wk.read_byte (hval 2 5 v2 rfl rfl) h2
  have hlt : ∀ x ∈ (p0 ++ ([] ++ ([] ++ []))), x.block < W.heap.size := fun x hx => by simpa using hW'.lt x (by simpa using hx)
  refine (Wk.c5 hB hc hpl hu (Wk.WG.st W)).mono fun v W' ⟨hv, hs⟩ => ?_
  subst hv
  simp only [List.append_nil] at hW'
  refine Wk.post_true hW' rfl rfl rfl rfl rfl ?_ hs
  have := trodAll_mk3 (Wk.trod_kept (by kernel_rfl) (of_decide_eq_true (by kernel_rfl)) h0 hs fun x hx => hlt x (by simp [hx])) (Wk.trod_kept (by kernel_rfl) (of_decide_eq_true (by kernel_rfl)) h1 hs fun x hx => by cases hx)
    (Wk.trod_kept (by kernel_rfl) (of_decide_eq_true (by kernel_rfl)) h2 hs fun x hx => by cases hx)
  simpa using this

theorem read_holds : Rows.RankReadSaid :=
  OpenClaim.holds_of_wide 5 Try.f5 rfl rfl rfl rfl rfl rfl rfl ⟨rfl, rfl, rfl, rfl, rfl⟩ rfl rfl rfl rfl rfl (by kernel_rfl) Try.func5 (by kernel_rfl)
    (of_decide_eq_true (by kernel_rfl)) (by unfold Func.isWrapper; first | (rw [if_pos (by decide +kernel)]; kernel_rfl) | (rw [if_neg (by decide +kernel)]; exact ⟨rfl, rfl⟩))
    (fun os started H enc _ => read_lifted os started H enc)
#print axioms read_holds
end Go.Proofs.Ytjgnhhgigickaaa
