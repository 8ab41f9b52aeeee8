/- The texts W29 M2 W30 W31 W32 W33 K15 W34, joined by wip/tools/squeeze.py: contracts of the given program's functions and plain laws. Conditions: each theorem's own. -/
import Derived.Test.YtjgnhhgigickaaaA4

/- Walks of the given program's functions: Parse. Printed by tools/w29.py. Conditions: none. -/

namespace Go.Proofs.Ytjgnhhgigickaaa.Wk
open Go Md
set_option maxRecDepth 20000
set_option linter.unusedVariables false
set_option linter.unusedSimpArgs false
attribute [local irreducible] endQ

theorem word_step : ∀ (l s : List UInt8) (at_ : Nat), (word l s at_).1 = true → (word l s at_).2 = at_ + l.length
 | [], _, _, _ => rfl
 | c :: l, s, at_, h => by
  unfold word at h ⊢
  split
  ·rename_i hc; rw [if_pos hc] at h; rw [word_step l s _ h]; simp only [List.length_cons]; omega
  ·rename_i hc; rw [if_neg hc] at h; cases h
theorem typ_sz : ∀ (f : Nat), (∀ {s : List UInt8} {at_ at2 : Nat} {n : Int} {i : Bool} {t : T}, Md.typ f s at_ n i = some ((t, true), at2) → T.sz t + at_ ≤ at2) ∧
  (∀ {s : List UInt8} {at_ at2 : Nat} {n : Int} {i m : Bool} {u t : T}, Md.rest f s at_ n i m u = some ((t, true), at2) → T.sz t + at_ ≤ at2 + T.sz u) ∧
  (∀ {s : List UInt8} {at_ at2 : Nat} {n : Int} {i : Bool} {t : T}, Md.quantifier f s at_ n i = some ((t, true), at2) → T.sz t + at_ ≤ at2)
 | 0 => ⟨(fun h => nomatch h), (fun h => nomatch h), (fun h => nomatch h)⟩
 | f + 1 => by
  have ih := typ_sz f
  refine ⟨fun {s at_ at2 n i t} h => ?_, fun {s at_ at2 n i m u t} h => ?_, fun {s at_ at2 n i t} h => ?_⟩
  ·unfold Md.typ at h
   dsimp only at h
   split at h
   ·have := ih.2.1 h; simp only [T.sz, T.szs] at this; omega
   split at h
   ·obtain ⟨⟨⟨q, qb⟩, a⟩, hq, h⟩ := Option.bind_eq_some_iff.1 h
    dsimp only at h
    split at h
    ·cases h
    split at h
    ·cases h
    ·rename_i h1 h2
     have hw := word_step _ _ _ (by simpa using h2)
     have := ih.2.1 h
     cases qb
     ·exact absurd (Or.inl rfl) h1
     ·have := ih.1 hq
      rw [hw] at *; simp only [List.length_cons, List.length_nil] at *; omega
   split at h
   ·exact ih.2.2 h
   split at h
   ·have := ih.2.1 h; simp only [T.sz, T.szs] at this; omega
   ·cases h
  ·unfold Md.rest at h
   split at h
   ·cases h; omega
   split at h
   ·cases h
   ·rename_i _ h2
    have hw := word_step _ _ _ (by simpa using h2)
    obtain ⟨⟨⟨q, qb⟩, a⟩, hq, h⟩ := Option.bind_eq_some_iff.1 h
    dsimp only at h
    cases h
    have := ih.1 hq
    rw [hw] at this
    simp only [List.length_cons, List.length_nil, T.sz, T.szs] at *; omega
  ·unfold Md.quantifier at h
   dsimp only at h
   split at h
   ·cases h
   split at h
   ·cases h
   split at h
   ·cases h
   ·rename_i h1 h2 h3
    have w1 := word_step _ _ _ (by simpa using h1)
    have w2 := word_step _ _ _ (by simpa using h2)
    have w3 := word_step _ _ _ (by simpa using h3)
    obtain ⟨⟨⟨q, qb⟩, a⟩, hq, h⟩ := Option.bind_eq_some_iff.1 h
    dsimp only at h
    cases h
    have := ih.1 hq
    rw [w3, w2, w1] at this
    simp only [List.length_cons, List.length_nil, T.sz, T.szs] at *; omega

theorem c16 {f : Nat} {G : GH} {L : LH} {w : World} {s : List UInt8} {t : T} {a e : Int} (hs : s.length < lim) (hst : St G L w) (h : Md.Parse f s = some ((t, a), e)) :
  Cal Try.prog 16 #[.string (bs s)] w fun x w' => ∃ G' A c, x = .tuple #[.agg #[.int .i64 t.kind, .int .i64 t.num, .slice A t.kids.length c], .int .i64 a, .int .i64 e] ∧ Le G G' ∧ IsPoly G' (.agg #[.int .i64 t.kind, .int .i64 t.num, .slice A t.kids.length c]) t ∧ St G' L w' := by
 have hlim : lim = 1099511627776 := rfl
 unfold Md.Parse at h
 refine cal_of_W Try.func16 rfl (Nat.le_of_ble_eq_true (by kernel_rfl)) ?_
 refine W_seq ?_
 refine W_rg [(.f, 0), (.p, 1), (.p, 2)] hst ?_
 refine m_new (.cells #[.int .i64 0, .int .i64 0, .slice none 0 0] 24) (fun b1 => .pointer (some ⟨b1, 0, none⟩)) (some 2) (fun b => by kernel_rfl) hst (fun b1 w1 hst => ?_)
 refine r_en [] [] [(3, .int .i64 0), (4, .int .i64 0)] rc_nil ?_
 refine W_seq ?_
 refine W_seq ?_
 refine W_rg [(.p, 0), (.p, 1), (.p, 2)] hst ?_
 refine r_en [] [] [(9, .string (bs s)), (10, .int .i64 (((s.length : Nat) : Int))), (11, .bool (decide ((((s.length : Nat) : Int)) > 65536)))] rc_nil ?_
 refine W_cd (b := decide ((((s.length : Nat) : Int)) > 65536)) (fun hc2 => ?_) (fun hc2 => ?_)
 ·skip
  have hln : ((s.length : Nat) : Int) > 65536 := by simpa using hc2
  rw [if_pos hln] at h; simp only [Option.some.injEq, Prod.mk.injEq] at h; obtain ⟨⟨rfl, rfl⟩, rfl⟩ := h
  refine W_seq ?_
  refine W_rg [(.p, 0), (.f, 1), (.p, 2), (.p, 3)] hst ?_
  refine r_sg [(.p, 0)] [] [] [(12, .agg #[.int .i64 0, .int .i64 0, .slice none 0 0])] rc_nil ?_
  refine m_st ((b1, .cells #[.int .i64 0, .int .i64 0, .slice none 0 0] 24) :: L) 0 [(0, .int .i64 0), (1, .int .i64 0), (2, .slice none 0 0)] [.int .i64 0, .int .i64 0, .slice none 0 0] none hst (fun w1 hst => ?_)
  refine r_en [] [] [(3, .int .i64 0), (4, .int .i64 11)] rc_nil ?_
  refine W_ret ?_
  refine q_rt [.int .i64 0, .int .i64 0, .slice none 0 0] [(⟨b1, 0, none⟩, .int .i64 0), (⟨b1, 1, none⟩, .int .i64 0), (⟨b1, 2, none⟩, .slice none 0 0)] (.tuple #[.agg #[.int .i64 0, .int .i64 0, .slice none 0 0], .int .i64 0, .int .i64 11]) (rc_L 0 rfl rfl (rc_L 0 rfl rfl (rc_L 0 rfl rfl rc_nil))) hst ?_
  exact ⟨G, _, _, rfl, Le.refl _, (IsPoly.mk (t := t0) (Nat.le_refl _) IsPolys.nil), hst.drop [_]⟩
 ·skip
  have hln : ¬ ((s.length : Nat) : Int) > 65536 := by simpa using hc2
  rw [if_neg hln] at h
  refine W_skip ?_
  refine W_seq ?_
  refine W_rg [(.p, 0), (.p, 1), (.f, 2), (.p, 3)] hst ?_
  refine r_sg [(.p, 0), (.p, 1)] [] [] [(13, .string (bs s)), (14, .agg #[.string (bs s), .int .i64 0])] rc_nil ?_
  refine m_new (.cells #[.string (bs s), .int .i64 0] 87) (fun b3 => .pointer (some ⟨b3, 0, none⟩)) (some 15) (fun b => by kernel_rfl) hst (fun b3 w1 hst => ?_)
  refine r_en [] [] [(5, .pointer (some ⟨b3, 0, none⟩))] rc_nil ?_
  refine W_seq ?_
  refine W_rg [(.p, 0), (.f, 1), (.p, 2), (.p, 3), (.p, 4), (.f, 5), (.f, 6), (.p, 7)] hst ?_
  refine r_sg [(.p, 0)] [] [] [(17, .pointer (some ⟨b3, 0, none⟩))] rc_nil ?_
  obtain ⟨⟨⟨q, qb⟩, ar⟩, hq, h⟩ := Option.bind_eq_some_iff.1 h; dsimp only at h
  refine m_cl #[.pointer (some ⟨b3, 0, none⟩), .int .i64 0, .bool false] (some 18) (c59 f (Nat.zero_le _) hs (by decide) (by decide) hst hq) ?_
  rintro _ w1 ⟨G1, qA, qc, rfl, hG1, hqp, hatq, hqk, hst⟩
  refine nx hst ?_
  refine r_sg [(.p, 2), (.p, 3), (.p, 4)] [] [] [(16, .tuple #[.agg #[.int .i64 q.kind, .int .i64 q.num, .slice qA q.kids.length qc], .bool qb]), (19, .agg #[.int .i64 q.kind, .int .i64 q.num, .slice qA q.kids.length qc]), (20, .bool qb)] rc_nil ?_
  refine m_new (.cells #[.int .i64 0, .int .i64 0, .slice none 0 0] 24) (fun b4 => .pointer (some ⟨b4, 0, none⟩)) (some 6) (fun b => by kernel_rfl) hst (fun b4 w1 hst => ?_)
  refine m_st ((b4, .cells #[.int .i64 q.kind, .int .i64 q.num, .slice qA q.kids.length qc] 24) :: (b3, .cells #[.string (bs s), .int .i64 (((ar : Nat) : Int))] 87) :: (b1, .cells #[.int .i64 0, .int .i64 0, .slice none 0 0] 24) :: L) 0 [(0, .int .i64 q.kind), (1, .int .i64 q.num), (2, .slice qA q.kids.length qc)] [.int .i64 q.kind, .int .i64 q.num, .slice qA q.kids.length qc] none hst (fun w1 hst => ?_)
  refine r_en [] [] [(7, .bool qb)] rc_nil ?_
  cases qb
  ·skip
   rw [if_pos rfl] at h; simp only [Option.some.injEq, Prod.mk.injEq] at h; obtain ⟨⟨rfl, rfl⟩, rfl⟩ := h
   refine W_seq ?_
   refine W_seq ?_
   refine W_rg [(.p, 0), (.p, 1)] hst ?_
   refine r_en [] [] [(21, .bool false), (22, .bool true)] rc_nil ?_
   refine W_cT ?_
   refine W_seq ?_
   refine W_rgd [(.p, 0), (.p, 1), (.p, 2), (.p, 3), (.l, 4), (.e, 5), (.p, 6), (.p, 7)] hst (fun w1 hst => ?_)
   refine r_sg [(.p, 0), (.p, 1), (.p, 2), (.p, 3), (.l, 4)] [[.int .i64 (((ar : Nat) : Int))]] [(⟨b3, 1, none⟩, .int .i64 (((ar : Nat) : Int)))] [(23, .agg #[.int .i64 0, .int .i64 0, .slice none 0 0]), (24, .pointer (some ⟨b3, 0, none⟩)), (25, .pointer (some ⟨b3, 0, none⟩)), (26, .pointer (some ⟨b3, 1, none⟩)), (27, .int .i64 (((ar : Nat) : Int)))] (rc_L 1 rfl rfl rc_nil) ?_
   refine m_storeE (L' := (b4, .cells #[.int .i64 q.kind, .int .i64 q.num, .slice qA q.kids.length qc] 24) :: (b3, .cells #[.string (bs s), .int .i64 (((ar : Nat) : Int))] 87) :: (b1, .cells #[.int .i64 0, .int .i64 0, .slice none 0 0] 24) :: L) 2 [(0, .int .i64 0), (1, .int .i64 0), (2, .slice none 0 0)] [.int .i64 0, .int .i64 0, .slice none 0 0] none (by kernel_rfl) hst rfl (by kernel_rfl) rfl rfl (fun _ h => h.ss' (Le.refl _) (fun _ hp => hp)) (fun w1 hst => ?_)
   refine r_en [] [] [(3, .int .i64 (((ar : Nat) : Int))), (4, .int .i64 4)] rc_nil ?_
   refine W_ret ?_
   refine q_rt [.int .i64 0, .int .i64 0, .slice none 0 0] [(⟨b1, 0, none⟩, .int .i64 0), (⟨b1, 1, none⟩, .int .i64 0), (⟨b1, 2, none⟩, .slice none 0 0)] (.tuple #[.agg #[.int .i64 0, .int .i64 0, .slice none 0 0], .int .i64 (((ar : Nat) : Int)), .int .i64 4]) (rc_L 2 rfl rfl (rc_L 2 rfl rfl (rc_L 2 rfl rfl rc_nil))) hst ?_
   exact ⟨G1, _, _, rfl, hG1, (IsPoly.mk (t := t0) (Nat.le_refl _) IsPolys.nil), hst.drop [_, _, _]⟩
  ·skip
   rw [if_neg (by decide)] at h
   refine W_seq ?_
   refine W_seq ?_
   refine W_rg [(.p, 0), (.p, 1)] hst ?_
   refine r_en [] [] [(21, .bool true), (22, .bool false)] rc_nil ?_
   refine W_cF ?_
   refine W_skip ?_
   refine W_seq ?_
   refine W_seq ?_
   refine W_rg [(.l, 0), (.f, 1), (.f, 2), (.p, 3)] hst ?_
   refine r_sg [(.l, 0)] [[.int .i64 q.kind, .int .i64 q.num, .slice qA q.kids.length qc]] [(⟨b4, 0, none⟩, .int .i64 q.kind), (⟨b4, 1, none⟩, .int .i64 q.num), (⟨b4, 2, none⟩, .slice qA q.kids.length qc)] [(28, .agg #[.int .i64 q.kind, .int .i64 q.num, .slice qA q.kids.length qc])] (rc_L 0 rfl rfl (rc_L 0 rfl rfl (rc_L 0 rfl rfl rc_nil))) ?_
   refine m_new (.cells #[.int .i64 q.kind, .int .i64 q.num, .slice qA q.kids.length qc] 24) (fun b5 => .slice (some ⟨b5, 0, none⟩) 1 1) (some 29) (fun b => by kernel_rfl) hst (fun b5 w1 hst => ?_)
   obtain ⟨G2, hG2, hF6, hst⟩ := St.freeze [_] hst
   have hfs := hF6 _ (.head _)
   have hcl56 := c56 (ts := [q]) (c := 1) (polys_of (cs := [.int .i64 q.kind, .int .i64 q.num, .slice qA q.kids.length qc]) ⟨(hqp).mono hG2, trivial⟩ hfs) (Nat.le_refl _) (by have := (typ_sz f).1 hq; rw [T.sz1]; omega) hst
   refine m_cl #[.slice (some ⟨b5, 0, none⟩) 1 1] (some 30) (hcl56) ?_
   rintro _ w1 ⟨G2', hG2', rfl, hst⟩
   replace hfs := hG2' _ _ hfs
   refine nx hst ?_
   refine r_en [] [] [(8, .int .i64 (closed [q]))] rc_nil ?_
   refine W_seq ?_
   refine W_rg [(.p, 0), (.p, 1)] hst ?_
   refine r_en [] [] [(31, .int .i64 (closed [q])), (32, .bool ((closed [q]) != 0))] rc_nil ?_
   refine W_cd (b := (closed [q]) != 0) (fun hc7 => ?_) (fun hc7 => ?_)
   ·skip
    have hcl : closed [q] ≠ 0 := by simpa using hc7
    rw [if_pos hcl] at h; simp only [Option.some.injEq, Prod.mk.injEq] at h; obtain ⟨⟨rfl, rfl⟩, rfl⟩ := h
    refine W_seq ?_
    refine W_rg [(.p, 0), (.p, 1), (.f, 2), (.p, 3), (.p, 4)] hst ?_
    refine r_sg [(.p, 0), (.p, 1)] [] [] [(33, .agg #[.int .i64 0, .int .i64 0, .slice none 0 0]), (34, .int .i64 (closed [q]))] rc_nil ?_
    refine m_st ((b4, .cells #[.int .i64 q.kind, .int .i64 q.num, .slice qA q.kids.length qc] 24) :: (b3, .cells #[.string (bs s), .int .i64 (((ar : Nat) : Int))] 87) :: (b1, .cells #[.int .i64 0, .int .i64 0, .slice none 0 0] 24) :: L) 2 [(0, .int .i64 0), (1, .int .i64 0), (2, .slice none 0 0)] [.int .i64 0, .int .i64 0, .slice none 0 0] none hst (fun w1 hst => ?_)
    refine r_en [] [] [(3, .int .i64 0), (4, .int .i64 (closed [q]))] rc_nil ?_
    refine W_ret ?_
    refine q_rt [.int .i64 0, .int .i64 0, .slice none 0 0] [(⟨b1, 0, none⟩, .int .i64 0), (⟨b1, 1, none⟩, .int .i64 0), (⟨b1, 2, none⟩, .slice none 0 0)] (.tuple #[.agg #[.int .i64 0, .int .i64 0, .slice none 0 0], .int .i64 0, .int .i64 (closed [q])]) (rc_L 2 rfl rfl (rc_L 2 rfl rfl (rc_L 2 rfl rfl rc_nil))) hst ?_
    exact ⟨G2', _, _, rfl, (hG1.trans hG2).trans hG2', (IsPoly.mk (t := t0) (Nat.le_refl _) IsPolys.nil), hst.drop [_, _, _]⟩
   ·skip
    have hcl : ¬ closed [q] ≠ 0 := by simpa using hc7
    rw [if_neg hcl] at h; simp only [Option.some.injEq, Prod.mk.injEq] at h; obtain ⟨⟨rfl, rfl⟩, rfl⟩ := h
    refine W_skip ?_
    refine W_seq ?_
    refine W_rg [(.l, 0), (.f, 1), (.p, 2), (.p, 3)] hst ?_
    refine r_sg [(.l, 0)] [[.int .i64 q.kind, .int .i64 q.num, .slice qA q.kids.length qc]] [(⟨b4, 0, none⟩, .int .i64 q.kind), (⟨b4, 1, none⟩, .int .i64 q.num), (⟨b4, 2, none⟩, .slice qA q.kids.length qc)] [(35, .agg #[.int .i64 q.kind, .int .i64 q.num, .slice qA q.kids.length qc])] (rc_L 0 rfl rfl (rc_L 0 rfl rfl (rc_L 0 rfl rfl rc_nil))) ?_
    refine m_st ((b4, .cells #[.int .i64 q.kind, .int .i64 q.num, .slice qA q.kids.length qc] 24) :: (b3, .cells #[.string (bs s), .int .i64 (((ar : Nat) : Int))] 87) :: (b1, .cells #[.int .i64 q.kind, .int .i64 q.num, .slice qA q.kids.length qc] 24) :: L) 2 [(0, .int .i64 q.kind), (1, .int .i64 q.num), (2, .slice qA q.kids.length qc)] [.int .i64 q.kind, .int .i64 q.num, .slice qA q.kids.length qc] none hst (fun w1 hst => ?_)
    refine r_en [] [] [(3, .int .i64 0), (4, .int .i64 0)] rc_nil ?_
    refine W_ret ?_
    refine q_rt [.int .i64 q.kind, .int .i64 q.num, .slice qA q.kids.length qc] [(⟨b1, 0, none⟩, .int .i64 q.kind), (⟨b1, 1, none⟩, .int .i64 q.num), (⟨b1, 2, none⟩, .slice qA q.kids.length qc)] (.tuple #[.agg #[.int .i64 q.kind, .int .i64 q.num, .slice qA q.kids.length qc], .int .i64 0, .int .i64 0]) (rc_L 2 rfl rfl (rc_L 2 rfl rfl (rc_L 2 rfl rfl rc_nil))) hst ?_
    exact ⟨G2', _, _, rfl, (hG1.trans hG2).trans hG2', ((hqp.mono hG2).mono hG2'), hst.drop [_, _, _]⟩

end Go.Proofs.Ytjgnhhgigickaaa.Wk
/- What the reference's functions on types and texts compute, and the law's counting, as functions on trees. Conditions: none. -/

namespace Go.Proofs.Ytjgnhhgigickaaa.Md
open Go Wk

/-! ### the law's counting -/
mutual
def cnt : T → Int → Int → Int
  | .mk _ _ ks, m, d => if d > 60 then 1000 else cnts ks (m + 1) (d + 1)
def cnts : List T → Int → Int → Int
  | [], m, _ => m
  | t :: ts, m, d => if m ≤ 40 then cnts ts (cnt t m d) d else m
end
mutual
def nds : T → Nat
  | .mk _ _ ks => ndss ks + 1
def ndss : List T → Nat
  | [] => 0
  | t :: ts => nds t + ndss ts
end
mutual
theorem cnt_bd : ∀ (t : T) {m d : Int}, 0 ≤ m → m ≤ 40 → m + 1 ≤ cnt t m d ∧ cnt t m d ≤ 1000 ∧ (cnt t m d ≤ 40 → cnt t m d = m + (nds t : Int))
  | .mk _ _ ks, m, d, h0, h1 => by
    unfold cnt nds
    split
    · omega
    · have := cnts_bd ks (m := m + 1) (d := d + 1) (by omega) (by omega)
      omega
theorem cnts_bd : ∀ (ts : List T) {m d : Int}, 0 ≤ m → m ≤ 1000 → m ≤ cnts ts m d ∧ cnts ts m d ≤ 1000 ∧ (cnts ts m d ≤ 40 → cnts ts m d = m + (ndss ts : Int))
  | [], m, d, h0, h1 => by unfold cnts ndss; omega
  | t :: ts, m, d, h0, h1 => by
    unfold cnts ndss
    split
    · rename_i h
      have a := cnt_bd t (m := m) (d := d) h0 h
      have b := cnts_bd ts (m := cnt t m d) (d := d) (by omega) (by omega)
      omega
    · omega
end

/-! ### right types, as the reference looks at them -/
def wantsR (k : Int) : Int := if k = 4 then 1 else if k = 3 then 2 else 0
mutual
def rR : T → Int → Int → Int × Int
  | .mk k num ks, b, wi =>
    if b ≥ 12 then (b, 2)
    else if k < 1 ∨ k > 4 ∨ num < 0 ∨ (num > 0 ∧ k ≠ 1) then (b, 3)
    else if (ks.length : Int) ≠ wantsR k then (b, 4)
    else if k = 1 ∧ num ≥ wi then (b, 1)
    else rRs ks (w64 (b + 1)) (if k = 4 then w64 (wi + 1) else wi)
def rRs : List T → Int → Int → Int × Int
  | [], b, _ => (b, 0)
  | t :: ts, b, wi => if (rR t b wi).2 ≠ 0 then rR t b wi else rRs ts (rR t b wi).1 wi
end
def rRight (t : T) (n : Int) : Int := if n < 0 ∨ n > 26 then 3 else (rR t 0 n).2

/-! ### texts -/
def rletter (n : Int) : List UInt8 := [byt (w64 (97 + n))]
def rprinted : Nat → T → Int → Option (List UInt8)
  | 0, _, _ => none
  | f + 1, t, n =>
    if t.kind = 1 then some (rletter (w64 (w64 (n - 1) - t.num)))
    else if t.kind = 4 then
      match t.kids with
      | a :: _ => (rprinted f a (w64 (n + 1))).bind fun s => cap ((([97, 108, 108, 32] ++ rletter n) ++ [46, 32]) ++ s)
      | [] => none
    else if t.kind = 3 then
      match t.kids with
      | a :: b :: _ => (rprinted f a n).bind fun s => (rprinted f b n).bind fun r => cap (((if a.kind = 3 ∨ a.kind = 4 then ([40] ++ s) ++ [41] else s) ++ [32, 45, 62, 32]) ++ r)
      | _ => none
    else some [78]
def rPrint (f : Nat) (t : T) : Option (List UInt8 × Int) := if rRight t 0 ≠ 0 then some ([], rRight t 0) else (rprinted f t 0).bind fun s => some (s, 0)

mutual
/-- a type's text, as the reference reads it: the tree, whether something is wrong, and where -/
def rtyped : Nat → List UInt8 → Nat → Int → Option ((T × Bool) × Nat)
  | 0, _, _, _ => none
  | f + 1, s, at_, n =>
    if s[at_]? = some 97 ∧ n ≠ 26 ∧ (n = 0 ∨ s[at_ + 1]? = some 108) then rall f s at_ n
    else (rsimple f s at_ n).bind fun q =>
      if q.1.2 = true ∨ (s[at_]? ≠ some 40 ∧ s[q.2]? ≠ some 32) then some q
      else if (word [32, 45, 62, 32] s q.2).1 = false then some ((q.1.1, true), (word [32, 45, 62, 32] s q.2).2)
      else (rtyped f s (word [32, 45, 62, 32] s q.2).2 n).bind fun p => some ((.mk 3 0 [q.1.1, p.1.1], p.1.2), p.2)
def rall : Nat → List UInt8 → Nat → Int → Option ((T × Bool) × Nat)
  | 0, _, _, _ => none
  | f + 1, s, at_, n =>
    if (word [97, 108, 108, 32] s at_).1 = false then some ((t0, true), (word [97, 108, 108, 32] s at_).2)
    else if (word (rletter n ++ [46, 32]) s (word [97, 108, 108, 32] s at_).2).1 = false then some ((t0, true), (word (rletter n ++ [46, 32]) s (word [97, 108, 108, 32] s at_).2).2)
    else (rtyped f s (word (rletter n ++ [46, 32]) s (word [97, 108, 108, 32] s at_).2).2 (w64 (n + 1))).bind fun q => some ((.mk 4 0 [q.1.1], q.1.2), q.2)
def rsimple : Nat → List UInt8 → Nat → Int → Option ((T × Bool) × Nat)
  | 0, _, _, _ => none
  | f + 1, s, at_, n =>
    if s[at_]? = some 78 then some ((.mk 2 0 [], false), at_ + 1)
    else if s[at_]? = some 40 then
      (rtyped f s (at_ + 1) n).bind fun q =>
        if q.1.2 = false ∧ q.1.1.kind ≠ 3 ∧ q.1.1.kind ≠ 4 then some ((q.1.1, true), q.2)
        else if q.1.2 = true then some ((q.1.1, true), q.2)
        else some ((q.1.1, !(word [41] s q.2).1), (word [41] s q.2).2)
    else match s[at_]? with
      | none => some ((t0, true), at_)
      | some c => if c ≥ 97 ∧ ((c - 97).toNat : Int) < n then some ((.mk 1 (w64 (w64 (n - 1) - ((c - 97).toNat : Int))) [], false), at_ + 1) else some ((t0, true), at_)
end
def rParse (f : Nat) (s : List UInt8) : Option ((T × Int) × Int) :=
  if (s.length : Int) > 65536 then some ((t0, 0), 11)
  else (rtyped f s 0 0).bind fun q =>
    if q.1.2 = true ∨ q.2 < s.length then some ((t0, (q.2 : Int)), 4)
    else if rRight q.1.1 0 ≠ 0 then some ((t0, 0), rRight q.1.1 0)
    else some ((q.1.1, 0), 0)
end Go.Proofs.Ytjgnhhgigickaaa.Md
/- Walks of the given program's functions: Equal, Own, counted, great. Printed by tools/w30.py. Conditions: none. -/

namespace Go.Proofs.Ytjgnhhgigickaaa.Wk
open Go Md
set_option maxRecDepth 20000
set_option linter.unusedVariables false
set_option linter.unusedSimpArgs false
attribute [local irreducible] endQ

theorem same_eq (a b : T) : same a b = (a.kind == b.kind && a.num == b.num && sames a.kids b.kids) := by cases a; cases b; rfl
theorem sames_len : ∀ {xs ys : List T}, sames xs ys = true → xs.length = ys.length
 | [], [], _ => rfl
 | [], _ :: _, h => by cases h
 | _ :: _, [], h => by cases h
 | a :: xs, b :: ys, h => by
  unfold sames at h
  rw [Bool.and_eq_true] at h
  simp [sames_len h.2]
theorem same_kind {a b : T} (h : (a.kind != b.kind) = true) : same a b = false := by
 rw [same_eq]; have : (a.kind == b.kind) = false := by simpa using h
 rw [this]; rfl
theorem same_num {a b : T} (h : (a.num != b.num) = true) : same a b = false := by
 rw [same_eq]; have : (a.num == b.num) = false := by simpa using h
 rw [this]; simp
theorem same_len {a b : T} (h : (((a.kids.length : Nat) : Int) != ((b.kids.length : Nat) : Int)) = true) : same a b = false := by
 rw [same_eq]
 have : sames a.kids b.kids = false := by
  cases hx : sames a.kids b.kids
  ·rfl
  ·have := sames_len hx; rw [this] at h; simp at h
 rw [this]; simp
theorem same_kids {a b : T} (h1 : (a.kind != b.kind) = false) (h2 : (a.num != b.num) = false) (h3 : (((a.kids.length : Nat) : Int) != ((b.kids.length : Nat) : Int)) = false) : same a b = sames a.kids b.kids ∧ a.kids.length = b.kids.length := by
 rw [same_eq]
 have e1 : (a.kind == b.kind) = true := by simpa using h1
 have e2 : (a.num == b.num) = true := by simpa using h2
 have e3 : ((a.kids.length : Nat) : Int) = ((b.kids.length : Nat) : Int) := by simpa using h3
 rw [e1, e2]; exact ⟨rfl, by omega⟩
mutual
theorem same_refl : ∀ (a : T), same a a = true
 | .mk k n ks => by unfold same; simp [sames_refl ks]
theorem sames_refl : ∀ (xs : List T), sames xs xs = true
 | [] => rfl
 | a :: xs => by unfold sames; simp [same_refl a, sames_refl xs]
end
mutual
theorem same_true : ∀ {a b : T}, same a b = true → a = b
 | .mk k n ks, .mk k' n' ks', h => by
  unfold same at h
  simp only [Bool.and_eq_true, beq_iff_eq] at h
  rw [h.1.1, h.1.2, sames_true h.2]
theorem sames_true : ∀ {xs ys : List T}, sames xs ys = true → xs = ys
 | [], [], _ => rfl
 | [], _ :: _, h => by cases h
 | _ :: _, [], h => by cases h
 | a :: xs, b :: ys, h => by
  unfold sames at h
  simp only [Bool.and_eq_true] at h
  rw [same_true h.1, sames_true h.2]
end

theorem c18 : ∀ (f : Nat) {G : GH} {L : LH} {w : World} {va vb : Value} {a b : T}, T.sz a < f → T.sz a < lim → IsPoly G va a → IsPoly G vb b → St G L w → Cal Try.prog 18 #[va, vb] w fun x w' => x = .bool (same a b) ∧ St G L w' := by
 intro f
 induction f with
 | zero => intro G L w va vb a b h; omega
 | succ f ih =>
 intro G L w va vb a b hf hz hva hvb hst
 have hlim : lim = 1099511627776 := rfl
 have hln := T.len_le a
 obtain ⟨aA, ac, rfl, hac, hak⟩ := id hva.open
 obtain ⟨bA, bc, rfl, hbc, hbk⟩ := id hvb.open
 refine cal_of_W Try.func18 rfl (Nat.le_of_ble_eq_true (by kernel_rfl)) ?_
 refine W_seq ?_
 refine W_rg [(.f, 0), (.f, 1), (.p, 2)] hst ?_
 refine m_new (.cells #[.int .i64 a.kind, .int .i64 a.num, .slice aA a.kids.length ac] 24) (fun b1 => .pointer (some ⟨b1, 0, none⟩)) (some 2) (fun b => by kernel_rfl) hst (fun b1 w1 hst => ?_)
 refine m_new (.cells #[.int .i64 b.kind, .int .i64 b.num, .slice bA b.kids.length bc] 24) (fun b2 => .pointer (some ⟨b2, 0, none⟩)) (some 3) (fun b => by kernel_rfl) hst (fun b2 w1 hst => ?_)
 refine r_en [] [] [(4, .bool false)] rc_nil ?_
 refine W_seq ?_
 refine W_seq ?_
 refine W_rg [(.p, 0), (.l, 1), (.p, 2), (.l, 3), (.p, 4), (.p, 5), (.p, 6), (.l, 7), (.p, 8), (.l, 9), (.p, 10), (.p, 11), (.p, 12), (.p, 13), (.l, 14), (.p, 15), (.p, 16), (.l, 17), (.p, 18), (.p, 19), (.p, 20)] hst ?_
 refine r_sg [(.p, 0), (.l, 1), (.p, 2), (.l, 3), (.p, 4), (.p, 5)] [[.int .i64 a.kind], [.int .i64 b.kind]] [(⟨b1, 0, none⟩, .int .i64 a.kind), (⟨b2, 0, none⟩, .int .i64 b.kind)] [(6, .pointer (some ⟨b1, 0, none⟩)), (7, .int .i64 a.kind), (8, .pointer (some ⟨b2, 0, none⟩)), (9, .int .i64 b.kind), (10, .bool (a.kind != b.kind)), (11, .bool (a.kind != b.kind))] (rc_L 1 rfl rfl (rc_L 0 rfl rfl rc_nil)) ?_
 rcases Bool.eq_false_or_eq_true (a.kind != b.kind) with hc3 | hc3
 ·rw [hc3]
  have hr := same_kind hc3
  refine r_en [] [] [(12, undef), (13, undef), (14, undef), (15, undef), (16, undef), (17, .bool true), (18, .bool true), (19, undef), (20, undef), (21, undef), (22, undef), (23, undef), (24, undef), (25, undef), (26, .bool true)] rc_nil ?_
  refine W_cT ?_
  refine W_seq ?_
  refine W_rg [(.p, 0)] hst ?_
  refine r_en [] [] [(4, .bool false)] rc_nil ?_
  refine W_ret ?_
  refine q_rt [] [] (.bool false) rc_nil hst ?_
  exact ⟨by rw [hr], hst.drop [_, _]⟩
 ·rw [hc3]
  have hnkind := hc3
  refine r_sg [(.p, 6), (.l, 7), (.p, 8), (.l, 9), (.p, 10), (.p, 11), (.p, 12)] [[.int .i64 a.num], [.int .i64 b.num]] [(⟨b1, 1, none⟩, .int .i64 a.num), (⟨b2, 1, none⟩, .int .i64 b.num)] [(12, .pointer (some ⟨b1, 1, none⟩)), (13, .int .i64 a.num), (14, .pointer (some ⟨b2, 1, none⟩)), (15, .int .i64 b.num), (16, .bool (a.num != b.num)), (17, .bool (a.num != b.num)), (18, .bool (a.num != b.num))] (rc_L 1 rfl rfl (rc_L 0 rfl rfl rc_nil)) ?_
  rcases Bool.eq_false_or_eq_true (a.num != b.num) with hc4 | hc4
  ·rw [hc4]
   have hr := same_num hc4
   refine r_en [] [] [(19, undef), (20, undef), (21, undef), (22, undef), (23, undef), (24, undef), (25, undef), (26, .bool true)] rc_nil ?_
   refine W_cT ?_
   refine W_seq ?_
   refine W_rg [(.p, 0)] hst ?_
   refine r_en [] [] [(4, .bool false)] rc_nil ?_
   refine W_ret ?_
   refine q_rt [] [] (.bool false) rc_nil hst ?_
   exact ⟨by rw [hr], hst.drop [_, _]⟩
  ·rw [hc4]
   have hnnum := hc4
   refine r_en [[.slice aA a.kids.length ac], [.slice bA b.kids.length bc]] [(⟨b1, 2, none⟩, .slice aA a.kids.length ac), (⟨b2, 2, none⟩, .slice bA b.kids.length bc)] [(19, .pointer (some ⟨b1, 2, none⟩)), (20, .slice aA a.kids.length ac), (21, .int .i64 (((a.kids.length : Nat) : Int))), (22, .pointer (some ⟨b2, 2, none⟩)), (23, .slice bA b.kids.length bc), (24, .int .i64 (((b.kids.length : Nat) : Int))), (25, .bool ((((a.kids.length : Nat) : Int)) != (((b.kids.length : Nat) : Int)))), (26, .bool ((((a.kids.length : Nat) : Int)) != (((b.kids.length : Nat) : Int))))] (rc_L 1 rfl rfl (rc_L 0 rfl rfl rc_nil)) ?_
   refine W_cd (b := (((a.kids.length : Nat) : Int)) != (((b.kids.length : Nat) : Int))) (fun hc5 => ?_) (fun hc5 => ?_)
   ·skip
    have hr := same_len hc5
    refine W_seq ?_
    refine W_rg [(.p, 0)] hst ?_
    refine r_en [] [] [(4, .bool false)] rc_nil ?_
    refine W_ret ?_
    refine q_rt [] [] (.bool false) rc_nil hst ?_
    exact ⟨by rw [hr], hst.drop [_, _]⟩
   ·skip
    obtain ⟨hsk, hsl⟩ := same_kids hnkind hnnum hc5
    refine W_skip ?_
    refine W_seq ?_
    refine W_seq ?_
    refine W_rg [(.p, 0), (.l, 1), (.p, 2), (.p, 3)] hst ?_
    refine r_en [[.slice aA a.kids.length ac]] [(⟨b1, 2, none⟩, .slice aA a.kids.length ac)] [(27, .pointer (some ⟨b1, 2, none⟩)), (28, .slice aA a.kids.length ac), (29, .int .i64 (((a.kids.length : Nat) : Int))), (30, .int .i64 0)] (rc_L 1 rfl rfl rc_nil) ?_
    refine W_block ?_
    refine W_loop (fun m ρ D w => ∃ (k : Nat), EqS ρ [(2, .pointer (some ⟨b1, 0, none⟩)), (3, .pointer (some ⟨b2, 0, none⟩)), (29, .int .i64 (((a.kids.length : Nat) : Int))), (30, .int .i64 (((k : Nat) : Int)))] ∧ D = [] ∧ St G ((b2, .cells #[.int .i64 b.kind, .int .i64 b.num, .slice bA b.kids.length bc] 24) :: (b1, .cells #[.int .i64 a.kind, .int .i64 a.num, .slice aA a.kids.length ac] 24) :: L) w ∧ (k ≤ a.kids.length) ∧ (same a b = sames (a.kids.drop k) (b.kids.drop k)) ∧ a.kids.length - k = m) (a.kids.length - 0) ⟨0, ⟨by kernel_rfl, by kernel_rfl, by kernel_rfl, by kernel_rfl, trivial⟩, rfl, hst, Nat.zero_le _, hsk, rfl⟩ ?_
    clear hst; rintro m6 ρ D w1 ⟨k, hE7, rfl, hst, hkk, hsm, hm8⟩
    refine W_env hE7 ?_
    refine W_seq ?_
    refine W_rg [(.p, 0)] hst ?_
    refine r_en [] [] [(31, .bool (decide ((((k : Nat) : Int)) < (((a.kids.length : Nat) : Int)))))] rc_nil ?_
    refine W_seq ?_
    refine W_cd (b := decide ((((k : Nat) : Int)) < (((a.kids.length : Nat) : Int)))) (fun hc9 => ?_) (fun hc9 => ?_)
    ·skip
     have hlt : k < a.kids.length := by have := of_decide_eq_true hc9; omega
     have hlt2 : k < b.kids.length := by omega
     obtain ⟨q, hq⟩ := get_of_lt hlt; obtain ⟨p, hp⟩ := get_of_lt hlt2
     have hqz := T.sz_kid hq
     have hstk := hst
     obtain ⟨eb1, eo1, qA, qc, rfl, hq0, hq1, hq2, hqp⟩ := (hak).elem hq
     have hst := hstk; clear hstk
     have hstk := hst
     obtain ⟨eb2, eo2, pA, pc, rfl, hp0, hp1, hp2, hpp⟩ := (hbk).elem hp
     have hst := hstk; clear hstk
     rw [drop_cons hq, drop_cons hp] at hsm; unfold sames at hsm
     refine W_skip ?_
     refine W_seq ?_
     refine W_block ?_
     refine W_seq ?_
     refine W_rg [(.p, 0), (.p, 1)] hst ?_
     refine r_en [] [] [(32, .int .i64 (((k : Nat) : Int))), (5, .int .i64 (((k : Nat) : Int)))] rc_nil ?_
     refine W_seq ?_
     refine W_rgd [(.p, 0), (.l, 1), (.p, 2), (.p, 3), (.l, 4), (.p, 5), (.l, 6), (.p, 7), (.p, 8), (.l, 9), (.f, 10), (.p, 11)] hst (fun w1 hst => ?_)
     refine r_sg [(.p, 0), (.l, 1), (.p, 2)] [[.slice (some ⟨eb1, eo1, none⟩) a.kids.length ac]] [(⟨b1, 2, none⟩, .slice (some ⟨eb1, eo1, none⟩) a.kids.length ac)] [(33, .pointer (some ⟨b1, 2, none⟩)), (34, .slice (some ⟨eb1, eo1, none⟩) a.kids.length ac), (35, .int .i64 (((k : Nat) : Int)))] (rc_L 1 rfl rfl rc_nil) ?_
     refine m_idx (sz := 3) (b := eb1) (off := eo1) (n := a.kids.length) (c := ac) (k := k) (some 36) (show opAt _ _ _ = some (.indexAddr 22 (.tmp 34) (.tmp 35), _) by kernel_rfl) (by kernel_rfl) (by kernel_rfl) Try.underlying22 sz24 hlt ?_
     refine r_sg [(.l, 4), (.p, 5), (.l, 6), (.p, 7)] [[.int .i64 q.kind, .int .i64 q.num, .slice qA q.kids.length qc], [.slice (some ⟨eb2, eo2, none⟩) b.kids.length bc]] [(⟨eb1, eo1 + k * 3, none⟩, .int .i64 q.kind), (⟨eb1, eo1 + k * 3 + 1, none⟩, .int .i64 q.num), (⟨eb1, eo1 + k * 3 + 2, none⟩, .slice qA q.kids.length qc), (⟨b2, 2, none⟩, .slice (some ⟨eb2, eo2, none⟩) b.kids.length bc)] [(37, .agg #[.int .i64 q.kind, .int .i64 q.num, .slice qA q.kids.length qc]), (38, .pointer (some ⟨b2, 2, none⟩)), (39, .slice (some ⟨eb2, eo2, none⟩) b.kids.length bc), (40, .int .i64 (((k : Nat) : Int)))] (rc_C hq0 (rc_C hq1 (rc_C hq2 (rc_L 0 rfl rfl rc_nil)))) ?_
     refine m_idx (sz := 3) (b := eb2) (off := eo2) (n := b.kids.length) (c := bc) (k := k) (some 41) (show opAt _ _ _ = some (.indexAddr 22 (.tmp 39) (.tmp 40), _) by kernel_rfl) (by kernel_rfl) (by kernel_rfl) Try.underlying22 sz24 hlt2 ?_
     refine r_sg [(.l, 9)] [[.int .i64 p.kind, .int .i64 p.num, .slice pA p.kids.length pc]] [(⟨eb2, eo2 + k * 3, none⟩, .int .i64 p.kind), (⟨eb2, eo2 + k * 3 + 1, none⟩, .int .i64 p.num), (⟨eb2, eo2 + k * 3 + 2, none⟩, .slice pA p.kids.length pc)] [(42, .agg #[.int .i64 p.kind, .int .i64 p.num, .slice pA p.kids.length pc])] (rc_C hp0 (rc_C hp1 (rc_C hp2 rc_nil))) ?_
     refine m_cl #[.agg #[.int .i64 q.kind, .int .i64 q.num, .slice qA q.kids.length qc], .agg #[.int .i64 p.kind, .int .i64 p.num, .slice pA p.kids.length pc]] (some 43) (ih (a := q) (b := p) (by omega) (by omega) hqp hpp hst) ?_
     rintro _ w1 ⟨rfl, hst⟩
     refine nx hst ?_
     refine r_en [] [] [(44, .bool (!(same q p)))] rc_nil ?_
     refine W_cd (b := !(same q p)) (fun hc10 => ?_) (fun hc10 => ?_)
     ·skip
      have hr : same a b = false := by have := hc10; rw [Bool.not_eq_true'] at this; rw [hsm, this]; rfl
      refine W_seq ?_
      refine W_rg [(.p, 0)] hst ?_
      refine r_en [] [] [(4, .bool false)] rc_nil ?_
      refine W_ret ?_
      refine q_rt [] [] (.bool false) rc_nil hst ?_
      exact ⟨by rw [hr], hst.drop [_, _]⟩
     ·skip
      have hqp1 : same q p = true := by have := hc10; rw [Bool.not_eq_false'] at this; exact this
      refine W_skip ?_
      refine W_rg [(.p, 0), (.p, 1)] hst ?_
      refine r_en [] [] [(45, .int .i64 (IntKind.wrap .i64 ((((k : Nat) : Int)) + 1))), (30, .int .i64 (IntKind.wrap .i64 ((((k : Nat) : Int)) + 1)))] rc_nil ?_
      exact ⟨_, (by omega), k + 1, ⟨by kernel_rfl, by kernel_rfl, by kernel_rfl, (by rw [← wrap_succ (k := k) (by omega)]; kernel_rfl), trivial⟩, rfl, hst, hlt, (by rw [hsm, hqp1]; rfl), rfl⟩
    ·skip
     rw [List.drop_of_length_le (by have := of_decide_eq_false hc9; omega), List.drop_of_length_le (by have := of_decide_eq_false hc9; omega)] at hsm
     have hr : same a b = true := hsm
     refine W_exit ?_
     refine W_seq ?_
     refine W_rg [(.p, 0)] hst ?_
     refine r_en [] [] [(4, .bool true)] rc_nil ?_
     refine W_ret ?_
     refine q_rt [] [] (.bool true) rc_nil hst ?_
     exact ⟨by rw [hr], hst.drop [_, _]⟩

theorem c13 : ∀ (f : Nat) {G : GH} {L : LH} {w : World} {v : Value} {t : T}, T.sz t < f → T.sz t < lim → IsPoly G v t → St G L w → Cal Try.prog 13 #[v] w fun x w' => ∃ G', Le G G' ∧ IsPoly G' x t ∧ St G' L w' := by
 intro f
 induction f with
 | zero => intro G L w v t h; omega
 | succ f ih =>
 intro G L w v t hf hz hv hst
 have hlim : lim = 1099511627776 := rfl
 have hln := T.len_le t
 obtain ⟨tA, tc, rfl, htc, htk⟩ := id hv.open
 refine cal_of_W Try.func13 rfl (Nat.le_of_ble_eq_true (by kernel_rfl)) ?_
 refine W_seq ?_
 refine W_rg [(.f, 0), (.f, 1)] hst ?_
 refine m_new (.cells #[.int .i64 t.kind, .int .i64 t.num, .slice tA t.kids.length tc] 24) (fun b1 => .pointer (some ⟨b1, 0, none⟩)) (some 1) (fun b => by kernel_rfl) hst (fun b1 w1 hst => ?_)
 refine m_new (.cells #[.int .i64 0, .int .i64 0, .slice none 0 0] 24) (fun b2 => .pointer (some ⟨b2, 0, none⟩)) (some 2) (fun b => by kernel_rfl) hst (fun b2 w1 hst => ?_)
 refine r_nil ?_
 refine W_seq ?_
 refine W_rg [(.p, 0)] hst ?_
 refine r_en [] [] [(3, .slice none 0 0)] rc_nil ?_
 refine W_seq ?_
 refine W_seq ?_
 refine W_rg [(.p, 0), (.l, 1), (.p, 2), (.p, 3)] hst ?_
 refine r_en [[.slice tA t.kids.length tc]] [(⟨b1, 2, none⟩, .slice tA t.kids.length tc)] [(5, .pointer (some ⟨b1, 2, none⟩)), (6, .slice tA t.kids.length tc), (7, .int .i64 (((t.kids.length : Nat) : Int))), (8, .int .i64 0)] (rc_L 1 rfl rfl rc_nil) ?_
 refine W_block ?_
 refine W_loop (fun m ρ D w => ∃ (k : Nat) (G1 : GH) (kv : Value) (cs : List Value) (Lp : LH), EqS ρ [(1, .pointer (some ⟨b1, 0, none⟩)), (2, .pointer (some ⟨b2, 0, none⟩)), (3, kv), (7, .int .i64 (((t.kids.length : Nat) : Int))), (8, .int .i64 (((k : Nat) : Int)))] ∧ D = [] ∧ St G1 ((b2, .cells #[.int .i64 0, .int .i64 0, .slice none 0 0] 24) :: (b1, .cells #[.int .i64 t.kind, .int .i64 t.num, .slice tA t.kids.length tc] 24) :: Lp ++ L) w ∧ (Le G G1) ∧ (OS 24 3 kv k cs Lp) ∧ (PoL G1 cs (t.kids.take k)) ∧ (k ≤ t.kids.length) ∧ t.kids.length - k = m) (t.kids.length - 0) ⟨0, G, .slice none 0 0, [], [], ⟨by kernel_rfl, by kernel_rfl, by kernel_rfl, by kernel_rfl, by kernel_rfl, trivial⟩, rfl, hst, Le.refl _, OS.nil 24 3, (by simp [PoL]), Nat.zero_le _, rfl⟩ ?_
 clear hst; rintro m3 ρ D w1 ⟨k, G1, kv, cs, Lp, hE4, rfl, hst, hle, hos, hty, hkk, hm5⟩
 refine W_env hE4 ?_
 refine W_seq ?_
 refine W_rg [(.p, 0)] hst ?_
 refine r_en [] [] [(9, .bool (decide ((((k : Nat) : Int)) < (((t.kids.length : Nat) : Int)))))] rc_nil ?_
 refine W_seq ?_
 refine W_cd (b := decide ((((k : Nat) : Int)) < (((t.kids.length : Nat) : Int)))) (fun hc6 => ?_) (fun hc6 => ?_)
 ·skip
  have hlt : k < t.kids.length := by have := of_decide_eq_true hc6; omega
  obtain ⟨q, hq⟩ := get_of_lt hlt
  have hqz := T.sz_kid hq
  have hstk := hst
  obtain ⟨eb1, eo1, qA, qc, rfl, hq0, hq1, hq2, hqp⟩ := (htk.mono hle).elem hq
  have hst := hstk; clear hstk
  refine W_skip ?_
  refine W_seq ?_
  refine W_block ?_
  refine W_seq ?_
  refine W_rg [(.p, 0), (.p, 1)] hst ?_
  refine r_en [] [] [(10, .int .i64 (((k : Nat) : Int))), (4, .int .i64 (((k : Nat) : Int)))] rc_nil ?_
  refine W_rg [(.p, 0), (.p, 1), (.l, 2), (.p, 3), (.p, 4), (.l, 5), (.f, 6), (.f, 7), (.f, 8), (.p, 9)] hst ?_
  refine r_sg [(.p, 0), (.p, 1), (.l, 2), (.p, 3)] [[.slice (some ⟨eb1, eo1, none⟩) t.kids.length tc]] [(⟨b1, 2, none⟩, .slice (some ⟨eb1, eo1, none⟩) t.kids.length tc)] [(11, kv), (12, .pointer (some ⟨b1, 2, none⟩)), (13, .slice (some ⟨eb1, eo1, none⟩) t.kids.length tc), (14, .int .i64 (((k : Nat) : Int)))] (rc_L 1 rfl rfl rc_nil) ?_
  refine m_idx (sz := 3) (b := eb1) (off := eo1) (n := t.kids.length) (c := tc) (k := k) (some 15) (show opAt _ _ _ = some (.indexAddr 22 (.tmp 13) (.tmp 14), _) by kernel_rfl) (by kernel_rfl) (by kernel_rfl) Try.underlying22 sz24 hlt ?_
  refine r_sg [(.l, 5)] [[.int .i64 q.kind, .int .i64 q.num, .slice qA q.kids.length qc]] [(⟨eb1, eo1 + k * 3, none⟩, .int .i64 q.kind), (⟨eb1, eo1 + k * 3 + 1, none⟩, .int .i64 q.num), (⟨eb1, eo1 + k * 3 + 2, none⟩, .slice qA q.kids.length qc)] [(16, .agg #[.int .i64 q.kind, .int .i64 q.num, .slice qA q.kids.length qc])] (rc_C hq0 (rc_C hq1 (rc_C hq2 rc_nil))) ?_
  refine m_cl #[.agg #[.int .i64 q.kind, .int .i64 q.num, .slice qA q.kids.length qc]] (some 17) (ih (t := q) (by omega) (by omega) hqp hst) ?_
  rintro x0 w1 ⟨G2, hG2, hx, hst⟩
  obtain ⟨xA, xc, rfl, _, _⟩ := id hx.open
  refine nx hst ?_
  refine m_new (.cells #[.int .i64 q.kind, .int .i64 q.num, .slice xA q.kids.length xc] 24) (fun b7 => .slice (some ⟨b7, 0, none⟩) 1 1) (some 18) (fun b => by kernel_rfl) hst (fun b7 w1 hst => ?_)
  refine m_append (v := kv) (sb := b7) (so := 0) (m := 1) (mc := 1) el22 [(b7, .cells #[.int .i64 q.kind, .int .i64 q.num, .slice xA q.kids.length xc] 24), (b2, .cells #[.int .i64 0, .int .i64 0, .slice none 0 0] 24), (b1, .cells #[.int .i64 t.kind, .int .i64 t.num, .slice (some ⟨eb1, eo1, none⟩) t.kids.length tc] 24)] [.int .i64 q.kind, .int .i64 q.num, .slice xA q.kids.length xc] (d := (some 19)) (show opAt _ _ _ = some (.call { callee := .builtin .append, args := #[(.tmp 11), (.tmp 18)], argTypes := #[22, 22] }, _) by kernel_rfl) (by kernel_rfl) (by kernel_rfl) hos hst (by first | rfl | (simp; done)) (src_L 0 hst rfl) (by kernel_rfl) (by decide) (by omega) (by omega) (fun kv2 Lp2 w1 hos2 hst => ?_)
  obtain ⟨nb, nc, rfl⟩ := hos2.shape (by omega)
  refine r_en [] [] [(3, .slice (some ⟨nb, 0, none⟩) ((k + 1)) nc)] rc_nil ?_
  refine W_rg [(.p, 0), (.p, 1)] hst ?_
  refine r_en [] [] [(20, .int .i64 (IntKind.wrap .i64 ((((k : Nat) : Int)) + 1))), (8, .int .i64 (IntKind.wrap .i64 ((((k : Nat) : Int)) + 1)))] rc_nil ?_
  exact ⟨_, (by omega), k + 1, G2, .slice (some ⟨nb, 0, none⟩) (k + 1) nc, cs ++ [.int .i64 q.kind, .int .i64 q.num, .slice xA q.kids.length xc], Lp2, ⟨by kernel_rfl, by kernel_rfl, by kernel_rfl, by kernel_rfl, (by rw [← wrap_succ (k := k) (by omega)]; kernel_rfl), trivial⟩, rfl, (hst.drop [_]), (hle.trans hG2), hos2, (by rw [take_snoc hq]; exact (hty.mono hG2).snoc hx), hlt, rfl⟩
 ·skip
  have hge : k = t.kids.length := by have := of_decide_eq_false hc6; omega
  refine W_exit ?_
  refine W_seq ?_
  have hst := St.swap (A := [(b2, .cells #[.int .i64 0, .int .i64 0, .slice none 0 0] 24), (b1, .cells #[.int .i64 t.kind, .int .i64 t.num, .slice tA t.kids.length tc] 24)]) (B := Lp) hst
  obtain ⟨G2, hG2, hF2, hst⟩ := hst.freeze Lp
  have hty2 : PoL G1 cs t.kids := by have := hty; rw [List.take_of_length_le (by omega)] at this; exact this
  obtain ⟨rA, rc, rfl, hrc, hrk⟩ := hos.polys (hty2.mono hG2) (by omega) hF2
  have hst : St G2 ((b2, .cells #[.int .i64 0, .int .i64 0, .slice none 0 0] 24) :: (b1, .cells #[.int .i64 t.kind, .int .i64 t.num, .slice tA t.kids.length tc] 24) :: L) w1 := hst
  refine W_rg [(.p, 0), (.p, 1), (.f, 2)] hst ?_
  refine r_sg [(.p, 0), (.p, 1)] [] [] [(21, .slice rA t.kids.length rc), (22, .pointer (some ⟨b1, 2, none⟩))] rc_nil ?_
  refine m_st ((b2, .cells #[.int .i64 0, .int .i64 0, .slice none 0 0] 24) :: (b1, .cells #[.int .i64 t.kind, .int .i64 t.num, .slice rA t.kids.length rc] 24) :: L) 1 [(2, .slice rA t.kids.length rc)] [.int .i64 t.kind, .int .i64 t.num, .slice rA t.kids.length rc] none hst (fun w1 hst => ?_)
  refine r_nil ?_
  refine W_seq ?_
  refine W_rg [(.l, 0), (.f, 1)] hst ?_
  refine r_sg [(.l, 0)] [[.int .i64 t.kind, .int .i64 t.num, .slice rA t.kids.length rc]] [(⟨b1, 0, none⟩, .int .i64 t.kind), (⟨b1, 1, none⟩, .int .i64 t.num), (⟨b1, 2, none⟩, .slice rA t.kids.length rc)] [(23, .agg #[.int .i64 t.kind, .int .i64 t.num, .slice rA t.kids.length rc])] (rc_L 1 rfl rfl (rc_L 1 rfl rfl (rc_L 1 rfl rfl rc_nil))) ?_
  refine m_st ((b2, .cells #[.int .i64 t.kind, .int .i64 t.num, .slice rA t.kids.length rc] 24) :: (b1, .cells #[.int .i64 t.kind, .int .i64 t.num, .slice rA t.kids.length rc] 24) :: L) 0 [(0, .int .i64 t.kind), (1, .int .i64 t.num), (2, .slice rA t.kids.length rc)] [.int .i64 t.kind, .int .i64 t.num, .slice rA t.kids.length rc] none hst (fun w1 hst => ?_)
  refine r_nil ?_
  refine W_ret ?_
  refine q_rt [.int .i64 t.kind, .int .i64 t.num, .slice rA t.kids.length rc] [(⟨b2, 0, none⟩, .int .i64 t.kind), (⟨b2, 1, none⟩, .int .i64 t.num), (⟨b2, 2, none⟩, .slice rA t.kids.length rc)] (.agg #[.int .i64 t.kind, .int .i64 t.num, .slice rA t.kids.length rc]) (rc_L 0 rfl rfl (rc_L 0 rfl rfl (rc_L 0 rfl rfl rc_nil))) hst ?_
  exact ⟨G2, hle.trans hG2, IsPoly.mk (t := t) hrc hrk, hst.drop [_, _]⟩

theorem c47 : ∀ (f : Nat) {G : GH} {L : LH} {w : World} {v : Value} {t : T} {mn d : Int}, T.sz t < f → 0 ≤ mn → mn ≤ 40 → 0 ≤ d → d ≤ 61 → IsPoly G v t → St G L w → Cal Try.prog 47 #[v, .int .i64 mn, .int .i64 d] w fun x w' => x = .int .i64 (cnt t mn d) ∧ St G L w' := by
 intro f
 induction f with
 | zero => intro G L w v t mn d h; omega
 | succ f ih =>
 intro G L w v t mn d hf hm0 hm hd0 hd hv hst
 have hce : cnt t mn d = if d > 60 then 1000 else cnts t.kids (mn + 1) (d + 1) := by cases t; rfl
 obtain ⟨tA, tc, rfl, htc, htk⟩ := id hv.open
 refine cal_of_W Try.func47 rfl (Nat.le_of_ble_eq_true (by kernel_rfl)) ?_
 refine W_seq ?_
 refine W_rg [(.f, 0), (.p, 1)] hst ?_
 refine m_new (.cells #[.int .i64 t.kind, .int .i64 t.num, .slice tA t.kids.length tc] 24) (fun b1 => .pointer (some ⟨b1, 0, none⟩)) (some 3) (fun b => by kernel_rfl) hst (fun b1 w1 hst => ?_)
 refine r_en [] [] [(6, .int .i64 0)] rc_nil ?_
 refine W_seq ?_
 refine W_seq ?_
 refine W_rg [(.p, 0), (.p, 1), (.p, 2)] hst ?_
 refine r_en [] [] [(8, .int .i64 mn), (9, .int .i64 (IntKind.wrap .i64 (mn + 1))), (1, .int .i64 (IntKind.wrap .i64 (mn + 1)))] rc_nil ?_
 refine W_seq ?_
 refine W_rg [(.p, 0), (.p, 1)] hst ?_
 refine r_en [] [] [(10, .int .i64 d), (11, .bool (decide (d > 60)))] rc_nil ?_
 refine W_cd (b := decide (d > 60)) (fun hc2 => ?_) (fun hc2 => ?_)
 ·skip
  rw [if_pos (of_decide_eq_true hc2)] at hce
  have hd60 := of_decide_eq_true hc2
  refine W_seq ?_
  refine W_rg [(.p, 0)] hst ?_
  refine r_en [] [] [(6, .int .i64 1000)] rc_nil ?_
  refine W_ret ?_
  refine q_rt [] [] (.int .i64 1000) rc_nil hst ?_
  exact ⟨by rw [hce], hst.drop [_]⟩
 ·skip
  rw [if_neg (of_decide_eq_false hc2)] at hce
  have hd60 := of_decide_eq_false hc2
  refine W_skip ?_
  refine W_seq ?_
  refine W_seq ?_
  refine W_rg [(.p, 0)] hst ?_
  refine r_en [] [] [(7, .int .i64 0)] rc_nil ?_
  refine W_block ?_
  have hw1 : IntKind.wrap .i64 (mn + 1) = mn + 1 := wrap_id (by omega) (by omega)
  have hw2 : IntKind.wrap .i64 (d + 1) = d + 1 := wrap_id (by omega) (by omega)
  refine W_loop (fun m ρ D w => ∃ (k : Nat) (mk1 : Int), EqS ρ [(1, .int .i64 mk1), (2, .int .i64 d), (3, .pointer (some ⟨b1, 0, none⟩)), (7, .int .i64 (((k : Nat) : Int)))] ∧ D = [] ∧ St G ((b1, .cells #[.int .i64 t.kind, .int .i64 t.num, .slice tA t.kids.length tc] 24) :: L) w ∧ (cnt t mn d = cnts (t.kids.drop k) mk1 (d + 1)) ∧ ((k : Int) + 1 ≤ mk1 ∧ mk1 ≤ 1000) ∧ (1001 - mk1).toNat = m) ((1001 - IntKind.wrap .i64 (mn + 1)).toNat) ⟨0, IntKind.wrap .i64 (mn + 1), ⟨by kernel_rfl, by kernel_rfl, by kernel_rfl, by kernel_rfl, trivial⟩, rfl, hst, (by rw [hw1]; exact hce), (by rw [hw1]; omega), rfl⟩ ?_
  clear hst; rintro m3 ρ D w1 ⟨k, mk1, hE4, rfl, hst, hcc, hmb, hm5⟩
  refine W_env hE4 ?_
  refine W_seq ?_
  refine W_seq ?_
  refine W_rg [(.p, 0), (.p, 1), (.l, 2), (.p, 3), (.p, 4), (.p, 5), (.p, 6), (.p, 7), (.p, 8)] hst ?_
  refine r_sg [(.p, 0), (.p, 1), (.l, 2), (.p, 3), (.p, 4), (.p, 5)] [[.slice tA t.kids.length tc]] [(⟨b1, 2, none⟩, .slice tA t.kids.length tc)] [(12, .int .i64 (((k : Nat) : Int))), (13, .pointer (some ⟨b1, 2, none⟩)), (14, .slice tA t.kids.length tc), (15, .int .i64 (((t.kids.length : Nat) : Int))), (16, .bool (decide ((((k : Nat) : Int)) < (((t.kids.length : Nat) : Int))))), (17, .bool (decide ((((k : Nat) : Int)) < (((t.kids.length : Nat) : Int)))))] (rc_L 0 rfl rfl rc_nil) ?_
  rcases Bool.eq_false_or_eq_true (decide ((((k : Nat) : Int)) < (((t.kids.length : Nat) : Int)))) with hc6 | hc6
  ·rw [hc6]
   have hlt : k < t.kids.length := by have := of_decide_eq_true hc6; omega
   obtain ⟨q, hq⟩ := get_of_lt hlt
   refine r_en [] [] [(18, .int .i64 mk1), (19, .bool (decide (mk1 ≤ 40))), (20, .bool (decide (mk1 ≤ 40)))] rc_nil ?_
   refine W_cd (b := decide (mk1 ≤ 40)) (fun hc7 => ?_) (fun hc7 => ?_)
   ·skip
    have hm40 : mk1 ≤ 40 := of_decide_eq_true hc7
    have hstk := hst
    obtain ⟨eb1, eo1, qA, qc, rfl, hq0, hq1, hq2, hqp⟩ := (htk).elem hq
    have hst := hstk; clear hstk
    have hqz := T.sz_kid hq
    have hbd := cnt_bd q (m := mk1) (d := d + 1) (by omega) hm40
    refine W_skip ?_
    refine W_seq ?_
    refine W_block ?_
    refine W_rg [(.p, 0), (.l, 1), (.p, 2), (.p, 3), (.l, 4), (.p, 5), (.p, 6), (.p, 7), (.f, 8), (.p, 9)] hst ?_
    refine r_sg [(.p, 0), (.l, 1), (.p, 2)] [[.slice (some ⟨eb1, eo1, none⟩) t.kids.length tc]] [(⟨b1, 2, none⟩, .slice (some ⟨eb1, eo1, none⟩) t.kids.length tc)] [(23, .pointer (some ⟨b1, 2, none⟩)), (24, .slice (some ⟨eb1, eo1, none⟩) t.kids.length tc), (25, .int .i64 (((k : Nat) : Int)))] (rc_L 0 rfl rfl rc_nil) ?_
    refine m_idx (sz := 3) (b := eb1) (off := eo1) (n := t.kids.length) (c := tc) (k := k) (some 26) (show opAt _ _ _ = some (.indexAddr 22 (.tmp 24) (.tmp 25), _) by kernel_rfl) (by kernel_rfl) (by kernel_rfl) Try.underlying22 sz24 hlt ?_
    refine r_sg [(.l, 4), (.p, 5), (.p, 6), (.p, 7)] [[.int .i64 q.kind, .int .i64 q.num, .slice qA q.kids.length qc]] [(⟨eb1, eo1 + k * 3, none⟩, .int .i64 q.kind), (⟨eb1, eo1 + k * 3 + 1, none⟩, .int .i64 q.num), (⟨eb1, eo1 + k * 3 + 2, none⟩, .slice qA q.kids.length qc)] [(27, .agg #[.int .i64 q.kind, .int .i64 q.num, .slice qA q.kids.length qc]), (28, .int .i64 mk1), (29, .int .i64 d), (30, .int .i64 (IntKind.wrap .i64 (d + 1)))] (rc_C hq0 (rc_C hq1 (rc_C hq2 rc_nil))) ?_
    rw [hw2]
    refine m_cl #[.agg #[.int .i64 q.kind, .int .i64 q.num, .slice qA q.kids.length qc], .int .i64 mk1, .int .i64 (d + 1)] (some 31) (ih (t := q) (by omega) (by omega) hm40 (by omega) (by omega) hqp hst) ?_
    rintro _ w1 ⟨rfl, hst⟩
    refine nx hst ?_
    refine r_en [] [] [(1, .int .i64 (cnt q mk1 (d + 1)))] rc_nil ?_
    refine W_rg [(.p, 0), (.p, 1), (.p, 2)] hst ?_
    refine r_en [] [] [(21, .int .i64 (((k : Nat) : Int))), (22, .int .i64 (IntKind.wrap .i64 ((((k : Nat) : Int)) + 1))), (7, .int .i64 (IntKind.wrap .i64 ((((k : Nat) : Int)) + 1)))] rc_nil ?_
    exact ⟨_, (by omega), k + 1, cnt q mk1 (d + 1), ⟨by kernel_rfl, by kernel_rfl, by kernel_rfl, (by rw [← wrap_succ (k := k) (by omega)]; kernel_rfl), trivial⟩, rfl, hst, (by rw [hcc, drop_cons hq]; conv => lhs; unfold cnts; rw [if_pos hm40]), ⟨by omega, by omega⟩, rfl⟩
   ·skip
    have hr : cnt t mn d = mk1 := by rw [hcc, drop_cons hq]; unfold cnts; rw [if_neg (of_decide_eq_false hc7)]
    refine W_exit ?_
    refine W_seq ?_
    refine W_rg [(.p, 0), (.p, 1)] hst ?_
    refine r_en [] [] [(32, .int .i64 mk1), (6, .int .i64 mk1)] rc_nil ?_
    refine W_ret ?_
    refine q_rt [] [] (.int .i64 mk1) rc_nil hst ?_
    exact ⟨by rw [hr], hst.drop [_]⟩
  ·rw [hc6]
   have hr : cnt t mn d = mk1 := by rw [hcc, List.drop_of_length_le (by have := of_decide_eq_false hc6; omega)]; rfl
   refine r_en [] [] [(18, undef), (19, undef), (20, .bool false)] rc_nil ?_
   refine W_cF ?_
   refine W_exit ?_
   refine W_seq ?_
   refine W_rg [(.p, 0), (.p, 1)] hst ?_
   refine r_en [] [] [(32, .int .i64 mk1), (6, .int .i64 mk1)] rc_nil ?_
   refine W_ret ?_
   refine q_rt [] [] (.int .i64 mk1) rc_nil hst ?_
   exact ⟨by rw [hr], hst.drop [_]⟩

theorem c11 {G : GH} {L : LH} {w : World} {v : Value} {t : T} (hv : IsPoly G v t) (hst : St G L w) : Cal Try.prog 11 #[v] w fun x w' => x = .bool (decide (cnt t 0 0 > 40)) ∧ St G L w' := by
 obtain ⟨tA, tc, rfl, htc, htk⟩ := id hv.open
 refine cal_of_W Try.func11 rfl (Nat.le_of_ble_eq_true (by kernel_rfl)) ?_
 refine W_seq ?_
 refine W_rg [(.f, 0), (.p, 1)] hst ?_
 refine m_new (.cells #[.int .i64 t.kind, .int .i64 t.num, .slice tA t.kids.length tc] 24) (fun b1 => .pointer (some ⟨b1, 0, none⟩)) (some 1) (fun b => by kernel_rfl) hst (fun b1 w1 hst => ?_)
 refine r_en [] [] [(2, .bool false)] rc_nil ?_
 refine W_seq ?_
 refine W_rg [(.l, 0), (.f, 1), (.p, 2), (.p, 3)] hst ?_
 refine r_sg [(.l, 0)] [[.int .i64 t.kind, .int .i64 t.num, .slice tA t.kids.length tc]] [(⟨b1, 0, none⟩, .int .i64 t.kind), (⟨b1, 1, none⟩, .int .i64 t.num), (⟨b1, 2, none⟩, .slice tA t.kids.length tc)] [(3, .agg #[.int .i64 t.kind, .int .i64 t.num, .slice tA t.kids.length tc])] (rc_L 0 rfl rfl (rc_L 0 rfl rfl (rc_L 0 rfl rfl rc_nil))) ?_
 refine m_cl #[.agg #[.int .i64 t.kind, .int .i64 t.num, .slice tA t.kids.length tc], .int .i64 0, .int .i64 0] (some 4) (c47 _ (Nat.lt_succ_self _) (Int.le_refl _) (by decide) (Int.le_refl _) (by decide) hv hst) ?_
 rintro _ w1 ⟨rfl, hst⟩
 refine nx hst ?_
 refine r_en [] [] [(5, .bool (decide ((cnt t 0 0) > 40))), (2, .bool (decide ((cnt t 0 0) > 40)))] rc_nil ?_
 refine W_ret ?_
 refine q_rt [] [] (.bool (decide ((cnt t 0 0) > 40))) rc_nil hst ?_
 exact ⟨rfl, hst.drop [_]⟩

end Go.Proofs.Ytjgnhhgigickaaa.Wk
/- Walks of the given program's functions: the reference: right, Right, letter, printed, Print. Printed by tools/w31.py. Conditions: none. -/

namespace Go.Proofs.Ytjgnhhgigickaaa.Wk
open Go Md
set_option maxRecDepth 20000
set_option linter.unusedVariables false
set_option linter.unusedSimpArgs false
attribute [local irreducible] endQ

theorem rR_eq (t : T) (b wi : Int) : rR t b wi = if b ≥ 12 then (b, 2) else if t.kind < 1 ∨ t.kind > 4 ∨ t.num < 0 ∨ (t.num > 0 ∧ t.kind ≠ 1) then (b, 3) else if (t.kids.length : Int) ≠ wantsR t.kind then (b, 4)
  else if t.kind = 1 ∧ t.num ≥ wi then (b, 1) else rRs t.kids (w64 (b + 1)) (if t.kind = 4 then w64 (wi + 1) else wi) := by cases t; rfl
theorem c84 : ∀ (f : Nat) {G : GH} {L : LH} {w : World} {v : Value} {t : T} {b wi : Int}, T.sz t < f → T.sz t < lim → IsPoly G v t → St G L w → Cal Try.prog 84 #[v, .int .i64 b, .int .i64 wi] w fun x w' => x = .tuple #[.int .i64 (rR t b wi).1, .int .i64 (rR t b wi).2] ∧ St G L w' := by
 intro f
 induction f with
 | zero => intro G L w v t b wi h; omega
 | succ f ih =>
 intro G L w v t b wi hf hz hv hst
 have hlim : lim = 1099511627776 := rfl
 have hln := T.len_le t
 have hre := rR_eq t b wi
 obtain ⟨tA, tc, rfl, htc, htk⟩ := id hv.open
 refine cal_of_W Try.func84 rfl (Nat.le_of_ble_eq_true (by kernel_rfl)) ?_
 refine W_seq ?_
 refine W_rg [(.f, 0), (.p, 1), (.p, 2)] hst ?_
 refine m_new (.cells #[.int .i64 t.kind, .int .i64 t.num, .slice tA t.kids.length tc] 24) (fun b1 => .pointer (some ⟨b1, 0, none⟩)) (some 3) (fun b => by kernel_rfl) hst (fun b1 w1 hst => ?_)
 refine r_en [] [] [(6, .int .i64 0), (7, .int .i64 0)] rc_nil ?_
 refine W_seq ?_
 refine W_seq ?_
 refine W_rg [(.p, 0), (.p, 1)] hst ?_
 refine r_en [] [] [(12, .int .i64 b), (13, .bool (decide (b ≥ 12)))] rc_nil ?_
 refine W_cd (b := decide (b ≥ 12)) (fun hc2 => ?_) (fun hc2 => ?_)
 ·skip
  have hp3 := hc2
  simp only [decide_eq_true_eq, decide_eq_false_iff_not, beq_iff_eq, beq_eq_false_iff_ne, bne_iff_ne, bne_eq_false_iff_eq, Bool.not_eq_true', Bool.not_eq_false', Bool.and_eq_true, Bool.and_eq_false_iff, ne_eq] at hp3
  refine W_seq ?_
  rw [if_pos (by omega)] at hre
  refine W_rg [(.p, 0), (.p, 1), (.p, 2)] hst ?_
  refine r_en [] [] [(14, .int .i64 b), (6, .int .i64 b), (7, .int .i64 2)] rc_nil ?_
  refine W_ret ?_
  refine q_rt [] [] (.tuple #[.int .i64 b, .int .i64 2]) rc_nil hst ?_
  exact ⟨by rw [hre], hst.drop [_]⟩
 ·skip
  have hp4 := hc2
  simp only [decide_eq_true_eq, decide_eq_false_iff_not, beq_iff_eq, beq_eq_false_iff_ne, bne_iff_ne, bne_eq_false_iff_eq, Bool.not_eq_true', Bool.not_eq_false', Bool.and_eq_true, Bool.and_eq_false_iff, ne_eq] at hp4
  refine W_skip ?_
  refine W_seqI (fun ρ D w => ∃ (u5 : Unit), EqS ρ [(1, .int .i64 b), (2, .int .i64 wi), (3, .pointer (some ⟨b1, 0, none⟩))] ∧ D = [] ∧ St G ((b1, .cells #[.int .i64 t.kind, .int .i64 t.num, .slice tA t.kids.length tc] 24) :: L) w ∧ (¬ (t.kind < 1 ∨ t.kind > 4 ∨ t.num < 0 ∨ (t.num > 0 ∧ t.kind ≠ 1)))) ?_ ?_
  ·skip
   refine W_seq ?_
   rw [if_neg (by omega)] at hre
   refine W_rg [(.p, 0), (.l, 1), (.p, 2), (.p, 3), (.p, 4), (.l, 5), (.p, 6), (.p, 7), (.p, 8), (.p, 9), (.l, 10), (.p, 11), (.p, 12), (.p, 13), (.p, 14), (.l, 15), (.p, 16), (.p, 17), (.p, 18), (.l, 19), (.p, 20), (.p, 21), (.p, 22)] hst ?_
   refine r_sg [(.p, 0), (.l, 1), (.p, 2), (.p, 3)] [[.int .i64 t.kind]] [(⟨b1, 0, none⟩, .int .i64 t.kind)] [(15, .pointer (some ⟨b1, 0, none⟩)), (16, .int .i64 t.kind), (17, .bool (decide (t.kind < 1))), (18, .bool (decide (t.kind < 1)))] (rc_L 0 rfl rfl rc_nil) ?_
   rcases Bool.eq_false_or_eq_true (decide (t.kind < 1)) with hc5 | hc5
   ·rw [hc5]
    have hp6 := hc5
    simp only [decide_eq_true_eq, decide_eq_false_iff_not, beq_iff_eq, beq_eq_false_iff_ne, bne_iff_ne, bne_eq_false_iff_eq, Bool.not_eq_true', Bool.not_eq_false', Bool.and_eq_true, Bool.and_eq_false_iff, ne_eq] at hp6
    refine r_en [] [] [(19, undef), (20, undef), (21, undef), (22, .bool true), (23, .bool true), (24, undef), (25, undef), (26, undef), (27, .bool true), (28, .bool true), (29, undef), (30, undef), (31, undef), (32, undef), (33, undef), (34, undef), (35, undef), (36, undef), (37, .bool true)] rc_nil ?_
    refine W_cT ?_
    refine W_seq ?_
    rw [if_pos (by omega)] at hre
    refine W_rg [(.p, 0), (.p, 1), (.p, 2)] hst ?_
    refine r_en [] [] [(38, .int .i64 b), (6, .int .i64 b), (7, .int .i64 3)] rc_nil ?_
    refine W_ret ?_
    refine q_rt [] [] (.tuple #[.int .i64 b, .int .i64 3]) rc_nil hst ?_
    exact ⟨by rw [hre], hst.drop [_]⟩
   ·rw [hc5]
    have hp7 := hc5
    simp only [decide_eq_true_eq, decide_eq_false_iff_not, beq_iff_eq, beq_eq_false_iff_ne, bne_iff_ne, bne_eq_false_iff_eq, Bool.not_eq_true', Bool.not_eq_false', Bool.and_eq_true, Bool.and_eq_false_iff, ne_eq] at hp7
    refine r_sg [(.p, 4), (.l, 5), (.p, 6), (.p, 7), (.p, 8)] [[.int .i64 t.kind]] [(⟨b1, 0, none⟩, .int .i64 t.kind)] [(19, .pointer (some ⟨b1, 0, none⟩)), (20, .int .i64 t.kind), (21, .bool (decide (t.kind > 4))), (22, .bool (decide (t.kind > 4))), (23, .bool (decide (t.kind > 4)))] (rc_L 0 rfl rfl rc_nil) ?_
    rcases Bool.eq_false_or_eq_true (decide (t.kind > 4)) with hc8 | hc8
    ·rw [hc8]
     have hp9 := hc8
     simp only [decide_eq_true_eq, decide_eq_false_iff_not, beq_iff_eq, beq_eq_false_iff_ne, bne_iff_ne, bne_eq_false_iff_eq, Bool.not_eq_true', Bool.not_eq_false', Bool.and_eq_true, Bool.and_eq_false_iff, ne_eq] at hp9
     refine r_en [] [] [(24, undef), (25, undef), (26, undef), (27, .bool true), (28, .bool true), (29, undef), (30, undef), (31, undef), (32, undef), (33, undef), (34, undef), (35, undef), (36, undef), (37, .bool true)] rc_nil ?_
     refine W_cT ?_
     refine W_seq ?_
     rw [if_pos (by omega)] at hre
     refine W_rg [(.p, 0), (.p, 1), (.p, 2)] hst ?_
     refine r_en [] [] [(38, .int .i64 b), (6, .int .i64 b), (7, .int .i64 3)] rc_nil ?_
     refine W_ret ?_
     refine q_rt [] [] (.tuple #[.int .i64 b, .int .i64 3]) rc_nil hst ?_
     exact ⟨by rw [hre], hst.drop [_]⟩
    ·rw [hc8]
     have hp10 := hc8
     simp only [decide_eq_true_eq, decide_eq_false_iff_not, beq_iff_eq, beq_eq_false_iff_ne, bne_iff_ne, bne_eq_false_iff_eq, Bool.not_eq_true', Bool.not_eq_false', Bool.and_eq_true, Bool.and_eq_false_iff, ne_eq] at hp10
     refine r_sg [(.p, 9), (.l, 10), (.p, 11), (.p, 12), (.p, 13)] [[.int .i64 t.num]] [(⟨b1, 1, none⟩, .int .i64 t.num)] [(24, .pointer (some ⟨b1, 1, none⟩)), (25, .int .i64 t.num), (26, .bool (decide (t.num < 0))), (27, .bool (decide (t.num < 0))), (28, .bool (decide (t.num < 0)))] (rc_L 0 rfl rfl rc_nil) ?_
     rcases Bool.eq_false_or_eq_true (decide (t.num < 0)) with hc11 | hc11
     ·rw [hc11]
      have hp12 := hc11
      simp only [decide_eq_true_eq, decide_eq_false_iff_not, beq_iff_eq, beq_eq_false_iff_ne, bne_iff_ne, bne_eq_false_iff_eq, Bool.not_eq_true', Bool.not_eq_false', Bool.and_eq_true, Bool.and_eq_false_iff, ne_eq] at hp12
      refine r_en [] [] [(29, undef), (30, undef), (31, undef), (32, undef), (33, undef), (34, undef), (35, undef), (36, undef), (37, .bool true)] rc_nil ?_
      refine W_cT ?_
      refine W_seq ?_
      rw [if_pos (by omega)] at hre
      refine W_rg [(.p, 0), (.p, 1), (.p, 2)] hst ?_
      refine r_en [] [] [(38, .int .i64 b), (6, .int .i64 b), (7, .int .i64 3)] rc_nil ?_
      refine W_ret ?_
      refine q_rt [] [] (.tuple #[.int .i64 b, .int .i64 3]) rc_nil hst ?_
      exact ⟨by rw [hre], hst.drop [_]⟩
     ·rw [hc11]
      have hp13 := hc11
      simp only [decide_eq_true_eq, decide_eq_false_iff_not, beq_iff_eq, beq_eq_false_iff_ne, bne_iff_ne, bne_eq_false_iff_eq, Bool.not_eq_true', Bool.not_eq_false', Bool.and_eq_true, Bool.and_eq_false_iff, ne_eq] at hp13
      refine r_sg [(.p, 14), (.l, 15), (.p, 16), (.p, 17)] [[.int .i64 t.num]] [(⟨b1, 1, none⟩, .int .i64 t.num)] [(29, .pointer (some ⟨b1, 1, none⟩)), (30, .int .i64 t.num), (31, .bool (decide (t.num > 0))), (32, .bool (decide (t.num > 0)))] (rc_L 0 rfl rfl rc_nil) ?_
      rcases Bool.eq_false_or_eq_true (decide (t.num > 0)) with hc14 | hc14
      ·rw [hc14]
       have hp15 := hc14
       simp only [decide_eq_true_eq, decide_eq_false_iff_not, beq_iff_eq, beq_eq_false_iff_ne, bne_iff_ne, bne_eq_false_iff_eq, Bool.not_eq_true', Bool.not_eq_false', Bool.and_eq_true, Bool.and_eq_false_iff, ne_eq] at hp15
       refine r_en [[.int .i64 t.kind]] [(⟨b1, 0, none⟩, .int .i64 t.kind)] [(33, .pointer (some ⟨b1, 0, none⟩)), (34, .int .i64 t.kind), (35, .bool (t.kind != 1)), (36, .bool (t.kind != 1)), (37, .bool (t.kind != 1))] (rc_L 0 rfl rfl rc_nil) ?_
       refine W_cd (b := t.kind != 1) (fun hc16 => ?_) (fun hc16 => ?_)
       ·skip
        have hp17 := hc16
        simp only [decide_eq_true_eq, decide_eq_false_iff_not, beq_iff_eq, beq_eq_false_iff_ne, bne_iff_ne, bne_eq_false_iff_eq, Bool.not_eq_true', Bool.not_eq_false', Bool.and_eq_true, Bool.and_eq_false_iff, ne_eq] at hp17
        refine W_seq ?_
        rw [if_pos (by omega)] at hre
        refine W_rg [(.p, 0), (.p, 1), (.p, 2)] hst ?_
        refine r_en [] [] [(38, .int .i64 b), (6, .int .i64 b), (7, .int .i64 3)] rc_nil ?_
        refine W_ret ?_
        refine q_rt [] [] (.tuple #[.int .i64 b, .int .i64 3]) rc_nil hst ?_
        exact ⟨by rw [hre], hst.drop [_]⟩
       ·skip
        have hp18 := hc16
        simp only [decide_eq_true_eq, decide_eq_false_iff_not, beq_iff_eq, beq_eq_false_iff_ne, bne_iff_ne, bne_eq_false_iff_eq, Bool.not_eq_true', Bool.not_eq_false', Bool.and_eq_true, Bool.and_eq_false_iff, ne_eq] at hp18
        refine W_skip ?_
        exact ⟨(), ⟨by kernel_rfl, by kernel_rfl, by kernel_rfl, trivial⟩, rfl, hst, (by omega)⟩
      ·rw [hc14]
       have hp19 := hc14
       simp only [decide_eq_true_eq, decide_eq_false_iff_not, beq_iff_eq, beq_eq_false_iff_ne, bne_iff_ne, bne_eq_false_iff_eq, Bool.not_eq_true', Bool.not_eq_false', Bool.and_eq_true, Bool.and_eq_false_iff, ne_eq] at hp19
       refine r_en [] [] [(33, undef), (34, undef), (35, undef), (36, .bool false), (37, .bool false)] rc_nil ?_
       refine W_cF ?_
       refine W_skip ?_
       exact ⟨(), ⟨by kernel_rfl, by kernel_rfl, by kernel_rfl, trivial⟩, rfl, hst, (by omega)⟩
  clear hst; rintro ρ D w1 ⟨u5, hE20, rfl, hst, hge5⟩
  refine W_env hE20 ?_
  refine W_seq ?_
  rw [if_neg (by omega), if_neg (by omega)] at hre
  refine W_rg [(.p, 0)] hst ?_
  refine r_en [] [] [(8, .int .i64 0)] rc_nil ?_
  refine W_seqI (fun ρ D w => ∃ (w8 : Int), EqS ρ [(1, .int .i64 b), (2, .int .i64 wi), (3, .pointer (some ⟨b1, 0, none⟩)), (8, .int .i64 w8)] ∧ D = [] ∧ St G ((b1, .cells #[.int .i64 t.kind, .int .i64 t.num, .slice tA t.kids.length tc] 24) :: L) w ∧ (w8 = if t.kind = 3 then 2 else 0)) ?_ ?_
  ·skip
   refine W_seq ?_
   refine W_rg [(.p, 0), (.l, 1), (.p, 2)] hst ?_
   refine r_en [[.int .i64 t.kind]] [(⟨b1, 0, none⟩, .int .i64 t.kind)] [(39, .pointer (some ⟨b1, 0, none⟩)), (40, .int .i64 t.kind), (41, .bool (t.kind == 3))] (rc_L 0 rfl rfl rc_nil) ?_
   refine W_cd (b := t.kind == 3) (fun hc21 => ?_) (fun hc21 => ?_)
   ·skip
    have hp22 := hc21
    simp only [decide_eq_true_eq, decide_eq_false_iff_not, beq_iff_eq, beq_eq_false_iff_ne, bne_iff_ne, bne_eq_false_iff_eq, Bool.not_eq_true', Bool.not_eq_false', Bool.and_eq_true, Bool.and_eq_false_iff, ne_eq] at hp22
    refine W_rg [(.p, 0)] hst ?_
    refine r_en [] [] [(8, .int .i64 2)] rc_nil ?_
    exact ⟨2, ⟨by kernel_rfl, by kernel_rfl, by kernel_rfl, by kernel_rfl, trivial⟩, rfl, hst, (by split <;> omega)⟩
   ·skip
    have hp23 := hc21
    simp only [decide_eq_true_eq, decide_eq_false_iff_not, beq_iff_eq, beq_eq_false_iff_ne, bne_iff_ne, bne_eq_false_iff_eq, Bool.not_eq_true', Bool.not_eq_false', Bool.and_eq_true, Bool.and_eq_false_iff, ne_eq] at hp23
    refine W_skip ?_
    exact ⟨0, ⟨by kernel_rfl, by kernel_rfl, by kernel_rfl, by kernel_rfl, trivial⟩, rfl, hst, (by split <;> omega)⟩
  clear hst; rintro ρ D w1 ⟨w8, hE24, rfl, hst, hw8⟩
  refine W_env hE24 ?_
  refine W_seqI (fun ρ D w => ∃ (w10 : Int), EqS ρ [(1, .int .i64 b), (2, .int .i64 wi), (3, .pointer (some ⟨b1, 0, none⟩)), (8, .int .i64 w10)] ∧ D = [] ∧ St G ((b1, .cells #[.int .i64 t.kind, .int .i64 t.num, .slice tA t.kids.length tc] 24) :: L) w ∧ (w10 = wantsR t.kind)) ?_ ?_
  ·skip
   refine W_seq ?_
   refine W_rg [(.p, 0), (.l, 1), (.p, 2)] hst ?_
   refine r_en [[.int .i64 t.kind]] [(⟨b1, 0, none⟩, .int .i64 t.kind)] [(42, .pointer (some ⟨b1, 0, none⟩)), (43, .int .i64 t.kind), (44, .bool (t.kind == 4))] (rc_L 0 rfl rfl rc_nil) ?_
   refine W_cd (b := t.kind == 4) (fun hc25 => ?_) (fun hc25 => ?_)
   ·skip
    have hp26 := hc25
    simp only [decide_eq_true_eq, decide_eq_false_iff_not, beq_iff_eq, beq_eq_false_iff_ne, bne_iff_ne, bne_eq_false_iff_eq, Bool.not_eq_true', Bool.not_eq_false', Bool.and_eq_true, Bool.and_eq_false_iff, ne_eq] at hp26
    refine W_rg [(.p, 0)] hst ?_
    refine r_en [] [] [(8, .int .i64 1)] rc_nil ?_
    exact ⟨1, ⟨by kernel_rfl, by kernel_rfl, by kernel_rfl, by kernel_rfl, trivial⟩, rfl, hst, (by unfold wantsR; split at hw8 <;> split <;> (try split) <;> omega)⟩
   ·skip
    have hp27 := hc25
    simp only [decide_eq_true_eq, decide_eq_false_iff_not, beq_iff_eq, beq_eq_false_iff_ne, bne_iff_ne, bne_eq_false_iff_eq, Bool.not_eq_true', Bool.not_eq_false', Bool.and_eq_true, Bool.and_eq_false_iff, ne_eq] at hp27
    refine W_skip ?_
    exact ⟨w8, ⟨by kernel_rfl, by kernel_rfl, by kernel_rfl, by kernel_rfl, trivial⟩, rfl, hst, (by unfold wantsR; split at hw8 <;> split <;> (try split) <;> omega)⟩
  clear hst; rintro ρ D w1 ⟨w10, hE28, rfl, hst, hw10⟩
  refine W_env hE28 ?_
  refine W_seq ?_
  refine W_seq ?_
  refine W_rg [(.p, 0), (.l, 1), (.p, 2), (.p, 3), (.p, 4)] hst ?_
  refine r_en [[.slice tA t.kids.length tc]] [(⟨b1, 2, none⟩, .slice tA t.kids.length tc)] [(45, .pointer (some ⟨b1, 2, none⟩)), (46, .slice tA t.kids.length tc), (47, .int .i64 (((t.kids.length : Nat) : Int))), (48, .int .i64 w10), (49, .bool ((((t.kids.length : Nat) : Int)) != w10))] (rc_L 0 rfl rfl rc_nil) ?_
  refine W_cd (b := (((t.kids.length : Nat) : Int)) != w10) (fun hc29 => ?_) (fun hc29 => ?_)
  ·skip
   have hp30 := hc29
   simp only [decide_eq_true_eq, decide_eq_false_iff_not, beq_iff_eq, beq_eq_false_iff_ne, bne_iff_ne, bne_eq_false_iff_eq, Bool.not_eq_true', Bool.not_eq_false', Bool.and_eq_true, Bool.and_eq_false_iff, ne_eq] at hp30
   refine W_seq ?_
   rw [if_pos (by omega)] at hre
   refine W_rg [(.p, 0), (.p, 1), (.p, 2)] hst ?_
   refine r_en [] [] [(50, .int .i64 b), (6, .int .i64 b), (7, .int .i64 4)] rc_nil ?_
   refine W_ret ?_
   refine q_rt [] [] (.tuple #[.int .i64 b, .int .i64 4]) rc_nil hst ?_
   exact ⟨by rw [hre], hst.drop [_]⟩
  ·skip
   have hp31 := hc29
   simp only [decide_eq_true_eq, decide_eq_false_iff_not, beq_iff_eq, beq_eq_false_iff_ne, bne_iff_ne, bne_eq_false_iff_eq, Bool.not_eq_true', Bool.not_eq_false', Bool.and_eq_true, Bool.and_eq_false_iff, ne_eq] at hp31
   refine W_skip ?_
   refine W_seqI (fun ρ D w => ∃ (u14 : Unit), EqS ρ [(1, .int .i64 b), (2, .int .i64 wi), (3, .pointer (some ⟨b1, 0, none⟩))] ∧ D = [] ∧ St G ((b1, .cells #[.int .i64 t.kind, .int .i64 t.num, .slice tA t.kids.length tc] 24) :: L) w ∧ (¬ (t.kind = 1 ∧ t.num ≥ wi))) ?_ ?_
   ·skip
    refine W_seq ?_
    rw [if_neg (by omega)] at hre
    refine W_rg [(.p, 0), (.l, 1), (.p, 2), (.p, 3), (.p, 4), (.l, 5), (.p, 6), (.p, 7), (.p, 8)] hst ?_
    refine r_sg [(.p, 0), (.l, 1), (.p, 2), (.p, 3)] [[.int .i64 t.kind]] [(⟨b1, 0, none⟩, .int .i64 t.kind)] [(51, .pointer (some ⟨b1, 0, none⟩)), (52, .int .i64 t.kind), (53, .bool (t.kind == 1)), (54, .bool (t.kind == 1))] (rc_L 0 rfl rfl rc_nil) ?_
    rcases Bool.eq_false_or_eq_true (t.kind == 1) with hc32 | hc32
    ·rw [hc32]
     have hp33 := hc32
     simp only [decide_eq_true_eq, decide_eq_false_iff_not, beq_iff_eq, beq_eq_false_iff_ne, bne_iff_ne, bne_eq_false_iff_eq, Bool.not_eq_true', Bool.not_eq_false', Bool.and_eq_true, Bool.and_eq_false_iff, ne_eq] at hp33
     refine r_en [[.int .i64 t.num]] [(⟨b1, 1, none⟩, .int .i64 t.num)] [(55, .pointer (some ⟨b1, 1, none⟩)), (56, .int .i64 t.num), (57, .int .i64 wi), (58, .bool (decide (t.num ≥ wi))), (59, .bool (decide (t.num ≥ wi)))] (rc_L 0 rfl rfl rc_nil) ?_
     refine W_cd (b := decide (t.num ≥ wi)) (fun hc34 => ?_) (fun hc34 => ?_)
     ·skip
      have hp35 := hc34
      simp only [decide_eq_true_eq, decide_eq_false_iff_not, beq_iff_eq, beq_eq_false_iff_ne, bne_iff_ne, bne_eq_false_iff_eq, Bool.not_eq_true', Bool.not_eq_false', Bool.and_eq_true, Bool.and_eq_false_iff, ne_eq] at hp35
      refine W_seq ?_
      rw [if_pos (by omega)] at hre
      refine W_rg [(.p, 0), (.p, 1), (.p, 2)] hst ?_
      refine r_en [] [] [(60, .int .i64 b), (6, .int .i64 b), (7, .int .i64 1)] rc_nil ?_
      refine W_ret ?_
      refine q_rt [] [] (.tuple #[.int .i64 b, .int .i64 1]) rc_nil hst ?_
      exact ⟨by rw [hre], hst.drop [_]⟩
     ·skip
      have hp36 := hc34
      simp only [decide_eq_true_eq, decide_eq_false_iff_not, beq_iff_eq, beq_eq_false_iff_ne, bne_iff_ne, bne_eq_false_iff_eq, Bool.not_eq_true', Bool.not_eq_false', Bool.and_eq_true, Bool.and_eq_false_iff, ne_eq] at hp36
      refine W_skip ?_
      exact ⟨(), ⟨by kernel_rfl, by kernel_rfl, by kernel_rfl, trivial⟩, rfl, hst, (by omega)⟩
    ·rw [hc32]
     have hp37 := hc32
     simp only [decide_eq_true_eq, decide_eq_false_iff_not, beq_iff_eq, beq_eq_false_iff_ne, bne_iff_ne, bne_eq_false_iff_eq, Bool.not_eq_true', Bool.not_eq_false', Bool.and_eq_true, Bool.and_eq_false_iff, ne_eq] at hp37
     refine r_en [] [] [(55, undef), (56, undef), (57, undef), (58, undef), (59, .bool false)] rc_nil ?_
     refine W_cF ?_
     refine W_skip ?_
     exact ⟨(), ⟨by kernel_rfl, by kernel_rfl, by kernel_rfl, trivial⟩, rfl, hst, (by omega)⟩
   clear hst; rintro ρ D w1 ⟨u14, hE38, rfl, hst, hge14⟩
   refine W_env hE38 ?_
   refine W_seqI (fun ρ D w => ∃ (wj : Int), EqS ρ [(1, .int .i64 b), (2, .int .i64 wj), (3, .pointer (some ⟨b1, 0, none⟩))] ∧ D = [] ∧ St G ((b1, .cells #[.int .i64 t.kind, .int .i64 t.num, .slice tA t.kids.length tc] 24) :: L) w ∧ (wj = if t.kind = 4 then w64 (wi + 1) else wi)) ?_ ?_
   ·skip
    refine W_seq ?_
    refine W_rg [(.p, 0), (.l, 1), (.p, 2)] hst ?_
    refine r_en [[.int .i64 t.kind]] [(⟨b1, 0, none⟩, .int .i64 t.kind)] [(61, .pointer (some ⟨b1, 0, none⟩)), (62, .int .i64 t.kind), (63, .bool (t.kind == 4))] (rc_L 0 rfl rfl rc_nil) ?_
    refine W_cd (b := t.kind == 4) (fun hc39 => ?_) (fun hc39 => ?_)
    ·skip
     have hp40 := hc39
     simp only [decide_eq_true_eq, decide_eq_false_iff_not, beq_iff_eq, beq_eq_false_iff_ne, bne_iff_ne, bne_eq_false_iff_eq, Bool.not_eq_true', Bool.not_eq_false', Bool.and_eq_true, Bool.and_eq_false_iff, ne_eq] at hp40
     refine W_rg [(.p, 0), (.p, 1), (.p, 2)] hst ?_
     refine r_en [] [] [(64, .int .i64 wi), (65, .int .i64 (IntKind.wrap .i64 (wi + 1))), (2, .int .i64 (IntKind.wrap .i64 (wi + 1)))] rc_nil ?_
     exact ⟨IntKind.wrap .i64 (wi + 1), ⟨by kernel_rfl, by kernel_rfl, by kernel_rfl, trivial⟩, rfl, hst, (by split <;> first | rfl | omega)⟩
    ·skip
     have hp41 := hc39
     simp only [decide_eq_true_eq, decide_eq_false_iff_not, beq_iff_eq, beq_eq_false_iff_ne, bne_iff_ne, bne_eq_false_iff_eq, Bool.not_eq_true', Bool.not_eq_false', Bool.and_eq_true, Bool.and_eq_false_iff, ne_eq] at hp41
     refine W_skip ?_
     exact ⟨wi, ⟨by kernel_rfl, by kernel_rfl, by kernel_rfl, trivial⟩, rfl, hst, (by split <;> first | rfl | omega)⟩
   clear hst; rintro ρ D w1 ⟨wj, hE42, rfl, hst, hwj⟩
   refine W_env hE42 ?_
   refine W_seq ?_
   rw [if_neg (by omega), if_neg (by omega), ← hwj] at hre
   refine W_rg [(.p, 0), (.p, 1), (.p, 2)] hst ?_
   refine r_en [] [] [(66, .int .i64 b), (67, .int .i64 (IntKind.wrap .i64 (b + 1))), (1, .int .i64 (IntKind.wrap .i64 (b + 1)))] rc_nil ?_
   refine W_seq ?_
   refine W_seq ?_
   refine W_rg [(.p, 0), (.l, 1), (.p, 2), (.p, 3)] hst ?_
   refine r_en [[.slice tA t.kids.length tc]] [(⟨b1, 2, none⟩, .slice tA t.kids.length tc)] [(68, .pointer (some ⟨b1, 2, none⟩)), (69, .slice tA t.kids.length tc), (70, .int .i64 (((t.kids.length : Nat) : Int))), (71, .int .i64 0)] (rc_L 0 rfl rfl rc_nil) ?_
   refine W_block ?_
   refine W_loop (fun m ρ D w => ∃ (k : Nat) (bk : Int), EqS ρ [(1, .int .i64 bk), (2, .int .i64 wj), (3, .pointer (some ⟨b1, 0, none⟩)), (70, .int .i64 (((t.kids.length : Nat) : Int))), (71, .int .i64 (((k : Nat) : Int)))] ∧ D = [] ∧ St G ((b1, .cells #[.int .i64 t.kind, .int .i64 t.num, .slice tA t.kids.length tc] 24) :: L) w ∧ (k ≤ t.kids.length) ∧ (rR t b wi = rRs (t.kids.drop k) bk wj) ∧ t.kids.length - k = m) (t.kids.length - 0) ⟨0, w64 (b + 1), ⟨by kernel_rfl, by kernel_rfl, by kernel_rfl, by kernel_rfl, by kernel_rfl, trivial⟩, rfl, hst, Nat.zero_le _, hre, rfl⟩ ?_
   clear hst; rintro m43 ρ D w1 ⟨k, bk, hE44, rfl, hst, hkk, hrs, hm45⟩
   refine W_env hE44 ?_
   refine W_seq ?_
   refine W_rg [(.p, 0)] hst ?_
   refine r_en [] [] [(72, .bool (decide ((((k : Nat) : Int)) < (((t.kids.length : Nat) : Int)))))] rc_nil ?_
   refine W_seq ?_
   refine W_cd (b := decide ((((k : Nat) : Int)) < (((t.kids.length : Nat) : Int)))) (fun hc46 => ?_) (fun hc46 => ?_)
   ·skip
    have hlt : k < t.kids.length := by have := of_decide_eq_true hc46; omega
    obtain ⟨q, hq⟩ := get_of_lt hlt
    have hqz := T.sz_kid hq
    have hstk := hst
    obtain ⟨eb1, eo1, qA, qc, rfl, hq0, hq1, hq2, hqp⟩ := (htk).elem hq
    have hst := hstk; clear hstk
    rw [drop_cons hq, rRs] at hrs
    refine W_skip ?_
    refine W_seq ?_
    refine W_block ?_
    refine W_seq ?_
    refine W_rg [(.p, 0), (.p, 1)] hst ?_
    refine r_en [] [] [(73, .int .i64 (((k : Nat) : Int))), (9, .int .i64 (((k : Nat) : Int)))] rc_nil ?_
    refine W_seq ?_
    refine W_rg [(.p, 0), (.l, 1), (.p, 2), (.p, 3), (.l, 4), (.p, 5), (.p, 6), (.f, 7), (.p, 8), (.p, 9), (.p, 10), (.p, 11), (.p, 12)] hst ?_
    refine r_sg [(.p, 0), (.l, 1), (.p, 2)] [[.slice (some ⟨eb1, eo1, none⟩) t.kids.length tc]] [(⟨b1, 2, none⟩, .slice (some ⟨eb1, eo1, none⟩) t.kids.length tc)] [(75, .pointer (some ⟨b1, 2, none⟩)), (76, .slice (some ⟨eb1, eo1, none⟩) t.kids.length tc), (77, .int .i64 (((k : Nat) : Int)))] (rc_L 0 rfl rfl rc_nil) ?_
    refine m_idx (sz := 3) (b := eb1) (off := eo1) (n := t.kids.length) (c := tc) (k := k) (some 78) (show opAt _ _ _ = some (.indexAddr 22 (.tmp 76) (.tmp 77), _) by kernel_rfl) (by kernel_rfl) (by kernel_rfl) Try.underlying22 sz24 hlt ?_
    refine r_sg [(.l, 4), (.p, 5), (.p, 6)] [[.int .i64 q.kind, .int .i64 q.num, .slice qA q.kids.length qc]] [(⟨eb1, eo1 + k * 3, none⟩, .int .i64 q.kind), (⟨eb1, eo1 + k * 3 + 1, none⟩, .int .i64 q.num), (⟨eb1, eo1 + k * 3 + 2, none⟩, .slice qA q.kids.length qc)] [(79, .agg #[.int .i64 q.kind, .int .i64 q.num, .slice qA q.kids.length qc]), (80, .int .i64 bk), (81, .int .i64 wj)] (rc_C hq0 (rc_C hq1 (rc_C hq2 rc_nil))) ?_
    refine m_cl #[.agg #[.int .i64 q.kind, .int .i64 q.num, .slice qA q.kids.length qc], .int .i64 bk, .int .i64 wj] (some 82) (ih (t := q) (by omega) (by omega) hqp hst) ?_
    rintro _ w1 ⟨rfl, hst⟩
    refine nx hst ?_
    refine r_en [] [] [(74, .tuple #[.int .i64 ((rR q bk wj).1), .int .i64 ((rR q bk wj).2)]), (83, .int .i64 ((rR q bk wj).1)), (84, .int .i64 ((rR q bk wj).2)), (10, .int .i64 ((rR q bk wj).1)), (11, .int .i64 ((rR q bk wj).2))] rc_nil ?_
    refine W_seq ?_
    refine W_seq ?_
    refine W_rg [(.p, 0), (.p, 1)] hst ?_
    refine r_en [] [] [(85, .int .i64 ((rR q bk wj).2)), (86, .bool (((rR q bk wj).2) != 0))] rc_nil ?_
    refine W_cd (b := ((rR q bk wj).2) != 0) (fun hc47 => ?_) (fun hc47 => ?_)
    ·skip
     have hp48 := hc47
     simp only [decide_eq_true_eq, decide_eq_false_iff_not, beq_iff_eq, beq_eq_false_iff_ne, bne_iff_ne, bne_eq_false_iff_eq, Bool.not_eq_true', Bool.not_eq_false', Bool.and_eq_true, Bool.and_eq_false_iff, ne_eq] at hp48
     rw [if_pos (by omega)] at hrs
     refine W_seq ?_
     refine W_rg [(.p, 0), (.p, 1), (.p, 2), (.p, 3)] hst ?_
     refine r_en [] [] [(87, .int .i64 ((rR q bk wj).1)), (88, .int .i64 ((rR q bk wj).2)), (6, .int .i64 ((rR q bk wj).1)), (7, .int .i64 ((rR q bk wj).2))] rc_nil ?_
     refine W_ret ?_
     refine q_rt [] [] (.tuple #[.int .i64 ((rR q bk wj).1), .int .i64 ((rR q bk wj).2)]) rc_nil hst ?_
     exact ⟨by rw [hrs], hst.drop [_]⟩
    ·skip
     have hp49 := hc47
     simp only [decide_eq_true_eq, decide_eq_false_iff_not, beq_iff_eq, beq_eq_false_iff_ne, bne_iff_ne, bne_eq_false_iff_eq, Bool.not_eq_true', Bool.not_eq_false', Bool.and_eq_true, Bool.and_eq_false_iff, ne_eq] at hp49
     rw [if_neg (by omega)] at hrs
     refine W_skip ?_
     refine W_rg [(.p, 0), (.p, 1)] hst ?_
     refine r_en [] [] [(89, .int .i64 ((rR q bk wj).1)), (1, .int .i64 ((rR q bk wj).1))] rc_nil ?_
     refine W_rg [(.p, 0), (.p, 1)] hst ?_
     refine r_en [] [] [(90, .int .i64 (IntKind.wrap .i64 ((((k : Nat) : Int)) + 1))), (71, .int .i64 (IntKind.wrap .i64 ((((k : Nat) : Int)) + 1)))] rc_nil ?_
     exact ⟨_, (by omega), k + 1, (rR q bk wj).1, ⟨by kernel_rfl, by kernel_rfl, by kernel_rfl, by kernel_rfl, (by rw [← wrap_succ (k := k) (by omega)]; kernel_rfl), trivial⟩, rfl, hst, hlt, hrs, rfl⟩
   ·skip
    rw [List.drop_of_length_le (by have := of_decide_eq_false hc46; omega), rRs] at hrs
    refine W_exit ?_
    refine W_seq ?_
    refine W_rg [(.p, 0), (.p, 1), (.p, 2)] hst ?_
    refine r_en [] [] [(91, .int .i64 bk), (6, .int .i64 bk), (7, .int .i64 0)] rc_nil ?_
    refine W_ret ?_
    refine q_rt [] [] (.tuple #[.int .i64 bk, .int .i64 0]) rc_nil hst ?_
    exact ⟨by rw [hrs], hst.drop [_]⟩

theorem c41 {G : GH} {L : LH} {w : World} {v : Value} {t : T} {n : Int} (hz : T.sz t < lim) (hv : IsPoly G v t) (hst : St G L w) : Cal Try.prog 41 #[v, .int .i64 n] w fun x w' => x = .int .i64 (rRight t n) ∧ St G L w' := by
 obtain ⟨tA, tc, rfl, htc, htk⟩ := id hv.open
 refine cal_of_W Try.func41 rfl (Nat.le_of_ble_eq_true (by kernel_rfl)) ?_
 refine W_seq ?_
 refine W_rg [(.f, 0), (.p, 1)] hst ?_
 refine m_new (.cells #[.int .i64 t.kind, .int .i64 t.num, .slice tA t.kids.length tc] 24) (fun b1 => .pointer (some ⟨b1, 0, none⟩)) (some 2) (fun b => by kernel_rfl) hst (fun b1 w1 hst => ?_)
 refine r_en [] [] [(4, .int .i64 0)] rc_nil ?_
 refine W_seq ?_
 refine W_seq ?_
 refine W_rg [(.p, 0), (.p, 1), (.p, 2), (.p, 3), (.p, 4), (.p, 5)] hst ?_
 refine r_sg [(.p, 0), (.p, 1), (.p, 2)] [] [] [(7, .int .i64 n), (8, .bool (decide (n < 0))), (9, .bool (decide (n < 0)))] rc_nil ?_
 rcases Bool.eq_false_or_eq_true (decide (n < 0)) with hc2 | hc2
 ·rw [hc2]
  have hp3 := hc2
  simp only [decide_eq_true_eq, decide_eq_false_iff_not, beq_iff_eq, beq_eq_false_iff_ne, bne_iff_ne, bne_eq_false_iff_eq, Bool.not_eq_true', Bool.not_eq_false', Bool.and_eq_true, Bool.and_eq_false_iff, ne_eq] at hp3
  refine r_en [] [] [(10, undef), (11, undef), (12, .bool true)] rc_nil ?_
  refine W_cT ?_
  refine W_seq ?_
  refine W_rg [(.p, 0)] hst ?_
  refine r_en [] [] [(4, .int .i64 3)] rc_nil ?_
  refine W_ret ?_
  refine q_rt [] [] (.int .i64 3) rc_nil hst ?_
  exact ⟨by unfold rRight; rw [if_pos (by omega)], hst.drop [_]⟩
 ·rw [hc2]
  have hp4 := hc2
  simp only [decide_eq_true_eq, decide_eq_false_iff_not, beq_iff_eq, beq_eq_false_iff_ne, bne_iff_ne, bne_eq_false_iff_eq, Bool.not_eq_true', Bool.not_eq_false', Bool.and_eq_true, Bool.and_eq_false_iff, ne_eq] at hp4
  refine r_en [] [] [(10, .int .i64 n), (11, .bool (decide (n > 26))), (12, .bool (decide (n > 26)))] rc_nil ?_
  refine W_cd (b := decide (n > 26)) (fun hc5 => ?_) (fun hc5 => ?_)
  ·skip
   have hp6 := hc5
   simp only [decide_eq_true_eq, decide_eq_false_iff_not, beq_iff_eq, beq_eq_false_iff_ne, bne_iff_ne, bne_eq_false_iff_eq, Bool.not_eq_true', Bool.not_eq_false', Bool.and_eq_true, Bool.and_eq_false_iff, ne_eq] at hp6
   refine W_seq ?_
   refine W_rg [(.p, 0)] hst ?_
   refine r_en [] [] [(4, .int .i64 3)] rc_nil ?_
   refine W_ret ?_
   refine q_rt [] [] (.int .i64 3) rc_nil hst ?_
   exact ⟨by unfold rRight; rw [if_pos (by omega)], hst.drop [_]⟩
  ·skip
   have hp7 := hc5
   simp only [decide_eq_true_eq, decide_eq_false_iff_not, beq_iff_eq, beq_eq_false_iff_ne, bne_iff_ne, bne_eq_false_iff_eq, Bool.not_eq_true', Bool.not_eq_false', Bool.and_eq_true, Bool.and_eq_false_iff, ne_eq] at hp7
   refine W_skip ?_
   refine W_seq ?_
   refine W_rg [(.l, 0), (.p, 1), (.f, 2), (.p, 3), (.p, 4), (.p, 5), (.p, 6), (.p, 7)] hst ?_
   refine r_sg [(.l, 0), (.p, 1)] [[.int .i64 t.kind, .int .i64 t.num, .slice tA t.kids.length tc]] [(⟨b1, 0, none⟩, .int .i64 t.kind), (⟨b1, 1, none⟩, .int .i64 t.num), (⟨b1, 2, none⟩, .slice tA t.kids.length tc)] [(14, .agg #[.int .i64 t.kind, .int .i64 t.num, .slice tA t.kids.length tc]), (15, .int .i64 n)] (rc_L 0 rfl rfl (rc_L 0 rfl rfl (rc_L 0 rfl rfl rc_nil))) ?_
   refine m_cl #[.agg #[.int .i64 t.kind, .int .i64 t.num, .slice tA t.kids.length tc], .int .i64 0, .int .i64 n] (some 16) (c84 _ (Nat.lt_succ_self _) hz hv hst) ?_
   rintro _ w1 ⟨rfl, hst⟩
   refine nx hst ?_
   refine r_en [] [] [(13, .tuple #[.int .i64 ((rR t 0 n).1), .int .i64 ((rR t 0 n).2)]), (17, .int .i64 ((rR t 0 n).1)), (18, .int .i64 ((rR t 0 n).2)), (5, .int .i64 ((rR t 0 n).1)), (6, .int .i64 ((rR t 0 n).2))] rc_nil ?_
   refine W_seq ?_
   refine W_rg [(.p, 0), (.p, 1)] hst ?_
   refine r_en [] [] [(19, .int .i64 ((rR t 0 n).2)), (4, .int .i64 ((rR t 0 n).2))] rc_nil ?_
   refine W_ret ?_
   refine q_rt [] [] (.int .i64 ((rR t 0 n).2)) rc_nil hst ?_
   exact ⟨by unfold rRight; rw [if_neg (by omega)], hst.drop [_]⟩

theorem c90 {G : GH} {L : LH} {w : World} {n : Int} (hst : St G L w) : Cal Try.prog 90 #[.int .i64 n] w fun x w' => x = .string (bs (rletter n)) ∧ St G L w' := by
 refine cal_of_W Try.func90 rfl (Nat.le_of_ble_eq_true (by kernel_rfl)) ?_
 refine W_seq ?_
 refine W_rg [(.p, 0)] hst ?_
 refine r_en [] [] [(2, .string (bs []))] rc_nil ?_
 refine W_seq ?_
 refine W_rg [(.p, 0), (.p, 1), (.p, 2), (.f, 3), (.l, 4), (.p, 5)] hst ?_
 refine r_sg [(.p, 0), (.p, 1), (.p, 2)] [] [] [(3, .int .i64 n), (4, .int .i64 (IntKind.wrap .i64 (97 + n))), (5, .int .u8 (IntKind.wrap .u8 (IntKind.wrap .i64 (97 + n))))] rc_nil ?_
 refine m_new (.cells #[.int .u8 (IntKind.wrap .u8 (IntKind.wrap .i64 (97 + n)))] 5) (fun b1 => .slice (some ⟨b1, 0, none⟩) 1 1) (some 6) (fun b => by kernel_rfl) hst (fun b1 w1 hst => ?_)
 refine r_en [[.int .u8 (IntKind.wrap .u8 (IntKind.wrap .i64 (97 + n)))]] [(⟨b1, 0, none⟩, .int .u8 (IntKind.wrap .u8 (IntKind.wrap .i64 (97 + n))))] [(7, .string (bs [UInt8.ofNat (IntKind.wrap .u8 (IntKind.wrap .i64 (97 + n))).toNat])), (2, .string (bs [UInt8.ofNat (IntKind.wrap .u8 (IntKind.wrap .i64 (97 + n))).toNat]))] (rc_L 0 rfl rfl rc_nil) ?_
 refine W_ret ?_
 refine q_rt [] [] (.string (bs [UInt8.ofNat (IntKind.wrap .u8 (IntKind.wrap .i64 (97 + n))).toNat])) rc_nil hst ?_
 exact ⟨rfl, hst.drop [_]⟩

theorem c58 : ∀ (f : Nat) {G : GH} {L : LH} {w : World} {v : Value} {t : T} {n : Int} {r : List UInt8}, IsPoly G v t → Md.rprinted f t n = some r → St G L w → Cal Try.prog 58 #[v, .int .i64 n] w fun x w' => x = .string (bs r) ∧ St G L w' := by
 intro f
 induction f with
 | zero => intro G L w v t n r hv h; cases h
 | succ f ih =>
 intro G L w v t n r hv h hst
 have hlim : lim = 1099511627776 := rfl
 unfold Md.rprinted at h
 obtain ⟨tA, tc, rfl, htc, htk⟩ := id hv.open
 refine cal_of_W Try.func58 rfl (Nat.le_of_ble_eq_true (by kernel_rfl)) ?_
 refine W_seq ?_
 refine W_rg [(.f, 0), (.p, 1)] hst ?_
 refine m_new (.cells #[.int .i64 t.kind, .int .i64 t.num, .slice tA t.kids.length tc] 24) (fun b1 => .pointer (some ⟨b1, 0, none⟩)) (some 2) (fun b => by kernel_rfl) hst (fun b1 w1 hst => ?_)
 refine r_en [] [] [(4, .string (bs []))] rc_nil ?_
 refine W_seq ?_
 refine W_seq ?_
 refine W_rg [(.p, 0), (.l, 1)] hst ?_
 refine r_en [[.int .i64 t.kind]] [(⟨b1, 0, none⟩, .int .i64 t.kind)] [(6, .pointer (some ⟨b1, 0, none⟩)), (7, .int .i64 t.kind)] (rc_L 0 rfl rfl rc_nil) ?_
 refine W_block ?_
 refine W_seq ?_
 refine W_rg [(.p, 0), (.p, 1)] hst ?_
 refine r_en [] [] [(9, .bool (t.kind == 1)), (8, .bool (t.kind == 1))] rc_nil ?_
 refine W_cd (b := t.kind == 1) (fun hc2 => ?_) (fun hc2 => ?_)
 ·skip
  rw [if_pos (show t.kind = 1 by simpa using hc2)] at h
  simp only [Option.some.injEq] at h; subst h
  refine W_seq ?_
  refine W_rg [(.p, 0), (.p, 1), (.p, 2), (.l, 3), (.p, 4), (.f, 5), (.p, 6)] hst ?_
  refine r_sg [(.p, 0), (.p, 1), (.p, 2), (.l, 3), (.p, 4)] [[.int .i64 t.num]] [(⟨b1, 1, none⟩, .int .i64 t.num)] [(10, .int .i64 n), (11, .int .i64 (IntKind.wrap .i64 (n - 1))), (12, .pointer (some ⟨b1, 1, none⟩)), (13, .int .i64 t.num), (14, .int .i64 (IntKind.wrap .i64 ((IntKind.wrap .i64 (n - 1)) - t.num)))] (rc_L 0 rfl rfl rc_nil) ?_
  refine m_cl #[.int .i64 (IntKind.wrap .i64 ((IntKind.wrap .i64 (n - 1)) - t.num))] (some 15) (c90 hst) ?_
  rintro _ w1 ⟨rfl, hst⟩
  refine nx hst ?_
  refine r_en [] [] [(4, .string (bs (rletter (IntKind.wrap .i64 ((IntKind.wrap .i64 (n - 1)) - t.num)))))] rc_nil ?_
  refine W_ret ?_
  refine q_rt [] [] (.string (bs (rletter (IntKind.wrap .i64 ((IntKind.wrap .i64 (n - 1)) - t.num))))) rc_nil hst ?_
  exact ⟨rfl, hst.drop [_]⟩
 ·skip
  rw [if_neg (show ¬t.kind = 1 by simpa using hc2)] at h
  refine W_seq ?_
  refine W_rg [(.p, 0), (.p, 1)] hst ?_
  refine r_en [] [] [(17, .bool (t.kind == 4)), (16, .bool (t.kind == 4))] rc_nil ?_
  refine W_cd (b := t.kind == 4) (fun hc3 => ?_) (fun hc3 => ?_)
  ·skip
   rw [if_pos (show t.kind = 4 by simpa using hc3)] at h
   split at h
   case h_2 => cases h
   rename_i u _ hku
   obtain ⟨su, hsu, h⟩ := Option.bind_eq_some_iff.1 h
   obtain ⟨hcap, rfl⟩ := cap_some h
   have hqu : t.kids[0]? = some u := by rw [hku]; rfl
   have hlt0 : 0 < t.kids.length := by rw [hku]; simp
   simp only [List.length_append, List.length_cons, List.length_nil] at hcap
   have hstk := hst
   obtain ⟨eb1, eo1, uA, uc, rfl, hu0, hu1, hu2, hup⟩ := (htk).elem hqu
   have hst := hstk; clear hstk
   refine W_seq ?_
   refine W_rgd [(.p, 0), (.p, 4), (.l, 5), (.p, 6), (.l, 7), (.p, 8), (.p, 9), (.e, 1), (.p, 2), (.p, 3), (.f, 10), (.p, 11), (.p, 12)] hst (fun w1 hst => ?_)
   refine r_sg [(.p, 0), (.p, 4), (.l, 5)] [[.slice (some ⟨eb1, eo1, none⟩) t.kids.length tc]] [(⟨b1, 2, none⟩, .slice (some ⟨eb1, eo1, none⟩) t.kids.length tc)] [(18, .int .i64 n), (22, .pointer (some ⟨b1, 2, none⟩)), (23, .slice (some ⟨eb1, eo1, none⟩) t.kids.length tc)] (rc_L 0 rfl rfl rc_nil) ?_
   refine m_idx (sz := 3) (b := eb1) (off := eo1) (n := t.kids.length) (c := tc) (k := 0) (some 24) (show opAt _ _ _ = some (.indexAddr 22 (.tmp 23) (.const (.int .i64 0)), _) by kernel_rfl) (by kernel_rfl) (by kernel_rfl) Try.underlying22 sz24 hlt0 ?_
   refine r_sg [(.l, 7), (.p, 8), (.p, 9)] [[.int .i64 u.kind, .int .i64 u.num, .slice uA u.kids.length uc]] [(⟨eb1, eo1 + 0 * 3, none⟩, .int .i64 u.kind), (⟨eb1, eo1 + 0 * 3 + 1, none⟩, .int .i64 u.num), (⟨eb1, eo1 + 0 * 3 + 2, none⟩, .slice uA u.kids.length uc)] [(25, .agg #[.int .i64 u.kind, .int .i64 u.num, .slice uA u.kids.length uc]), (26, .int .i64 n), (27, .int .i64 (IntKind.wrap .i64 (n + 1)))] (rc_C hu0 (rc_C hu1 (rc_C hu2 rc_nil))) ?_
   refine m_callE #[.int .i64 n] (some 19) (by kernel_rfl) (c90 hst) ?_
   rintro _ w1 ⟨rfl, hst⟩
   refine ⟨hst.ss' (Le.refl _) (fun _ hp => hp), ?_⟩
   refine m_strAdd (a := [97, 108, 108, 32]) (b := rletter (n)) (d := (some 20)) (show opAt _ _ _ = some (.binOp .add 9 (.const (.string (bs [97, 108, 108, 32]))) (.tmp 19) 9, _) by kernel_rfl) (by kernel_rfl) (by kernel_rfl) (by simp only [List.length_append, List.length_cons, List.length_nil, rletter]; omega) ?_
   refine m_strAdd (a := ([97, 108, 108, 32]) ++ (rletter (n))) (b := [46, 32]) (d := (some 21)) (show opAt _ _ _ = some (.binOp .add 9 (.tmp 20) (.const (.string (bs [46, 32]))) 9, _) by kernel_rfl) (by kernel_rfl) (by kernel_rfl) (by simp only [List.length_append, List.length_cons, List.length_nil, rletter]; omega) ?_
   refine m_cl #[.agg #[.int .i64 u.kind, .int .i64 u.num, .slice uA u.kids.length uc], .int .i64 (IntKind.wrap .i64 (n + 1))] (some 28) (ih hup hsu hst) ?_
   rintro _ w1 ⟨rfl, hst⟩
   refine nx hst ?_
   refine m_strAdd (a := (([97, 108, 108, 32]) ++ (rletter (n))) ++ ([46, 32])) (b := su) (d := (some 29)) (show opAt _ _ _ = some (.binOp .add 9 (.tmp 21) (.tmp 28) 9, _) by kernel_rfl) (by kernel_rfl) (by kernel_rfl) (by simp only [List.length_append, List.length_cons, List.length_nil, rletter]; omega) ?_
   refine r_en [] [] [(4, .string (bs (((([97, 108, 108, 32]) ++ (rletter (n))) ++ ([46, 32])) ++ su)))] rc_nil ?_
   refine W_ret ?_
   refine q_rt [] [] (.string (bs (((([97, 108, 108, 32]) ++ (rletter (n))) ++ ([46, 32])) ++ su))) rc_nil hst ?_
   exact ⟨rfl, hst.drop [_]⟩
  ·skip
   rw [if_neg (show ¬t.kind = 4 by simpa using hc3)] at h
   refine W_seq ?_
   refine W_rg [(.p, 0), (.p, 1)] hst ?_
   refine r_en [] [] [(31, .bool (t.kind == 3)), (30, .bool (t.kind == 3))] rc_nil ?_
   refine W_cd (b := t.kind == 3) (fun hc4 => ?_) (fun hc4 => ?_)
   ·skip
    rw [if_pos (show t.kind = 3 by simpa using hc4)] at h
    split at h
    case h_2 => cases h
    rename_i u p _ hku
    obtain ⟨su, hsu, h⟩ := Option.bind_eq_some_iff.1 h
    obtain ⟨sp, hsp, h⟩ := Option.bind_eq_some_iff.1 h
    obtain ⟨hcap, rfl⟩ := cap_some h
    have hqu : t.kids[0]? = some u := by rw [hku]; rfl
    have hqp : t.kids[1]? = some p := by rw [hku]; rfl
    have hlt0 : 0 < t.kids.length := by rw [hku]; simp
    have hlt1 : 1 < t.kids.length := by rw [hku]; simp
    have hstk := hst
    obtain ⟨eb1, eo1, uA, uc, rfl, hu0, hu1, hu2, hup⟩ := (htk).elem hqu
    have hst := hstk; clear hstk
    obtain ⟨_, _, pA, pc, hxp, hp0, hp1, hp2, hpp⟩ := htk.elem hqp; cases hxp
    refine W_seq ?_
    refine W_rg [(.p, 0), (.l, 1), (.p, 2), (.l, 3), (.p, 4), (.f, 5), (.p, 6)] hst ?_
    refine r_sg [(.p, 0), (.l, 1)] [[.slice (some ⟨eb1, eo1, none⟩) t.kids.length tc]] [(⟨b1, 2, none⟩, .slice (some ⟨eb1, eo1, none⟩) t.kids.length tc)] [(32, .pointer (some ⟨b1, 2, none⟩)), (33, .slice (some ⟨eb1, eo1, none⟩) t.kids.length tc)] (rc_L 0 rfl rfl rc_nil) ?_
    refine m_idx (sz := 3) (b := eb1) (off := eo1) (n := t.kids.length) (c := tc) (k := 0) (some 34) (show opAt _ _ _ = some (.indexAddr 22 (.tmp 33) (.const (.int .i64 0)), _) by kernel_rfl) (by kernel_rfl) (by kernel_rfl) Try.underlying22 sz24 hlt0 ?_
    refine r_sg [(.l, 3), (.p, 4)] [[.int .i64 u.kind, .int .i64 u.num, .slice uA u.kids.length uc]] [(⟨eb1, eo1 + 0 * 3, none⟩, .int .i64 u.kind), (⟨eb1, eo1 + 0 * 3 + 1, none⟩, .int .i64 u.num), (⟨eb1, eo1 + 0 * 3 + 2, none⟩, .slice uA u.kids.length uc)] [(35, .agg #[.int .i64 u.kind, .int .i64 u.num, .slice uA u.kids.length uc]), (36, .int .i64 n)] (rc_C hu0 (rc_C hu1 (rc_C hu2 rc_nil))) ?_
    refine m_cl #[.agg #[.int .i64 u.kind, .int .i64 u.num, .slice uA u.kids.length uc], .int .i64 n] (some 37) (ih hup hsu hst) ?_
    rintro _ w1 ⟨rfl, hst⟩
    refine nx hst ?_
    refine r_en [] [] [(5, .string (bs su))] rc_nil ?_
    refine W_seq ?_
    refine W_seq ?_
    refine W_rg [(.p, 0), (.l, 1), (.p, 2), (.p, 3), (.l, 4), (.p, 5), (.p, 6), (.p, 7), (.l, 8), (.p, 9), (.p, 10), (.l, 11), (.p, 12), (.p, 13)] hst ?_
    refine r_sg [(.p, 0), (.l, 1)] [[.slice (some ⟨eb1, eo1, none⟩) t.kids.length tc]] [(⟨b1, 2, none⟩, .slice (some ⟨eb1, eo1, none⟩) t.kids.length tc)] [(38, .pointer (some ⟨b1, 2, none⟩)), (39, .slice (some ⟨eb1, eo1, none⟩) t.kids.length tc)] (rc_L 0 rfl rfl rc_nil) ?_
    refine m_idx (sz := 3) (b := eb1) (off := eo1) (n := t.kids.length) (c := tc) (k := 0) (some 40) (show opAt _ _ _ = some (.indexAddr 22 (.tmp 39) (.const (.int .i64 0)), _) by kernel_rfl) (by kernel_rfl) (by kernel_rfl) Try.underlying22 sz24 hlt0 ?_
    refine r_sg [(.p, 3), (.l, 4), (.p, 5), (.p, 6)] [[.int .i64 u.kind]] [(⟨eb1, eo1 + 0 * 3, none⟩, .int .i64 u.kind)] [(41, .pointer (some ⟨eb1, eo1 + 0 * 3, none⟩)), (42, .int .i64 u.kind), (43, .bool (u.kind == 3)), (44, .bool (u.kind == 3))] (rc_C hu0 rc_nil) ?_
    rcases Bool.eq_false_or_eq_true (u.kind == 3) with hc5 | hc5
    ·rw [hc5]
     have hp6 := hc5
     simp only [decide_eq_true_eq, decide_eq_false_iff_not, beq_iff_eq, beq_eq_false_iff_ne, bne_iff_ne, bne_eq_false_iff_eq, Bool.not_eq_true', Bool.not_eq_false', Bool.and_eq_true, Bool.and_eq_false_iff, ne_eq] at hp6
     rw [if_pos (by omega)] at hcap ⊢
     simp only [List.length_append, List.length_cons, List.length_nil] at hcap
     refine r_en [] [] [(45, undef), (46, undef), (47, undef), (48, undef), (49, undef), (50, undef), (51, .bool true)] rc_nil ?_
     refine W_cT ?_
     refine W_rg [(.p, 0), (.p, 1), (.p, 2), (.p, 3)] hst ?_
     refine r_sg [(.p, 0)] [] [] [(52, .string (bs su))] rc_nil ?_
     refine m_strAdd (a := [40]) (b := su) (d := (some 53)) (show opAt _ _ _ = some (.binOp .add 9 (.const (.string (bs [40]))) (.tmp 52) 9, _) by kernel_rfl) (by kernel_rfl) (by kernel_rfl) (by simp only [List.length_append, List.length_cons, List.length_nil, rletter]; omega) ?_
     refine m_strAdd (a := ([40]) ++ su) (b := [41]) (d := (some 54)) (show opAt _ _ _ = some (.binOp .add 9 (.tmp 53) (.const (.string (bs [41]))) 9, _) by kernel_rfl) (by kernel_rfl) (by kernel_rfl) (by simp only [List.length_append, List.length_cons, List.length_nil, rletter]; omega) ?_
     refine r_en [] [] [(5, .string (bs ((([40]) ++ su) ++ ([41]))))] rc_nil ?_
     refine W_seq ?_
     refine W_rg [(.p, 0), (.p, 1), (.p, 2), (.l, 3), (.p, 4), (.l, 5), (.p, 6), (.f, 7), (.p, 8), (.p, 9)] hst ?_
     refine r_sg [(.p, 0)] [] [] [(55, .string (bs ((([40]) ++ su) ++ ([41]))))] rc_nil ?_
     refine m_strAdd (a := (([40]) ++ su) ++ ([41])) (b := [32, 45, 62, 32]) (d := (some 56)) (show opAt _ _ _ = some (.binOp .add 9 (.tmp 55) (.const (.string (bs [32, 45, 62, 32]))) 9, _) by kernel_rfl) (by kernel_rfl) (by kernel_rfl) (by simp only [List.length_append, List.length_cons, List.length_nil, rletter]; omega) ?_
     refine r_sg [(.p, 2), (.l, 3)] [[.slice (some ⟨eb1, eo1, none⟩) t.kids.length tc]] [(⟨b1, 2, none⟩, .slice (some ⟨eb1, eo1, none⟩) t.kids.length tc)] [(57, .pointer (some ⟨b1, 2, none⟩)), (58, .slice (some ⟨eb1, eo1, none⟩) t.kids.length tc)] (rc_L 0 rfl rfl rc_nil) ?_
     refine m_idx (sz := 3) (b := eb1) (off := eo1) (n := t.kids.length) (c := tc) (k := 1) (some 59) (show opAt _ _ _ = some (.indexAddr 22 (.tmp 58) (.const (.int .i64 1)), _) by kernel_rfl) (by kernel_rfl) (by kernel_rfl) Try.underlying22 sz24 hlt1 ?_
     refine r_sg [(.l, 5), (.p, 6)] [[.int .i64 p.kind, .int .i64 p.num, .slice pA p.kids.length pc]] [(⟨eb1, eo1 + 1 * 3, none⟩, .int .i64 p.kind), (⟨eb1, eo1 + 1 * 3 + 1, none⟩, .int .i64 p.num), (⟨eb1, eo1 + 1 * 3 + 2, none⟩, .slice pA p.kids.length pc)] [(60, .agg #[.int .i64 p.kind, .int .i64 p.num, .slice pA p.kids.length pc]), (61, .int .i64 n)] (rc_C hp0 (rc_C hp1 (rc_C hp2 rc_nil))) ?_
     refine m_cl #[.agg #[.int .i64 p.kind, .int .i64 p.num, .slice pA p.kids.length pc], .int .i64 n] (some 62) (ih hpp hsp hst) ?_
     rintro _ w1 ⟨rfl, hst⟩
     refine nx hst ?_
     refine m_strAdd (a := ((([40]) ++ su) ++ ([41])) ++ ([32, 45, 62, 32])) (b := sp) (d := (some 63)) (show opAt _ _ _ = some (.binOp .add 9 (.tmp 56) (.tmp 62) 9, _) by kernel_rfl) (by kernel_rfl) (by kernel_rfl) (by simp only [List.length_append, List.length_cons, List.length_nil, rletter]; omega) ?_
     refine r_en [] [] [(4, .string (bs ((((([40]) ++ su) ++ ([41])) ++ ([32, 45, 62, 32])) ++ sp)))] rc_nil ?_
     refine W_ret ?_
     refine q_rt [] [] (.string (bs ((((([40]) ++ su) ++ ([41])) ++ ([32, 45, 62, 32])) ++ sp))) rc_nil hst ?_
     exact ⟨rfl, hst.drop [_]⟩
    ·rw [hc5]
     have hp7 := hc5
     simp only [decide_eq_true_eq, decide_eq_false_iff_not, beq_iff_eq, beq_eq_false_iff_ne, bne_iff_ne, bne_eq_false_iff_eq, Bool.not_eq_true', Bool.not_eq_false', Bool.and_eq_true, Bool.and_eq_false_iff, ne_eq] at hp7
     refine r_sg [(.p, 7), (.l, 8)] [[.slice (some ⟨eb1, eo1, none⟩) t.kids.length tc]] [(⟨b1, 2, none⟩, .slice (some ⟨eb1, eo1, none⟩) t.kids.length tc)] [(45, .pointer (some ⟨b1, 2, none⟩)), (46, .slice (some ⟨eb1, eo1, none⟩) t.kids.length tc)] (rc_L 0 rfl rfl rc_nil) ?_
     refine m_idx (sz := 3) (b := eb1) (off := eo1) (n := t.kids.length) (c := tc) (k := 0) (some 47) (show opAt _ _ _ = some (.indexAddr 22 (.tmp 46) (.const (.int .i64 0)), _) by kernel_rfl) (by kernel_rfl) (by kernel_rfl) Try.underlying22 sz24 hlt0 ?_
     refine r_en [[.int .i64 u.kind]] [(⟨eb1, eo1 + 0 * 3, none⟩, .int .i64 u.kind)] [(48, .pointer (some ⟨eb1, eo1 + 0 * 3, none⟩)), (49, .int .i64 u.kind), (50, .bool (u.kind == 4)), (51, .bool (u.kind == 4))] (rc_C hu0 rc_nil) ?_
     refine W_cd (b := u.kind == 4) (fun hc8 => ?_) (fun hc8 => ?_)
     ·skip
      have hp9 := hc8
      simp only [decide_eq_true_eq, decide_eq_false_iff_not, beq_iff_eq, beq_eq_false_iff_ne, bne_iff_ne, bne_eq_false_iff_eq, Bool.not_eq_true', Bool.not_eq_false', Bool.and_eq_true, Bool.and_eq_false_iff, ne_eq] at hp9
      rw [if_pos (by omega)] at hcap ⊢
      simp only [List.length_append, List.length_cons, List.length_nil] at hcap
      refine W_rg [(.p, 0), (.p, 1), (.p, 2), (.p, 3)] hst ?_
      refine r_sg [(.p, 0)] [] [] [(52, .string (bs su))] rc_nil ?_
      refine m_strAdd (a := [40]) (b := su) (d := (some 53)) (show opAt _ _ _ = some (.binOp .add 9 (.const (.string (bs [40]))) (.tmp 52) 9, _) by kernel_rfl) (by kernel_rfl) (by kernel_rfl) (by simp only [List.length_append, List.length_cons, List.length_nil, rletter]; omega) ?_
      refine m_strAdd (a := ([40]) ++ su) (b := [41]) (d := (some 54)) (show opAt _ _ _ = some (.binOp .add 9 (.tmp 53) (.const (.string (bs [41]))) 9, _) by kernel_rfl) (by kernel_rfl) (by kernel_rfl) (by simp only [List.length_append, List.length_cons, List.length_nil, rletter]; omega) ?_
      refine r_en [] [] [(5, .string (bs ((([40]) ++ su) ++ ([41]))))] rc_nil ?_
      refine W_seq ?_
      refine W_rg [(.p, 0), (.p, 1), (.p, 2), (.l, 3), (.p, 4), (.l, 5), (.p, 6), (.f, 7), (.p, 8), (.p, 9)] hst ?_
      refine r_sg [(.p, 0)] [] [] [(55, .string (bs ((([40]) ++ su) ++ ([41]))))] rc_nil ?_
      refine m_strAdd (a := (([40]) ++ su) ++ ([41])) (b := [32, 45, 62, 32]) (d := (some 56)) (show opAt _ _ _ = some (.binOp .add 9 (.tmp 55) (.const (.string (bs [32, 45, 62, 32]))) 9, _) by kernel_rfl) (by kernel_rfl) (by kernel_rfl) (by simp only [List.length_append, List.length_cons, List.length_nil, rletter]; omega) ?_
      refine r_sg [(.p, 2), (.l, 3)] [[.slice (some ⟨eb1, eo1, none⟩) t.kids.length tc]] [(⟨b1, 2, none⟩, .slice (some ⟨eb1, eo1, none⟩) t.kids.length tc)] [(57, .pointer (some ⟨b1, 2, none⟩)), (58, .slice (some ⟨eb1, eo1, none⟩) t.kids.length tc)] (rc_L 0 rfl rfl rc_nil) ?_
      refine m_idx (sz := 3) (b := eb1) (off := eo1) (n := t.kids.length) (c := tc) (k := 1) (some 59) (show opAt _ _ _ = some (.indexAddr 22 (.tmp 58) (.const (.int .i64 1)), _) by kernel_rfl) (by kernel_rfl) (by kernel_rfl) Try.underlying22 sz24 hlt1 ?_
      refine r_sg [(.l, 5), (.p, 6)] [[.int .i64 p.kind, .int .i64 p.num, .slice pA p.kids.length pc]] [(⟨eb1, eo1 + 1 * 3, none⟩, .int .i64 p.kind), (⟨eb1, eo1 + 1 * 3 + 1, none⟩, .int .i64 p.num), (⟨eb1, eo1 + 1 * 3 + 2, none⟩, .slice pA p.kids.length pc)] [(60, .agg #[.int .i64 p.kind, .int .i64 p.num, .slice pA p.kids.length pc]), (61, .int .i64 n)] (rc_C hp0 (rc_C hp1 (rc_C hp2 rc_nil))) ?_
      refine m_cl #[.agg #[.int .i64 p.kind, .int .i64 p.num, .slice pA p.kids.length pc], .int .i64 n] (some 62) (ih hpp hsp hst) ?_
      rintro _ w1 ⟨rfl, hst⟩
      refine nx hst ?_
      refine m_strAdd (a := ((([40]) ++ su) ++ ([41])) ++ ([32, 45, 62, 32])) (b := sp) (d := (some 63)) (show opAt _ _ _ = some (.binOp .add 9 (.tmp 56) (.tmp 62) 9, _) by kernel_rfl) (by kernel_rfl) (by kernel_rfl) (by simp only [List.length_append, List.length_cons, List.length_nil, rletter]; omega) ?_
      refine r_en [] [] [(4, .string (bs ((((([40]) ++ su) ++ ([41])) ++ ([32, 45, 62, 32])) ++ sp)))] rc_nil ?_
      refine W_ret ?_
      refine q_rt [] [] (.string (bs ((((([40]) ++ su) ++ ([41])) ++ ([32, 45, 62, 32])) ++ sp))) rc_nil hst ?_
      exact ⟨rfl, hst.drop [_]⟩
     ·skip
      have hp10 := hc8
      simp only [decide_eq_true_eq, decide_eq_false_iff_not, beq_iff_eq, beq_eq_false_iff_ne, bne_iff_ne, bne_eq_false_iff_eq, Bool.not_eq_true', Bool.not_eq_false', Bool.and_eq_true, Bool.and_eq_false_iff, ne_eq] at hp10
      rw [if_neg (by omega)] at hcap ⊢
      simp only [List.length_append, List.length_cons, List.length_nil] at hcap
      refine W_skip ?_
      refine W_seq ?_
      refine W_rg [(.p, 0), (.p, 1), (.p, 2), (.l, 3), (.p, 4), (.l, 5), (.p, 6), (.f, 7), (.p, 8), (.p, 9)] hst ?_
      refine r_sg [(.p, 0)] [] [] [(55, .string (bs su))] rc_nil ?_
      refine m_strAdd (a := su) (b := [32, 45, 62, 32]) (d := (some 56)) (show opAt _ _ _ = some (.binOp .add 9 (.tmp 55) (.const (.string (bs [32, 45, 62, 32]))) 9, _) by kernel_rfl) (by kernel_rfl) (by kernel_rfl) (by simp only [List.length_append, List.length_cons, List.length_nil, rletter]; omega) ?_
      refine r_sg [(.p, 2), (.l, 3)] [[.slice (some ⟨eb1, eo1, none⟩) t.kids.length tc]] [(⟨b1, 2, none⟩, .slice (some ⟨eb1, eo1, none⟩) t.kids.length tc)] [(57, .pointer (some ⟨b1, 2, none⟩)), (58, .slice (some ⟨eb1, eo1, none⟩) t.kids.length tc)] (rc_L 0 rfl rfl rc_nil) ?_
      refine m_idx (sz := 3) (b := eb1) (off := eo1) (n := t.kids.length) (c := tc) (k := 1) (some 59) (show opAt _ _ _ = some (.indexAddr 22 (.tmp 58) (.const (.int .i64 1)), _) by kernel_rfl) (by kernel_rfl) (by kernel_rfl) Try.underlying22 sz24 hlt1 ?_
      refine r_sg [(.l, 5), (.p, 6)] [[.int .i64 p.kind, .int .i64 p.num, .slice pA p.kids.length pc]] [(⟨eb1, eo1 + 1 * 3, none⟩, .int .i64 p.kind), (⟨eb1, eo1 + 1 * 3 + 1, none⟩, .int .i64 p.num), (⟨eb1, eo1 + 1 * 3 + 2, none⟩, .slice pA p.kids.length pc)] [(60, .agg #[.int .i64 p.kind, .int .i64 p.num, .slice pA p.kids.length pc]), (61, .int .i64 n)] (rc_C hp0 (rc_C hp1 (rc_C hp2 rc_nil))) ?_
      refine m_cl #[.agg #[.int .i64 p.kind, .int .i64 p.num, .slice pA p.kids.length pc], .int .i64 n] (some 62) (ih hpp hsp hst) ?_
      rintro _ w1 ⟨rfl, hst⟩
      refine nx hst ?_
      refine m_strAdd (a := su ++ ([32, 45, 62, 32])) (b := sp) (d := (some 63)) (show opAt _ _ _ = some (.binOp .add 9 (.tmp 56) (.tmp 62) 9, _) by kernel_rfl) (by kernel_rfl) (by kernel_rfl) (by simp only [List.length_append, List.length_cons, List.length_nil, rletter]; omega) ?_
      refine r_en [] [] [(4, .string (bs ((su ++ ([32, 45, 62, 32])) ++ sp)))] rc_nil ?_
      refine W_ret ?_
      refine q_rt [] [] (.string (bs ((su ++ ([32, 45, 62, 32])) ++ sp))) rc_nil hst ?_
      exact ⟨rfl, hst.drop [_]⟩
   ·skip
    rw [if_neg (show ¬t.kind = 3 by simpa using hc4)] at h
    simp only [Option.some.injEq] at h; subst h
    refine W_skip ?_
    refine W_seq ?_
    refine W_rg [(.p, 0)] hst ?_
    refine r_en [] [] [(4, .string (bs [78]))] rc_nil ?_
    refine W_ret ?_
    refine q_rt [] [] (.string (bs [78])) rc_nil hst ?_
    exact ⟨rfl, hst.drop [_]⟩

theorem c15 {f : Nat} {G : GH} {L : LH} {w : World} {v : Value} {t : T} {r : List UInt8} {e : Int} (hz : T.sz t < lim) (hv : IsPoly G v t) (hst : St G L w) (h : Md.rPrint f t = some (r, e)) :
  Cal Try.prog 15 #[v] w fun x w' => x = .tuple #[.string (bs r), .int .i64 e] ∧ St G L w' := by
 unfold Md.rPrint at h
 obtain ⟨tA, tc, rfl, htc, htk⟩ := id hv.open
 refine cal_of_W Try.func15 rfl (Nat.le_of_ble_eq_true (by kernel_rfl)) ?_
 refine W_seq ?_
 refine W_rg [(.f, 0), (.p, 1), (.p, 2)] hst ?_
 refine m_new (.cells #[.int .i64 t.kind, .int .i64 t.num, .slice tA t.kids.length tc] 24) (fun b1 => .pointer (some ⟨b1, 0, none⟩)) (some 1) (fun b => by kernel_rfl) hst (fun b1 w1 hst => ?_)
 refine r_en [] [] [(2, .string (bs [])), (3, .int .i64 0)] rc_nil ?_
 refine W_seq ?_
 refine W_seq ?_
 refine W_rg [(.l, 0), (.f, 1), (.p, 2)] hst ?_
 refine r_sg [(.l, 0)] [[.int .i64 t.kind, .int .i64 t.num, .slice tA t.kids.length tc]] [(⟨b1, 0, none⟩, .int .i64 t.kind), (⟨b1, 1, none⟩, .int .i64 t.num), (⟨b1, 2, none⟩, .slice tA t.kids.length tc)] [(5, .agg #[.int .i64 t.kind, .int .i64 t.num, .slice tA t.kids.length tc])] (rc_L 0 rfl rfl (rc_L 0 rfl rfl (rc_L 0 rfl rfl rc_nil))) ?_
 refine m_cl #[.agg #[.int .i64 t.kind, .int .i64 t.num, .slice tA t.kids.length tc], .int .i64 0] (some 6) (c41 hz hv hst) ?_
 rintro _ w1 ⟨rfl, hst⟩
 refine nx hst ?_
 refine r_en [] [] [(4, .int .i64 (rRight t 0))] rc_nil ?_
 refine W_seq ?_
 refine W_rg [(.p, 0), (.p, 1)] hst ?_
 refine r_en [] [] [(7, .int .i64 (rRight t 0)), (8, .bool ((rRight t 0) != 0))] rc_nil ?_
 refine W_cd (b := (rRight t 0) != 0) (fun hc2 => ?_) (fun hc2 => ?_)
 ·skip
  rw [if_pos (by simpa using hc2)] at h; simp only [Option.some.injEq, Prod.mk.injEq] at h; obtain ⟨rfl, rfl⟩ := h
  refine W_seq ?_
  refine W_rg [(.p, 0), (.p, 1), (.p, 2)] hst ?_
  refine r_en [] [] [(9, .int .i64 (rRight t 0)), (2, .string (bs [])), (3, .int .i64 (rRight t 0))] rc_nil ?_
  refine W_ret ?_
  refine q_rt [] [] (.tuple #[.string (bs []), .int .i64 (rRight t 0)]) rc_nil hst ?_
  exact ⟨rfl, hst.drop [_]⟩
 ·skip
  rw [if_neg (by simpa using hc2)] at h; obtain ⟨r0, hr0, h⟩ := Option.bind_eq_some_iff.1 h; simp only [Option.some.injEq, Prod.mk.injEq] at h; obtain ⟨rfl, rfl⟩ := h
  refine W_skip ?_
  refine W_seq ?_
  refine W_rg [(.l, 0), (.f, 1), (.p, 2), (.p, 3)] hst ?_
  refine r_sg [(.l, 0)] [[.int .i64 t.kind, .int .i64 t.num, .slice tA t.kids.length tc]] [(⟨b1, 0, none⟩, .int .i64 t.kind), (⟨b1, 1, none⟩, .int .i64 t.num), (⟨b1, 2, none⟩, .slice tA t.kids.length tc)] [(10, .agg #[.int .i64 t.kind, .int .i64 t.num, .slice tA t.kids.length tc])] (rc_L 0 rfl rfl (rc_L 0 rfl rfl (rc_L 0 rfl rfl rc_nil))) ?_
  refine m_cl #[.agg #[.int .i64 t.kind, .int .i64 t.num, .slice tA t.kids.length tc], .int .i64 0] (some 11) (c58 _ hv hr0 hst) ?_
  rintro _ w1 ⟨rfl, hst⟩
  refine nx hst ?_
  refine r_en [] [] [(2, .string (bs r0)), (3, .int .i64 0)] rc_nil ?_
  refine W_ret ?_
  refine q_rt [] [] (.tuple #[.string (bs r0), .int .i64 0]) rc_nil hst ?_
  exact ⟨rfl, hst.drop [_]⟩

end Go.Proofs.Ytjgnhhgigickaaa.Wk
/- Walks of the given program's functions: the reference reads a text. Printed by tools/w32.py. Conditions: none. -/

namespace Go.Proofs.Ytjgnhhgigickaaa.Wk
open Go Md
set_option maxRecDepth 20000
set_option linter.unusedVariables false
set_option linter.unusedSimpArgs false
attribute [local irreducible] endQ

theorem c96 {G : GH} {L : LH} {w : World} {pb at_ : Nat} {s : List UInt8} {wr : Bool} {c : UInt8} (hat : at_ ≤ s.length) (hst : St G ((pb, .cells #[.string (bs s), .int .i64 ((at_ : Nat) : Int), .bool wr] 91) :: L) w) :
  Cal Try.prog 96 #[.pointer (some ⟨pb, 0, none⟩), .int .u8 ((c.toNat : Nat) : Int)] w fun x w' => x = .bool (decide (s[at_]? = some c)) ∧ St G ((pb, .cells #[.string (bs s), .int .i64 ((at_ : Nat) : Int), .bool wr] 91) :: L) w' := by
 refine cal_of_W Try.func96 rfl (Nat.le_of_ble_eq_true (by kernel_rfl)) ?_
 refine W_seq ?_
 refine W_rg [(.p, 0)] hst ?_
 refine r_en [] [] [(4, .bool false)] rc_nil ?_
 refine W_seq ?_
 refine W_rgd [(.p, 0), (.p, 1), (.p, 2), (.l, 3), (.p, 4), (.p, 5), (.p, 6), (.l, 7), (.p, 8), (.p, 9), (.p, 10), (.p, 11), (.p, 12), (.p, 13), (.l, 14), (.p, 15), (.p, 16), (.p, 17), (.l, 18), (.p, 19), (.p, 20), (.p, 21), (.p, 22), (.p, 23)] hst (fun w1 hst => ?_)
 refine r_sg [(.p, 0), (.p, 1), (.p, 2), (.l, 3), (.p, 4), (.p, 5), (.p, 6), (.l, 7), (.p, 8), (.p, 9), (.p, 10)] [[.int .i64 (((at_ : Nat) : Int))], [.string (bs s)]] [(⟨pb, 1, none⟩, .int .i64 (((at_ : Nat) : Int))), (⟨pb, 0, none⟩, .string (bs s))] [(5, .pointer (some ⟨pb, 0, none⟩)), (6, .pointer (some ⟨pb, 0, none⟩)), (7, .pointer (some ⟨pb, 1, none⟩)), (8, .int .i64 (((at_ : Nat) : Int))), (9, .pointer (some ⟨pb, 0, none⟩)), (10, .pointer (some ⟨pb, 0, none⟩)), (11, .pointer (some ⟨pb, 0, none⟩)), (12, .string (bs s)), (13, .int .i64 (((s.length : Nat) : Int))), (14, .bool (decide ((((at_ : Nat) : Int)) < (((s.length : Nat) : Int))))), (15, .bool (decide ((((at_ : Nat) : Int)) < (((s.length : Nat) : Int)))))] (rc_L 0 rfl rfl (rc_L 0 rfl rfl rc_nil)) ?_
 rcases Bool.eq_false_or_eq_true (decide ((((at_ : Nat) : Int)) < (((s.length : Nat) : Int)))) with hc1 | hc1
 ·rw [hc1]
  have hlt1 : at_ < s.length := by have := of_decide_eq_true hc1; omega
  obtain ⟨q, hq⟩ := get_of_lt hlt1
  refine r_sg [(.p, 11), (.p, 12), (.p, 13), (.l, 14), (.p, 15), (.p, 16), (.p, 17), (.l, 18)] [[.string (bs s)], [.int .i64 (((at_ : Nat) : Int))]] [(⟨pb, 0, none⟩, .string (bs s)), (⟨pb, 1, none⟩, .int .i64 (((at_ : Nat) : Int)))] [(16, .pointer (some ⟨pb, 0, none⟩)), (17, .pointer (some ⟨pb, 0, none⟩)), (18, .pointer (some ⟨pb, 0, none⟩)), (19, .string (bs s)), (20, .pointer (some ⟨pb, 0, none⟩)), (21, .pointer (some ⟨pb, 0, none⟩)), (22, .pointer (some ⟨pb, 1, none⟩)), (23, .int .i64 (((at_ : Nat) : Int)))] (rc_L 0 rfl rfl (rc_L 0 rfl rfl rc_nil)) ?_
  refine m_strIndex (l := s) (k := at_) (b := q) (d := (some 24)) (show opAt _ _ _ = some (.index 9 (.tmp 19) (.tmp 23), _) by kernel_rfl) (by kernel_rfl) (by kernel_rfl) Try.underlying9 hq ?_
  refine r_en [] [] [(25, .int .u8 (((c.toNat : Nat) : Int))), (26, .bool ((((q.toNat : Nat) : Int)) == (((c.toNat : Nat) : Int)))), (27, .bool ((((q.toNat : Nat) : Int)) == (((c.toNat : Nat) : Int)))), (4, .bool ((((q.toNat : Nat) : Int)) == (((c.toNat : Nat) : Int))))] rc_nil ?_
  refine W_ret ?_
  refine q_rt [] [] (.bool ((((q.toNat : Nat) : Int)) == (((c.toNat : Nat) : Int)))) rc_nil hst ?_
  refine ⟨?_, hst⟩; rw [hq]; congr 1; by_cases hqc : q = c
  ·subst hqc; simp
  ·have : ¬ ((q.toNat : Nat) : Int) = ((c.toNat : Nat) : Int) := fun hx => hqc (UInt8.toNat_inj.1 (by omega))
   simp [hqc, this]
 ·rw [hc1]
  have hq : s[at_]? = none := List.getElem?_eq_none (by have := of_decide_eq_false hc1; omega)
  refine r_en [] [] [(16, undef), (17, undef), (18, undef), (19, undef), (20, undef), (21, undef), (22, undef), (23, undef), (24, undef), (25, undef), (26, undef), (27, .bool false), (4, .bool false)] rc_nil ?_
  refine W_ret ?_
  refine q_rt [] [] (.bool false) rc_nil hst ?_
  exact ⟨by rw [hq]; rfl, hst⟩

def mst (l s : List UInt8) (a : Nat) (b : Bool) : Nat × Bool := if b then (a, true) else ((word l s a).2, !(word l s a).1)
theorem mst_yes {l s : List UInt8} {q : UInt8} {a : Nat} (h : s[a]? = some q) : mst (q :: l) s a false = mst l s (a + 1) false := by
 simp only [mst, word, h, if_true, Bool.false_eq_true, if_false]
theorem mst_no {l s : List UInt8} {q : UInt8} {a : Nat} (h : ¬ s[a]? = some q) : mst (q :: l) s a false = mst l s a true := by
 simp only [mst, word, h, if_true, Bool.false_eq_true, if_false, Bool.not_false]
theorem c98 {G : GH} {L : LH} {w : World} {pb at_ : Nat} {s l : List UInt8} {wr : Bool} (hat : at_ ≤ s.length) (hs : s.length < lim) (hl : l.length < lim) (hst : St G ((pb, .cells #[.string (bs s), .int .i64 ((at_ : Nat) : Int), .bool wr] 91) :: L) w) :
  Cal Try.prog 98 #[.pointer (some ⟨pb, 0, none⟩), .string (bs l)] w fun _ w' => St G ((pb, .cells #[.string (bs s), .int .i64 (((mst l s at_ wr).1 : Nat) : Int), .bool (mst l s at_ wr).2] 91) :: L) w' := by
 have hlim : lim = 1099511627776 := rfl
 refine cal_of_W Try.func98 rfl (Nat.le_of_ble_eq_true (by kernel_rfl)) ?_
 refine W_seq ?_
 refine W_rg [(.p, 0)] hst ?_
 refine r_en [] [] [(4, .int .i64 0)] rc_nil ?_
 refine W_block ?_
 refine W_loop (fun m ρ D w => ∃ (k : Nat) (a : Nat) (b : Bool), EqS ρ [(0, .pointer (some ⟨pb, 0, none⟩)), (1, .string (bs l)), (4, .int .i64 (((k : Nat) : Int)))] ∧ D = [] ∧ St G ((pb, .cells #[.string (bs s), .int .i64 (((a : Nat) : Int)), .bool b] 91) :: L) w ∧ (mst l s at_ wr = mst (l.drop k) s a b) ∧ (a ≤ s.length) ∧ (k ≤ l.length) ∧ l.length - k = m) (l.length - 0) ⟨0, at_, wr, ⟨by kernel_rfl, by kernel_rfl, by kernel_rfl, trivial⟩, rfl, hst, rfl, hat, Nat.zero_le _, rfl⟩ ?_
 clear hst; rintro m1 ρ D w1 ⟨k, a, b, hE2, rfl, hst, hw, ha, hpp, hm3⟩
 refine W_env hE2 ?_
 refine W_seq ?_
 refine W_seq ?_
 refine W_rg [(.p, 0), (.p, 1), (.p, 2), (.p, 3), (.p, 4), (.p, 5), (.p, 6), (.p, 7), (.l, 8), (.p, 9), (.p, 10)] hst ?_
 refine r_sg [(.p, 0), (.p, 1), (.p, 2), (.p, 3), (.p, 4)] [] [] [(5, .int .i64 (((k : Nat) : Int))), (6, .string (bs l)), (7, .int .i64 (((l.length : Nat) : Int))), (8, .bool (decide ((((k : Nat) : Int)) < (((l.length : Nat) : Int))))), (9, .bool (decide ((((k : Nat) : Int)) < (((l.length : Nat) : Int)))))] rc_nil ?_
 rcases Bool.eq_false_or_eq_true (decide ((((k : Nat) : Int)) < (((l.length : Nat) : Int)))) with hc4 | hc4
 ·rw [hc4]
  have hkl : k < l.length := by have := of_decide_eq_true hc4; omega
  obtain ⟨q, hq⟩ := get_of_lt hkl
  refine r_en [[.bool b]] [(⟨pb, 2, none⟩, .bool b)] [(10, .pointer (some ⟨pb, 0, none⟩)), (11, .pointer (some ⟨pb, 0, none⟩)), (12, .pointer (some ⟨pb, 2, none⟩)), (13, .bool b), (14, .bool (!b)), (15, .bool (!b))] (rc_L 0 rfl rfl rc_nil) ?_
  refine W_cd (b := !b) (fun hc5 => ?_) (fun hc5 => ?_)
  ·skip
   have hb : b = false := by simpa using hc5
   subst hb
   rw [drop_cons hq] at hw
   refine W_skip ?_
   refine W_seq ?_
   refine W_block ?_
   refine W_seq ?_
   refine W_rg [(.p, 0), (.p, 1), (.p, 2), (.p, 3), (.f, 4)] hst ?_
   refine r_sg [(.p, 0), (.p, 1), (.p, 2)] [] [] [(18, .pointer (some ⟨pb, 0, none⟩)), (19, .string (bs l)), (20, .int .i64 (((k : Nat) : Int)))] rc_nil ?_
   refine m_strIndex (l := l) (k := k) (b := q) (d := (some 21)) (show opAt _ _ _ = some (.index 9 (.tmp 19) (.tmp 20), _) by kernel_rfl) (by kernel_rfl) (by kernel_rfl) Try.underlying9 hq ?_
   refine m_cl #[.pointer (some ⟨pb, 0, none⟩), .int .u8 (((q.toNat : Nat) : Int))] (some 22) (c96 (c := q) ha hst) ?_
   rintro _ w1 ⟨rfl, hst⟩
   refine nx hst ?_
   refine r_nil ?_
   refine W_cd (b := decide (s[a]? = some q)) (fun hc6 => ?_) (fun hc6 => ?_)
   ·skip
    have hdq : s[a]? = some q := of_decide_eq_true hc6
    have hal := (List.getElem?_eq_some_iff.1 hdq).1
    refine W_rg [(.p, 0), (.p, 1), (.p, 2), (.l, 3), (.p, 4), (.p, 5), (.p, 6), (.f, 7)] hst ?_
    refine r_sg [(.p, 0), (.p, 1), (.p, 2), (.l, 3), (.p, 4), (.p, 5), (.p, 6)] [[.int .i64 (((a : Nat) : Int))]] [(⟨pb, 1, none⟩, .int .i64 (((a : Nat) : Int)))] [(23, .pointer (some ⟨pb, 0, none⟩)), (24, .pointer (some ⟨pb, 0, none⟩)), (25, .pointer (some ⟨pb, 1, none⟩)), (26, .int .i64 (((a : Nat) : Int))), (27, .int .i64 (IntKind.wrap .i64 ((((a : Nat) : Int)) + 1))), (28, .pointer (some ⟨pb, 0, none⟩)), (29, .pointer (some ⟨pb, 1, none⟩))] (rc_L 0 rfl rfl rc_nil) ?_
    refine m_st ((pb, .cells #[.string (bs s), .int .i64 (IntKind.wrap .i64 ((((a : Nat) : Int)) + 1)), .bool false] 91) :: L) 0 [(1, .int .i64 (IntKind.wrap .i64 ((((a : Nat) : Int)) + 1)))] [.string (bs s), .int .i64 (IntKind.wrap .i64 ((((a : Nat) : Int)) + 1)), .bool false] none hst (fun w1 hst => ?_)
    refine r_nil ?_
    refine W_rg [(.p, 0), (.p, 1), (.p, 2)] hst ?_
    refine r_en [] [] [(16, .int .i64 (((k : Nat) : Int))), (17, .int .i64 (IntKind.wrap .i64 ((((k : Nat) : Int)) + 1))), (4, .int .i64 (IntKind.wrap .i64 ((((k : Nat) : Int)) + 1)))] rc_nil ?_
    exact ⟨_, (by omega), k + 1, a + 1, false, ⟨by kernel_rfl, by kernel_rfl, (by rw [← wrap_succ (k := k) (by omega)]; kernel_rfl), trivial⟩, rfl, (by rw [← wrap_succ (k := a) (by omega)]; exact hst), (by rw [hw]; exact mst_yes hdq), (by omega), (by omega), rfl⟩
   ·skip
    have hdq : ¬ s[a]? = some q := of_decide_eq_false hc6
    refine W_rg [(.p, 0), (.p, 1), (.p, 2), (.f, 3)] hst ?_
    refine r_sg [(.p, 0), (.p, 1), (.p, 2)] [] [] [(30, .pointer (some ⟨pb, 0, none⟩)), (31, .pointer (some ⟨pb, 0, none⟩)), (32, .pointer (some ⟨pb, 2, none⟩))] rc_nil ?_
    refine m_st ((pb, .cells #[.string (bs s), .int .i64 (((a : Nat) : Int)), .bool true] 91) :: L) 0 [(2, .bool true)] [.string (bs s), .int .i64 (((a : Nat) : Int)), .bool true] none hst (fun w1 hst => ?_)
    refine r_nil ?_
    refine W_rg [(.p, 0), (.p, 1), (.p, 2)] hst ?_
    refine r_en [] [] [(16, .int .i64 (((k : Nat) : Int))), (17, .int .i64 (IntKind.wrap .i64 ((((k : Nat) : Int)) + 1))), (4, .int .i64 (IntKind.wrap .i64 ((((k : Nat) : Int)) + 1)))] rc_nil ?_
    exact ⟨_, (by omega), k + 1, a, true, ⟨by kernel_rfl, by kernel_rfl, (by rw [← wrap_succ (k := k) (by omega)]; kernel_rfl), trivial⟩, rfl, hst, (by rw [hw]; exact mst_no hdq), ha, (by omega), rfl⟩
  ·skip
   have hb : b = true := by simpa using hc5
   subst hb
   refine W_exit ?_
   refine q_end [] [] (.tuple #[]) (by kernel_rfl) rc_nil hst ?_
   rw [hw]; exact hst
 ·rw [hc4]
  rw [List.drop_of_length_le (by have := of_decide_eq_false hc4; omega)] at hw
  refine r_en [] [] [(10, undef), (11, undef), (12, undef), (13, undef), (14, undef), (15, .bool false)] rc_nil ?_
  refine W_cF ?_
  refine W_exit ?_
  refine q_end [] [] (.tuple #[]) (by kernel_rfl) rc_nil hst ?_
  have hwn : mst ([] : List UInt8) s a b = (a, b) := by unfold mst; cases b <;> rfl
  rw [hw, hwn]; exact hst

theorem c99 {G : GH} {L : LH} {w : World} {va vb : Value} {a b : T} (hva : IsPoly G va a) (hvb : IsPoly G vb b) (hst : St G L w) :
  Cal Try.prog 99 #[va, vb] w fun x w' => ∃ G' A, x = .agg #[.int .i64 3, .int .i64 0, .slice A 2 2] ∧ Le G G' ∧ IsPoly G' (.agg #[.int .i64 3, .int .i64 0, .slice A 2 2]) (.mk 3 0 [a, b]) ∧ St G' L w' := by
 obtain ⟨aA, ac, rfl, hac, hak⟩ := id hva.open
 obtain ⟨bA, bc, rfl, hbc, hbk⟩ := id hvb.open
 refine cal_of_W Try.func99 rfl (Nat.le_of_ble_eq_true (by kernel_rfl)) ?_
 refine W_seq ?_
 refine W_rg [(.f, 0), (.f, 1), (.f, 2)] hst ?_
 refine m_new (.cells #[.int .i64 a.kind, .int .i64 a.num, .slice aA a.kids.length ac] 24) (fun b1 => .pointer (some ⟨b1, 0, none⟩)) (some 2) (fun b => by kernel_rfl) hst (fun b1 w1 hst => ?_)
 refine m_new (.cells #[.int .i64 b.kind, .int .i64 b.num, .slice bA b.kids.length bc] 24) (fun b2 => .pointer (some ⟨b2, 0, none⟩)) (some 3) (fun b => by kernel_rfl) hst (fun b2 w1 hst => ?_)
 refine m_new (.cells #[.int .i64 0, .int .i64 0, .slice none 0 0] 24) (fun b3 => .pointer (some ⟨b3, 0, none⟩)) (some 4) (fun b => by kernel_rfl) hst (fun b3 w1 hst => ?_)
 refine r_nil ?_
 refine W_seq ?_
 refine W_rg [(.l, 0), (.l, 1), (.f, 2), (.p, 3), (.f, 4)] hst ?_
 refine r_sg [(.l, 0), (.l, 1)] [[.int .i64 a.kind, .int .i64 a.num, .slice aA a.kids.length ac], [.int .i64 b.kind, .int .i64 b.num, .slice bA b.kids.length bc]] [(⟨b1, 0, none⟩, .int .i64 a.kind), (⟨b1, 1, none⟩, .int .i64 a.num), (⟨b1, 2, none⟩, .slice aA a.kids.length ac), (⟨b2, 0, none⟩, .int .i64 b.kind), (⟨b2, 1, none⟩, .int .i64 b.num), (⟨b2, 2, none⟩, .slice bA b.kids.length bc)] [(5, .agg #[.int .i64 a.kind, .int .i64 a.num, .slice aA a.kids.length ac]), (6, .agg #[.int .i64 b.kind, .int .i64 b.num, .slice bA b.kids.length bc])] (rc_L 2 rfl rfl (rc_L 2 rfl rfl (rc_L 2 rfl rfl (rc_L 1 rfl rfl (rc_L 1 rfl rfl (rc_L 1 rfl rfl rc_nil)))))) ?_
 refine m_new (.cells #[.int .i64 a.kind, .int .i64 a.num, .slice aA a.kids.length ac, .int .i64 b.kind, .int .i64 b.num, .slice bA b.kids.length bc] 24) (fun b4 => .slice (some ⟨b4, 0, none⟩) 2 2) (some 7) (fun b => by kernel_rfl) hst (fun b4 w1 hst => ?_)
 refine r_sg [(.p, 3)] [] [] [(8, .agg #[.int .i64 3, .int .i64 0, .slice (some ⟨b4, 0, none⟩) 2 2])] rc_nil ?_
 refine m_st ((b4, .cells #[.int .i64 a.kind, .int .i64 a.num, .slice aA a.kids.length ac, .int .i64 b.kind, .int .i64 b.num, .slice bA b.kids.length bc] 24) :: (b3, .cells #[.int .i64 3, .int .i64 0, .slice (some ⟨b4, 0, none⟩) 2 2] 24) :: (b2, .cells #[.int .i64 b.kind, .int .i64 b.num, .slice bA b.kids.length bc] 24) :: (b1, .cells #[.int .i64 a.kind, .int .i64 a.num, .slice aA a.kids.length ac] 24) :: L) 1 [(0, .int .i64 3), (1, .int .i64 0), (2, .slice (some ⟨b4, 0, none⟩) 2 2)] [.int .i64 3, .int .i64 0, .slice (some ⟨b4, 0, none⟩) 2 2] none hst (fun w1 hst => ?_)
 refine r_nil ?_
 refine W_ret ?_
 refine q_rt [.int .i64 3, .int .i64 0, .slice (some ⟨b4, 0, none⟩) 2 2] [(⟨b3, 0, none⟩, .int .i64 3), (⟨b3, 1, none⟩, .int .i64 0), (⟨b3, 2, none⟩, .slice (some ⟨b4, 0, none⟩) 2 2)] (.agg #[.int .i64 3, .int .i64 0, .slice (some ⟨b4, 0, none⟩) 2 2]) (rc_L 1 rfl rfl (rc_L 1 rfl rfl (rc_L 1 rfl rfl rc_nil))) hst ?_
 obtain ⟨G9, hG9, hF9, hst⟩ := St.freeze [_] hst
 have hf := hF9 _ (.head _)
 exact ⟨G9, _, rfl, hG9, IsPoly.mk (t := .mk 3 0 [a, b]) (Nat.le_refl _) (polys_of (cs := [.int .i64 a.kind, .int .i64 a.num, .slice aA a.kids.length ac, .int .i64 b.kind, .int .i64 b.num, .slice bA b.kids.length bc]) ⟨hva.mono hG9, hvb.mono hG9, trivial⟩ hf), hst.drop [_, _, _]⟩

theorem c94 {G : GH} {L : LH} {w : World} {pb at_ : Nat} {s : List UInt8} {n : Int} (hat : at_ ≤ s.length) (hs : s.length < lim) (hst : St G ((pb, .cells #[.string (bs s), .int .i64 ((at_ : Nat) : Int), .bool false] 91) :: L) w) :
  Cal Try.prog 94 #[.pointer (some ⟨pb, 0, none⟩), .int .i64 n] w fun x w' => x = .bool (decide (s[at_]? = some 97 ∧ n ≠ 26 ∧ (n = 0 ∨ s[at_ + 1]? = some 108))) ∧ St G ((pb, .cells #[.string (bs s), .int .i64 ((at_ : Nat) : Int), .bool false] 91) :: L) w' := by
 have hlim : lim = 1099511627776 := rfl
 refine cal_of_W Try.func94 rfl (Nat.le_of_ble_eq_true (by kernel_rfl)) ?_
 refine W_seq ?_
 refine W_rg [(.p, 0)] hst ?_
 refine r_en [] [] [(4, .bool false)] rc_nil ?_
 refine W_seq ?_
 refine W_seq ?_
 refine W_rg [(.p, 0), (.f, 1), (.p, 2), (.p, 3), (.p, 4), (.p, 5), (.p, 6)] hst ?_
 refine r_sg [(.p, 0)] [] [] [(5, .pointer (some ⟨pb, 0, none⟩))] rc_nil ?_
 refine m_cl #[.pointer (some ⟨pb, 0, none⟩), .int .u8 97] (some 6) (c96 (c := 97) hat hst) ?_
 rintro _ w1 ⟨rfl, hst⟩
 refine nx hst ?_
 refine r_sg [(.p, 2), (.p, 3)] [] [] [(7, .bool (!(decide (s[at_]? = some 97)))), (8, .bool (!(decide (s[at_]? = some 97))))] rc_nil ?_
 rcases Bool.eq_false_or_eq_true (!(decide (s[at_]? = some 97))) with hc1 | hc1
 ·rw [hc1]
  have h97 : ¬(s[at_]? = some 97) := by simpa using hc1
  refine r_en [] [] [(9, undef), (10, undef), (11, .bool true)] rc_nil ?_
  refine W_cT ?_
  refine W_seq ?_
  refine W_rg [(.p, 0)] hst ?_
  refine r_en [] [] [(4, .bool false)] rc_nil ?_
  refine W_ret ?_
  refine q_rt [] [] (.bool false) rc_nil hst ?_
  refine ⟨?_, hst⟩; congr 1; first | (simp [h97]; done) | (simp [h97, h26]; done) | (simp [h97, h26, hn0]; done) | (simp [h97, h26, hn0, hq]; done)
 ·rw [hc1]
  have h97 : (s[at_]? = some 97) := by simpa using hc1
  refine r_en [] [] [(9, .int .i64 n), (10, .bool (n == 26)), (11, .bool (n == 26))] rc_nil ?_
  refine W_cd (b := n == 26) (fun hc2 => ?_) (fun hc2 => ?_)
  ·skip
   have h26 : (n = 26) := by simpa using hc2
   refine W_seq ?_
   refine W_rg [(.p, 0)] hst ?_
   refine r_en [] [] [(4, .bool false)] rc_nil ?_
   refine W_ret ?_
   refine q_rt [] [] (.bool false) rc_nil hst ?_
   refine ⟨?_, hst⟩; congr 1; first | (simp [h97]; done) | (simp [h97, h26]; done) | (simp [h97, h26, hn0]; done) | (simp [h97, h26, hn0, hq]; done)
  ·skip
   have h26 : ¬(n = 26) := by simpa using hc2
   refine W_skip ?_
   refine W_seq ?_
   refine W_rgd [(.p, 0), (.p, 1), (.p, 2), (.p, 3), (.p, 4), (.p, 5), (.l, 6), (.p, 7), (.p, 8), (.p, 9), (.p, 10), (.l, 11), (.p, 12), (.p, 13), (.p, 14), (.p, 15), (.p, 16), (.p, 17), (.l, 18), (.p, 19), (.p, 20), (.p, 21), (.l, 22), (.p, 23), (.p, 24), (.p, 25), (.p, 26), (.p, 27), (.p, 28)] hst (fun w1 hst => ?_)
   refine r_sg [(.p, 0), (.p, 1), (.p, 2)] [] [] [(12, .int .i64 n), (13, .bool (n == 0)), (14, .bool (n == 0))] rc_nil ?_
   rcases Bool.eq_false_or_eq_true (n == 0) with hc3 | hc3
   ·rw [hc3]
    have hn0 : (n = 0) := by simpa using hc3
    refine r_en [] [] [(15, undef), (16, undef), (17, undef), (18, undef), (19, undef), (20, undef), (21, undef), (22, undef), (23, undef), (24, undef), (25, undef), (26, undef), (27, undef), (28, undef), (29, undef), (30, undef), (31, undef), (32, undef), (33, undef), (34, undef), (35, undef), (36, undef), (37, undef), (38, undef), (39, .bool true), (4, .bool true)] rc_nil ?_
    refine W_ret ?_
    refine q_rt [] [] (.bool true) rc_nil hst ?_
    refine ⟨?_, hst⟩; congr 1; first | (simp [h97]; done) | (simp [h97, h26]; done) | (simp [h97, h26, hn0]; done) | (simp [h97, h26, hn0, hq]; done)
   ·rw [hc3]
    have hn0 : ¬(n = 0) := by simpa using hc3
    refine r_sg [(.p, 3), (.p, 4), (.p, 5), (.l, 6), (.p, 7), (.p, 8), (.p, 9), (.p, 10), (.l, 11), (.p, 12), (.p, 13), (.p, 14)] [[.int .i64 (((at_ : Nat) : Int))], [.string (bs s)]] [(⟨pb, 1, none⟩, .int .i64 (((at_ : Nat) : Int))), (⟨pb, 0, none⟩, .string (bs s))] [(15, .pointer (some ⟨pb, 0, none⟩)), (16, .pointer (some ⟨pb, 0, none⟩)), (17, .pointer (some ⟨pb, 1, none⟩)), (18, .int .i64 (((at_ : Nat) : Int))), (19, .int .i64 (IntKind.wrap .i64 ((((at_ : Nat) : Int)) + 1))), (20, .pointer (some ⟨pb, 0, none⟩)), (21, .pointer (some ⟨pb, 0, none⟩)), (22, .pointer (some ⟨pb, 0, none⟩)), (23, .string (bs s)), (24, .int .i64 (((s.length : Nat) : Int))), (25, .bool (decide ((IntKind.wrap .i64 ((((at_ : Nat) : Int)) + 1)) < (((s.length : Nat) : Int))))), (26, .bool (decide ((IntKind.wrap .i64 ((((at_ : Nat) : Int)) + 1)) < (((s.length : Nat) : Int)))))] (rc_L 0 rfl rfl (rc_L 0 rfl rfl rc_nil)) ?_
    rcases Bool.eq_false_or_eq_true (decide ((IntKind.wrap .i64 ((((at_ : Nat) : Int)) + 1)) < (((s.length : Nat) : Int)))) with hc4 | hc4
    ·rw [hc4]
     rw [wrap_succ (by omega)] at hc4
     have hlt1 : at_ + 1 < s.length := by have := of_decide_eq_true hc4; omega
     obtain ⟨q, hq⟩ := get_of_lt hlt1
     refine r_sg [(.p, 15), (.p, 16), (.p, 17), (.l, 18), (.p, 19), (.p, 20), (.p, 21), (.l, 22), (.p, 23)] [[.string (bs s)], [.int .i64 (((at_ : Nat) : Int))]] [(⟨pb, 0, none⟩, .string (bs s)), (⟨pb, 1, none⟩, .int .i64 (((at_ : Nat) : Int)))] [(27, .pointer (some ⟨pb, 0, none⟩)), (28, .pointer (some ⟨pb, 0, none⟩)), (29, .pointer (some ⟨pb, 0, none⟩)), (30, .string (bs s)), (31, .pointer (some ⟨pb, 0, none⟩)), (32, .pointer (some ⟨pb, 0, none⟩)), (33, .pointer (some ⟨pb, 1, none⟩)), (34, .int .i64 (((at_ : Nat) : Int))), (35, .int .i64 (IntKind.wrap .i64 ((((at_ : Nat) : Int)) + 1)))] (rc_L 0 rfl rfl (rc_L 0 rfl rfl rc_nil)) ?_
     refine m_strIndex (l := s) (k := at_ + 1) (b := q) (d := (some 36)) (show opAt _ _ _ = some (.index 9 (.tmp 30) (.tmp 35), _) by kernel_rfl) (by kernel_rfl) (by rw [← wrap_succ (k := at_) (by omega)]; kernel_rfl) Try.underlying9 hq ?_
     refine r_en [] [] [(37, .bool ((((q.toNat : Nat) : Int)) == 108)), (38, .bool ((((q.toNat : Nat) : Int)) == 108)), (39, .bool ((((q.toNat : Nat) : Int)) == 108)), (4, .bool ((((q.toNat : Nat) : Int)) == 108))] rc_nil ?_
     refine W_ret ?_
     refine q_rt [] [] (.bool ((((q.toNat : Nat) : Int)) == 108)) rc_nil hst ?_
     refine ⟨?_, hst⟩; rw [hq]; congr 1; by_cases hql : q = 108
     ·subst hql; simp [h97, h26]
     ·have : ¬ ((q.toNat : Nat) : Int) = 108 := fun hx => hql (UInt8.toNat_inj.1 (by show q.toNat = 108; omega))
      simp [h97, h26, hn0, hql, this]
    ·rw [hc4]
     rw [wrap_succ (by omega)] at hc4
     have hq : s[at_ + 1]? = none := List.getElem?_eq_none (by have := of_decide_eq_false hc4; omega)
     refine r_en [] [] [(27, undef), (28, undef), (29, undef), (30, undef), (31, undef), (32, undef), (33, undef), (34, undef), (35, undef), (36, undef), (37, undef), (38, .bool false), (39, .bool false), (4, .bool false)] rc_nil ?_
     refine W_ret ?_
     refine q_rt [] [] (.bool false) rc_nil hst ?_
     refine ⟨?_, hst⟩; congr 1; first | (simp [h97]; done) | (simp [h97, h26]; done) | (simp [h97, h26, hn0]; done) | (simp [h97, h26, hn0, hq]; done)

def RT (f : Nat) : Prop := ∀ {G : GH} {L : LH} {w : World} {pb at_ at2 : Nat} {s : List UInt8} {n : Int} {b0 : Bool} {t : T}, at_ ≤ s.length → s.length < lim → St G ((pb, .cells #[.string (bs s), .int .i64 ((at_ : Nat) : Int), .bool false] 91) :: L) w → rtyped f s at_ n = some ((t, b0), at2) →
 Cal Try.prog 60 #[.pointer (some ⟨pb, 0, none⟩), .int .i64 n] w fun x w' => ∃ G' A c, x = .agg #[.int .i64 t.kind, .int .i64 t.num, .slice A t.kids.length c] ∧ Le G G' ∧ IsPoly G' (.agg #[.int .i64 t.kind, .int .i64 t.num, .slice A t.kids.length c]) t ∧ at2 ≤ s.length ∧ St G' ((pb, .cells #[.string (bs s), .int .i64 ((at2 : Nat) : Int), .bool b0] 91) :: L) w'

theorem c95 {f : Nat} (hT : ∀ g, g < f → RT g) {G : GH} {L : LH} {w : World} {pb at_ at2 : Nat} {s : List UInt8} {n : Int} {b0 : Bool} {t : T} (hat : at_ ≤ s.length) (hs : s.length < lim) (hst : St G ((pb, .cells #[.string (bs s), .int .i64 ((at_ : Nat) : Int), .bool false] 91) :: L) w) (hin : rall f s at_ n = some ((t, b0), at2)) :
  Cal Try.prog 95 #[.pointer (some ⟨pb, 0, none⟩), .int .i64 n] w fun x w' => ∃ G' A c, x = .agg #[.int .i64 t.kind, .int .i64 t.num, .slice A t.kids.length c] ∧ Le G G' ∧ IsPoly G' (.agg #[.int .i64 t.kind, .int .i64 t.num, .slice A t.kids.length c]) t ∧ at2 ≤ s.length ∧ St G' ((pb, .cells #[.string (bs s), .int .i64 ((at2 : Nat) : Int), .bool b0] 91) :: L) w' := by
 have hlim : lim = 1099511627776 := rfl
 obtain _ | f := f
 ·cases hin
 unfold Md.rall at hin
 refine cal_of_W Try.func95 rfl (Nat.le_of_ble_eq_true (by kernel_rfl)) ?_
 refine W_seq ?_
 refine W_rg [(.f, 0)] hst ?_
 refine m_new (.cells #[.int .i64 0, .int .i64 0, .slice none 0 0] 24) (fun b1 => .pointer (some ⟨b1, 0, none⟩)) (some 4) (fun b => by kernel_rfl) hst (fun b1 w1 hst => ?_)
 refine r_nil ?_
 refine W_seq ?_
 refine W_rg [(.p, 0), (.f, 1)] hst ?_
 refine r_sg [(.p, 0)] [] [] [(5, .pointer (some ⟨pb, 0, none⟩))] rc_nil ?_
 have hst := St.swap (A := [(b1, .cells #[.int .i64 0, .int .i64 0, .slice none 0 0] 24)]) (B := [(pb, .cells #[.string (bs s), .int .i64 (((at_ : Nat) : Int)), .bool false] 91)]) (C := L) hst
 have hwl := word_le ([97, 108, 108, 32]) s at_ hat
 refine m_cl #[.pointer (some ⟨pb, 0, none⟩), .string (bs [97, 108, 108, 32])] (some 6) (c98 (l := [97, 108, 108, 32]) hat hs (by show _ < _; simp only [List.length_append, List.length_cons, List.length_nil, rletter]; omega) hst) ?_
 rintro vx w1 hst
 simp only [mst, Bool.false_eq_true, if_false] at hst
 generalize hwe1 : word ([97, 108, 108, 32]) s at_ = wr1 at hst hwl hin ⊢
 obtain ⟨x1, aw1⟩ := wr1; simp only at hst hwl hin ⊢
 have haw1 : aw1 ≤ s.length := hwl
 cases x1
 ·skip
  have hst : St G ((b1, .cells #[.int .i64 0, .int .i64 0, .slice none 0 0] 24) :: (pb, .cells #[.string (bs s), .int .i64 (((aw1 : Nat) : Int)), .bool true] 91) :: L) w1 := St.swap (A := [(pb, .cells #[.string (bs s), .int .i64 (((aw1 : Nat) : Int)), .bool true] 91)]) (B := [(b1, .cells #[.int .i64 0, .int .i64 0, .slice none 0 0] 24)]) hst
  rw [if_pos rfl] at hin; simp only [Option.some.injEq, Prod.mk.injEq] at hin; obtain ⟨⟨rfl, rfl⟩, rfl⟩ := hin
  refine nx hst ?_
  refine r_nil ?_
  refine W_seq ?_
  refine W_rg [(.p, 0), (.p, 1), (.f, 2), (.p, 3), (.f, 4)] hst ?_
  refine r_sg [(.p, 0), (.p, 1)] [] [] [(7, .pointer (some ⟨pb, 0, none⟩)), (8, .int .i64 n)] rc_nil ?_
  refine m_cl #[.int .i64 n] (some 9) (c90 hst) ?_
  rintro _ w1 ⟨rfl, hst⟩
  refine nx hst ?_
  refine m_strAdd (a := rletter n) (b := [46, 32]) (d := (some 10)) (show opAt _ _ _ = some (.binOp .add 9 (.tmp 9) (.const (.string (bs [46, 32]))) 9, _) by kernel_rfl) (by kernel_rfl) (by kernel_rfl) (by simp only [List.length_append, List.length_cons, List.length_nil, rletter]; omega) ?_
  have hst := St.swap (A := [(b1, .cells #[.int .i64 0, .int .i64 0, .slice none 0 0] 24)]) (B := [(pb, .cells #[.string (bs s), .int .i64 (((aw1 : Nat) : Int)), .bool true] 91)]) (C := L) hst
  refine m_cl #[.pointer (some ⟨pb, 0, none⟩), .string (bs ((rletter n) ++ ([46, 32])))] (some 11) (c98 (l := (rletter n) ++ ([46, 32])) haw1 hs (by show _ < _; simp only [List.length_append, List.length_cons, List.length_nil, rletter]; omega) hst) ?_
  rintro vx w1 hst
  have hst : St G ((b1, .cells #[.int .i64 0, .int .i64 0, .slice none 0 0] 24) :: (pb, .cells #[.string (bs s), .int .i64 (((aw1 : Nat) : Int)), .bool true] 91) :: L) w1 := St.swap (A := [(pb, .cells #[.string (bs s), .int .i64 (((aw1 : Nat) : Int)), .bool true] 91)]) (B := [(b1, .cells #[.int .i64 0, .int .i64 0, .slice none 0 0] 24)]) hst
  refine nx hst ?_
  refine r_nil ?_
  refine W_seq ?_
  refine W_seq ?_
  refine W_rg [(.p, 0), (.p, 1), (.p, 2), (.l, 3)] hst ?_
  refine r_en [[.bool true]] [(⟨pb, 2, none⟩, .bool true)] [(12, .pointer (some ⟨pb, 0, none⟩)), (13, .pointer (some ⟨pb, 0, none⟩)), (14, .pointer (some ⟨pb, 2, none⟩)), (15, .bool true)] (rc_L 1 rfl rfl rc_nil) ?_
  refine W_cT ?_
  refine W_seq ?_
  refine W_rg [(.p, 0), (.f, 1)] hst ?_
  refine r_sg [(.p, 0)] [] [] [(16, .agg #[.int .i64 0, .int .i64 0, .slice none 0 0])] rc_nil ?_
  refine m_st ((b1, .cells #[.int .i64 0, .int .i64 0, .slice none 0 0] 24) :: (pb, .cells #[.string (bs s), .int .i64 (((aw1 : Nat) : Int)), .bool true] 91) :: L) 0 [(0, .int .i64 0), (1, .int .i64 0), (2, .slice none 0 0)] [.int .i64 0, .int .i64 0, .slice none 0 0] none hst (fun w1 hst => ?_)
  refine r_nil ?_
  refine W_ret ?_
  refine q_rt [.int .i64 0, .int .i64 0, .slice none 0 0] [(⟨b1, 0, none⟩, .int .i64 0), (⟨b1, 1, none⟩, .int .i64 0), (⟨b1, 2, none⟩, .slice none 0 0)] (.agg #[.int .i64 0, .int .i64 0, .slice none 0 0]) (rc_L 0 rfl rfl (rc_L 0 rfl rfl (rc_L 0 rfl rfl rc_nil))) hst ?_
  exact ⟨G, _, _, rfl, Le.refl _, IsPoly.mk (t := t0) (Nat.le_refl _) IsPolys.nil, haw1, hst.drop [_]⟩
 ·skip
  have hst : St G ((b1, .cells #[.int .i64 0, .int .i64 0, .slice none 0 0] 24) :: (pb, .cells #[.string (bs s), .int .i64 (((aw1 : Nat) : Int)), .bool false] 91) :: L) w1 := St.swap (A := [(pb, .cells #[.string (bs s), .int .i64 (((aw1 : Nat) : Int)), .bool false] 91)]) (B := [(b1, .cells #[.int .i64 0, .int .i64 0, .slice none 0 0] 24)]) hst
  rw [if_neg (by decide)] at hin
  refine nx hst ?_
  refine r_nil ?_
  refine W_seq ?_
  refine W_rg [(.p, 0), (.p, 1), (.f, 2), (.p, 3), (.f, 4)] hst ?_
  refine r_sg [(.p, 0), (.p, 1)] [] [] [(7, .pointer (some ⟨pb, 0, none⟩)), (8, .int .i64 n)] rc_nil ?_
  refine m_cl #[.int .i64 n] (some 9) (c90 hst) ?_
  rintro _ w1 ⟨rfl, hst⟩
  refine nx hst ?_
  refine m_strAdd (a := rletter n) (b := [46, 32]) (d := (some 10)) (show opAt _ _ _ = some (.binOp .add 9 (.tmp 9) (.const (.string (bs [46, 32]))) 9, _) by kernel_rfl) (by kernel_rfl) (by kernel_rfl) (by simp only [List.length_append, List.length_cons, List.length_nil, rletter]; omega) ?_
  have hst := St.swap (A := [(b1, .cells #[.int .i64 0, .int .i64 0, .slice none 0 0] 24)]) (B := [(pb, .cells #[.string (bs s), .int .i64 (((aw1 : Nat) : Int)), .bool false] 91)]) (C := L) hst
  have hwl := word_le ((rletter n) ++ ([46, 32])) s aw1 haw1
  refine m_cl #[.pointer (some ⟨pb, 0, none⟩), .string (bs ((rletter n) ++ ([46, 32])))] (some 11) (c98 (l := (rletter n) ++ ([46, 32])) haw1 hs (by show _ < _; simp only [List.length_append, List.length_cons, List.length_nil, rletter]; omega) hst) ?_
  rintro vx w1 hst
  simp only [mst, Bool.false_eq_true, if_false] at hst
  generalize hwe2 : word ((rletter n) ++ ([46, 32])) s aw1 = wr2 at hst hwl hin ⊢
  obtain ⟨x2, aw2⟩ := wr2; simp only at hst hwl hin ⊢
  have haw2 : aw2 ≤ s.length := hwl
  cases x2
  ·skip
   have hst : St G ((b1, .cells #[.int .i64 0, .int .i64 0, .slice none 0 0] 24) :: (pb, .cells #[.string (bs s), .int .i64 (((aw2 : Nat) : Int)), .bool true] 91) :: L) w1 := St.swap (A := [(pb, .cells #[.string (bs s), .int .i64 (((aw2 : Nat) : Int)), .bool true] 91)]) (B := [(b1, .cells #[.int .i64 0, .int .i64 0, .slice none 0 0] 24)]) hst
   rw [if_pos rfl] at hin; simp only [Option.some.injEq, Prod.mk.injEq] at hin; obtain ⟨⟨rfl, rfl⟩, rfl⟩ := hin
   refine nx hst ?_
   refine r_nil ?_
   refine W_seq ?_
   refine W_seq ?_
   refine W_rg [(.p, 0), (.p, 1), (.p, 2), (.l, 3)] hst ?_
   refine r_en [[.bool true]] [(⟨pb, 2, none⟩, .bool true)] [(12, .pointer (some ⟨pb, 0, none⟩)), (13, .pointer (some ⟨pb, 0, none⟩)), (14, .pointer (some ⟨pb, 2, none⟩)), (15, .bool true)] (rc_L 1 rfl rfl rc_nil) ?_
   refine W_cT ?_
   refine W_seq ?_
   refine W_rg [(.p, 0), (.f, 1)] hst ?_
   refine r_sg [(.p, 0)] [] [] [(16, .agg #[.int .i64 0, .int .i64 0, .slice none 0 0])] rc_nil ?_
   refine m_st ((b1, .cells #[.int .i64 0, .int .i64 0, .slice none 0 0] 24) :: (pb, .cells #[.string (bs s), .int .i64 (((aw2 : Nat) : Int)), .bool true] 91) :: L) 0 [(0, .int .i64 0), (1, .int .i64 0), (2, .slice none 0 0)] [.int .i64 0, .int .i64 0, .slice none 0 0] none hst (fun w1 hst => ?_)
   refine r_nil ?_
   refine W_ret ?_
   refine q_rt [.int .i64 0, .int .i64 0, .slice none 0 0] [(⟨b1, 0, none⟩, .int .i64 0), (⟨b1, 1, none⟩, .int .i64 0), (⟨b1, 2, none⟩, .slice none 0 0)] (.agg #[.int .i64 0, .int .i64 0, .slice none 0 0]) (rc_L 0 rfl rfl (rc_L 0 rfl rfl (rc_L 0 rfl rfl rc_nil))) hst ?_
   exact ⟨G, _, _, rfl, Le.refl _, IsPoly.mk (t := t0) (Nat.le_refl _) IsPolys.nil, haw2, hst.drop [_]⟩
  ·skip
   have hst : St G ((b1, .cells #[.int .i64 0, .int .i64 0, .slice none 0 0] 24) :: (pb, .cells #[.string (bs s), .int .i64 (((aw2 : Nat) : Int)), .bool false] 91) :: L) w1 := St.swap (A := [(pb, .cells #[.string (bs s), .int .i64 (((aw2 : Nat) : Int)), .bool false] 91)]) (B := [(b1, .cells #[.int .i64 0, .int .i64 0, .slice none 0 0] 24)]) hst
   rw [if_neg (by decide)] at hin
   refine nx hst ?_
   refine r_nil ?_
   refine W_seq ?_
   refine W_seq ?_
   refine W_rg [(.p, 0), (.p, 1), (.p, 2), (.l, 3)] hst ?_
   refine r_en [[.bool false]] [(⟨pb, 2, none⟩, .bool false)] [(12, .pointer (some ⟨pb, 0, none⟩)), (13, .pointer (some ⟨pb, 0, none⟩)), (14, .pointer (some ⟨pb, 2, none⟩)), (15, .bool false)] (rc_L 1 rfl rfl rc_nil) ?_
   refine W_cF ?_
   refine W_skip ?_
   refine W_seq ?_
   refine W_rg [(.p, 0), (.p, 1), (.p, 2), (.f, 3), (.f, 4), (.p, 5), (.f, 6)] hst ?_
   refine r_sg [(.p, 0), (.p, 1), (.p, 2)] [] [] [(17, .pointer (some ⟨pb, 0, none⟩)), (18, .int .i64 n), (19, .int .i64 (IntKind.wrap .i64 (n + 1)))] rc_nil ?_
   obtain ⟨⟨⟨q, qb⟩, ar⟩, hq, hin⟩ := Option.bind_eq_some_iff.1 hin; simp only [Option.some.injEq, Prod.mk.injEq] at hin; obtain ⟨⟨rfl, rfl⟩, rfl⟩ := hin
   have hst := St.swap (A := [(b1, .cells #[.int .i64 0, .int .i64 0, .slice none 0 0] 24)]) (B := [(pb, .cells #[.string (bs s), .int .i64 (((aw2 : Nat) : Int)), .bool false] 91)]) (C := L) hst
   refine m_cl #[.pointer (some ⟨pb, 0, none⟩), .int .i64 (IntKind.wrap .i64 (n + 1))] (some 20) (hT f (by omega) haw2 hs hst hq) ?_
   rintro _ w1 ⟨G1, qA, qc, rfl, hG1, hqp, har, hst⟩
   have hst : St G1 ((b1, .cells #[.int .i64 0, .int .i64 0, .slice none 0 0] 24) :: (pb, .cells #[.string (bs s), .int .i64 (((ar : Nat) : Int)), .bool qb] 91) :: L) w1 := St.swap (A := [(pb, .cells #[.string (bs s), .int .i64 (((ar : Nat) : Int)), .bool qb] 91)]) (B := [(b1, .cells #[.int .i64 0, .int .i64 0, .slice none 0 0] 24)]) hst
   refine nx hst ?_
   refine m_new (.cells #[.int .i64 q.kind, .int .i64 q.num, .slice qA q.kids.length qc] 24) (fun b2 => .slice (some ⟨b2, 0, none⟩) 1 1) (some 21) (fun b => by kernel_rfl) hst (fun b2 w1 hst => ?_)
   refine r_sg [(.p, 5)] [] [] [(22, .agg #[.int .i64 4, .int .i64 0, .slice (some ⟨b2, 0, none⟩) 1 1])] rc_nil ?_
   refine m_st ((b2, .cells #[.int .i64 q.kind, .int .i64 q.num, .slice qA q.kids.length qc] 24) :: (b1, .cells #[.int .i64 4, .int .i64 0, .slice (some ⟨b2, 0, none⟩) 1 1] 24) :: (pb, .cells #[.string (bs s), .int .i64 (((ar : Nat) : Int)), .bool qb] 91) :: L) 1 [(0, .int .i64 4), (1, .int .i64 0), (2, .slice (some ⟨b2, 0, none⟩) 1 1)] [.int .i64 4, .int .i64 0, .slice (some ⟨b2, 0, none⟩) 1 1] none hst (fun w1 hst => ?_)
   refine r_nil ?_
   refine W_ret ?_
   refine q_rt [.int .i64 4, .int .i64 0, .slice (some ⟨b2, 0, none⟩) 1 1] [(⟨b1, 0, none⟩, .int .i64 4), (⟨b1, 1, none⟩, .int .i64 0), (⟨b1, 2, none⟩, .slice (some ⟨b2, 0, none⟩) 1 1)] (.agg #[.int .i64 4, .int .i64 0, .slice (some ⟨b2, 0, none⟩) 1 1]) (rc_L 1 rfl rfl (rc_L 1 rfl rfl (rc_L 1 rfl rfl rc_nil))) hst ?_
   obtain ⟨G9, hG9, hF9, hst⟩ := St.freeze [_] hst
   have hf := hF9 _ (.head _)
   exact ⟨G9, _, 1, rfl, hG1.trans hG9, IsPoly.mk (t := .mk 4 0 [q]) (Nat.le_refl _) (polys_of (cs := [.int .i64 q.kind, .int .i64 q.num, .slice qA q.kids.length qc]) ⟨hqp.mono hG9, trivial⟩ hf), har, hst.drop [_]⟩

theorem c97 {f : Nat} (hT : ∀ g, g < f → RT g) {G : GH} {L : LH} {w : World} {pb at_ at2 : Nat} {s : List UInt8} {n : Int} {b0 : Bool} {t : T} (hat : at_ ≤ s.length) (hs : s.length < lim) (hst : St G ((pb, .cells #[.string (bs s), .int .i64 ((at_ : Nat) : Int), .bool false] 91) :: L) w) (hin : rsimple f s at_ n = some ((t, b0), at2)) :
  Cal Try.prog 97 #[.pointer (some ⟨pb, 0, none⟩), .int .i64 n] w fun x w' => ∃ G' A c, x = .agg #[.int .i64 t.kind, .int .i64 t.num, .slice A t.kids.length c] ∧ Le G G' ∧ IsPoly G' (.agg #[.int .i64 t.kind, .int .i64 t.num, .slice A t.kids.length c]) t ∧ at2 ≤ s.length ∧ St G' ((pb, .cells #[.string (bs s), .int .i64 ((at2 : Nat) : Int), .bool b0] 91) :: L) w' := by
 have hlim : lim = 1099511627776 := rfl
 obtain _ | f := f
 ·cases hin
 unfold Md.rsimple at hin
 refine cal_of_W Try.func97 rfl (Nat.le_of_ble_eq_true (by kernel_rfl)) ?_
 refine W_seq ?_
 refine W_rg [(.f, 0)] hst ?_
 refine m_new (.cells #[.int .i64 0, .int .i64 0, .slice none 0 0] 24) (fun b1 => .pointer (some ⟨b1, 0, none⟩)) (some 4) (fun b => by kernel_rfl) hst (fun b1 w1 hst => ?_)
 refine r_nil ?_
 refine W_seq ?_
 refine W_block ?_
 refine W_seq ?_
 refine W_rg [(.p, 0), (.f, 1), (.p, 2)] hst ?_
 refine r_sg [(.p, 0)] [] [] [(7, .pointer (some ⟨pb, 0, none⟩))] rc_nil ?_
 have hst := St.swap (A := [(b1, .cells #[.int .i64 0, .int .i64 0, .slice none 0 0] 24)]) (B := [(pb, .cells #[.string (bs s), .int .i64 (((at_ : Nat) : Int)), .bool false] 91)]) (C := L) hst
 refine m_cl #[.pointer (some ⟨pb, 0, none⟩), .int .u8 78] (some 8) (c96 (c := 78) hat hst) ?_
 rintro _ w1 ⟨rfl, hst⟩
 have hst : St G ((b1, .cells #[.int .i64 0, .int .i64 0, .slice none 0 0] 24) :: (pb, .cells #[.string (bs s), .int .i64 (((at_ : Nat) : Int)), .bool false] 91) :: L) w1 := St.swap (A := [(pb, .cells #[.string (bs s), .int .i64 (((at_ : Nat) : Int)), .bool false] 91)]) (B := [(b1, .cells #[.int .i64 0, .int .i64 0, .slice none 0 0] 24)]) hst
 refine nx hst ?_
 refine r_en [] [] [(6, .bool (decide (s[at_]? = some 78)))] rc_nil ?_
 refine W_cd (b := decide (s[at_]? = some 78)) (fun hc2 => ?_) (fun hc2 => ?_)
 ·skip
  have h78 : s[at_]? = some 78 := of_decide_eq_true hc2
  have hati : at_ + 1 ≤ s.length := (List.getElem?_eq_some_iff.1 h78).1
  rw [if_pos h78] at hin
  simp only [Option.some.injEq, Prod.mk.injEq] at hin; obtain ⟨⟨rfl, rfl⟩, rfl⟩ := hin
  refine W_seq ?_
  refine W_rg [(.p, 0), (.p, 1), (.p, 2), (.l, 3), (.p, 4), (.p, 5), (.p, 6), (.f, 7)] hst ?_
  refine r_sg [(.p, 0), (.p, 1), (.p, 2), (.l, 3), (.p, 4), (.p, 5), (.p, 6)] [[.int .i64 (((at_ : Nat) : Int))]] [(⟨pb, 1, none⟩, .int .i64 (((at_ : Nat) : Int)))] [(9, .pointer (some ⟨pb, 0, none⟩)), (10, .pointer (some ⟨pb, 0, none⟩)), (11, .pointer (some ⟨pb, 1, none⟩)), (12, .int .i64 (((at_ : Nat) : Int))), (13, .int .i64 (IntKind.wrap .i64 ((((at_ : Nat) : Int)) + 1))), (14, .pointer (some ⟨pb, 0, none⟩)), (15, .pointer (some ⟨pb, 1, none⟩))] (rc_L 1 rfl rfl rc_nil) ?_
  refine m_st ((b1, .cells #[.int .i64 0, .int .i64 0, .slice none 0 0] 24) :: (pb, .cells #[.string (bs s), .int .i64 (IntKind.wrap .i64 ((((at_ : Nat) : Int)) + 1)), .bool false] 91) :: L) 1 [(1, .int .i64 (IntKind.wrap .i64 ((((at_ : Nat) : Int)) + 1)))] [.string (bs s), .int .i64 (IntKind.wrap .i64 ((((at_ : Nat) : Int)) + 1)), .bool false] none hst (fun w1 hst => ?_)
  refine r_nil ?_
  refine W_seq ?_
  rw [wrap_succ (by omega)] at hst
  refine W_rg [(.p, 0), (.f, 1)] hst ?_
  refine r_sg [(.p, 0)] [] [] [(16, .agg #[.int .i64 2, .int .i64 0, .slice none 0 0])] rc_nil ?_
  refine m_st ((b1, .cells #[.int .i64 2, .int .i64 0, .slice none 0 0] 24) :: (pb, .cells #[.string (bs s), .int .i64 (((at_ + 1 : Nat) : Int)), .bool false] 91) :: L) 0 [(0, .int .i64 2), (1, .int .i64 0), (2, .slice none 0 0)] [.int .i64 2, .int .i64 0, .slice none 0 0] none hst (fun w1 hst => ?_)
  refine r_nil ?_
  refine W_ret ?_
  refine q_rt [.int .i64 2, .int .i64 0, .slice none 0 0] [(⟨b1, 0, none⟩, .int .i64 2), (⟨b1, 1, none⟩, .int .i64 0), (⟨b1, 2, none⟩, .slice none 0 0)] (.agg #[.int .i64 2, .int .i64 0, .slice none 0 0]) (rc_L 0 rfl rfl (rc_L 0 rfl rfl (rc_L 0 rfl rfl rc_nil))) hst ?_
  exact ⟨G, _, _, rfl, Le.refl _, IsPoly.mk (t := .mk 2 0 []) (Nat.le_refl _) IsPolys.nil, hati, hst.drop [_]⟩
 ·skip
  rw [if_neg (of_decide_eq_false hc2)] at hin
  refine W_seq ?_
  refine W_rg [(.p, 0), (.f, 1), (.p, 2)] hst ?_
  refine r_sg [(.p, 0)] [] [] [(18, .pointer (some ⟨pb, 0, none⟩))] rc_nil ?_
  have hst := St.swap (A := [(b1, .cells #[.int .i64 0, .int .i64 0, .slice none 0 0] 24)]) (B := [(pb, .cells #[.string (bs s), .int .i64 (((at_ : Nat) : Int)), .bool false] 91)]) (C := L) hst
  refine m_cl #[.pointer (some ⟨pb, 0, none⟩), .int .u8 40] (some 19) (c96 (c := 40) hat hst) ?_
  rintro _ w1 ⟨rfl, hst⟩
  have hst : St G ((b1, .cells #[.int .i64 0, .int .i64 0, .slice none 0 0] 24) :: (pb, .cells #[.string (bs s), .int .i64 (((at_ : Nat) : Int)), .bool false] 91) :: L) w1 := St.swap (A := [(pb, .cells #[.string (bs s), .int .i64 (((at_ : Nat) : Int)), .bool false] 91)]) (B := [(b1, .cells #[.int .i64 0, .int .i64 0, .slice none 0 0] 24)]) hst
  refine nx hst ?_
  refine r_en [] [] [(17, .bool (decide (s[at_]? = some 40)))] rc_nil ?_
  refine W_cd (b := decide (s[at_]? = some 40)) (fun hc3 => ?_) (fun hc3 => ?_)
  ·skip
   have h40 : s[at_]? = some 40 := of_decide_eq_true hc3
   have hati : at_ + 1 ≤ s.length := (List.getElem?_eq_some_iff.1 h40).1
   rw [if_pos h40] at hin
   obtain ⟨⟨⟨q, qb⟩, ar⟩, hq, hin⟩ := Option.bind_eq_some_iff.1 hin; dsimp only at hin
   refine W_seq ?_
   refine W_rg [(.p, 0), (.p, 1), (.p, 2), (.l, 3), (.p, 4), (.p, 5), (.p, 6), (.f, 7)] hst ?_
   refine r_sg [(.p, 0), (.p, 1), (.p, 2), (.l, 3), (.p, 4), (.p, 5), (.p, 6)] [[.int .i64 (((at_ : Nat) : Int))]] [(⟨pb, 1, none⟩, .int .i64 (((at_ : Nat) : Int)))] [(20, .pointer (some ⟨pb, 0, none⟩)), (21, .pointer (some ⟨pb, 0, none⟩)), (22, .pointer (some ⟨pb, 1, none⟩)), (23, .int .i64 (((at_ : Nat) : Int))), (24, .int .i64 (IntKind.wrap .i64 ((((at_ : Nat) : Int)) + 1))), (25, .pointer (some ⟨pb, 0, none⟩)), (26, .pointer (some ⟨pb, 1, none⟩))] (rc_L 1 rfl rfl rc_nil) ?_
   refine m_st ((b1, .cells #[.int .i64 0, .int .i64 0, .slice none 0 0] 24) :: (pb, .cells #[.string (bs s), .int .i64 (IntKind.wrap .i64 ((((at_ : Nat) : Int)) + 1)), .bool false] 91) :: L) 1 [(1, .int .i64 (IntKind.wrap .i64 ((((at_ : Nat) : Int)) + 1)))] [.string (bs s), .int .i64 (IntKind.wrap .i64 ((((at_ : Nat) : Int)) + 1)), .bool false] none hst (fun w1 hst => ?_)
   refine r_nil ?_
   refine W_seq ?_
   rw [wrap_succ (by omega)] at hst
   refine W_rg [(.p, 0), (.p, 1), (.f, 2), (.f, 3), (.f, 4)] hst ?_
   refine r_sg [(.p, 0), (.p, 1)] [] [] [(27, .pointer (some ⟨pb, 0, none⟩)), (28, .int .i64 n)] rc_nil ?_
   have hst := St.swap (A := [(b1, .cells #[.int .i64 0, .int .i64 0, .slice none 0 0] 24)]) (B := [(pb, .cells #[.string (bs s), .int .i64 (((at_ + 1 : Nat) : Int)), .bool false] 91)]) (C := L) hst
   refine m_cl #[.pointer (some ⟨pb, 0, none⟩), .int .i64 n] (some 29) (hT f (by omega) hati hs hst hq) ?_
   rintro _ w1 ⟨G1, qA, qc, rfl, hG1, hqp, har, hst⟩
   have hst : St G1 ((b1, .cells #[.int .i64 0, .int .i64 0, .slice none 0 0] 24) :: (pb, .cells #[.string (bs s), .int .i64 (((ar : Nat) : Int)), .bool qb] 91) :: L) w1 := St.swap (A := [(pb, .cells #[.string (bs s), .int .i64 (((ar : Nat) : Int)), .bool qb] 91)]) (B := [(b1, .cells #[.int .i64 0, .int .i64 0, .slice none 0 0] 24)]) hst
   refine nx hst ?_
   refine m_new (.cells #[.int .i64 0, .int .i64 0, .slice none 0 0] 24) (fun b4 => .pointer (some ⟨b4, 0, none⟩)) (some 5) (fun b => by kernel_rfl) hst (fun b4 w1 hst => ?_)
   refine m_st ((b4, .cells #[.int .i64 q.kind, .int .i64 q.num, .slice qA q.kids.length qc] 24) :: (b1, .cells #[.int .i64 0, .int .i64 0, .slice none 0 0] 24) :: (pb, .cells #[.string (bs s), .int .i64 (((ar : Nat) : Int)), .bool qb] 91) :: L) 0 [(0, .int .i64 q.kind), (1, .int .i64 q.num), (2, .slice qA q.kids.length qc)] [.int .i64 q.kind, .int .i64 q.num, .slice qA q.kids.length qc] none hst (fun w1 hst => ?_)
   refine r_nil ?_
   refine W_seq ?_
   refine W_seq ?_
   cases qb
   ·skip
    have hst : St G1 ((b4, .cells #[.int .i64 q.kind, .int .i64 q.num, .slice qA q.kids.length qc] 24) :: (b1, .cells #[.int .i64 0, .int .i64 0, .slice none 0 0] 24) :: (pb, .cells #[.string (bs s), .int .i64 (((ar : Nat) : Int)), .bool false] 91) :: L) w1 := hst
    refine W_rg [(.p, 0), (.p, 1), (.p, 2), (.l, 3), (.p, 4), (.p, 5), (.p, 6), (.l, 7), (.p, 8), (.p, 9), (.p, 10), (.p, 11), (.l, 12), (.p, 13), (.p, 14)] hst ?_
    refine r_sg [(.p, 0), (.p, 1), (.p, 2), (.l, 3), (.p, 4), (.p, 5), (.p, 6), (.l, 7), (.p, 8), (.p, 9), (.p, 10)] [[.bool false], [.int .i64 q.kind]] [(⟨pb, 2, none⟩, .bool false), (⟨b4, 0, none⟩, .int .i64 q.kind)] [(30, .pointer (some ⟨pb, 0, none⟩)), (31, .pointer (some ⟨pb, 0, none⟩)), (32, .pointer (some ⟨pb, 2, none⟩)), (33, .bool false), (34, .bool true), (35, .bool true), (36, .pointer (some ⟨b4, 0, none⟩)), (37, .int .i64 q.kind), (38, .bool (q.kind != 3)), (39, .bool (q.kind != 3)), (40, .bool (q.kind != 3))] (rc_L 2 rfl rfl (rc_L 0 rfl rfl rc_nil)) ?_
    rcases Bool.eq_false_or_eq_true (q.kind != 3) with hc6 | hc6
    ·rw [hc6]
     have hk3 : ¬(q.kind = 3) := by simpa using hc6
     refine r_en [[.int .i64 q.kind]] [(⟨b4, 0, none⟩, .int .i64 q.kind)] [(41, .pointer (some ⟨b4, 0, none⟩)), (42, .int .i64 q.kind), (43, .bool (q.kind != 4)), (44, .bool (q.kind != 4))] (rc_L 0 rfl rfl rc_nil) ?_
     refine W_cd (b := q.kind != 4) (fun hc7 => ?_) (fun hc7 => ?_)
     ·skip
      have hk4 : ¬(q.kind = 4) := by simpa using hc7
      rw [if_pos ⟨rfl, hk3, hk4⟩] at hin; simp only [Option.some.injEq, Prod.mk.injEq] at hin; obtain ⟨⟨rfl, rfl⟩, rfl⟩ := hin
      refine W_rg [(.p, 0), (.p, 1), (.p, 2), (.f, 3)] hst ?_
      refine r_sg [(.p, 0), (.p, 1), (.p, 2)] [] [] [(45, .pointer (some ⟨pb, 0, none⟩)), (46, .pointer (some ⟨pb, 0, none⟩)), (47, .pointer (some ⟨pb, 2, none⟩))] rc_nil ?_
      refine m_st ((b4, .cells #[.int .i64 q.kind, .int .i64 q.num, .slice qA q.kids.length qc] 24) :: (b1, .cells #[.int .i64 0, .int .i64 0, .slice none 0 0] 24) :: (pb, .cells #[.string (bs s), .int .i64 (((ar : Nat) : Int)), .bool true] 91) :: L) 2 [(2, .bool true)] [.string (bs s), .int .i64 (((ar : Nat) : Int)), .bool true] none hst (fun w1 hst => ?_)
      refine r_nil ?_
      refine W_seq ?_
      refine W_rg [(.p, 0), (.f, 1)] hst ?_
      refine r_sg [(.p, 0)] [] [] [(48, .pointer (some ⟨pb, 0, none⟩))] rc_nil ?_
      have hst := St.swap (A := [(b4, .cells #[.int .i64 q.kind, .int .i64 q.num, .slice qA q.kids.length qc] 24), (b1, .cells #[.int .i64 0, .int .i64 0, .slice none 0 0] 24)]) (B := [(pb, .cells #[.string (bs s), .int .i64 (((ar : Nat) : Int)), .bool true] 91)]) (C := L) hst
      refine m_cl #[.pointer (some ⟨pb, 0, none⟩), .string (bs [41])] (some 49) (c98 (l := [41]) har hs (by show _ < _; simp only [List.length_append, List.length_cons, List.length_nil, rletter]; omega) hst) ?_
      rintro vx w1 hst
      have hst : St G1 ((b4, .cells #[.int .i64 q.kind, .int .i64 q.num, .slice qA q.kids.length qc] 24) :: (b1, .cells #[.int .i64 0, .int .i64 0, .slice none 0 0] 24) :: (pb, .cells #[.string (bs s), .int .i64 (((ar : Nat) : Int)), .bool true] 91) :: L) w1 := St.swap (A := [(pb, .cells #[.string (bs s), .int .i64 (((ar : Nat) : Int)), .bool true] 91)]) (B := [(b4, .cells #[.int .i64 q.kind, .int .i64 q.num, .slice qA q.kids.length qc] 24), (b1, .cells #[.int .i64 0, .int .i64 0, .slice none 0 0] 24)]) hst
      refine nx hst ?_
      refine r_nil ?_
      refine W_seq ?_
      refine W_rg [(.l, 0), (.f, 1)] hst ?_
      refine r_sg [(.l, 0)] [[.int .i64 q.kind, .int .i64 q.num, .slice qA q.kids.length qc]] [(⟨b4, 0, none⟩, .int .i64 q.kind), (⟨b4, 1, none⟩, .int .i64 q.num), (⟨b4, 2, none⟩, .slice qA q.kids.length qc)] [(50, .agg #[.int .i64 q.kind, .int .i64 q.num, .slice qA q.kids.length qc])] (rc_L 0 rfl rfl (rc_L 0 rfl rfl (rc_L 0 rfl rfl rc_nil))) ?_
      refine m_st ((b4, .cells #[.int .i64 q.kind, .int .i64 q.num, .slice qA q.kids.length qc] 24) :: (b1, .cells #[.int .i64 q.kind, .int .i64 q.num, .slice qA q.kids.length qc] 24) :: (pb, .cells #[.string (bs s), .int .i64 (((ar : Nat) : Int)), .bool true] 91) :: L) 1 [(0, .int .i64 q.kind), (1, .int .i64 q.num), (2, .slice qA q.kids.length qc)] [.int .i64 q.kind, .int .i64 q.num, .slice qA q.kids.length qc] none hst (fun w1 hst => ?_)
      refine r_nil ?_
      refine W_ret ?_
      refine q_rt [.int .i64 q.kind, .int .i64 q.num, .slice qA q.kids.length qc] [(⟨b1, 0, none⟩, .int .i64 q.kind), (⟨b1, 1, none⟩, .int .i64 q.num), (⟨b1, 2, none⟩, .slice qA q.kids.length qc)] (.agg #[.int .i64 q.kind, .int .i64 q.num, .slice qA q.kids.length qc]) (rc_L 1 rfl rfl (rc_L 1 rfl rfl (rc_L 1 rfl rfl rc_nil))) hst ?_
      exact ⟨G1, _, _, rfl, hG1, hqp, har, hst.drop [_, _]⟩
     ·skip
      have hk4 : (q.kind = 4) := by simpa using hc7
      rw [if_neg (fun hx => hx.2.2 hk4), if_neg (by decide)] at hin
      refine W_skip ?_
      refine W_seq ?_
      refine W_rg [(.p, 0), (.f, 1)] hst ?_
      refine r_sg [(.p, 0)] [] [] [(48, .pointer (some ⟨pb, 0, none⟩))] rc_nil ?_
      have hst := St.swap (A := [(b4, .cells #[.int .i64 q.kind, .int .i64 q.num, .slice qA q.kids.length qc] 24), (b1, .cells #[.int .i64 0, .int .i64 0, .slice none 0 0] 24)]) (B := [(pb, .cells #[.string (bs s), .int .i64 (((ar : Nat) : Int)), .bool false] 91)]) (C := L) hst
      have hwl := word_le ([41]) s ar har
      refine m_cl #[.pointer (some ⟨pb, 0, none⟩), .string (bs [41])] (some 49) (c98 (l := [41]) har hs (by show _ < _; simp only [List.length_append, List.length_cons, List.length_nil, rletter]; omega) hst) ?_
      rintro vx w1 hst
      simp only [mst, Bool.false_eq_true, if_false] at hst
      generalize hwe1 : word ([41]) s ar = wr1 at hst hwl hin ⊢
      obtain ⟨x1, aw1⟩ := wr1; simp only at hst hwl hin ⊢
      have haw1 : aw1 ≤ s.length := hwl
      cases x1
      ·skip
       have hst : St G1 ((b4, .cells #[.int .i64 q.kind, .int .i64 q.num, .slice qA q.kids.length qc] 24) :: (b1, .cells #[.int .i64 0, .int .i64 0, .slice none 0 0] 24) :: (pb, .cells #[.string (bs s), .int .i64 (((aw1 : Nat) : Int)), .bool true] 91) :: L) w1 := St.swap (A := [(pb, .cells #[.string (bs s), .int .i64 (((aw1 : Nat) : Int)), .bool true] 91)]) (B := [(b4, .cells #[.int .i64 q.kind, .int .i64 q.num, .slice qA q.kids.length qc] 24), (b1, .cells #[.int .i64 0, .int .i64 0, .slice none 0 0] 24)]) hst
       simp only [Option.some.injEq, Prod.mk.injEq] at hin; obtain ⟨⟨rfl, rfl⟩, rfl⟩ := hin
       refine nx hst ?_
       refine r_nil ?_
       refine W_seq ?_
       refine W_rg [(.l, 0), (.f, 1)] hst ?_
       refine r_sg [(.l, 0)] [[.int .i64 q.kind, .int .i64 q.num, .slice qA q.kids.length qc]] [(⟨b4, 0, none⟩, .int .i64 q.kind), (⟨b4, 1, none⟩, .int .i64 q.num), (⟨b4, 2, none⟩, .slice qA q.kids.length qc)] [(50, .agg #[.int .i64 q.kind, .int .i64 q.num, .slice qA q.kids.length qc])] (rc_L 0 rfl rfl (rc_L 0 rfl rfl (rc_L 0 rfl rfl rc_nil))) ?_
       refine m_st ((b4, .cells #[.int .i64 q.kind, .int .i64 q.num, .slice qA q.kids.length qc] 24) :: (b1, .cells #[.int .i64 q.kind, .int .i64 q.num, .slice qA q.kids.length qc] 24) :: (pb, .cells #[.string (bs s), .int .i64 (((aw1 : Nat) : Int)), .bool true] 91) :: L) 1 [(0, .int .i64 q.kind), (1, .int .i64 q.num), (2, .slice qA q.kids.length qc)] [.int .i64 q.kind, .int .i64 q.num, .slice qA q.kids.length qc] none hst (fun w1 hst => ?_)
       refine r_nil ?_
       refine W_ret ?_
       refine q_rt [.int .i64 q.kind, .int .i64 q.num, .slice qA q.kids.length qc] [(⟨b1, 0, none⟩, .int .i64 q.kind), (⟨b1, 1, none⟩, .int .i64 q.num), (⟨b1, 2, none⟩, .slice qA q.kids.length qc)] (.agg #[.int .i64 q.kind, .int .i64 q.num, .slice qA q.kids.length qc]) (rc_L 1 rfl rfl (rc_L 1 rfl rfl (rc_L 1 rfl rfl rc_nil))) hst ?_
       exact ⟨G1, _, _, rfl, hG1, hqp, haw1, hst.drop [_, _]⟩
      ·skip
       have hst : St G1 ((b4, .cells #[.int .i64 q.kind, .int .i64 q.num, .slice qA q.kids.length qc] 24) :: (b1, .cells #[.int .i64 0, .int .i64 0, .slice none 0 0] 24) :: (pb, .cells #[.string (bs s), .int .i64 (((aw1 : Nat) : Int)), .bool false] 91) :: L) w1 := St.swap (A := [(pb, .cells #[.string (bs s), .int .i64 (((aw1 : Nat) : Int)), .bool false] 91)]) (B := [(b4, .cells #[.int .i64 q.kind, .int .i64 q.num, .slice qA q.kids.length qc] 24), (b1, .cells #[.int .i64 0, .int .i64 0, .slice none 0 0] 24)]) hst
       simp only [Option.some.injEq, Prod.mk.injEq] at hin; obtain ⟨⟨rfl, rfl⟩, rfl⟩ := hin
       refine nx hst ?_
       refine r_nil ?_
       refine W_seq ?_
       refine W_rg [(.l, 0), (.f, 1)] hst ?_
       refine r_sg [(.l, 0)] [[.int .i64 q.kind, .int .i64 q.num, .slice qA q.kids.length qc]] [(⟨b4, 0, none⟩, .int .i64 q.kind), (⟨b4, 1, none⟩, .int .i64 q.num), (⟨b4, 2, none⟩, .slice qA q.kids.length qc)] [(50, .agg #[.int .i64 q.kind, .int .i64 q.num, .slice qA q.kids.length qc])] (rc_L 0 rfl rfl (rc_L 0 rfl rfl (rc_L 0 rfl rfl rc_nil))) ?_
       refine m_st ((b4, .cells #[.int .i64 q.kind, .int .i64 q.num, .slice qA q.kids.length qc] 24) :: (b1, .cells #[.int .i64 q.kind, .int .i64 q.num, .slice qA q.kids.length qc] 24) :: (pb, .cells #[.string (bs s), .int .i64 (((aw1 : Nat) : Int)), .bool false] 91) :: L) 1 [(0, .int .i64 q.kind), (1, .int .i64 q.num), (2, .slice qA q.kids.length qc)] [.int .i64 q.kind, .int .i64 q.num, .slice qA q.kids.length qc] none hst (fun w1 hst => ?_)
       refine r_nil ?_
       refine W_ret ?_
       refine q_rt [.int .i64 q.kind, .int .i64 q.num, .slice qA q.kids.length qc] [(⟨b1, 0, none⟩, .int .i64 q.kind), (⟨b1, 1, none⟩, .int .i64 q.num), (⟨b1, 2, none⟩, .slice qA q.kids.length qc)] (.agg #[.int .i64 q.kind, .int .i64 q.num, .slice qA q.kids.length qc]) (rc_L 1 rfl rfl (rc_L 1 rfl rfl (rc_L 1 rfl rfl rc_nil))) hst ?_
       exact ⟨G1, _, _, rfl, hG1, hqp, haw1, hst.drop [_, _]⟩
    ·rw [hc6]
     have hk3 : (q.kind = 3) := by simpa using hc6
     rw [if_neg (fun hx => hx.2.1 hk3), if_neg (by decide)] at hin
     refine r_en [] [] [(41, undef), (42, undef), (43, undef), (44, .bool false)] rc_nil ?_
     refine W_cF ?_
     refine W_skip ?_
     refine W_seq ?_
     refine W_rg [(.p, 0), (.f, 1)] hst ?_
     refine r_sg [(.p, 0)] [] [] [(48, .pointer (some ⟨pb, 0, none⟩))] rc_nil ?_
     have hst := St.swap (A := [(b4, .cells #[.int .i64 q.kind, .int .i64 q.num, .slice qA q.kids.length qc] 24), (b1, .cells #[.int .i64 0, .int .i64 0, .slice none 0 0] 24)]) (B := [(pb, .cells #[.string (bs s), .int .i64 (((ar : Nat) : Int)), .bool false] 91)]) (C := L) hst
     have hwl := word_le ([41]) s ar har
     refine m_cl #[.pointer (some ⟨pb, 0, none⟩), .string (bs [41])] (some 49) (c98 (l := [41]) har hs (by show _ < _; simp only [List.length_append, List.length_cons, List.length_nil, rletter]; omega) hst) ?_
     rintro vx w1 hst
     simp only [mst, Bool.false_eq_true, if_false] at hst
     generalize hwe2 : word ([41]) s ar = wr2 at hst hwl hin ⊢
     obtain ⟨x2, aw2⟩ := wr2; simp only at hst hwl hin ⊢
     have haw2 : aw2 ≤ s.length := hwl
     cases x2
     ·skip
      have hst : St G1 ((b4, .cells #[.int .i64 q.kind, .int .i64 q.num, .slice qA q.kids.length qc] 24) :: (b1, .cells #[.int .i64 0, .int .i64 0, .slice none 0 0] 24) :: (pb, .cells #[.string (bs s), .int .i64 (((aw2 : Nat) : Int)), .bool true] 91) :: L) w1 := St.swap (A := [(pb, .cells #[.string (bs s), .int .i64 (((aw2 : Nat) : Int)), .bool true] 91)]) (B := [(b4, .cells #[.int .i64 q.kind, .int .i64 q.num, .slice qA q.kids.length qc] 24), (b1, .cells #[.int .i64 0, .int .i64 0, .slice none 0 0] 24)]) hst
      simp only [Option.some.injEq, Prod.mk.injEq] at hin; obtain ⟨⟨rfl, rfl⟩, rfl⟩ := hin
      refine nx hst ?_
      refine r_nil ?_
      refine W_seq ?_
      refine W_rg [(.l, 0), (.f, 1)] hst ?_
      refine r_sg [(.l, 0)] [[.int .i64 q.kind, .int .i64 q.num, .slice qA q.kids.length qc]] [(⟨b4, 0, none⟩, .int .i64 q.kind), (⟨b4, 1, none⟩, .int .i64 q.num), (⟨b4, 2, none⟩, .slice qA q.kids.length qc)] [(50, .agg #[.int .i64 q.kind, .int .i64 q.num, .slice qA q.kids.length qc])] (rc_L 0 rfl rfl (rc_L 0 rfl rfl (rc_L 0 rfl rfl rc_nil))) ?_
      refine m_st ((b4, .cells #[.int .i64 q.kind, .int .i64 q.num, .slice qA q.kids.length qc] 24) :: (b1, .cells #[.int .i64 q.kind, .int .i64 q.num, .slice qA q.kids.length qc] 24) :: (pb, .cells #[.string (bs s), .int .i64 (((aw2 : Nat) : Int)), .bool true] 91) :: L) 1 [(0, .int .i64 q.kind), (1, .int .i64 q.num), (2, .slice qA q.kids.length qc)] [.int .i64 q.kind, .int .i64 q.num, .slice qA q.kids.length qc] none hst (fun w1 hst => ?_)
      refine r_nil ?_
      refine W_ret ?_
      refine q_rt [.int .i64 q.kind, .int .i64 q.num, .slice qA q.kids.length qc] [(⟨b1, 0, none⟩, .int .i64 q.kind), (⟨b1, 1, none⟩, .int .i64 q.num), (⟨b1, 2, none⟩, .slice qA q.kids.length qc)] (.agg #[.int .i64 q.kind, .int .i64 q.num, .slice qA q.kids.length qc]) (rc_L 1 rfl rfl (rc_L 1 rfl rfl (rc_L 1 rfl rfl rc_nil))) hst ?_
      exact ⟨G1, _, _, rfl, hG1, hqp, haw2, hst.drop [_, _]⟩
     ·skip
      have hst : St G1 ((b4, .cells #[.int .i64 q.kind, .int .i64 q.num, .slice qA q.kids.length qc] 24) :: (b1, .cells #[.int .i64 0, .int .i64 0, .slice none 0 0] 24) :: (pb, .cells #[.string (bs s), .int .i64 (((aw2 : Nat) : Int)), .bool false] 91) :: L) w1 := St.swap (A := [(pb, .cells #[.string (bs s), .int .i64 (((aw2 : Nat) : Int)), .bool false] 91)]) (B := [(b4, .cells #[.int .i64 q.kind, .int .i64 q.num, .slice qA q.kids.length qc] 24), (b1, .cells #[.int .i64 0, .int .i64 0, .slice none 0 0] 24)]) hst
      simp only [Option.some.injEq, Prod.mk.injEq] at hin; obtain ⟨⟨rfl, rfl⟩, rfl⟩ := hin
      refine nx hst ?_
      refine r_nil ?_
      refine W_seq ?_
      refine W_rg [(.l, 0), (.f, 1)] hst ?_
      refine r_sg [(.l, 0)] [[.int .i64 q.kind, .int .i64 q.num, .slice qA q.kids.length qc]] [(⟨b4, 0, none⟩, .int .i64 q.kind), (⟨b4, 1, none⟩, .int .i64 q.num), (⟨b4, 2, none⟩, .slice qA q.kids.length qc)] [(50, .agg #[.int .i64 q.kind, .int .i64 q.num, .slice qA q.kids.length qc])] (rc_L 0 rfl rfl (rc_L 0 rfl rfl (rc_L 0 rfl rfl rc_nil))) ?_
      refine m_st ((b4, .cells #[.int .i64 q.kind, .int .i64 q.num, .slice qA q.kids.length qc] 24) :: (b1, .cells #[.int .i64 q.kind, .int .i64 q.num, .slice qA q.kids.length qc] 24) :: (pb, .cells #[.string (bs s), .int .i64 (((aw2 : Nat) : Int)), .bool false] 91) :: L) 1 [(0, .int .i64 q.kind), (1, .int .i64 q.num), (2, .slice qA q.kids.length qc)] [.int .i64 q.kind, .int .i64 q.num, .slice qA q.kids.length qc] none hst (fun w1 hst => ?_)
      refine r_nil ?_
      refine W_ret ?_
      refine q_rt [.int .i64 q.kind, .int .i64 q.num, .slice qA q.kids.length qc] [(⟨b1, 0, none⟩, .int .i64 q.kind), (⟨b1, 1, none⟩, .int .i64 q.num), (⟨b1, 2, none⟩, .slice qA q.kids.length qc)] (.agg #[.int .i64 q.kind, .int .i64 q.num, .slice qA q.kids.length qc]) (rc_L 1 rfl rfl (rc_L 1 rfl rfl (rc_L 1 rfl rfl rc_nil))) hst ?_
      exact ⟨G1, _, _, rfl, hG1, hqp, haw2, hst.drop [_, _]⟩
   ·skip
    rw [if_neg (fun hx => by cases hx.1), if_pos rfl] at hin; simp only [Option.some.injEq, Prod.mk.injEq] at hin; obtain ⟨⟨rfl, rfl⟩, rfl⟩ := hin
    have hst : St G1 ((b4, .cells #[.int .i64 q.kind, .int .i64 q.num, .slice qA q.kids.length qc] 24) :: (b1, .cells #[.int .i64 0, .int .i64 0, .slice none 0 0] 24) :: (pb, .cells #[.string (bs s), .int .i64 (((ar : Nat) : Int)), .bool true] 91) :: L) w1 := hst
    refine W_rg [(.p, 0), (.p, 1), (.p, 2), (.l, 3), (.p, 4), (.p, 5), (.p, 6), (.l, 7), (.p, 8), (.p, 9), (.p, 10), (.p, 11), (.l, 12), (.p, 13), (.p, 14)] hst ?_
    refine r_en [[.bool true]] [(⟨pb, 2, none⟩, .bool true)] [(30, .pointer (some ⟨pb, 0, none⟩)), (31, .pointer (some ⟨pb, 0, none⟩)), (32, .pointer (some ⟨pb, 2, none⟩)), (33, .bool true), (34, .bool false), (35, .bool false), (36, undef), (37, undef), (38, undef), (39, .bool false), (40, .bool false), (41, undef), (42, undef), (43, undef), (44, .bool false)] (rc_L 2 rfl rfl rc_nil) ?_
    refine W_cF ?_
    refine W_skip ?_
    refine W_seq ?_
    refine W_rg [(.p, 0), (.f, 1)] hst ?_
    refine r_sg [(.p, 0)] [] [] [(48, .pointer (some ⟨pb, 0, none⟩))] rc_nil ?_
    have hst := St.swap (A := [(b4, .cells #[.int .i64 q.kind, .int .i64 q.num, .slice qA q.kids.length qc] 24), (b1, .cells #[.int .i64 0, .int .i64 0, .slice none 0 0] 24)]) (B := [(pb, .cells #[.string (bs s), .int .i64 (((ar : Nat) : Int)), .bool true] 91)]) (C := L) hst
    refine m_cl #[.pointer (some ⟨pb, 0, none⟩), .string (bs [41])] (some 49) (c98 (l := [41]) har hs (by show _ < _; simp only [List.length_append, List.length_cons, List.length_nil, rletter]; omega) hst) ?_
    rintro vx w1 hst
    have hst : St G1 ((b4, .cells #[.int .i64 q.kind, .int .i64 q.num, .slice qA q.kids.length qc] 24) :: (b1, .cells #[.int .i64 0, .int .i64 0, .slice none 0 0] 24) :: (pb, .cells #[.string (bs s), .int .i64 (((ar : Nat) : Int)), .bool true] 91) :: L) w1 := St.swap (A := [(pb, .cells #[.string (bs s), .int .i64 (((ar : Nat) : Int)), .bool true] 91)]) (B := [(b4, .cells #[.int .i64 q.kind, .int .i64 q.num, .slice qA q.kids.length qc] 24), (b1, .cells #[.int .i64 0, .int .i64 0, .slice none 0 0] 24)]) hst
    refine nx hst ?_
    refine r_nil ?_
    refine W_seq ?_
    refine W_rg [(.l, 0), (.f, 1)] hst ?_
    refine r_sg [(.l, 0)] [[.int .i64 q.kind, .int .i64 q.num, .slice qA q.kids.length qc]] [(⟨b4, 0, none⟩, .int .i64 q.kind), (⟨b4, 1, none⟩, .int .i64 q.num), (⟨b4, 2, none⟩, .slice qA q.kids.length qc)] [(50, .agg #[.int .i64 q.kind, .int .i64 q.num, .slice qA q.kids.length qc])] (rc_L 0 rfl rfl (rc_L 0 rfl rfl (rc_L 0 rfl rfl rc_nil))) ?_
    refine m_st ((b4, .cells #[.int .i64 q.kind, .int .i64 q.num, .slice qA q.kids.length qc] 24) :: (b1, .cells #[.int .i64 q.kind, .int .i64 q.num, .slice qA q.kids.length qc] 24) :: (pb, .cells #[.string (bs s), .int .i64 (((ar : Nat) : Int)), .bool true] 91) :: L) 1 [(0, .int .i64 q.kind), (1, .int .i64 q.num), (2, .slice qA q.kids.length qc)] [.int .i64 q.kind, .int .i64 q.num, .slice qA q.kids.length qc] none hst (fun w1 hst => ?_)
    refine r_nil ?_
    refine W_ret ?_
    refine q_rt [.int .i64 q.kind, .int .i64 q.num, .slice qA q.kids.length qc] [(⟨b1, 0, none⟩, .int .i64 q.kind), (⟨b1, 1, none⟩, .int .i64 q.num), (⟨b1, 2, none⟩, .slice qA q.kids.length qc)] (.agg #[.int .i64 q.kind, .int .i64 q.num, .slice qA q.kids.length qc]) (rc_L 1 rfl rfl (rc_L 1 rfl rfl (rc_L 1 rfl rfl rc_nil))) hst ?_
    exact ⟨G1, _, _, rfl, hG1, hqp, har, hst.drop [_, _]⟩
  ·skip
   rw [if_neg (of_decide_eq_false hc3)] at hin
   refine W_seq ?_
   refine W_rgd [(.p, 0), (.p, 1), (.p, 2), (.l, 3), (.p, 4), (.p, 5), (.p, 6), (.l, 7), (.p, 8), (.p, 9), (.p, 10), (.p, 11), (.p, 12), (.p, 13), (.l, 14), (.p, 15), (.p, 16), (.p, 17), (.l, 18), (.p, 19), (.p, 20), (.p, 21), (.p, 22), (.p, 23), (.p, 24), (.p, 25), (.l, 26), (.p, 27), (.p, 28), (.p, 29), (.l, 30), (.p, 31), (.p, 32), (.p, 33), (.p, 34), (.p, 35), (.p, 36), (.p, 37)] hst (fun w1 hst => ?_)
   refine r_sg [(.p, 0), (.p, 1), (.p, 2), (.l, 3), (.p, 4), (.p, 5), (.p, 6), (.l, 7), (.p, 8), (.p, 9), (.p, 10)] [[.int .i64 (((at_ : Nat) : Int))], [.string (bs s)]] [(⟨pb, 1, none⟩, .int .i64 (((at_ : Nat) : Int))), (⟨pb, 0, none⟩, .string (bs s))] [(52, .pointer (some ⟨pb, 0, none⟩)), (53, .pointer (some ⟨pb, 0, none⟩)), (54, .pointer (some ⟨pb, 1, none⟩)), (55, .int .i64 (((at_ : Nat) : Int))), (56, .pointer (some ⟨pb, 0, none⟩)), (57, .pointer (some ⟨pb, 0, none⟩)), (58, .pointer (some ⟨pb, 0, none⟩)), (59, .string (bs s)), (60, .int .i64 (((s.length : Nat) : Int))), (61, .bool (decide ((((at_ : Nat) : Int)) < (((s.length : Nat) : Int))))), (62, .bool (decide ((((at_ : Nat) : Int)) < (((s.length : Nat) : Int)))))] (rc_L 1 rfl rfl (rc_L 1 rfl rfl rc_nil)) ?_
   rcases Bool.eq_false_or_eq_true (decide ((((at_ : Nat) : Int)) < (((s.length : Nat) : Int)))) with hc8 | hc8
   ·rw [hc8]
    have hlt1 : at_ < s.length := by have := of_decide_eq_true hc8; omega
    obtain ⟨c, hc⟩ := get_of_lt hlt1; have hati : at_ + 1 ≤ s.length := hlt1; rw [hc] at hin; dsimp only at hin
    refine r_sg [(.p, 11), (.p, 12), (.p, 13), (.l, 14), (.p, 15), (.p, 16), (.p, 17), (.l, 18)] [[.string (bs s)], [.int .i64 (((at_ : Nat) : Int))]] [(⟨pb, 0, none⟩, .string (bs s)), (⟨pb, 1, none⟩, .int .i64 (((at_ : Nat) : Int)))] [(63, .pointer (some ⟨pb, 0, none⟩)), (64, .pointer (some ⟨pb, 0, none⟩)), (65, .pointer (some ⟨pb, 0, none⟩)), (66, .string (bs s)), (67, .pointer (some ⟨pb, 0, none⟩)), (68, .pointer (some ⟨pb, 0, none⟩)), (69, .pointer (some ⟨pb, 1, none⟩)), (70, .int .i64 (((at_ : Nat) : Int)))] (rc_L 1 rfl rfl (rc_L 1 rfl rfl rc_nil)) ?_
    refine m_strIndex (l := s) (k := at_) (b := c) (d := (some 71)) (show opAt _ _ _ = some (.index 9 (.tmp 66) (.tmp 70), _) by kernel_rfl) (by kernel_rfl) (by kernel_rfl) Try.underlying9 hc ?_
    refine r_sg [(.p, 20), (.p, 21), (.p, 22)] [] [] [(72, .bool (decide ((((c.toNat : Nat) : Int)) ≥ 97))), (73, .bool (decide ((((c.toNat : Nat) : Int)) ≥ 97))), (74, .bool (decide ((((c.toNat : Nat) : Int)) ≥ 97)))] rc_nil ?_
    rcases Bool.eq_false_or_eq_true (decide ((((c.toNat : Nat) : Int)) ≥ 97)) with hc9 | hc9
    ·rw [hc9]
     have hge : (97 ≤ c.toNat) := by have := of_decide_eq_true hc9; omega
     refine r_sg [(.p, 23), (.p, 24), (.p, 25), (.l, 26), (.p, 27), (.p, 28), (.p, 29), (.l, 30)] [[.string (bs s)], [.int .i64 (((at_ : Nat) : Int))]] [(⟨pb, 0, none⟩, .string (bs s)), (⟨pb, 1, none⟩, .int .i64 (((at_ : Nat) : Int)))] [(75, .pointer (some ⟨pb, 0, none⟩)), (76, .pointer (some ⟨pb, 0, none⟩)), (77, .pointer (some ⟨pb, 0, none⟩)), (78, .string (bs s)), (79, .pointer (some ⟨pb, 0, none⟩)), (80, .pointer (some ⟨pb, 0, none⟩)), (81, .pointer (some ⟨pb, 1, none⟩)), (82, .int .i64 (((at_ : Nat) : Int)))] (rc_L 1 rfl rfl (rc_L 1 rfl rfl rc_nil)) ?_
     refine m_strIndex (l := s) (k := at_) (b := c) (d := (some 83)) (show opAt _ _ _ = some (.index 9 (.tmp 78) (.tmp 82), _) by kernel_rfl) (by kernel_rfl) (by kernel_rfl) Try.underlying9 hc ?_
     refine r_en [] [] [(84, .int .u8 (IntKind.wrap .u8 ((((c.toNat : Nat) : Int)) - 97))), (85, .int .i64 (IntKind.wrap .i64 (IntKind.wrap .u8 ((((c.toNat : Nat) : Int)) - 97)))), (86, .int .i64 n), (87, .bool (decide ((IntKind.wrap .i64 (IntKind.wrap .u8 ((((c.toNat : Nat) : Int)) - 97))) < n))), (88, .bool (decide ((IntKind.wrap .i64 (IntKind.wrap .u8 ((((c.toNat : Nat) : Int)) - 97))) < n))), (51, .bool (decide ((IntKind.wrap .i64 (IntKind.wrap .u8 ((((c.toNat : Nat) : Int)) - 97))) < n)))] rc_nil ?_
     refine W_cd (b := decide ((IntKind.wrap .i64 (IntKind.wrap .u8 ((((c.toNat : Nat) : Int)) - 97))) < n)) (fun hc10 => ?_) (fun hc10 => ?_)
     ·skip
      rw [u8_sub hge] at hc10
      rw [if_pos ⟨UInt8.le_iff_toNat_le.2 hge, of_decide_eq_true hc10⟩] at hin; simp only [Option.some.injEq, Prod.mk.injEq] at hin; obtain ⟨⟨rfl, rfl⟩, rfl⟩ := hin
      refine W_seq ?_
      refine W_rg [(.p, 0), (.p, 1), (.p, 2), (.l, 3), (.p, 4), (.p, 5), (.p, 6), (.f, 7)] hst ?_
      refine r_sg [(.p, 0), (.p, 1), (.p, 2), (.l, 3), (.p, 4), (.p, 5), (.p, 6)] [[.int .i64 (((at_ : Nat) : Int))]] [(⟨pb, 1, none⟩, .int .i64 (((at_ : Nat) : Int)))] [(89, .pointer (some ⟨pb, 0, none⟩)), (90, .pointer (some ⟨pb, 0, none⟩)), (91, .pointer (some ⟨pb, 1, none⟩)), (92, .int .i64 (((at_ : Nat) : Int))), (93, .int .i64 (IntKind.wrap .i64 ((((at_ : Nat) : Int)) + 1))), (94, .pointer (some ⟨pb, 0, none⟩)), (95, .pointer (some ⟨pb, 1, none⟩))] (rc_L 1 rfl rfl rc_nil) ?_
      refine m_st ((b1, .cells #[.int .i64 0, .int .i64 0, .slice none 0 0] 24) :: (pb, .cells #[.string (bs s), .int .i64 (IntKind.wrap .i64 ((((at_ : Nat) : Int)) + 1)), .bool false] 91) :: L) 1 [(1, .int .i64 (IntKind.wrap .i64 ((((at_ : Nat) : Int)) + 1)))] [.string (bs s), .int .i64 (IntKind.wrap .i64 ((((at_ : Nat) : Int)) + 1)), .bool false] none hst (fun w1 hst => ?_)
      refine r_nil ?_
      refine W_seq ?_
      rw [wrap_succ (by omega)] at hst
      refine W_rgd [(.p, 0), (.p, 1), (.p, 2), (.p, 3), (.p, 4), (.l, 5), (.p, 6), (.p, 7), (.p, 8), (.l, 9), (.p, 10), (.p, 11), (.p, 12), (.p, 13), (.p, 14), (.p, 15), (.f, 16)] hst (fun w1 hst => ?_)
      refine r_sg [(.p, 0), (.p, 1), (.p, 2), (.p, 3), (.p, 4), (.l, 5), (.p, 6), (.p, 7), (.p, 8), (.l, 9), (.p, 10)] [[.string (bs s)], [.int .i64 (((at_ + 1 : Nat) : Int))]] [(⟨pb, 0, none⟩, .string (bs s)), (⟨pb, 1, none⟩, .int .i64 (((at_ + 1 : Nat) : Int)))] [(96, .int .i64 n), (97, .int .i64 (IntKind.wrap .i64 (n - 1))), (98, .pointer (some ⟨pb, 0, none⟩)), (99, .pointer (some ⟨pb, 0, none⟩)), (100, .pointer (some ⟨pb, 0, none⟩)), (101, .string (bs s)), (102, .pointer (some ⟨pb, 0, none⟩)), (103, .pointer (some ⟨pb, 0, none⟩)), (104, .pointer (some ⟨pb, 1, none⟩)), (105, .int .i64 (((at_ + 1 : Nat) : Int))), (106, .int .i64 (IntKind.wrap .i64 ((((at_ + 1 : Nat) : Int)) - 1)))] (rc_L 1 rfl rfl (rc_L 1 rfl rfl rc_nil)) ?_
      have hm1 : IntKind.wrap .i64 ((((at_ + 1 : Nat) : Int)) - 1) = ((at_ : Nat) : Int) := by rw [wrap_id (by omega) (by omega)]; omega
      refine m_strIndex (l := s) (k := at_) (b := c) (d := (some 107)) (show opAt _ _ _ = some (.index 9 (.tmp 101) (.tmp 106), _) by kernel_rfl) (by kernel_rfl) (by rw [← hm1]; kernel_rfl) Try.underlying9 hc ?_
      refine r_sg [(.p, 12), (.p, 13), (.p, 14), (.p, 15)] [] [] [(108, .int .u8 (IntKind.wrap .u8 ((((c.toNat : Nat) : Int)) - 97))), (109, .int .i64 (IntKind.wrap .i64 (IntKind.wrap .u8 ((((c.toNat : Nat) : Int)) - 97)))), (110, .int .i64 (IntKind.wrap .i64 ((IntKind.wrap .i64 (n - 1)) - (IntKind.wrap .i64 (IntKind.wrap .u8 ((((c.toNat : Nat) : Int)) - 97)))))), (111, .agg #[.int .i64 1, .int .i64 (IntKind.wrap .i64 ((IntKind.wrap .i64 (n - 1)) - (IntKind.wrap .i64 (IntKind.wrap .u8 ((((c.toNat : Nat) : Int)) - 97))))), .slice none 0 0])] rc_nil ?_
      refine m_st ((b1, .cells #[.int .i64 1, .int .i64 (IntKind.wrap .i64 ((IntKind.wrap .i64 (n - 1)) - (IntKind.wrap .i64 (IntKind.wrap .u8 ((((c.toNat : Nat) : Int)) - 97))))), .slice none 0 0] 24) :: (pb, .cells #[.string (bs s), .int .i64 (((at_ + 1 : Nat) : Int)), .bool false] 91) :: L) 0 [(0, .int .i64 1), (1, .int .i64 (IntKind.wrap .i64 ((IntKind.wrap .i64 (n - 1)) - (IntKind.wrap .i64 (IntKind.wrap .u8 ((((c.toNat : Nat) : Int)) - 97)))))), (2, .slice none 0 0)] [.int .i64 1, .int .i64 (IntKind.wrap .i64 ((IntKind.wrap .i64 (n - 1)) - (IntKind.wrap .i64 (IntKind.wrap .u8 ((((c.toNat : Nat) : Int)) - 97))))), .slice none 0 0] none hst (fun w1 hst => ?_)
      refine r_nil ?_
      refine W_ret ?_
      refine q_rt [.int .i64 1, .int .i64 (IntKind.wrap .i64 ((IntKind.wrap .i64 (n - 1)) - (IntKind.wrap .i64 (IntKind.wrap .u8 ((((c.toNat : Nat) : Int)) - 97))))), .slice none 0 0] [(⟨b1, 0, none⟩, .int .i64 1), (⟨b1, 1, none⟩, .int .i64 (IntKind.wrap .i64 ((IntKind.wrap .i64 (n - 1)) - (IntKind.wrap .i64 (IntKind.wrap .u8 ((((c.toNat : Nat) : Int)) - 97)))))), (⟨b1, 2, none⟩, .slice none 0 0)] (.agg #[.int .i64 1, .int .i64 (IntKind.wrap .i64 ((IntKind.wrap .i64 (n - 1)) - (IntKind.wrap .i64 (IntKind.wrap .u8 ((((c.toNat : Nat) : Int)) - 97))))), .slice none 0 0]) (rc_L 0 rfl rfl (rc_L 0 rfl rfl (rc_L 0 rfl rfl rc_nil))) hst ?_
      rw [u8_sub hge]
      exact ⟨G, _, _, rfl, Le.refl _, IsPoly.mk (t := .mk 1 _ []) (Nat.le_refl _) IsPolys.nil, hati, hst.drop [_]⟩
     ·skip
      rw [u8_sub hge] at hc10
      rw [if_neg (fun hx => of_decide_eq_false hc10 hx.2)] at hin; simp only [Option.some.injEq, Prod.mk.injEq] at hin; obtain ⟨⟨rfl, rfl⟩, rfl⟩ := hin
      refine W_skip ?_
      refine W_seq ?_
      refine W_rg [(.p, 0), (.p, 1), (.p, 2), (.f, 3)] hst ?_
      refine r_sg [(.p, 0), (.p, 1), (.p, 2)] [] [] [(112, .pointer (some ⟨pb, 0, none⟩)), (113, .pointer (some ⟨pb, 0, none⟩)), (114, .pointer (some ⟨pb, 2, none⟩))] rc_nil ?_
      refine m_st ((b1, .cells #[.int .i64 0, .int .i64 0, .slice none 0 0] 24) :: (pb, .cells #[.string (bs s), .int .i64 (((at_ : Nat) : Int)), .bool true] 91) :: L) 1 [(2, .bool true)] [.string (bs s), .int .i64 (((at_ : Nat) : Int)), .bool true] none hst (fun w1 hst => ?_)
      refine r_nil ?_
      refine W_seq ?_
      refine W_rg [(.p, 0), (.f, 1)] hst ?_
      refine r_sg [(.p, 0)] [] [] [(115, .agg #[.int .i64 0, .int .i64 0, .slice none 0 0])] rc_nil ?_
      refine m_st ((b1, .cells #[.int .i64 0, .int .i64 0, .slice none 0 0] 24) :: (pb, .cells #[.string (bs s), .int .i64 (((at_ : Nat) : Int)), .bool true] 91) :: L) 0 [(0, .int .i64 0), (1, .int .i64 0), (2, .slice none 0 0)] [.int .i64 0, .int .i64 0, .slice none 0 0] none hst (fun w1 hst => ?_)
      refine r_nil ?_
      refine W_ret ?_
      refine q_rt [.int .i64 0, .int .i64 0, .slice none 0 0] [(⟨b1, 0, none⟩, .int .i64 0), (⟨b1, 1, none⟩, .int .i64 0), (⟨b1, 2, none⟩, .slice none 0 0)] (.agg #[.int .i64 0, .int .i64 0, .slice none 0 0]) (rc_L 0 rfl rfl (rc_L 0 rfl rfl (rc_L 0 rfl rfl rc_nil))) hst ?_
      exact ⟨G, _, _, rfl, Le.refl _, IsPoly.mk (t := t0) (Nat.le_refl _) IsPolys.nil, hat, hst.drop [_]⟩
    ·rw [hc9]
     have hge : ¬(97 ≤ c.toNat) := by have := of_decide_eq_false hc9; omega
     rw [if_neg (show ¬ (c ≥ 97 ∧ (((c - 97).toNat : Nat) : Int) < n) from fun hx => hge (UInt8.le_iff_toNat_le.1 hx.1))] at hin; simp only [Option.some.injEq, Prod.mk.injEq] at hin; obtain ⟨⟨rfl, rfl⟩, rfl⟩ := hin
     refine r_en [] [] [(75, undef), (76, undef), (77, undef), (78, undef), (79, undef), (80, undef), (81, undef), (82, undef), (83, undef), (84, undef), (85, undef), (86, undef), (87, undef), (88, .bool false), (51, .bool false)] rc_nil ?_
     refine W_cF ?_
     refine W_skip ?_
     refine W_seq ?_
     refine W_rg [(.p, 0), (.p, 1), (.p, 2), (.f, 3)] hst ?_
     refine r_sg [(.p, 0), (.p, 1), (.p, 2)] [] [] [(112, .pointer (some ⟨pb, 0, none⟩)), (113, .pointer (some ⟨pb, 0, none⟩)), (114, .pointer (some ⟨pb, 2, none⟩))] rc_nil ?_
     refine m_st ((b1, .cells #[.int .i64 0, .int .i64 0, .slice none 0 0] 24) :: (pb, .cells #[.string (bs s), .int .i64 (((at_ : Nat) : Int)), .bool true] 91) :: L) 1 [(2, .bool true)] [.string (bs s), .int .i64 (((at_ : Nat) : Int)), .bool true] none hst (fun w1 hst => ?_)
     refine r_nil ?_
     refine W_seq ?_
     refine W_rg [(.p, 0), (.f, 1)] hst ?_
     refine r_sg [(.p, 0)] [] [] [(115, .agg #[.int .i64 0, .int .i64 0, .slice none 0 0])] rc_nil ?_
     refine m_st ((b1, .cells #[.int .i64 0, .int .i64 0, .slice none 0 0] 24) :: (pb, .cells #[.string (bs s), .int .i64 (((at_ : Nat) : Int)), .bool true] 91) :: L) 0 [(0, .int .i64 0), (1, .int .i64 0), (2, .slice none 0 0)] [.int .i64 0, .int .i64 0, .slice none 0 0] none hst (fun w1 hst => ?_)
     refine r_nil ?_
     refine W_ret ?_
     refine q_rt [.int .i64 0, .int .i64 0, .slice none 0 0] [(⟨b1, 0, none⟩, .int .i64 0), (⟨b1, 1, none⟩, .int .i64 0), (⟨b1, 2, none⟩, .slice none 0 0)] (.agg #[.int .i64 0, .int .i64 0, .slice none 0 0]) (rc_L 0 rfl rfl (rc_L 0 rfl rfl (rc_L 0 rfl rfl rc_nil))) hst ?_
     exact ⟨G, _, _, rfl, Le.refl _, IsPoly.mk (t := t0) (Nat.le_refl _) IsPolys.nil, hat, hst.drop [_]⟩
   ·rw [hc8]
    rw [List.getElem?_eq_none (by have := of_decide_eq_false hc8; omega)] at hin; simp only [Option.some.injEq, Prod.mk.injEq] at hin; obtain ⟨⟨rfl, rfl⟩, rfl⟩ := hin
    refine r_en [] [] [(63, undef), (64, undef), (65, undef), (66, undef), (67, undef), (68, undef), (69, undef), (70, undef), (71, undef), (72, undef), (73, .bool false), (74, .bool false), (75, undef), (76, undef), (77, undef), (78, undef), (79, undef), (80, undef), (81, undef), (82, undef), (83, undef), (84, undef), (85, undef), (86, undef), (87, undef), (88, .bool false), (51, .bool false)] rc_nil ?_
    refine W_cF ?_
    refine W_skip ?_
    refine W_seq ?_
    refine W_rg [(.p, 0), (.p, 1), (.p, 2), (.f, 3)] hst ?_
    refine r_sg [(.p, 0), (.p, 1), (.p, 2)] [] [] [(112, .pointer (some ⟨pb, 0, none⟩)), (113, .pointer (some ⟨pb, 0, none⟩)), (114, .pointer (some ⟨pb, 2, none⟩))] rc_nil ?_
    refine m_st ((b1, .cells #[.int .i64 0, .int .i64 0, .slice none 0 0] 24) :: (pb, .cells #[.string (bs s), .int .i64 (((at_ : Nat) : Int)), .bool true] 91) :: L) 1 [(2, .bool true)] [.string (bs s), .int .i64 (((at_ : Nat) : Int)), .bool true] none hst (fun w1 hst => ?_)
    refine r_nil ?_
    refine W_seq ?_
    refine W_rg [(.p, 0), (.f, 1)] hst ?_
    refine r_sg [(.p, 0)] [] [] [(115, .agg #[.int .i64 0, .int .i64 0, .slice none 0 0])] rc_nil ?_
    refine m_st ((b1, .cells #[.int .i64 0, .int .i64 0, .slice none 0 0] 24) :: (pb, .cells #[.string (bs s), .int .i64 (((at_ : Nat) : Int)), .bool true] 91) :: L) 0 [(0, .int .i64 0), (1, .int .i64 0), (2, .slice none 0 0)] [.int .i64 0, .int .i64 0, .slice none 0 0] none hst (fun w1 hst => ?_)
    refine r_nil ?_
    refine W_ret ?_
    refine q_rt [.int .i64 0, .int .i64 0, .slice none 0 0] [(⟨b1, 0, none⟩, .int .i64 0), (⟨b1, 1, none⟩, .int .i64 0), (⟨b1, 2, none⟩, .slice none 0 0)] (.agg #[.int .i64 0, .int .i64 0, .slice none 0 0]) (rc_L 0 rfl rfl (rc_L 0 rfl rfl (rc_L 0 rfl rfl rc_nil))) hst ?_
    exact ⟨G, _, _, rfl, Le.refl _, IsPoly.mk (t := t0) (Nat.le_refl _) IsPolys.nil, hat, hst.drop [_]⟩

theorem c60 : ∀ f, RT f := by
 intro f
 induction f using Nat.strongRecOn with
 | _ f ih =>
 intro G L w pb at_ at2 s n b0 t hat hs hst hin
 have hlim : lim = 1099511627776 := rfl
 obtain _ | f := f
 ·cases hin
 unfold Md.rtyped at hin
 refine cal_of_W Try.func60 rfl (Nat.le_of_ble_eq_true (by kernel_rfl)) ?_
 refine W_seq ?_
 refine W_rg [(.f, 0)] hst ?_
 refine m_new (.cells #[.int .i64 0, .int .i64 0, .slice none 0 0] 24) (fun b1 => .pointer (some ⟨b1, 0, none⟩)) (some 4) (fun b => by kernel_rfl) hst (fun b1 w1 hst => ?_)
 refine r_nil ?_
 refine W_seq ?_
 refine W_seq ?_
 refine W_rg [(.p, 0), (.p, 1), (.f, 2)] hst ?_
 refine r_sg [(.p, 0), (.p, 1)] [] [] [(7, .pointer (some ⟨pb, 0, none⟩)), (8, .int .i64 n)] rc_nil ?_
 have hst := St.swap (A := [(b1, .cells #[.int .i64 0, .int .i64 0, .slice none 0 0] 24)]) (B := [(pb, .cells #[.string (bs s), .int .i64 (((at_ : Nat) : Int)), .bool false] 91)]) (C := L) hst
 refine m_cl #[.pointer (some ⟨pb, 0, none⟩), .int .i64 n] (some 9) (c94 hat hs hst) ?_
 rintro _ w1 ⟨rfl, hst⟩
 have hst : St G ((b1, .cells #[.int .i64 0, .int .i64 0, .slice none 0 0] 24) :: (pb, .cells #[.string (bs s), .int .i64 (((at_ : Nat) : Int)), .bool false] 91) :: L) w1 := St.swap (A := [(pb, .cells #[.string (bs s), .int .i64 (((at_ : Nat) : Int)), .bool false] 91)]) (B := [(b1, .cells #[.int .i64 0, .int .i64 0, .slice none 0 0] 24)]) hst
 refine nx hst ?_
 refine r_nil ?_
 refine W_cd (b := decide (s[at_]? = some 97 ∧ n ≠ 26 ∧ (n = 0 ∨ s[at_ + 1]? = some 108))) (fun hc2 => ?_) (fun hc2 => ?_)
 ·skip
  rw [if_pos (of_decide_eq_true hc2)] at hin
  refine W_seq ?_
  refine W_rg [(.p, 0), (.p, 1), (.f, 2), (.f, 3)] hst ?_
  refine r_sg [(.p, 0), (.p, 1)] [] [] [(10, .pointer (some ⟨pb, 0, none⟩)), (11, .int .i64 n)] rc_nil ?_
  have hst := St.swap (A := [(b1, .cells #[.int .i64 0, .int .i64 0, .slice none 0 0] 24)]) (B := [(pb, .cells #[.string (bs s), .int .i64 (((at_ : Nat) : Int)), .bool false] 91)]) (C := L) hst
  refine m_cl #[.pointer (some ⟨pb, 0, none⟩), .int .i64 n] (some 12) (c95 (fun g hg => ih g (by omega)) hat hs hst hin) ?_
  rintro _ w1 ⟨G1, qA, qc, rfl, hG1, hqp, hat2, hst⟩
  have hst : St G1 ((b1, .cells #[.int .i64 0, .int .i64 0, .slice none 0 0] 24) :: (pb, .cells #[.string (bs s), .int .i64 (((at2 : Nat) : Int)), .bool b0] 91) :: L) w1 := St.swap (A := [(pb, .cells #[.string (bs s), .int .i64 (((at2 : Nat) : Int)), .bool b0] 91)]) (B := [(b1, .cells #[.int .i64 0, .int .i64 0, .slice none 0 0] 24)]) hst
  refine nx hst ?_
  refine m_st ((b1, .cells #[.int .i64 t.kind, .int .i64 t.num, .slice qA t.kids.length qc] 24) :: (pb, .cells #[.string (bs s), .int .i64 (((at2 : Nat) : Int)), .bool b0] 91) :: L) 0 [(0, .int .i64 t.kind), (1, .int .i64 t.num), (2, .slice qA t.kids.length qc)] [.int .i64 t.kind, .int .i64 t.num, .slice qA t.kids.length qc] none hst (fun w1 hst => ?_)
  refine r_nil ?_
  refine W_ret ?_
  refine q_rt [.int .i64 t.kind, .int .i64 t.num, .slice qA t.kids.length qc] [(⟨b1, 0, none⟩, .int .i64 t.kind), (⟨b1, 1, none⟩, .int .i64 t.num), (⟨b1, 2, none⟩, .slice qA t.kids.length qc)] (.agg #[.int .i64 t.kind, .int .i64 t.num, .slice qA t.kids.length qc]) (rc_L 0 rfl rfl (rc_L 0 rfl rfl (rc_L 0 rfl rfl rc_nil))) hst ?_
  exact ⟨G1, _, _, rfl, hG1, hqp, hat2, hst.drop [_]⟩
 ·skip
  rw [if_neg (of_decide_eq_false hc2)] at hin
  refine W_skip ?_
  refine W_seq ?_
  refine W_rg [(.p, 0), (.f, 1), (.p, 2)] hst ?_
  refine r_sg [(.p, 0)] [] [] [(13, .pointer (some ⟨pb, 0, none⟩))] rc_nil ?_
  have hst := St.swap (A := [(b1, .cells #[.int .i64 0, .int .i64 0, .slice none 0 0] 24)]) (B := [(pb, .cells #[.string (bs s), .int .i64 (((at_ : Nat) : Int)), .bool false] 91)]) (C := L) hst
  refine m_cl #[.pointer (some ⟨pb, 0, none⟩), .int .u8 40] (some 14) (c96 (c := 40) hat hst) ?_
  rintro _ w1 ⟨rfl, hst⟩
  have hst : St G ((b1, .cells #[.int .i64 0, .int .i64 0, .slice none 0 0] 24) :: (pb, .cells #[.string (bs s), .int .i64 (((at_ : Nat) : Int)), .bool false] 91) :: L) w1 := St.swap (A := [(pb, .cells #[.string (bs s), .int .i64 (((at_ : Nat) : Int)), .bool false] 91)]) (B := [(b1, .cells #[.int .i64 0, .int .i64 0, .slice none 0 0] 24)]) hst
  refine nx hst ?_
  refine r_en [] [] [(5, .bool (decide (s[at_]? = some 40)))] rc_nil ?_
  refine W_seq ?_
  refine W_rg [(.p, 0), (.p, 1), (.f, 2), (.f, 3), (.f, 4)] hst ?_
  refine r_sg [(.p, 0), (.p, 1)] [] [] [(15, .pointer (some ⟨pb, 0, none⟩)), (16, .int .i64 n)] rc_nil ?_
  obtain ⟨⟨⟨q, qb⟩, ar⟩, hq, hin⟩ := Option.bind_eq_some_iff.1 hin; dsimp only at hin
  have hst := St.swap (A := [(b1, .cells #[.int .i64 0, .int .i64 0, .slice none 0 0] 24)]) (B := [(pb, .cells #[.string (bs s), .int .i64 (((at_ : Nat) : Int)), .bool false] 91)]) (C := L) hst
  refine m_cl #[.pointer (some ⟨pb, 0, none⟩), .int .i64 n] (some 17) (c97 (fun g hg => ih g (by omega)) hat hs hst hq) ?_
  rintro _ w1 ⟨G1, qA, qc, rfl, hG1, hqp, har, hst⟩
  have hst : St G1 ((b1, .cells #[.int .i64 0, .int .i64 0, .slice none 0 0] 24) :: (pb, .cells #[.string (bs s), .int .i64 (((ar : Nat) : Int)), .bool qb] 91) :: L) w1 := St.swap (A := [(pb, .cells #[.string (bs s), .int .i64 (((ar : Nat) : Int)), .bool qb] 91)]) (B := [(b1, .cells #[.int .i64 0, .int .i64 0, .slice none 0 0] 24)]) hst
  refine nx hst ?_
  refine m_new (.cells #[.int .i64 0, .int .i64 0, .slice none 0 0] 24) (fun b3 => .pointer (some ⟨b3, 0, none⟩)) (some 6) (fun b => by kernel_rfl) hst (fun b3 w1 hst => ?_)
  refine m_st ((b3, .cells #[.int .i64 q.kind, .int .i64 q.num, .slice qA q.kids.length qc] 24) :: (b1, .cells #[.int .i64 0, .int .i64 0, .slice none 0 0] 24) :: (pb, .cells #[.string (bs s), .int .i64 (((ar : Nat) : Int)), .bool qb] 91) :: L) 0 [(0, .int .i64 q.kind), (1, .int .i64 q.num), (2, .slice qA q.kids.length qc)] [.int .i64 q.kind, .int .i64 q.num, .slice qA q.kids.length qc] none hst (fun w1 hst => ?_)
  refine r_nil ?_
  refine W_seq ?_
  refine W_seq ?_
  cases qb
  ·skip
   have hst : St G1 ((b3, .cells #[.int .i64 q.kind, .int .i64 q.num, .slice qA q.kids.length qc] 24) :: (b1, .cells #[.int .i64 0, .int .i64 0, .slice none 0 0] 24) :: (pb, .cells #[.string (bs s), .int .i64 (((ar : Nat) : Int)), .bool false] 91) :: L) w1 := hst
   refine W_rg [(.p, 0), (.p, 1), (.p, 2), (.l, 3), (.p, 4), (.p, 5), (.p, 6), (.p, 7), (.p, 8), (.f, 9), (.p, 10), (.p, 11), (.p, 12)] hst ?_
   refine r_sg [(.p, 0), (.p, 1), (.p, 2), (.l, 3), (.p, 4), (.p, 5), (.p, 6), (.p, 7)] [[.bool false]] [(⟨pb, 2, none⟩, .bool false)] [(18, .pointer (some ⟨pb, 0, none⟩)), (19, .pointer (some ⟨pb, 0, none⟩)), (20, .pointer (some ⟨pb, 2, none⟩)), (21, .bool false), (22, .bool false), (23, .bool (decide (s[at_]? = some 40))), (24, .bool (!(decide (s[at_]? = some 40)))), (25, .bool (!(decide (s[at_]? = some 40))))] (rc_L 2 rfl rfl rc_nil) ?_
   rcases Bool.eq_false_or_eq_true (!(decide (s[at_]? = some 40))) with hc5 | hc5
   ·rw [hc5]
    have h40 : ¬ (s[at_]? = some 40) := by simpa using hc5
    refine r_sg [(.p, 8)] [] [] [(26, .pointer (some ⟨pb, 0, none⟩))] rc_nil ?_
    have hst := St.swap (A := [(b3, .cells #[.int .i64 q.kind, .int .i64 q.num, .slice qA q.kids.length qc] 24), (b1, .cells #[.int .i64 0, .int .i64 0, .slice none 0 0] 24)]) (B := [(pb, .cells #[.string (bs s), .int .i64 (((ar : Nat) : Int)), .bool false] 91)]) (C := L) hst
    refine m_cl #[.pointer (some ⟨pb, 0, none⟩), .int .u8 32] (some 27) (c96 (c := 32) har hst) ?_
    rintro _ w1 ⟨rfl, hst⟩
    have hst : St G1 ((b3, .cells #[.int .i64 q.kind, .int .i64 q.num, .slice qA q.kids.length qc] 24) :: (b1, .cells #[.int .i64 0, .int .i64 0, .slice none 0 0] 24) :: (pb, .cells #[.string (bs s), .int .i64 (((ar : Nat) : Int)), .bool false] 91) :: L) w1 := St.swap (A := [(pb, .cells #[.string (bs s), .int .i64 (((ar : Nat) : Int)), .bool false] 91)]) (B := [(b3, .cells #[.int .i64 q.kind, .int .i64 q.num, .slice qA q.kids.length qc] 24), (b1, .cells #[.int .i64 0, .int .i64 0, .slice none 0 0] 24)]) hst
    refine nx hst ?_
    refine r_en [] [] [(28, .bool (!(decide (s[ar]? = some 32)))), (29, .bool (!(decide (s[ar]? = some 32)))), (30, .bool (!(decide (s[ar]? = some 32))))] rc_nil ?_
    refine W_cd (b := !(decide (s[ar]? = some 32))) (fun hc6 => ?_) (fun hc6 => ?_)
    ·skip
     have h32 : ¬ (s[ar]? = some 32) := by simpa using hc6
     rw [if_pos (.inr ⟨h40, h32⟩)] at hin; simp only [Option.some.injEq, Prod.mk.injEq] at hin; obtain ⟨⟨rfl, rfl⟩, rfl⟩ := hin
     refine W_seq ?_
     refine W_rg [(.l, 0), (.f, 1)] hst ?_
     refine r_sg [(.l, 0)] [[.int .i64 q.kind, .int .i64 q.num, .slice qA q.kids.length qc]] [(⟨b3, 0, none⟩, .int .i64 q.kind), (⟨b3, 1, none⟩, .int .i64 q.num), (⟨b3, 2, none⟩, .slice qA q.kids.length qc)] [(31, .agg #[.int .i64 q.kind, .int .i64 q.num, .slice qA q.kids.length qc])] (rc_L 0 rfl rfl (rc_L 0 rfl rfl (rc_L 0 rfl rfl rc_nil))) ?_
     refine m_st ((b3, .cells #[.int .i64 q.kind, .int .i64 q.num, .slice qA q.kids.length qc] 24) :: (b1, .cells #[.int .i64 q.kind, .int .i64 q.num, .slice qA q.kids.length qc] 24) :: (pb, .cells #[.string (bs s), .int .i64 (((ar : Nat) : Int)), .bool false] 91) :: L) 1 [(0, .int .i64 q.kind), (1, .int .i64 q.num), (2, .slice qA q.kids.length qc)] [.int .i64 q.kind, .int .i64 q.num, .slice qA q.kids.length qc] none hst (fun w1 hst => ?_)
     refine r_nil ?_
     refine W_ret ?_
     refine q_rt [.int .i64 q.kind, .int .i64 q.num, .slice qA q.kids.length qc] [(⟨b1, 0, none⟩, .int .i64 q.kind), (⟨b1, 1, none⟩, .int .i64 q.num), (⟨b1, 2, none⟩, .slice qA q.kids.length qc)] (.agg #[.int .i64 q.kind, .int .i64 q.num, .slice qA q.kids.length qc]) (rc_L 1 rfl rfl (rc_L 1 rfl rfl (rc_L 1 rfl rfl rc_nil))) hst ?_
     exact ⟨G1, _, _, rfl, hG1, hqp, har, hst.drop [_, _]⟩
    ·skip
     have h32 : (s[ar]? = some 32) := by simpa using hc6
     rw [if_neg (fun hx => hx.elim (fun h => by cases h) (fun h => h.2 h32))] at hin
     refine W_skip ?_
     refine W_seq ?_
     refine W_rg [(.p, 0), (.f, 1)] hst ?_
     refine r_sg [(.p, 0)] [] [] [(32, .pointer (some ⟨pb, 0, none⟩))] rc_nil ?_
     have hst := St.swap (A := [(b3, .cells #[.int .i64 q.kind, .int .i64 q.num, .slice qA q.kids.length qc] 24), (b1, .cells #[.int .i64 0, .int .i64 0, .slice none 0 0] 24)]) (B := [(pb, .cells #[.string (bs s), .int .i64 (((ar : Nat) : Int)), .bool false] 91)]) (C := L) hst
     have hwl := word_le ([32, 45, 62, 32]) s ar har
     refine m_cl #[.pointer (some ⟨pb, 0, none⟩), .string (bs [32, 45, 62, 32])] (some 33) (c98 (l := [32, 45, 62, 32]) har hs (by show _ < _; simp only [List.length_append, List.length_cons, List.length_nil, rletter]; omega) hst) ?_
     rintro vx w1 hst
     simp only [mst, Bool.false_eq_true, if_false] at hst
     generalize hwe1 : word ([32, 45, 62, 32]) s ar = wr1 at hst hwl hin ⊢
     obtain ⟨x1, aw1⟩ := wr1; simp only at hst hwl hin ⊢
     have haw1 : aw1 ≤ s.length := hwl
     cases x1
     ·skip
      have hst : St G1 ((b3, .cells #[.int .i64 q.kind, .int .i64 q.num, .slice qA q.kids.length qc] 24) :: (b1, .cells #[.int .i64 0, .int .i64 0, .slice none 0 0] 24) :: (pb, .cells #[.string (bs s), .int .i64 (((aw1 : Nat) : Int)), .bool true] 91) :: L) w1 := St.swap (A := [(pb, .cells #[.string (bs s), .int .i64 (((aw1 : Nat) : Int)), .bool true] 91)]) (B := [(b3, .cells #[.int .i64 q.kind, .int .i64 q.num, .slice qA q.kids.length qc] 24), (b1, .cells #[.int .i64 0, .int .i64 0, .slice none 0 0] 24)]) hst
      rw [if_pos rfl] at hin; simp only [Option.some.injEq, Prod.mk.injEq] at hin; obtain ⟨⟨rfl, rfl⟩, rfl⟩ := hin
      refine nx hst ?_
      refine r_nil ?_
      refine W_seq ?_
      refine W_seq ?_
      refine W_rg [(.p, 0), (.p, 1), (.p, 2), (.l, 3)] hst ?_
      refine r_en [[.bool true]] [(⟨pb, 2, none⟩, .bool true)] [(34, .pointer (some ⟨pb, 0, none⟩)), (35, .pointer (some ⟨pb, 0, none⟩)), (36, .pointer (some ⟨pb, 2, none⟩)), (37, .bool true)] (rc_L 2 rfl rfl rc_nil) ?_
      refine W_cT ?_
      refine W_seq ?_
      refine W_rg [(.l, 0), (.f, 1)] hst ?_
      refine r_sg [(.l, 0)] [[.int .i64 q.kind, .int .i64 q.num, .slice qA q.kids.length qc]] [(⟨b3, 0, none⟩, .int .i64 q.kind), (⟨b3, 1, none⟩, .int .i64 q.num), (⟨b3, 2, none⟩, .slice qA q.kids.length qc)] [(38, .agg #[.int .i64 q.kind, .int .i64 q.num, .slice qA q.kids.length qc])] (rc_L 0 rfl rfl (rc_L 0 rfl rfl (rc_L 0 rfl rfl rc_nil))) ?_
      refine m_st ((b3, .cells #[.int .i64 q.kind, .int .i64 q.num, .slice qA q.kids.length qc] 24) :: (b1, .cells #[.int .i64 q.kind, .int .i64 q.num, .slice qA q.kids.length qc] 24) :: (pb, .cells #[.string (bs s), .int .i64 (((aw1 : Nat) : Int)), .bool true] 91) :: L) 1 [(0, .int .i64 q.kind), (1, .int .i64 q.num), (2, .slice qA q.kids.length qc)] [.int .i64 q.kind, .int .i64 q.num, .slice qA q.kids.length qc] none hst (fun w1 hst => ?_)
      refine r_nil ?_
      refine W_ret ?_
      refine q_rt [.int .i64 q.kind, .int .i64 q.num, .slice qA q.kids.length qc] [(⟨b1, 0, none⟩, .int .i64 q.kind), (⟨b1, 1, none⟩, .int .i64 q.num), (⟨b1, 2, none⟩, .slice qA q.kids.length qc)] (.agg #[.int .i64 q.kind, .int .i64 q.num, .slice qA q.kids.length qc]) (rc_L 1 rfl rfl (rc_L 1 rfl rfl (rc_L 1 rfl rfl rc_nil))) hst ?_
      exact ⟨G1, _, _, rfl, hG1, hqp, haw1, hst.drop [_, _]⟩
     ·skip
      have hst : St G1 ((b3, .cells #[.int .i64 q.kind, .int .i64 q.num, .slice qA q.kids.length qc] 24) :: (b1, .cells #[.int .i64 0, .int .i64 0, .slice none 0 0] 24) :: (pb, .cells #[.string (bs s), .int .i64 (((aw1 : Nat) : Int)), .bool false] 91) :: L) w1 := St.swap (A := [(pb, .cells #[.string (bs s), .int .i64 (((aw1 : Nat) : Int)), .bool false] 91)]) (B := [(b3, .cells #[.int .i64 q.kind, .int .i64 q.num, .slice qA q.kids.length qc] 24), (b1, .cells #[.int .i64 0, .int .i64 0, .slice none 0 0] 24)]) hst
      rw [if_neg (by decide)] at hin
      refine nx hst ?_
      refine r_nil ?_
      refine W_seq ?_
      refine W_seq ?_
      refine W_rg [(.p, 0), (.p, 1), (.p, 2), (.l, 3)] hst ?_
      refine r_en [[.bool false]] [(⟨pb, 2, none⟩, .bool false)] [(34, .pointer (some ⟨pb, 0, none⟩)), (35, .pointer (some ⟨pb, 0, none⟩)), (36, .pointer (some ⟨pb, 2, none⟩)), (37, .bool false)] (rc_L 2 rfl rfl rc_nil) ?_
      refine W_cF ?_
      refine W_skip ?_
      refine W_seq ?_
      refine W_regd [(.l, 0), (.p, 1), (.p, 2), (.e, 3), (.f, 4), (.f, 5)] (SS G1 ([(b3, .cells #[.int .i64 q.kind, .int .i64 q.num, .slice qA q.kids.length qc] 24)])) mixed (by kernel_rfl) (by kernel_rfl) (by kernel_rfl) (by kernel_rfl) (fun w1 hw1 => ?_)
      have hst := hst.heap hw1; refine ⟨hst.ss' (Le.refl _) (fun p hp => by rw [List.mem_singleton.1 hp]; simp), ?_⟩
      refine r_sg [(.l, 0), (.p, 1), (.p, 2)] [[.int .i64 q.kind, .int .i64 q.num, .slice qA q.kids.length qc]] [(⟨b3, 0, none⟩, .int .i64 q.kind), (⟨b3, 1, none⟩, .int .i64 q.num), (⟨b3, 2, none⟩, .slice qA q.kids.length qc)] [(39, .agg #[.int .i64 q.kind, .int .i64 q.num, .slice qA q.kids.length qc]), (40, .pointer (some ⟨pb, 0, none⟩)), (41, .int .i64 n)] (rc_L 0 rfl rfl (rc_L 0 rfl rfl (rc_L 0 rfl rfl rc_nil))) ?_
      obtain ⟨⟨⟨p, pb0⟩, ap⟩, hp, hin⟩ := Option.bind_eq_some_iff.1 hin; simp only [Option.some.injEq, Prod.mk.injEq] at hin; obtain ⟨⟨rfl, rfl⟩, rfl⟩ := hin
      have hst := St.swap (A := [(b3, .cells #[.int .i64 q.kind, .int .i64 q.num, .slice qA q.kids.length qc] 24), (b1, .cells #[.int .i64 0, .int .i64 0, .slice none 0 0] 24)]) (B := [(pb, .cells #[.string (bs s), .int .i64 (((aw1 : Nat) : Int)), .bool false] 91)]) (C := L) hst
      refine m_callE #[.pointer (some ⟨pb, 0, none⟩), .int .i64 n] (some 42) (by kernel_rfl) (ih f (by omega) haw1 hs hst hp) ?_
      rintro _ w1 ⟨G2, pA, pc, rfl, hG2, hpp, hap, hst⟩
      have hst : St G2 ((b3, .cells #[.int .i64 q.kind, .int .i64 q.num, .slice qA q.kids.length qc] 24) :: (b1, .cells #[.int .i64 0, .int .i64 0, .slice none 0 0] 24) :: (pb, .cells #[.string (bs s), .int .i64 (((ap : Nat) : Int)), .bool pb0] 91) :: L) w1 := St.swap (A := [(pb, .cells #[.string (bs s), .int .i64 (((ap : Nat) : Int)), .bool pb0] 91)]) (B := [(b3, .cells #[.int .i64 q.kind, .int .i64 q.num, .slice qA q.kids.length qc] 24), (b1, .cells #[.int .i64 0, .int .i64 0, .slice none 0 0] 24)]) hst
      refine ⟨hst.ss' ((Le.refl _).trans hG2) (fun p hp => by rw [List.mem_singleton.1 hp]; simp), ?_⟩
      refine m_cl #[.agg #[.int .i64 q.kind, .int .i64 q.num, .slice qA q.kids.length qc], .agg #[.int .i64 p.kind, .int .i64 p.num, .slice pA p.kids.length pc]] (some 43) (c99 (hqp.mono hG2) hpp hst) ?_
      rintro _ w1 ⟨G3, zA, rfl, hG3, hzp, hst⟩
      refine nx hst ?_
      refine m_st ((b3, .cells #[.int .i64 q.kind, .int .i64 q.num, .slice qA q.kids.length qc] 24) :: (b1, .cells #[.int .i64 3, .int .i64 0, .slice zA 2 2] 24) :: (pb, .cells #[.string (bs s), .int .i64 (((ap : Nat) : Int)), .bool pb0] 91) :: L) 1 [(0, .int .i64 3), (1, .int .i64 0), (2, .slice zA 2 2)] [.int .i64 3, .int .i64 0, .slice zA 2 2] none hst (fun w1 hst => ?_)
      refine r_nil ?_
      refine W_ret ?_
      refine q_rt [.int .i64 3, .int .i64 0, .slice zA 2 2] [(⟨b1, 0, none⟩, .int .i64 3), (⟨b1, 1, none⟩, .int .i64 0), (⟨b1, 2, none⟩, .slice zA 2 2)] (.agg #[.int .i64 3, .int .i64 0, .slice zA 2 2]) (rc_L 1 rfl rfl (rc_L 1 rfl rfl (rc_L 1 rfl rfl rc_nil))) hst ?_
      exact ⟨G3, _, _, rfl, ((hG1).trans hG2).trans hG3, hzp, hap, hst.drop [_, _]⟩
   ·rw [hc5]
    have h40 : (s[at_]? = some 40) := by simpa using hc5
    rw [if_neg (fun hx => hx.elim (fun h => by cases h) (fun h => h.1 h40))] at hin
    refine r_en [] [] [(26, undef), (27, undef), (28, undef), (29, .bool false), (30, .bool false)] rc_nil ?_
    refine W_cF ?_
    refine W_skip ?_
    refine W_seq ?_
    refine W_rg [(.p, 0), (.f, 1)] hst ?_
    refine r_sg [(.p, 0)] [] [] [(32, .pointer (some ⟨pb, 0, none⟩))] rc_nil ?_
    have hst := St.swap (A := [(b3, .cells #[.int .i64 q.kind, .int .i64 q.num, .slice qA q.kids.length qc] 24), (b1, .cells #[.int .i64 0, .int .i64 0, .slice none 0 0] 24)]) (B := [(pb, .cells #[.string (bs s), .int .i64 (((ar : Nat) : Int)), .bool false] 91)]) (C := L) hst
    have hwl := word_le ([32, 45, 62, 32]) s ar har
    refine m_cl #[.pointer (some ⟨pb, 0, none⟩), .string (bs [32, 45, 62, 32])] (some 33) (c98 (l := [32, 45, 62, 32]) har hs (by show _ < _; simp only [List.length_append, List.length_cons, List.length_nil, rletter]; omega) hst) ?_
    rintro vx w1 hst
    simp only [mst, Bool.false_eq_true, if_false] at hst
    generalize hwe2 : word ([32, 45, 62, 32]) s ar = wr2 at hst hwl hin ⊢
    obtain ⟨x2, aw2⟩ := wr2; simp only at hst hwl hin ⊢
    have haw2 : aw2 ≤ s.length := hwl
    cases x2
    ·skip
     have hst : St G1 ((b3, .cells #[.int .i64 q.kind, .int .i64 q.num, .slice qA q.kids.length qc] 24) :: (b1, .cells #[.int .i64 0, .int .i64 0, .slice none 0 0] 24) :: (pb, .cells #[.string (bs s), .int .i64 (((aw2 : Nat) : Int)), .bool true] 91) :: L) w1 := St.swap (A := [(pb, .cells #[.string (bs s), .int .i64 (((aw2 : Nat) : Int)), .bool true] 91)]) (B := [(b3, .cells #[.int .i64 q.kind, .int .i64 q.num, .slice qA q.kids.length qc] 24), (b1, .cells #[.int .i64 0, .int .i64 0, .slice none 0 0] 24)]) hst
     rw [if_pos rfl] at hin; simp only [Option.some.injEq, Prod.mk.injEq] at hin; obtain ⟨⟨rfl, rfl⟩, rfl⟩ := hin
     refine nx hst ?_
     refine r_nil ?_
     refine W_seq ?_
     refine W_seq ?_
     refine W_rg [(.p, 0), (.p, 1), (.p, 2), (.l, 3)] hst ?_
     refine r_en [[.bool true]] [(⟨pb, 2, none⟩, .bool true)] [(34, .pointer (some ⟨pb, 0, none⟩)), (35, .pointer (some ⟨pb, 0, none⟩)), (36, .pointer (some ⟨pb, 2, none⟩)), (37, .bool true)] (rc_L 2 rfl rfl rc_nil) ?_
     refine W_cT ?_
     refine W_seq ?_
     refine W_rg [(.l, 0), (.f, 1)] hst ?_
     refine r_sg [(.l, 0)] [[.int .i64 q.kind, .int .i64 q.num, .slice qA q.kids.length qc]] [(⟨b3, 0, none⟩, .int .i64 q.kind), (⟨b3, 1, none⟩, .int .i64 q.num), (⟨b3, 2, none⟩, .slice qA q.kids.length qc)] [(38, .agg #[.int .i64 q.kind, .int .i64 q.num, .slice qA q.kids.length qc])] (rc_L 0 rfl rfl (rc_L 0 rfl rfl (rc_L 0 rfl rfl rc_nil))) ?_
     refine m_st ((b3, .cells #[.int .i64 q.kind, .int .i64 q.num, .slice qA q.kids.length qc] 24) :: (b1, .cells #[.int .i64 q.kind, .int .i64 q.num, .slice qA q.kids.length qc] 24) :: (pb, .cells #[.string (bs s), .int .i64 (((aw2 : Nat) : Int)), .bool true] 91) :: L) 1 [(0, .int .i64 q.kind), (1, .int .i64 q.num), (2, .slice qA q.kids.length qc)] [.int .i64 q.kind, .int .i64 q.num, .slice qA q.kids.length qc] none hst (fun w1 hst => ?_)
     refine r_nil ?_
     refine W_ret ?_
     refine q_rt [.int .i64 q.kind, .int .i64 q.num, .slice qA q.kids.length qc] [(⟨b1, 0, none⟩, .int .i64 q.kind), (⟨b1, 1, none⟩, .int .i64 q.num), (⟨b1, 2, none⟩, .slice qA q.kids.length qc)] (.agg #[.int .i64 q.kind, .int .i64 q.num, .slice qA q.kids.length qc]) (rc_L 1 rfl rfl (rc_L 1 rfl rfl (rc_L 1 rfl rfl rc_nil))) hst ?_
     exact ⟨G1, _, _, rfl, hG1, hqp, haw2, hst.drop [_, _]⟩
    ·skip
     have hst : St G1 ((b3, .cells #[.int .i64 q.kind, .int .i64 q.num, .slice qA q.kids.length qc] 24) :: (b1, .cells #[.int .i64 0, .int .i64 0, .slice none 0 0] 24) :: (pb, .cells #[.string (bs s), .int .i64 (((aw2 : Nat) : Int)), .bool false] 91) :: L) w1 := St.swap (A := [(pb, .cells #[.string (bs s), .int .i64 (((aw2 : Nat) : Int)), .bool false] 91)]) (B := [(b3, .cells #[.int .i64 q.kind, .int .i64 q.num, .slice qA q.kids.length qc] 24), (b1, .cells #[.int .i64 0, .int .i64 0, .slice none 0 0] 24)]) hst
     rw [if_neg (by decide)] at hin
     refine nx hst ?_
     refine r_nil ?_
     refine W_seq ?_
     refine W_seq ?_
     refine W_rg [(.p, 0), (.p, 1), (.p, 2), (.l, 3)] hst ?_
     refine r_en [[.bool false]] [(⟨pb, 2, none⟩, .bool false)] [(34, .pointer (some ⟨pb, 0, none⟩)), (35, .pointer (some ⟨pb, 0, none⟩)), (36, .pointer (some ⟨pb, 2, none⟩)), (37, .bool false)] (rc_L 2 rfl rfl rc_nil) ?_
     refine W_cF ?_
     refine W_skip ?_
     refine W_seq ?_
     refine W_regd [(.l, 0), (.p, 1), (.p, 2), (.e, 3), (.f, 4), (.f, 5)] (SS G1 ([(b3, .cells #[.int .i64 q.kind, .int .i64 q.num, .slice qA q.kids.length qc] 24)])) mixed (by kernel_rfl) (by kernel_rfl) (by kernel_rfl) (by kernel_rfl) (fun w1 hw1 => ?_)
     have hst := hst.heap hw1; refine ⟨hst.ss' (Le.refl _) (fun p hp => by rw [List.mem_singleton.1 hp]; simp), ?_⟩
     refine r_sg [(.l, 0), (.p, 1), (.p, 2)] [[.int .i64 q.kind, .int .i64 q.num, .slice qA q.kids.length qc]] [(⟨b3, 0, none⟩, .int .i64 q.kind), (⟨b3, 1, none⟩, .int .i64 q.num), (⟨b3, 2, none⟩, .slice qA q.kids.length qc)] [(39, .agg #[.int .i64 q.kind, .int .i64 q.num, .slice qA q.kids.length qc]), (40, .pointer (some ⟨pb, 0, none⟩)), (41, .int .i64 n)] (rc_L 0 rfl rfl (rc_L 0 rfl rfl (rc_L 0 rfl rfl rc_nil))) ?_
     obtain ⟨⟨⟨p, pb0⟩, ap⟩, hp, hin⟩ := Option.bind_eq_some_iff.1 hin; simp only [Option.some.injEq, Prod.mk.injEq] at hin; obtain ⟨⟨rfl, rfl⟩, rfl⟩ := hin
     have hst := St.swap (A := [(b3, .cells #[.int .i64 q.kind, .int .i64 q.num, .slice qA q.kids.length qc] 24), (b1, .cells #[.int .i64 0, .int .i64 0, .slice none 0 0] 24)]) (B := [(pb, .cells #[.string (bs s), .int .i64 (((aw2 : Nat) : Int)), .bool false] 91)]) (C := L) hst
     refine m_callE #[.pointer (some ⟨pb, 0, none⟩), .int .i64 n] (some 42) (by kernel_rfl) (ih f (by omega) haw2 hs hst hp) ?_
     rintro _ w1 ⟨G2, pA, pc, rfl, hG2, hpp, hap, hst⟩
     have hst : St G2 ((b3, .cells #[.int .i64 q.kind, .int .i64 q.num, .slice qA q.kids.length qc] 24) :: (b1, .cells #[.int .i64 0, .int .i64 0, .slice none 0 0] 24) :: (pb, .cells #[.string (bs s), .int .i64 (((ap : Nat) : Int)), .bool pb0] 91) :: L) w1 := St.swap (A := [(pb, .cells #[.string (bs s), .int .i64 (((ap : Nat) : Int)), .bool pb0] 91)]) (B := [(b3, .cells #[.int .i64 q.kind, .int .i64 q.num, .slice qA q.kids.length qc] 24), (b1, .cells #[.int .i64 0, .int .i64 0, .slice none 0 0] 24)]) hst
     refine ⟨hst.ss' ((Le.refl _).trans hG2) (fun p hp => by rw [List.mem_singleton.1 hp]; simp), ?_⟩
     refine m_cl #[.agg #[.int .i64 q.kind, .int .i64 q.num, .slice qA q.kids.length qc], .agg #[.int .i64 p.kind, .int .i64 p.num, .slice pA p.kids.length pc]] (some 43) (c99 (hqp.mono hG2) hpp hst) ?_
     rintro _ w1 ⟨G3, zA, rfl, hG3, hzp, hst⟩
     refine nx hst ?_
     refine m_st ((b3, .cells #[.int .i64 q.kind, .int .i64 q.num, .slice qA q.kids.length qc] 24) :: (b1, .cells #[.int .i64 3, .int .i64 0, .slice zA 2 2] 24) :: (pb, .cells #[.string (bs s), .int .i64 (((ap : Nat) : Int)), .bool pb0] 91) :: L) 1 [(0, .int .i64 3), (1, .int .i64 0), (2, .slice zA 2 2)] [.int .i64 3, .int .i64 0, .slice zA 2 2] none hst (fun w1 hst => ?_)
     refine r_nil ?_
     refine W_ret ?_
     refine q_rt [.int .i64 3, .int .i64 0, .slice zA 2 2] [(⟨b1, 0, none⟩, .int .i64 3), (⟨b1, 1, none⟩, .int .i64 0), (⟨b1, 2, none⟩, .slice zA 2 2)] (.agg #[.int .i64 3, .int .i64 0, .slice zA 2 2]) (rc_L 1 rfl rfl (rc_L 1 rfl rfl (rc_L 1 rfl rfl rc_nil))) hst ?_
     exact ⟨G3, _, _, rfl, ((hG1).trans hG2).trans hG3, hzp, hap, hst.drop [_, _]⟩
  ·skip
   rw [if_pos (.inl rfl)] at hin; simp only [Option.some.injEq, Prod.mk.injEq] at hin; obtain ⟨⟨rfl, rfl⟩, rfl⟩ := hin
   have hst : St G1 ((b3, .cells #[.int .i64 q.kind, .int .i64 q.num, .slice qA q.kids.length qc] 24) :: (b1, .cells #[.int .i64 0, .int .i64 0, .slice none 0 0] 24) :: (pb, .cells #[.string (bs s), .int .i64 (((ar : Nat) : Int)), .bool true] 91) :: L) w1 := hst
   refine W_rg [(.p, 0), (.p, 1), (.p, 2), (.l, 3), (.p, 4), (.p, 5), (.p, 6), (.p, 7), (.p, 8), (.f, 9), (.p, 10), (.p, 11), (.p, 12)] hst ?_
   refine r_en [[.bool true]] [(⟨pb, 2, none⟩, .bool true)] [(18, .pointer (some ⟨pb, 0, none⟩)), (19, .pointer (some ⟨pb, 0, none⟩)), (20, .pointer (some ⟨pb, 2, none⟩)), (21, .bool true), (22, .bool true), (23, undef), (24, undef), (25, undef), (26, undef), (27, undef), (28, undef), (29, undef), (30, .bool true)] (rc_L 2 rfl rfl rc_nil) ?_
   refine W_cT ?_
   refine W_seq ?_
   refine W_rg [(.l, 0), (.f, 1)] hst ?_
   refine r_sg [(.l, 0)] [[.int .i64 q.kind, .int .i64 q.num, .slice qA q.kids.length qc]] [(⟨b3, 0, none⟩, .int .i64 q.kind), (⟨b3, 1, none⟩, .int .i64 q.num), (⟨b3, 2, none⟩, .slice qA q.kids.length qc)] [(31, .agg #[.int .i64 q.kind, .int .i64 q.num, .slice qA q.kids.length qc])] (rc_L 0 rfl rfl (rc_L 0 rfl rfl (rc_L 0 rfl rfl rc_nil))) ?_
   refine m_st ((b3, .cells #[.int .i64 q.kind, .int .i64 q.num, .slice qA q.kids.length qc] 24) :: (b1, .cells #[.int .i64 q.kind, .int .i64 q.num, .slice qA q.kids.length qc] 24) :: (pb, .cells #[.string (bs s), .int .i64 (((ar : Nat) : Int)), .bool true] 91) :: L) 1 [(0, .int .i64 q.kind), (1, .int .i64 q.num), (2, .slice qA q.kids.length qc)] [.int .i64 q.kind, .int .i64 q.num, .slice qA q.kids.length qc] none hst (fun w1 hst => ?_)
   refine r_nil ?_
   refine W_ret ?_
   refine q_rt [.int .i64 q.kind, .int .i64 q.num, .slice qA q.kids.length qc] [(⟨b1, 0, none⟩, .int .i64 q.kind), (⟨b1, 1, none⟩, .int .i64 q.num), (⟨b1, 2, none⟩, .slice qA q.kids.length qc)] (.agg #[.int .i64 q.kind, .int .i64 q.num, .slice qA q.kids.length qc]) (rc_L 1 rfl rfl (rc_L 1 rfl rfl (rc_L 1 rfl rfl rc_nil))) hst ?_
   exact ⟨G1, _, _, rfl, hG1, hqp, har, hst.drop [_, _]⟩

end Go.Proofs.Ytjgnhhgigickaaa.Wk
/- Walks of the given program's functions: the reference: Parse. Printed by tools/w33.py. Conditions: none. -/

namespace Go.Proofs.Ytjgnhhgigickaaa.Wk
open Go Md
set_option maxRecDepth 20000
set_option linter.unusedVariables false
set_option linter.unusedSimpArgs false
attribute [local irreducible] endQ

theorem rt_sz : ∀ (f : Nat), (∀ {s : List UInt8} {at_ at2 : Nat} {n : Int} {t : T}, rtyped f s at_ n = some ((t, false), at2) → T.sz t + at_ ≤ at2) ∧
  (∀ {s : List UInt8} {at_ at2 : Nat} {n : Int} {t : T}, rall f s at_ n = some ((t, false), at2) → T.sz t + at_ ≤ at2) ∧
  (∀ {s : List UInt8} {at_ at2 : Nat} {n : Int} {t : T}, rsimple f s at_ n = some ((t, false), at2) → T.sz t + at_ ≤ at2)
 | 0 => ⟨(fun h => nomatch h), (fun h => nomatch h), (fun h => nomatch h)⟩
 | f + 1 => by
  have ih := rt_sz f
  refine ⟨fun {s at_ at2 n t} h => ?_, fun {s at_ at2 n t} h => ?_, fun {s at_ at2 n t} h => ?_⟩
  ·unfold Md.rtyped at h
   split at h
   ·exact ih.2.1 h
   obtain ⟨⟨⟨q, qb⟩, a⟩, hq, h⟩ := Option.bind_eq_some_iff.1 h
   dsimp only at h
   split at h
   ·cases h; exact ih.2.2 hq
   split at h
   ·cases h
   ·rename_i h1 h2
    have hw := word_step _ _ _ (by simpa using h2)
    obtain ⟨⟨⟨p, pb⟩, a2⟩, hp, h⟩ := Option.bind_eq_some_iff.1 h
    dsimp only at h
    cases h
    have i1 := ih.1 hp
    cases qb
    ·have i2 := ih.2.2 hq
     rw [hw] at i1
     simp only [List.length_cons, List.length_nil, T.sz, T.szs] at *; omega
    ·exact absurd (Or.inl rfl) h1
  ·unfold Md.rall at h
   split at h
   ·cases h
   split at h
   ·cases h
   ·rename_i h1 h2
    have w1 := word_step _ _ _ (by simpa using h1)
    have w2 := word_step _ _ _ (by simpa using h2)
    obtain ⟨⟨⟨q, qb⟩, a⟩, hq, h⟩ := Option.bind_eq_some_iff.1 h
    dsimp only at h
    cases h
    have i1 := ih.1 hq
    rw [w2, w1] at i1
    simp only [List.length_append, List.length_cons, List.length_nil, rletter, T.sz, T.szs] at *; omega
  ·unfold Md.rsimple at h
   split at h
   ·cases h; simp only [T.sz, T.szs]; omega
   split at h
   ·obtain ⟨⟨⟨q, qb⟩, a⟩, hq, h⟩ := Option.bind_eq_some_iff.1 h
    dsimp only at h
    split at h
    ·cases h
    split at h
    ·cases h
    ·rename_i h1 h2
     simp only [Option.some.injEq, Prod.mk.injEq] at h
     obtain ⟨⟨rfl, hw⟩, rfl⟩ := h
     have hw := word_step _ _ _ (by simpa using hw)
     cases qb
     ·have i1 := ih.1 hq
      rw [hw]; simp only [List.length_cons, List.length_nil] at *; omega
     ·exact absurd rfl h2
   split at h
   ·cases h
   split at h
   ·cases h; simp only [T.sz, T.szs]; omega
   ·cases h

theorem c17 {f : Nat} {G : GH} {L : LH} {w : World} {s : List UInt8} {t : T} {a e : Int} (hs : s.length < lim) (hst : St G L w) (h : Md.rParse f s = some ((t, a), e)) :
  Cal Try.prog 17 #[.string (bs s)] w fun x w' => ∃ G' A c, x = .tuple #[.agg #[.int .i64 t.kind, .int .i64 t.num, .slice A t.kids.length c], .int .i64 a, .int .i64 e] ∧ Le G G' ∧ IsPoly G' (.agg #[.int .i64 t.kind, .int .i64 t.num, .slice A t.kids.length c]) t ∧ St G' L w' := by
 have hlim : lim = 1099511627776 := rfl
 unfold Md.rParse at h
 refine cal_of_W Try.func17 rfl (Nat.le_of_ble_eq_true (by kernel_rfl)) ?_
 refine W_seq ?_
 refine W_rg [(.f, 0), (.p, 1), (.p, 2)] hst ?_
 refine m_new (.cells #[.int .i64 0, .int .i64 0, .slice none 0 0] 24) (fun b1 => .pointer (some ⟨b1, 0, none⟩)) (some 2) (fun b => by kernel_rfl) hst (fun b1 w1 hst => ?_)
 refine r_en [] [] [(3, .int .i64 0), (4, .int .i64 0)] rc_nil ?_
 refine W_seq ?_
 refine W_seq ?_
 refine W_rg [(.p, 0), (.p, 1), (.p, 2)] hst ?_
 refine r_en [] [] [(8, .string (bs s)), (9, .int .i64 (((s.length : Nat) : Int))), (10, .bool (decide ((((s.length : Nat) : Int)) > 65536)))] rc_nil ?_
 refine W_cd (b := decide ((((s.length : Nat) : Int)) > 65536)) (fun hc2 => ?_) (fun hc2 => ?_)
 ·skip
  have hln : ((s.length : Nat) : Int) > 65536 := by simpa using hc2
  rw [if_pos hln] at h; simp only [Option.some.injEq, Prod.mk.injEq] at h; obtain ⟨⟨rfl, rfl⟩, rfl⟩ := h
  refine W_seq ?_
  refine W_rg [(.p, 0), (.f, 1), (.p, 2), (.p, 3)] hst ?_
  refine r_sg [(.p, 0)] [] [] [(11, .agg #[.int .i64 0, .int .i64 0, .slice none 0 0])] rc_nil ?_
  refine m_st ((b1, .cells #[.int .i64 0, .int .i64 0, .slice none 0 0] 24) :: L) 0 [(0, .int .i64 0), (1, .int .i64 0), (2, .slice none 0 0)] [.int .i64 0, .int .i64 0, .slice none 0 0] none hst (fun w1 hst => ?_)
  refine r_en [] [] [(3, .int .i64 0), (4, .int .i64 11)] rc_nil ?_
  refine W_ret ?_
  refine q_rt [.int .i64 0, .int .i64 0, .slice none 0 0] [(⟨b1, 0, none⟩, .int .i64 0), (⟨b1, 1, none⟩, .int .i64 0), (⟨b1, 2, none⟩, .slice none 0 0)] (.tuple #[.agg #[.int .i64 0, .int .i64 0, .slice none 0 0], .int .i64 0, .int .i64 11]) (rc_L 0 rfl rfl (rc_L 0 rfl rfl (rc_L 0 rfl rfl rc_nil))) hst ?_
  exact ⟨G, _, _, rfl, Le.refl _, (IsPoly.mk (t := t0) (Nat.le_refl _) IsPolys.nil), hst.drop [_]⟩
 ·skip
  have hln : ¬ ((s.length : Nat) : Int) > 65536 := by simpa using hc2
  rw [if_neg hln] at h
  refine W_skip ?_
  refine W_seq ?_
  refine W_rg [(.p, 0), (.p, 1), (.f, 2), (.f, 3)] hst ?_
  refine r_sg [(.p, 0), (.p, 1)] [] [] [(12, .string (bs s)), (13, .agg #[.string (bs s), .int .i64 0, .bool false])] rc_nil ?_
  refine m_new (.cells #[.string (bs []), .int .i64 0, .bool false] 91) (fun b3 => .pointer (some ⟨b3, 0, none⟩)) (some 5) (fun b => by kernel_rfl) hst (fun b3 w1 hst => ?_)
  refine m_st ((b3, .cells #[.string (bs s), .int .i64 0, .bool false] 91) :: (b1, .cells #[.int .i64 0, .int .i64 0, .slice none 0 0] 24) :: L) 0 [(0, .string (bs s)), (1, .int .i64 0), (2, .bool false)] [.string (bs s), .int .i64 0, .bool false] none hst (fun w1 hst => ?_)
  refine r_nil ?_
  refine W_seq ?_
  refine W_rg [(.f, 0), (.f, 1), (.f, 2)] hst ?_
  obtain ⟨⟨⟨q, qb⟩, ar⟩, hq, h⟩ := Option.bind_eq_some_iff.1 h; dsimp only at h
  have hst : St G ((b3, .cells #[.string (bs s), .int .i64 ((0 : Nat) : Int), .bool false] 91) :: (b1, .cells #[.int .i64 0, .int .i64 0, .slice none 0 0] 24) :: L) w1 := hst
  refine m_cl #[.pointer (some ⟨b3, 0, none⟩), .int .i64 0] (some 14) (c60 f (Nat.zero_le _) hs hst hq) ?_
  rintro _ w1 ⟨G1, qA, qc, rfl, hG1, hqp, hatq, hst⟩
  refine nx hst ?_
  refine m_new (.cells #[.int .i64 0, .int .i64 0, .slice none 0 0] 24) (fun b4 => .pointer (some ⟨b4, 0, none⟩)) (some 6) (fun b => by kernel_rfl) hst (fun b4 w1 hst => ?_)
  refine m_st ((b4, .cells #[.int .i64 q.kind, .int .i64 q.num, .slice qA q.kids.length qc] 24) :: (b3, .cells #[.string (bs s), .int .i64 (((ar : Nat) : Int)), .bool qb] 91) :: (b1, .cells #[.int .i64 0, .int .i64 0, .slice none 0 0] 24) :: L) 0 [(0, .int .i64 q.kind), (1, .int .i64 q.num), (2, .slice qA q.kids.length qc)] [.int .i64 q.kind, .int .i64 q.num, .slice qA q.kids.length qc] none hst (fun w1 hst => ?_)
  refine r_nil ?_
  refine W_seq ?_
  refine W_seq ?_
  cases qb
  ·skip
   have hst : St G1 ((b4, .cells #[.int .i64 q.kind, .int .i64 q.num, .slice qA q.kids.length qc] 24) :: (b3, .cells #[.string (bs s), .int .i64 (((ar : Nat) : Int)), .bool false] 91) :: (b1, .cells #[.int .i64 0, .int .i64 0, .slice none 0 0] 24) :: L) w1 := hst
   refine W_rg [(.p, 0), (.l, 1), (.p, 2), (.p, 3), (.l, 4), (.p, 5), (.p, 6), (.p, 7), (.p, 8)] hst ?_
   refine r_en [[.bool false], [.int .i64 (((ar : Nat) : Int))]] [(⟨b3, 2, none⟩, .bool false), (⟨b3, 1, none⟩, .int .i64 (((ar : Nat) : Int)))] [(15, .pointer (some ⟨b3, 2, none⟩)), (16, .bool false), (17, .bool false), (18, .pointer (some ⟨b3, 1, none⟩)), (19, .int .i64 (((ar : Nat) : Int))), (20, .string (bs s)), (21, .int .i64 (((s.length : Nat) : Int))), (22, .bool (decide ((((ar : Nat) : Int)) < (((s.length : Nat) : Int))))), (23, .bool (decide ((((ar : Nat) : Int)) < (((s.length : Nat) : Int)))))] (rc_L 1 rfl rfl (rc_L 1 rfl rfl rc_nil)) ?_
   refine W_cd (b := decide ((((ar : Nat) : Int)) < (((s.length : Nat) : Int)))) (fun hc5 => ?_) (fun hc5 => ?_)
   ·skip
    have hlt : ar < s.length := by have := of_decide_eq_true hc5; omega
    rw [if_pos (.inr hlt)] at h; simp only [Option.some.injEq, Prod.mk.injEq] at h; obtain ⟨⟨rfl, rfl⟩, rfl⟩ := h
    refine W_seq ?_
    refine W_rgd [(.p, 0), (.p, 1), (.l, 2), (.e, 3), (.p, 4), (.p, 5)] hst (fun w1 hst => ?_)
    refine r_sg [(.p, 0), (.p, 1), (.l, 2)] [[.int .i64 (((ar : Nat) : Int))]] [(⟨b3, 1, none⟩, .int .i64 (((ar : Nat) : Int)))] [(24, .agg #[.int .i64 0, .int .i64 0, .slice none 0 0]), (25, .pointer (some ⟨b3, 1, none⟩)), (26, .int .i64 (((ar : Nat) : Int)))] (rc_L 1 rfl rfl rc_nil) ?_
    refine m_storeE (L' := (b4, .cells #[.int .i64 q.kind, .int .i64 q.num, .slice qA q.kids.length qc] 24) :: (b3, .cells #[.string (bs s), .int .i64 (((ar : Nat) : Int)), .bool false] 91) :: (b1, .cells #[.int .i64 0, .int .i64 0, .slice none 0 0] 24) :: L) 2 [(0, .int .i64 0), (1, .int .i64 0), (2, .slice none 0 0)] [.int .i64 0, .int .i64 0, .slice none 0 0] none (by kernel_rfl) hst rfl (by kernel_rfl) rfl rfl (fun _ h => h.ss' (Le.refl _) (fun _ hp => hp)) (fun w1 hst => ?_)
    refine r_en [] [] [(3, .int .i64 (((ar : Nat) : Int))), (4, .int .i64 4)] rc_nil ?_
    refine W_ret ?_
    refine q_rt [.int .i64 0, .int .i64 0, .slice none 0 0] [(⟨b1, 0, none⟩, .int .i64 0), (⟨b1, 1, none⟩, .int .i64 0), (⟨b1, 2, none⟩, .slice none 0 0)] (.tuple #[.agg #[.int .i64 0, .int .i64 0, .slice none 0 0], .int .i64 (((ar : Nat) : Int)), .int .i64 4]) (rc_L 2 rfl rfl (rc_L 2 rfl rfl (rc_L 2 rfl rfl rc_nil))) hst ?_
    exact ⟨G1, _, _, rfl, hG1, (IsPoly.mk (t := t0) (Nat.le_refl _) IsPolys.nil), hst.drop [_, _, _]⟩
   ·skip
    have hlt : ¬ ar < s.length := by have := of_decide_eq_false hc5; omega
    rw [if_neg (fun hx => hx.elim (fun h => by cases h) hlt)] at h
    refine W_skip ?_
    refine W_seq ?_
    refine W_seq ?_
    refine W_rg [(.l, 0), (.f, 1), (.p, 2)] hst ?_
    refine r_sg [(.l, 0)] [[.int .i64 q.kind, .int .i64 q.num, .slice qA q.kids.length qc]] [(⟨b4, 0, none⟩, .int .i64 q.kind), (⟨b4, 1, none⟩, .int .i64 q.num), (⟨b4, 2, none⟩, .slice qA q.kids.length qc)] [(27, .agg #[.int .i64 q.kind, .int .i64 q.num, .slice qA q.kids.length qc])] (rc_L 0 rfl rfl (rc_L 0 rfl rfl (rc_L 0 rfl rfl rc_nil))) ?_
    refine m_cl #[.agg #[.int .i64 q.kind, .int .i64 q.num, .slice qA q.kids.length qc], .int .i64 0] (some 28) (c41 (by have := (rt_sz f).1 hq; omega) hqp hst) ?_
    rintro _ w1 ⟨rfl, hst⟩
    refine nx hst ?_
    refine r_en [] [] [(7, .int .i64 (rRight q 0))] rc_nil ?_
    refine W_seq ?_
    refine W_rg [(.p, 0), (.p, 1)] hst ?_
    refine r_en [] [] [(29, .int .i64 (rRight q 0)), (30, .bool ((rRight q 0) != 0))] rc_nil ?_
    refine W_cd (b := (rRight q 0) != 0) (fun hc6 => ?_) (fun hc6 => ?_)
    ·skip
     have hcl : rRight q 0 ≠ 0 := by simpa using hc6
     rw [if_pos hcl] at h; simp only [Option.some.injEq, Prod.mk.injEq] at h; obtain ⟨⟨rfl, rfl⟩, rfl⟩ := h
     refine W_seq ?_
     refine W_rg [(.p, 0), (.p, 1), (.f, 2), (.p, 3), (.p, 4)] hst ?_
     refine r_sg [(.p, 0), (.p, 1)] [] [] [(31, .agg #[.int .i64 0, .int .i64 0, .slice none 0 0]), (32, .int .i64 (rRight q 0))] rc_nil ?_
     refine m_st ((b4, .cells #[.int .i64 q.kind, .int .i64 q.num, .slice qA q.kids.length qc] 24) :: (b3, .cells #[.string (bs s), .int .i64 (((ar : Nat) : Int)), .bool false] 91) :: (b1, .cells #[.int .i64 0, .int .i64 0, .slice none 0 0] 24) :: L) 2 [(0, .int .i64 0), (1, .int .i64 0), (2, .slice none 0 0)] [.int .i64 0, .int .i64 0, .slice none 0 0] none hst (fun w1 hst => ?_)
     refine r_en [] [] [(3, .int .i64 0), (4, .int .i64 (rRight q 0))] rc_nil ?_
     refine W_ret ?_
     refine q_rt [.int .i64 0, .int .i64 0, .slice none 0 0] [(⟨b1, 0, none⟩, .int .i64 0), (⟨b1, 1, none⟩, .int .i64 0), (⟨b1, 2, none⟩, .slice none 0 0)] (.tuple #[.agg #[.int .i64 0, .int .i64 0, .slice none 0 0], .int .i64 0, .int .i64 (rRight q 0)]) (rc_L 2 rfl rfl (rc_L 2 rfl rfl (rc_L 2 rfl rfl rc_nil))) hst ?_
     exact ⟨G1, _, _, rfl, hG1, (IsPoly.mk (t := t0) (Nat.le_refl _) IsPolys.nil), hst.drop [_, _, _]⟩
    ·skip
     have hcl : ¬ rRight q 0 ≠ 0 := by simpa using hc6
     rw [if_neg hcl] at h; simp only [Option.some.injEq, Prod.mk.injEq] at h; obtain ⟨⟨rfl, rfl⟩, rfl⟩ := h
     refine W_skip ?_
     refine W_seq ?_
     refine W_rg [(.l, 0), (.f, 1), (.p, 2), (.p, 3)] hst ?_
     refine r_sg [(.l, 0)] [[.int .i64 q.kind, .int .i64 q.num, .slice qA q.kids.length qc]] [(⟨b4, 0, none⟩, .int .i64 q.kind), (⟨b4, 1, none⟩, .int .i64 q.num), (⟨b4, 2, none⟩, .slice qA q.kids.length qc)] [(33, .agg #[.int .i64 q.kind, .int .i64 q.num, .slice qA q.kids.length qc])] (rc_L 0 rfl rfl (rc_L 0 rfl rfl (rc_L 0 rfl rfl rc_nil))) ?_
     refine m_st ((b4, .cells #[.int .i64 q.kind, .int .i64 q.num, .slice qA q.kids.length qc] 24) :: (b3, .cells #[.string (bs s), .int .i64 (((ar : Nat) : Int)), .bool false] 91) :: (b1, .cells #[.int .i64 q.kind, .int .i64 q.num, .slice qA q.kids.length qc] 24) :: L) 2 [(0, .int .i64 q.kind), (1, .int .i64 q.num), (2, .slice qA q.kids.length qc)] [.int .i64 q.kind, .int .i64 q.num, .slice qA q.kids.length qc] none hst (fun w1 hst => ?_)
     refine r_en [] [] [(3, .int .i64 0), (4, .int .i64 0)] rc_nil ?_
     refine W_ret ?_
     refine q_rt [.int .i64 q.kind, .int .i64 q.num, .slice qA q.kids.length qc] [(⟨b1, 0, none⟩, .int .i64 q.kind), (⟨b1, 1, none⟩, .int .i64 q.num), (⟨b1, 2, none⟩, .slice qA q.kids.length qc)] (.tuple #[.agg #[.int .i64 q.kind, .int .i64 q.num, .slice qA q.kids.length qc], .int .i64 0, .int .i64 0]) (rc_L 2 rfl rfl (rc_L 2 rfl rfl (rc_L 2 rfl rfl rc_nil))) hst ?_
     exact ⟨G1, _, _, rfl, hG1, hqp, hst.drop [_, _, _]⟩
  ·skip
   rw [if_pos (.inl rfl)] at h; simp only [Option.some.injEq, Prod.mk.injEq] at h; obtain ⟨⟨rfl, rfl⟩, rfl⟩ := h
   have hst : St G1 ((b4, .cells #[.int .i64 q.kind, .int .i64 q.num, .slice qA q.kids.length qc] 24) :: (b3, .cells #[.string (bs s), .int .i64 (((ar : Nat) : Int)), .bool true] 91) :: (b1, .cells #[.int .i64 0, .int .i64 0, .slice none 0 0] 24) :: L) w1 := hst
   refine W_rg [(.p, 0), (.l, 1), (.p, 2), (.p, 3), (.l, 4), (.p, 5), (.p, 6), (.p, 7), (.p, 8)] hst ?_
   refine r_en [[.bool true]] [(⟨b3, 2, none⟩, .bool true)] [(15, .pointer (some ⟨b3, 2, none⟩)), (16, .bool true), (17, .bool true), (18, undef), (19, undef), (20, undef), (21, undef), (22, undef), (23, .bool true)] (rc_L 1 rfl rfl rc_nil) ?_
   refine W_cT ?_
   refine W_seq ?_
   refine W_rgd [(.p, 0), (.p, 1), (.l, 2), (.e, 3), (.p, 4), (.p, 5)] hst (fun w1 hst => ?_)
   refine r_sg [(.p, 0), (.p, 1), (.l, 2)] [[.int .i64 (((ar : Nat) : Int))]] [(⟨b3, 1, none⟩, .int .i64 (((ar : Nat) : Int)))] [(24, .agg #[.int .i64 0, .int .i64 0, .slice none 0 0]), (25, .pointer (some ⟨b3, 1, none⟩)), (26, .int .i64 (((ar : Nat) : Int)))] (rc_L 1 rfl rfl rc_nil) ?_
   refine m_storeE (L' := (b4, .cells #[.int .i64 q.kind, .int .i64 q.num, .slice qA q.kids.length qc] 24) :: (b3, .cells #[.string (bs s), .int .i64 (((ar : Nat) : Int)), .bool true] 91) :: (b1, .cells #[.int .i64 0, .int .i64 0, .slice none 0 0] 24) :: L) 2 [(0, .int .i64 0), (1, .int .i64 0), (2, .slice none 0 0)] [.int .i64 0, .int .i64 0, .slice none 0 0] none (by kernel_rfl) hst rfl (by kernel_rfl) rfl rfl (fun _ h => h.ss' (Le.refl _) (fun _ hp => hp)) (fun w1 hst => ?_)
   refine r_en [] [] [(3, .int .i64 (((ar : Nat) : Int))), (4, .int .i64 4)] rc_nil ?_
   refine W_ret ?_
   refine q_rt [.int .i64 0, .int .i64 0, .slice none 0 0] [(⟨b1, 0, none⟩, .int .i64 0), (⟨b1, 1, none⟩, .int .i64 0), (⟨b1, 2, none⟩, .slice none 0 0)] (.tuple #[.agg #[.int .i64 0, .int .i64 0, .slice none 0 0], .int .i64 (((ar : Nat) : Int)), .int .i64 4]) (rc_L 2 rfl rfl (rc_L 2 rfl rfl (rc_L 2 rfl rfl rc_nil))) hst ?_
   exact ⟨G1, _, _, rfl, hG1, (IsPoly.mk (t := t0) (Nat.le_refl _) IsPolys.nil), hst.drop [_, _, _]⟩

end Go.Proofs.Ytjgnhhgigickaaa.Wk
/- The chapter's examples, reckoned in the model. Conditions: none. -/

namespace Go.Proofs.Ytjgnhhgigickaaa.Wk
open Go Md
@[reducible] def nt : T := .mk 2 0 []
@[reducible] def vr (n : Int) : T := .mk 1 n []
@[reducible] def fn (a b : T) : T := .mk 3 0 [a, b]
@[reducible] def al (a : T) : T := .mk 4 0 [a]
@[reducible] def idt : T := al (fn (vr 0) (vr 0))
@[reducible] def xv (n : Int) : E := .mk 1 n [] t0
@[reducible] def xn (n : Int) : E := .mk 2 n [] t0
@[reducible] def xl (x : E) : E := .mk 3 0 [x] t0
@[reducible] def xa (x y : E) : E := .mk 5 0 [x, y] t0
@[reducible] def xt (t : T) (x : E) : E := .mk 4 0 [x] t
@[reducible] def xh (x : E) (t : T) : E := .mk 6 0 [x] t

theorem aw1 : Md.Witness 30 idt (fn nt nt) = some ([nt], 0) := by kernel_rfl
theorem aw2 : Md.Witness 30 idt (al (fn (fn (vr 0) (vr 0)) (fn (vr 0) (vr 0)))) = some ([fn (vr 0) (vr 0)], 0) := by kernel_rfl
theorem aw3 : Md.Uses 30 (fn nt nt) idt = some (false, 0) := by kernel_rfl
theorem aw4 : Md.Rank 30 (fn idt nt) = some (2, 0) := by kernel_rfl
theorem aw5 : Md.Witness 30 (fn nt idt) (al (fn nt (fn (vr 0) (vr 0)))) = some ([vr 0], 0) := by kernel_rfl
theorem aw6 : Md.Witness 30 (al (fn nt (fn (vr 0) (vr 0)))) (fn nt idt) = some ([], 6) := by kernel_rfl
theorem aw7 : Md.Witness 30 (al nt) nt = some ([nt], 0) := by kernel_rfl
theorem aw8 : Md.Synth 30 [] (xl (xv 0)) = some (idt, 0) := by kernel_rfl
theorem aw9 : Md.Synth 30 [] (xl (xa (xv 0) (xv 0))) = some (t0, 8) := by kernel_rfl
theorem aw10 : Md.Synth 30 [] (xt idt (xa (xv 0) (xv 0))) = some (al (fn idt (fn (vr 0) (vr 0))), 0) := by kernel_rfl
theorem aw11 : Md.Synth 30 [fn idt nt] (xa (xv 0) (xl (xv 0))) = some (nt, 0) := by kernel_rfl
theorem aw12 : Md.Synth 30 [fn idt nt] (xa (xv 0) (xl (xn 3))) = some (t0, 8) := by kernel_rfl
theorem aw13 : Md.Synth 30 [] (xh (xl (xv 0)) (fn nt nt)) = some (fn nt nt, 0) := by kernel_rfl
theorem aw14 : Md.Parse 30 [98] = some ((t0, 0), 4) := by kernel_rfl
theorem aw15 : Md.Parse 30 [97] = some ((t0, 1), 4) := by kernel_rfl
theorem aw16 : Md.Parse 30 [97, 108, 108, 32, 98, 46, 32, 98] = some ((t0, 4), 4) := by kernel_rfl
theorem aw17 : Md.Parse 30 [40, 78, 41] = some ((t0, 2), 4) := by kernel_rfl
theorem aw18 : Md.Parse 30 [78, 32, 45, 62, 32] = some ((t0, 5), 4) := by kernel_rfl
theorem aw19 : Md.Parse 30 [78, 32, 45, 62, 78] = some ((t0, 4), 4) := by kernel_rfl
theorem aw20 : Md.Print 30 (fn idt nt) = some ([40, 97, 108, 108, 32, 97, 46, 32, 97, 32, 45, 62, 32, 97, 41, 32, 45, 62, 32, 78], 0) := by kernel_rfl
end Go.Proofs.Ytjgnhhgigickaaa.Wk
/- Walks of the given program's functions: the law's makers of types and terms. Printed by tools/w34.py. Conditions: none. -/

namespace Go.Proofs.Ytjgnhhgigickaaa.Wk
open Go Md
set_option maxRecDepth 20000
set_option linter.unusedVariables false
set_option linter.unusedSimpArgs false
attribute [local irreducible] endQ

theorem exprs1 {G : GH} {b : Nat} {v0 v1 v2 v3 v4 v5 : Value} {e : E} (hf : G b = some (.cells #[v0, v1, v2, v3, v4, v5] 52 (0, 0))) (h : IsExpr G (.agg #[v0, v1, v2, v3, v4, v5]) e) : IsExprs G (some ⟨b, 0, none⟩) [e] := by
 unfold IsExprs
 exact ⟨b, 0, v0, v1, v2, v3, v4, v5, rfl, GC.of hf rfl, GC.of hf rfl, GC.of hf rfl, GC.of hf rfl, GC.of hf rfl, GC.of hf rfl, h, by unfold IsExprs; trivial⟩
theorem exprs2 {G : GH} {b : Nat} {v0 v1 v2 v3 v4 v5 u0 u1 u2 u3 u4 u5 : Value} {e f : E} (hf : G b = some (.cells #[v0, v1, v2, v3, v4, v5, u0, u1, u2, u3, u4, u5] 52 (0, 0))) (h : IsExpr G (.agg #[v0, v1, v2, v3, v4, v5]) e) (h2 : IsExpr G (.agg #[u0, u1, u2, u3, u4, u5]) f) : IsExprs G (some ⟨b, 0, none⟩) [e, f] := by
 unfold IsExprs
 refine ⟨b, 0, v0, v1, v2, v3, v4, v5, rfl, GC.of hf rfl, GC.of hf rfl, GC.of hf rfl, GC.of hf rfl, GC.of hf rfl, GC.of hf rfl, h, ?_⟩
 unfold IsExprs
 exact ⟨b, 6, u0, u1, u2, u3, u4, u5, rfl, GC.of hf rfl, GC.of hf rfl, GC.of hf rfl, GC.of hf rfl, GC.of hf rfl, GC.of hf rfl, h2, by unfold IsExprs; trivial⟩

theorem c27 {G : GH} {L : LH} {w : World} (hst : St G L w) : Cal Try.prog 27 #[] w fun x w' => ∃ G', Le G G' ∧ IsPoly G' x (nt) ∧ St G' L w' := by
 refine cal_of_W Try.func27 rfl (Nat.le_of_ble_eq_true (by kernel_rfl)) ?_
 refine W_seq ?_
 refine W_rg [(.f, 0)] hst ?_
 refine m_new (.cells #[.int .i64 0, .int .i64 0, .slice none 0 0] 24) (fun b1 => .pointer (some ⟨b1, 0, none⟩)) (some 0) (fun b => by kernel_rfl) hst (fun b1 w1 hst => ?_)
 refine r_nil ?_
 refine W_seq ?_
 refine W_rg [(.p, 0), (.f, 1)] hst ?_
 refine r_sg [(.p, 0)] [] [] [(1, .agg #[.int .i64 2, .int .i64 0, .slice none 0 0])] rc_nil ?_
 refine m_st ((b1, .cells #[.int .i64 2, .int .i64 0, .slice none 0 0] 24) :: L) 0 [(0, .int .i64 2), (1, .int .i64 0), (2, .slice none 0 0)] [.int .i64 2, .int .i64 0, .slice none 0 0] none hst (fun w1 hst => ?_)
 refine r_nil ?_
 refine W_ret ?_
 refine q_rt [.int .i64 2, .int .i64 0, .slice none 0 0] [(⟨b1, 0, none⟩, .int .i64 2), (⟨b1, 1, none⟩, .int .i64 0), (⟨b1, 2, none⟩, .slice none 0 0)] (.agg #[.int .i64 2, .int .i64 0, .slice none 0 0]) (rc_L 0 rfl rfl (rc_L 0 rfl rfl (rc_L 0 rfl rfl rc_nil))) hst ?_
 exact ⟨G, Le.refl _, IsPoly.mk (t := nt) (Nat.le_refl _) IsPolys.nil, hst.drop [_]⟩

theorem c50 {G : GH} {L : LH} {w : World} {n : Int} (hst : St G L w) : Cal Try.prog 50 #[.int .i64 n] w fun x w' => ∃ G', Le G G' ∧ IsPoly G' x (vr n) ∧ St G' L w' := by
 refine cal_of_W Try.func50 rfl (Nat.le_of_ble_eq_true (by kernel_rfl)) ?_
 refine W_seq ?_
 refine W_rg [(.f, 0)] hst ?_
 refine m_new (.cells #[.int .i64 0, .int .i64 0, .slice none 0 0] 24) (fun b1 => .pointer (some ⟨b1, 0, none⟩)) (some 2) (fun b => by kernel_rfl) hst (fun b1 w1 hst => ?_)
 refine r_nil ?_
 refine W_seq ?_
 refine W_rg [(.p, 0), (.p, 1), (.f, 2)] hst ?_
 refine r_sg [(.p, 0), (.p, 1)] [] [] [(3, .int .i64 n), (4, .agg #[.int .i64 1, .int .i64 n, .slice none 0 0])] rc_nil ?_
 refine m_st ((b1, .cells #[.int .i64 1, .int .i64 n, .slice none 0 0] 24) :: L) 0 [(0, .int .i64 1), (1, .int .i64 n), (2, .slice none 0 0)] [.int .i64 1, .int .i64 n, .slice none 0 0] none hst (fun w1 hst => ?_)
 refine r_nil ?_
 refine W_ret ?_
 refine q_rt [.int .i64 1, .int .i64 n, .slice none 0 0] [(⟨b1, 0, none⟩, .int .i64 1), (⟨b1, 1, none⟩, .int .i64 n), (⟨b1, 2, none⟩, .slice none 0 0)] (.agg #[.int .i64 1, .int .i64 n, .slice none 0 0]) (rc_L 0 rfl rfl (rc_L 0 rfl rfl (rc_L 0 rfl rfl rc_nil))) hst ?_
 exact ⟨G, Le.refl _, IsPoly.mk (t := vr n) (Nat.le_refl _) IsPolys.nil, hst.drop [_]⟩

theorem c26 {G : GH} {L : LH} {w : World} {va : Value} {a : T} {vb : Value} {b : T} (hva : IsPoly G va a) (hvb : IsPoly G vb b) (hst : St G L w) : Cal Try.prog 26 #[va, vb] w fun x w' => ∃ G', Le G G' ∧ IsPoly G' x (fn a b) ∧ St G' L w' := by
 obtain ⟨aA, ac, rfl, hac, hak⟩ := id hva.open
 obtain ⟨bA, bc, rfl, hbc, hbk⟩ := id hvb.open
 refine cal_of_W Try.func26 rfl (Nat.le_of_ble_eq_true (by kernel_rfl)) ?_
 refine W_seq ?_
 refine W_rg [(.f, 0), (.f, 1), (.f, 2)] hst ?_
 refine m_new (.cells #[.int .i64 a.kind, .int .i64 a.num, .slice aA a.kids.length ac] 24) (fun b1 => .pointer (some ⟨b1, 0, none⟩)) (some 2) (fun b => by kernel_rfl) hst (fun b1 w1 hst => ?_)
 refine m_new (.cells #[.int .i64 b.kind, .int .i64 b.num, .slice bA b.kids.length bc] 24) (fun b2 => .pointer (some ⟨b2, 0, none⟩)) (some 3) (fun b => by kernel_rfl) hst (fun b2 w1 hst => ?_)
 refine m_new (.cells #[.int .i64 0, .int .i64 0, .slice none 0 0] 24) (fun b3 => .pointer (some ⟨b3, 0, none⟩)) (some 4) (fun b => by kernel_rfl) hst (fun b3 w1 hst => ?_)
 refine r_nil ?_
 refine W_seq ?_
 refine W_rg [(.l, 0), (.l, 1), (.f, 2), (.p, 3), (.f, 4)] hst ?_
 refine r_sg [(.l, 0), (.l, 1)] [[.int .i64 a.kind, .int .i64 a.num, .slice aA a.kids.length ac], [.int .i64 b.kind, .int .i64 b.num, .slice bA b.kids.length bc]] [(⟨b1, 0, none⟩, .int .i64 a.kind), (⟨b1, 1, none⟩, .int .i64 a.num), (⟨b1, 2, none⟩, .slice aA a.kids.length ac), (⟨b2, 0, none⟩, .int .i64 b.kind), (⟨b2, 1, none⟩, .int .i64 b.num), (⟨b2, 2, none⟩, .slice bA b.kids.length bc)] [(5, .agg #[.int .i64 a.kind, .int .i64 a.num, .slice aA a.kids.length ac]), (6, .agg #[.int .i64 b.kind, .int .i64 b.num, .slice bA b.kids.length bc])] (rc_L 2 rfl rfl (rc_L 2 rfl rfl (rc_L 2 rfl rfl (rc_L 1 rfl rfl (rc_L 1 rfl rfl (rc_L 1 rfl rfl rc_nil)))))) ?_
 refine m_new (.cells #[.int .i64 a.kind, .int .i64 a.num, .slice aA a.kids.length ac, .int .i64 b.kind, .int .i64 b.num, .slice bA b.kids.length bc] 24) (fun b4 => .slice (some ⟨b4, 0, none⟩) 2 2) (some 7) (fun b => by kernel_rfl) hst (fun b4 w1 hst => ?_)
 refine r_sg [(.p, 3)] [] [] [(8, .agg #[.int .i64 3, .int .i64 0, .slice (some ⟨b4, 0, none⟩) 2 2])] rc_nil ?_
 refine m_st ((b4, .cells #[.int .i64 a.kind, .int .i64 a.num, .slice aA a.kids.length ac, .int .i64 b.kind, .int .i64 b.num, .slice bA b.kids.length bc] 24) :: (b3, .cells #[.int .i64 3, .int .i64 0, .slice (some ⟨b4, 0, none⟩) 2 2] 24) :: (b2, .cells #[.int .i64 b.kind, .int .i64 b.num, .slice bA b.kids.length bc] 24) :: (b1, .cells #[.int .i64 a.kind, .int .i64 a.num, .slice aA a.kids.length ac] 24) :: L) 1 [(0, .int .i64 3), (1, .int .i64 0), (2, .slice (some ⟨b4, 0, none⟩) 2 2)] [.int .i64 3, .int .i64 0, .slice (some ⟨b4, 0, none⟩) 2 2] none hst (fun w1 hst => ?_)
 refine r_nil ?_
 refine W_ret ?_
 refine q_rt [.int .i64 3, .int .i64 0, .slice (some ⟨b4, 0, none⟩) 2 2] [(⟨b3, 0, none⟩, .int .i64 3), (⟨b3, 1, none⟩, .int .i64 0), (⟨b3, 2, none⟩, .slice (some ⟨b4, 0, none⟩) 2 2)] (.agg #[.int .i64 3, .int .i64 0, .slice (some ⟨b4, 0, none⟩) 2 2]) (rc_L 1 rfl rfl (rc_L 1 rfl rfl (rc_L 1 rfl rfl rc_nil))) hst ?_
 obtain ⟨G9, hG9, hF9, hst⟩ := St.freeze [_] hst
 have hf := hF9 _ (.head _)
 exact ⟨G9, hG9, IsPoly.mk (t := fn a b) (Nat.le_refl _) (polys_of (cs := [.int .i64 a.kind, .int .i64 a.num, .slice aA a.kids.length ac, .int .i64 b.kind, .int .i64 b.num, .slice bA b.kids.length bc]) ⟨hva.mono hG9, hvb.mono hG9, trivial⟩ hf), hst.drop [_, _, _]⟩

theorem c49 {G : GH} {L : LH} {w : World} {va : Value} {a : T} (hva : IsPoly G va a) (hst : St G L w) : Cal Try.prog 49 #[va] w fun x w' => ∃ G', Le G G' ∧ IsPoly G' x (al a) ∧ St G' L w' := by
 obtain ⟨aA, ac, rfl, hac, hak⟩ := id hva.open
 refine cal_of_W Try.func49 rfl (Nat.le_of_ble_eq_true (by kernel_rfl)) ?_
 refine W_seq ?_
 refine W_rg [(.f, 0), (.f, 1)] hst ?_
 refine m_new (.cells #[.int .i64 a.kind, .int .i64 a.num, .slice aA a.kids.length ac] 24) (fun b1 => .pointer (some ⟨b1, 0, none⟩)) (some 1) (fun b => by kernel_rfl) hst (fun b1 w1 hst => ?_)
 refine m_new (.cells #[.int .i64 0, .int .i64 0, .slice none 0 0] 24) (fun b2 => .pointer (some ⟨b2, 0, none⟩)) (some 2) (fun b => by kernel_rfl) hst (fun b2 w1 hst => ?_)
 refine r_nil ?_
 refine W_seq ?_
 refine W_rg [(.l, 0), (.f, 1), (.p, 2), (.f, 3)] hst ?_
 refine r_sg [(.l, 0)] [[.int .i64 a.kind, .int .i64 a.num, .slice aA a.kids.length ac]] [(⟨b1, 0, none⟩, .int .i64 a.kind), (⟨b1, 1, none⟩, .int .i64 a.num), (⟨b1, 2, none⟩, .slice aA a.kids.length ac)] [(3, .agg #[.int .i64 a.kind, .int .i64 a.num, .slice aA a.kids.length ac])] (rc_L 1 rfl rfl (rc_L 1 rfl rfl (rc_L 1 rfl rfl rc_nil))) ?_
 refine m_new (.cells #[.int .i64 a.kind, .int .i64 a.num, .slice aA a.kids.length ac] 24) (fun b3 => .slice (some ⟨b3, 0, none⟩) 1 1) (some 4) (fun b => by kernel_rfl) hst (fun b3 w1 hst => ?_)
 refine r_sg [(.p, 2)] [] [] [(5, .agg #[.int .i64 4, .int .i64 0, .slice (some ⟨b3, 0, none⟩) 1 1])] rc_nil ?_
 refine m_st ((b3, .cells #[.int .i64 a.kind, .int .i64 a.num, .slice aA a.kids.length ac] 24) :: (b2, .cells #[.int .i64 4, .int .i64 0, .slice (some ⟨b3, 0, none⟩) 1 1] 24) :: (b1, .cells #[.int .i64 a.kind, .int .i64 a.num, .slice aA a.kids.length ac] 24) :: L) 1 [(0, .int .i64 4), (1, .int .i64 0), (2, .slice (some ⟨b3, 0, none⟩) 1 1)] [.int .i64 4, .int .i64 0, .slice (some ⟨b3, 0, none⟩) 1 1] none hst (fun w1 hst => ?_)
 refine r_nil ?_
 refine W_ret ?_
 refine q_rt [.int .i64 4, .int .i64 0, .slice (some ⟨b3, 0, none⟩) 1 1] [(⟨b2, 0, none⟩, .int .i64 4), (⟨b2, 1, none⟩, .int .i64 0), (⟨b2, 2, none⟩, .slice (some ⟨b3, 0, none⟩) 1 1)] (.agg #[.int .i64 4, .int .i64 0, .slice (some ⟨b3, 0, none⟩) 1 1]) (rc_L 1 rfl rfl (rc_L 1 rfl rfl (rc_L 1 rfl rfl rc_nil))) hst ?_
 obtain ⟨G9, hG9, hF9, hst⟩ := St.freeze [_] hst
 have hf := hF9 _ (.head _)
 exact ⟨G9, hG9, IsPoly.mk (t := al a) (Nat.le_refl _) (polys_of (cs := [.int .i64 a.kind, .int .i64 a.num, .slice aA a.kids.length ac]) ⟨hva.mono hG9, trivial⟩ hf), hst.drop [_, _]⟩

theorem c48 {G : GH} {L : LH} {w : World} (hst : St G L w) : Cal Try.prog 48 #[] w fun x w' => ∃ G', Le G G' ∧ IsPoly G' x idt ∧ St G' L w' := by
 refine cal_of_W Try.func48 rfl (Nat.le_of_ble_eq_true (by kernel_rfl)) ?_
 refine W_seq ?_
 refine W_rg [(.f, 0)] hst ?_
 refine m_new (.cells #[.int .i64 0, .int .i64 0, .slice none 0 0] 24) (fun b1 => .pointer (some ⟨b1, 0, none⟩)) (some 0) (fun b => by kernel_rfl) hst (fun b1 w1 hst => ?_)
 refine r_nil ?_
 refine W_seq ?_
 refine W_rg [(.f, 0), (.f, 1), (.f, 2), (.f, 3), (.f, 4)] hst ?_
 refine m_cl #[.int .i64 0] (some 1) (c50 hst) ?_
 rintro x1 w1 ⟨G1, hG1, hx1, hst⟩
 refine nx hst ?_
 refine m_cl #[.int .i64 0] (some 2) (c50 hst) ?_
 rintro x2 w1 ⟨G2, hG2, hx2, hst⟩
 refine nx hst ?_
 refine m_cl #[x1, x2] (some 3) (c26 (hx1.mono hG2) hx2 hst) ?_
 rintro x3 w1 ⟨G3, hG3, hx3, hst⟩
 refine nx hst ?_
 refine m_cl #[x3] (some 4) (c49 hx3 hst) ?_
 rintro x4 w1 ⟨G4, hG4, hx4, hst⟩
 refine nx hst ?_
 obtain ⟨oA, oc, rfl, hoc, hok⟩ := id hx4.open
 refine m_st ((b1, .cells #[.int .i64 idt.kind, .int .i64 idt.num, .slice oA idt.kids.length oc] 24) :: L) 0 [(0, .int .i64 idt.kind), (1, .int .i64 idt.num), (2, .slice oA idt.kids.length oc)] [.int .i64 idt.kind, .int .i64 idt.num, .slice oA idt.kids.length oc] none hst (fun w1 hst => ?_)
 refine r_nil ?_
 refine W_ret ?_
 refine q_rt [.int .i64 idt.kind, .int .i64 idt.num, .slice oA idt.kids.length oc] [(⟨b1, 0, none⟩, .int .i64 idt.kind), (⟨b1, 1, none⟩, .int .i64 idt.num), (⟨b1, 2, none⟩, .slice oA idt.kids.length oc)] (.agg #[.int .i64 idt.kind, .int .i64 idt.num, .slice oA idt.kids.length oc]) (rc_L 0 rfl rfl (rc_L 0 rfl rfl (rc_L 0 rfl rfl rc_nil))) hst ?_
 exact ⟨G4, ((hG1.trans hG2).trans hG3).trans hG4, hx4, hst.drop [_]⟩

theorem c51 {G : GH} {L : LH} {w : World} {va : Value} {a : E} (hva : IsExpr G va a) (hst : St G L w) : Cal Try.prog 51 #[va] w fun x w' => ∃ G', Le G G' ∧ IsExpr G' x (xl a) ∧ St G' L w' := by
 obtain ⟨aA, ac, aB, ad, rfl, hac, hak, haty⟩ := id hva.open
 refine cal_of_W Try.func51 rfl (Nat.le_of_ble_eq_true (by kernel_rfl)) ?_
 refine W_seq ?_
 refine W_rg [(.f, 0), (.f, 1)] hst ?_
 refine m_new (.cells #[.int .i64 a.kind, .int .i64 a.num, .slice aA a.kids.length ac, .int .i64 a.ty.kind, .int .i64 a.ty.num, .slice aB a.ty.kids.length ad] 52) (fun b1 => .pointer (some ⟨b1, 0, none⟩)) (some 1) (fun b => by kernel_rfl) hst (fun b1 w1 hst => ?_)
 refine m_new (.cells #[.int .i64 0, .int .i64 0, .slice none 0 0, .int .i64 0, .int .i64 0, .slice none 0 0] 52) (fun b2 => .pointer (some ⟨b2, 0, none⟩)) (some 2) (fun b => by kernel_rfl) hst (fun b2 w1 hst => ?_)
 refine r_nil ?_
 refine W_seq ?_
 refine W_rg [(.l, 0), (.f, 1), (.p, 2), (.f, 3)] hst ?_
 refine r_sg [(.l, 0)] [[.int .i64 a.kind, .int .i64 a.num, .slice aA a.kids.length ac, .int .i64 a.ty.kind, .int .i64 a.ty.num, .slice aB a.ty.kids.length ad]] [(⟨b1, 0, none⟩, .int .i64 a.kind), (⟨b1, 1, none⟩, .int .i64 a.num), (⟨b1, 2, none⟩, .slice aA a.kids.length ac), (⟨b1, 3, none⟩, .int .i64 a.ty.kind), (⟨b1, 4, none⟩, .int .i64 a.ty.num), (⟨b1, 5, none⟩, .slice aB a.ty.kids.length ad)] [(3, .agg #[.int .i64 a.kind, .int .i64 a.num, .slice aA a.kids.length ac, .int .i64 a.ty.kind, .int .i64 a.ty.num, .slice aB a.ty.kids.length ad])] (rc_L 1 rfl rfl (rc_L 1 rfl rfl (rc_L 1 rfl rfl (rc_L 1 rfl rfl (rc_L 1 rfl rfl (rc_L 1 rfl rfl rc_nil)))))) ?_
 refine m_new (.cells #[.int .i64 a.kind, .int .i64 a.num, .slice aA a.kids.length ac, .int .i64 a.ty.kind, .int .i64 a.ty.num, .slice aB a.ty.kids.length ad] 52) (fun b3 => .slice (some ⟨b3, 0, none⟩) 1 1) (some 4) (fun b => by kernel_rfl) hst (fun b3 w1 hst => ?_)
 refine r_sg [(.p, 2)] [] [] [(5, .agg #[.int .i64 3, .int .i64 0, .slice (some ⟨b3, 0, none⟩) 1 1, .int .i64 0, .int .i64 0, .slice none 0 0])] rc_nil ?_
 refine m_st ((b3, .cells #[.int .i64 a.kind, .int .i64 a.num, .slice aA a.kids.length ac, .int .i64 a.ty.kind, .int .i64 a.ty.num, .slice aB a.ty.kids.length ad] 52) :: (b2, .cells #[.int .i64 3, .int .i64 0, .slice (some ⟨b3, 0, none⟩) 1 1, .int .i64 0, .int .i64 0, .slice none 0 0] 52) :: (b1, .cells #[.int .i64 a.kind, .int .i64 a.num, .slice aA a.kids.length ac, .int .i64 a.ty.kind, .int .i64 a.ty.num, .slice aB a.ty.kids.length ad] 52) :: L) 1 [(0, .int .i64 3), (1, .int .i64 0), (2, .slice (some ⟨b3, 0, none⟩) 1 1), (3, .int .i64 0), (4, .int .i64 0), (5, .slice none 0 0)] [.int .i64 3, .int .i64 0, .slice (some ⟨b3, 0, none⟩) 1 1, .int .i64 0, .int .i64 0, .slice none 0 0] none hst (fun w1 hst => ?_)
 refine r_nil ?_
 refine W_ret ?_
 refine q_rt [.int .i64 3, .int .i64 0, .slice (some ⟨b3, 0, none⟩) 1 1, .int .i64 0, .int .i64 0, .slice none 0 0] [(⟨b2, 0, none⟩, .int .i64 3), (⟨b2, 1, none⟩, .int .i64 0), (⟨b2, 2, none⟩, .slice (some ⟨b3, 0, none⟩) 1 1), (⟨b2, 3, none⟩, .int .i64 0), (⟨b2, 4, none⟩, .int .i64 0), (⟨b2, 5, none⟩, .slice none 0 0)] (.agg #[.int .i64 3, .int .i64 0, .slice (some ⟨b3, 0, none⟩) 1 1, .int .i64 0, .int .i64 0, .slice none 0 0]) (rc_L 1 rfl rfl (rc_L 1 rfl rfl (rc_L 1 rfl rfl (rc_L 1 rfl rfl (rc_L 1 rfl rfl (rc_L 1 rfl rfl rc_nil)))))) hst ?_
 obtain ⟨G9, hG9, hF9, hst⟩ := St.freeze [_] hst
 have hf := hF9 _ (.head _)
 exact ⟨G9, hG9, IsExpr.mk (e := xl a) (Nat.le_refl _) (exprs1 hf (hva.mono hG9)) (IsPoly.mk (t := t0) (Nat.le_refl _) IsPolys.nil), hst.drop [_, _]⟩

theorem c52 {G : GH} {L : LH} {w : World} {n : Int} (hst : St G L w) : Cal Try.prog 52 #[.int .i64 n] w fun x w' => ∃ G', Le G G' ∧ IsExpr G' x (xv n) ∧ St G' L w' := by
 refine cal_of_W Try.func52 rfl (Nat.le_of_ble_eq_true (by kernel_rfl)) ?_
 refine W_seq ?_
 refine W_rg [(.f, 0)] hst ?_
 refine m_new (.cells #[.int .i64 0, .int .i64 0, .slice none 0 0, .int .i64 0, .int .i64 0, .slice none 0 0] 52) (fun b1 => .pointer (some ⟨b1, 0, none⟩)) (some 2) (fun b => by kernel_rfl) hst (fun b1 w1 hst => ?_)
 refine r_nil ?_
 refine W_seq ?_
 refine W_rg [(.p, 0), (.p, 1), (.f, 2)] hst ?_
 refine r_sg [(.p, 0), (.p, 1)] [] [] [(3, .int .i64 n), (4, .agg #[.int .i64 1, .int .i64 n, .slice none 0 0, .int .i64 0, .int .i64 0, .slice none 0 0])] rc_nil ?_
 refine m_st ((b1, .cells #[.int .i64 1, .int .i64 n, .slice none 0 0, .int .i64 0, .int .i64 0, .slice none 0 0] 52) :: L) 0 [(0, .int .i64 1), (1, .int .i64 n), (2, .slice none 0 0), (3, .int .i64 0), (4, .int .i64 0), (5, .slice none 0 0)] [.int .i64 1, .int .i64 n, .slice none 0 0, .int .i64 0, .int .i64 0, .slice none 0 0] none hst (fun w1 hst => ?_)
 refine r_nil ?_
 refine W_ret ?_
 refine q_rt [.int .i64 1, .int .i64 n, .slice none 0 0, .int .i64 0, .int .i64 0, .slice none 0 0] [(⟨b1, 0, none⟩, .int .i64 1), (⟨b1, 1, none⟩, .int .i64 n), (⟨b1, 2, none⟩, .slice none 0 0), (⟨b1, 3, none⟩, .int .i64 0), (⟨b1, 4, none⟩, .int .i64 0), (⟨b1, 5, none⟩, .slice none 0 0)] (.agg #[.int .i64 1, .int .i64 n, .slice none 0 0, .int .i64 0, .int .i64 0, .slice none 0 0]) (rc_L 0 rfl rfl (rc_L 0 rfl rfl (rc_L 0 rfl rfl (rc_L 0 rfl rfl (rc_L 0 rfl rfl (rc_L 0 rfl rfl rc_nil)))))) hst ?_
 exact ⟨G, Le.refl _, IsExpr.mk (e := xv n) (Nat.le_refl _) IsExprs.nil (IsPoly.mk (t := t0) (Nat.le_refl _) IsPolys.nil), hst.drop [_]⟩

theorem c53 {G : GH} {L : LH} {w : World} {va : Value} {a : E} {vb : Value} {b : E} (hva : IsExpr G va a) (hvb : IsExpr G vb b) (hst : St G L w) : Cal Try.prog 53 #[va, vb] w fun x w' => ∃ G', Le G G' ∧ IsExpr G' x (xa a b) ∧ St G' L w' := by
 obtain ⟨aA, ac, aB, ad, rfl, hac, hak, haty⟩ := id hva.open
 obtain ⟨bA, bc, bB, bd, rfl, hbc, hbk, hbty⟩ := id hvb.open
 refine cal_of_W Try.func53 rfl (Nat.le_of_ble_eq_true (by kernel_rfl)) ?_
 refine W_seq ?_
 refine W_rg [(.f, 0), (.f, 1), (.f, 2)] hst ?_
 refine m_new (.cells #[.int .i64 a.kind, .int .i64 a.num, .slice aA a.kids.length ac, .int .i64 a.ty.kind, .int .i64 a.ty.num, .slice aB a.ty.kids.length ad] 52) (fun b1 => .pointer (some ⟨b1, 0, none⟩)) (some 2) (fun b => by kernel_rfl) hst (fun b1 w1 hst => ?_)
 refine m_new (.cells #[.int .i64 b.kind, .int .i64 b.num, .slice bA b.kids.length bc, .int .i64 b.ty.kind, .int .i64 b.ty.num, .slice bB b.ty.kids.length bd] 52) (fun b2 => .pointer (some ⟨b2, 0, none⟩)) (some 3) (fun b => by kernel_rfl) hst (fun b2 w1 hst => ?_)
 refine m_new (.cells #[.int .i64 0, .int .i64 0, .slice none 0 0, .int .i64 0, .int .i64 0, .slice none 0 0] 52) (fun b3 => .pointer (some ⟨b3, 0, none⟩)) (some 4) (fun b => by kernel_rfl) hst (fun b3 w1 hst => ?_)
 refine r_nil ?_
 refine W_seq ?_
 refine W_rg [(.l, 0), (.l, 1), (.f, 2), (.p, 3), (.f, 4)] hst ?_
 refine r_sg [(.l, 0), (.l, 1)] [[.int .i64 a.kind, .int .i64 a.num, .slice aA a.kids.length ac, .int .i64 a.ty.kind, .int .i64 a.ty.num, .slice aB a.ty.kids.length ad], [.int .i64 b.kind, .int .i64 b.num, .slice bA b.kids.length bc, .int .i64 b.ty.kind, .int .i64 b.ty.num, .slice bB b.ty.kids.length bd]] [(⟨b1, 0, none⟩, .int .i64 a.kind), (⟨b1, 1, none⟩, .int .i64 a.num), (⟨b1, 2, none⟩, .slice aA a.kids.length ac), (⟨b1, 3, none⟩, .int .i64 a.ty.kind), (⟨b1, 4, none⟩, .int .i64 a.ty.num), (⟨b1, 5, none⟩, .slice aB a.ty.kids.length ad), (⟨b2, 0, none⟩, .int .i64 b.kind), (⟨b2, 1, none⟩, .int .i64 b.num), (⟨b2, 2, none⟩, .slice bA b.kids.length bc), (⟨b2, 3, none⟩, .int .i64 b.ty.kind), (⟨b2, 4, none⟩, .int .i64 b.ty.num), (⟨b2, 5, none⟩, .slice bB b.ty.kids.length bd)] [(5, .agg #[.int .i64 a.kind, .int .i64 a.num, .slice aA a.kids.length ac, .int .i64 a.ty.kind, .int .i64 a.ty.num, .slice aB a.ty.kids.length ad]), (6, .agg #[.int .i64 b.kind, .int .i64 b.num, .slice bA b.kids.length bc, .int .i64 b.ty.kind, .int .i64 b.ty.num, .slice bB b.ty.kids.length bd])] (rc_L 2 rfl rfl (rc_L 2 rfl rfl (rc_L 2 rfl rfl (rc_L 2 rfl rfl (rc_L 2 rfl rfl (rc_L 2 rfl rfl (rc_L 1 rfl rfl (rc_L 1 rfl rfl (rc_L 1 rfl rfl (rc_L 1 rfl rfl (rc_L 1 rfl rfl (rc_L 1 rfl rfl rc_nil)))))))))))) ?_
 refine m_new (.cells #[.int .i64 a.kind, .int .i64 a.num, .slice aA a.kids.length ac, .int .i64 a.ty.kind, .int .i64 a.ty.num, .slice aB a.ty.kids.length ad, .int .i64 b.kind, .int .i64 b.num, .slice bA b.kids.length bc, .int .i64 b.ty.kind, .int .i64 b.ty.num, .slice bB b.ty.kids.length bd] 52) (fun b4 => .slice (some ⟨b4, 0, none⟩) 2 2) (some 7) (fun b => by kernel_rfl) hst (fun b4 w1 hst => ?_)
 refine r_sg [(.p, 3)] [] [] [(8, .agg #[.int .i64 5, .int .i64 0, .slice (some ⟨b4, 0, none⟩) 2 2, .int .i64 0, .int .i64 0, .slice none 0 0])] rc_nil ?_
 refine m_st ((b4, .cells #[.int .i64 a.kind, .int .i64 a.num, .slice aA a.kids.length ac, .int .i64 a.ty.kind, .int .i64 a.ty.num, .slice aB a.ty.kids.length ad, .int .i64 b.kind, .int .i64 b.num, .slice bA b.kids.length bc, .int .i64 b.ty.kind, .int .i64 b.ty.num, .slice bB b.ty.kids.length bd] 52) :: (b3, .cells #[.int .i64 5, .int .i64 0, .slice (some ⟨b4, 0, none⟩) 2 2, .int .i64 0, .int .i64 0, .slice none 0 0] 52) :: (b2, .cells #[.int .i64 b.kind, .int .i64 b.num, .slice bA b.kids.length bc, .int .i64 b.ty.kind, .int .i64 b.ty.num, .slice bB b.ty.kids.length bd] 52) :: (b1, .cells #[.int .i64 a.kind, .int .i64 a.num, .slice aA a.kids.length ac, .int .i64 a.ty.kind, .int .i64 a.ty.num, .slice aB a.ty.kids.length ad] 52) :: L) 1 [(0, .int .i64 5), (1, .int .i64 0), (2, .slice (some ⟨b4, 0, none⟩) 2 2), (3, .int .i64 0), (4, .int .i64 0), (5, .slice none 0 0)] [.int .i64 5, .int .i64 0, .slice (some ⟨b4, 0, none⟩) 2 2, .int .i64 0, .int .i64 0, .slice none 0 0] none hst (fun w1 hst => ?_)
 refine r_nil ?_
 refine W_ret ?_
 refine q_rt [.int .i64 5, .int .i64 0, .slice (some ⟨b4, 0, none⟩) 2 2, .int .i64 0, .int .i64 0, .slice none 0 0] [(⟨b3, 0, none⟩, .int .i64 5), (⟨b3, 1, none⟩, .int .i64 0), (⟨b3, 2, none⟩, .slice (some ⟨b4, 0, none⟩) 2 2), (⟨b3, 3, none⟩, .int .i64 0), (⟨b3, 4, none⟩, .int .i64 0), (⟨b3, 5, none⟩, .slice none 0 0)] (.agg #[.int .i64 5, .int .i64 0, .slice (some ⟨b4, 0, none⟩) 2 2, .int .i64 0, .int .i64 0, .slice none 0 0]) (rc_L 1 rfl rfl (rc_L 1 rfl rfl (rc_L 1 rfl rfl (rc_L 1 rfl rfl (rc_L 1 rfl rfl (rc_L 1 rfl rfl rc_nil)))))) hst ?_
 obtain ⟨G9, hG9, hF9, hst⟩ := St.freeze [_] hst
 have hf := hF9 _ (.head _)
 exact ⟨G9, hG9, IsExpr.mk (e := xa a b) (Nat.le_refl _) (exprs2 hf (hva.mono hG9) (hvb.mono hG9)) (IsPoly.mk (t := t0) (Nat.le_refl _) IsPolys.nil), hst.drop [_, _, _]⟩

theorem c54 {G : GH} {L : LH} {w : World} {va : Value} {a : T} {vb : Value} {b : E} (hva : IsPoly G va a) (hvb : IsExpr G vb b) (hst : St G L w) : Cal Try.prog 54 #[va, vb] w fun x w' => ∃ G', Le G G' ∧ IsExpr G' x (xt a b) ∧ St G' L w' := by
 obtain ⟨aA, ac, rfl, hac, hak⟩ := id hva.open
 obtain ⟨bA, bc, bB, bd, rfl, hbc, hbk, hbty⟩ := id hvb.open
 refine cal_of_W Try.func54 rfl (Nat.le_of_ble_eq_true (by kernel_rfl)) ?_
 refine W_seq ?_
 refine W_rg [(.f, 0), (.f, 1), (.f, 2)] hst ?_
 refine m_new (.cells #[.int .i64 a.kind, .int .i64 a.num, .slice aA a.kids.length ac] 24) (fun b1 => .pointer (some ⟨b1, 0, none⟩)) (some 2) (fun b => by kernel_rfl) hst (fun b1 w1 hst => ?_)
 refine m_new (.cells #[.int .i64 b.kind, .int .i64 b.num, .slice bA b.kids.length bc, .int .i64 b.ty.kind, .int .i64 b.ty.num, .slice bB b.ty.kids.length bd] 52) (fun b2 => .pointer (some ⟨b2, 0, none⟩)) (some 3) (fun b => by kernel_rfl) hst (fun b2 w1 hst => ?_)
 refine m_new (.cells #[.int .i64 0, .int .i64 0, .slice none 0 0, .int .i64 0, .int .i64 0, .slice none 0 0] 52) (fun b3 => .pointer (some ⟨b3, 0, none⟩)) (some 4) (fun b => by kernel_rfl) hst (fun b3 w1 hst => ?_)
 refine r_nil ?_
 refine W_seq ?_
 refine W_rg [(.l, 0), (.l, 1), (.f, 2), (.p, 3), (.f, 4)] hst ?_
 refine r_sg [(.l, 0), (.l, 1)] [[.int .i64 a.kind, .int .i64 a.num, .slice aA a.kids.length ac], [.int .i64 b.kind, .int .i64 b.num, .slice bA b.kids.length bc, .int .i64 b.ty.kind, .int .i64 b.ty.num, .slice bB b.ty.kids.length bd]] [(⟨b1, 0, none⟩, .int .i64 a.kind), (⟨b1, 1, none⟩, .int .i64 a.num), (⟨b1, 2, none⟩, .slice aA a.kids.length ac), (⟨b2, 0, none⟩, .int .i64 b.kind), (⟨b2, 1, none⟩, .int .i64 b.num), (⟨b2, 2, none⟩, .slice bA b.kids.length bc), (⟨b2, 3, none⟩, .int .i64 b.ty.kind), (⟨b2, 4, none⟩, .int .i64 b.ty.num), (⟨b2, 5, none⟩, .slice bB b.ty.kids.length bd)] [(5, .agg #[.int .i64 a.kind, .int .i64 a.num, .slice aA a.kids.length ac]), (6, .agg #[.int .i64 b.kind, .int .i64 b.num, .slice bA b.kids.length bc, .int .i64 b.ty.kind, .int .i64 b.ty.num, .slice bB b.ty.kids.length bd])] (rc_L 2 rfl rfl (rc_L 2 rfl rfl (rc_L 2 rfl rfl (rc_L 1 rfl rfl (rc_L 1 rfl rfl (rc_L 1 rfl rfl (rc_L 1 rfl rfl (rc_L 1 rfl rfl (rc_L 1 rfl rfl rc_nil))))))))) ?_
 refine m_new (.cells #[.int .i64 b.kind, .int .i64 b.num, .slice bA b.kids.length bc, .int .i64 b.ty.kind, .int .i64 b.ty.num, .slice bB b.ty.kids.length bd] 52) (fun b4 => .slice (some ⟨b4, 0, none⟩) 1 1) (some 7) (fun b => by kernel_rfl) hst (fun b4 w1 hst => ?_)
 refine r_sg [(.p, 3)] [] [] [(8, .agg #[.int .i64 4, .int .i64 0, .slice (some ⟨b4, 0, none⟩) 1 1, .int .i64 a.kind, .int .i64 a.num, .slice aA a.kids.length ac])] rc_nil ?_
 refine m_st ((b4, .cells #[.int .i64 b.kind, .int .i64 b.num, .slice bA b.kids.length bc, .int .i64 b.ty.kind, .int .i64 b.ty.num, .slice bB b.ty.kids.length bd] 52) :: (b3, .cells #[.int .i64 4, .int .i64 0, .slice (some ⟨b4, 0, none⟩) 1 1, .int .i64 a.kind, .int .i64 a.num, .slice aA a.kids.length ac] 52) :: (b2, .cells #[.int .i64 b.kind, .int .i64 b.num, .slice bA b.kids.length bc, .int .i64 b.ty.kind, .int .i64 b.ty.num, .slice bB b.ty.kids.length bd] 52) :: (b1, .cells #[.int .i64 a.kind, .int .i64 a.num, .slice aA a.kids.length ac] 24) :: L) 1 [(0, .int .i64 4), (1, .int .i64 0), (2, .slice (some ⟨b4, 0, none⟩) 1 1), (3, .int .i64 a.kind), (4, .int .i64 a.num), (5, .slice aA a.kids.length ac)] [.int .i64 4, .int .i64 0, .slice (some ⟨b4, 0, none⟩) 1 1, .int .i64 a.kind, .int .i64 a.num, .slice aA a.kids.length ac] none hst (fun w1 hst => ?_)
 refine r_nil ?_
 refine W_ret ?_
 refine q_rt [.int .i64 4, .int .i64 0, .slice (some ⟨b4, 0, none⟩) 1 1, .int .i64 a.kind, .int .i64 a.num, .slice aA a.kids.length ac] [(⟨b3, 0, none⟩, .int .i64 4), (⟨b3, 1, none⟩, .int .i64 0), (⟨b3, 2, none⟩, .slice (some ⟨b4, 0, none⟩) 1 1), (⟨b3, 3, none⟩, .int .i64 a.kind), (⟨b3, 4, none⟩, .int .i64 a.num), (⟨b3, 5, none⟩, .slice aA a.kids.length ac)] (.agg #[.int .i64 4, .int .i64 0, .slice (some ⟨b4, 0, none⟩) 1 1, .int .i64 a.kind, .int .i64 a.num, .slice aA a.kids.length ac]) (rc_L 1 rfl rfl (rc_L 1 rfl rfl (rc_L 1 rfl rfl (rc_L 1 rfl rfl (rc_L 1 rfl rfl (rc_L 1 rfl rfl rc_nil)))))) hst ?_
 obtain ⟨G9, hG9, hF9, hst⟩ := St.freeze [_] hst
 have hf := hF9 _ (.head _)
 exact ⟨G9, hG9, IsExpr.mk (e := xt a b) (Nat.le_refl _) (exprs1 hf (hvb.mono hG9)) (hva.mono hG9), hst.drop [_, _, _]⟩

theorem c55 {G : GH} {L : LH} {w : World} {n : Int} (hst : St G L w) : Cal Try.prog 55 #[.int .i64 n] w fun x w' => ∃ G', Le G G' ∧ IsExpr G' x (xn n) ∧ St G' L w' := by
 refine cal_of_W Try.func55 rfl (Nat.le_of_ble_eq_true (by kernel_rfl)) ?_
 refine W_seq ?_
 refine W_rg [(.f, 0)] hst ?_
 refine m_new (.cells #[.int .i64 0, .int .i64 0, .slice none 0 0, .int .i64 0, .int .i64 0, .slice none 0 0] 52) (fun b1 => .pointer (some ⟨b1, 0, none⟩)) (some 2) (fun b => by kernel_rfl) hst (fun b1 w1 hst => ?_)
 refine r_nil ?_
 refine W_seq ?_
 refine W_rg [(.p, 0), (.p, 1), (.f, 2)] hst ?_
 refine r_sg [(.p, 0), (.p, 1)] [] [] [(3, .int .i64 n), (4, .agg #[.int .i64 2, .int .i64 n, .slice none 0 0, .int .i64 0, .int .i64 0, .slice none 0 0])] rc_nil ?_
 refine m_st ((b1, .cells #[.int .i64 2, .int .i64 n, .slice none 0 0, .int .i64 0, .int .i64 0, .slice none 0 0] 52) :: L) 0 [(0, .int .i64 2), (1, .int .i64 n), (2, .slice none 0 0), (3, .int .i64 0), (4, .int .i64 0), (5, .slice none 0 0)] [.int .i64 2, .int .i64 n, .slice none 0 0, .int .i64 0, .int .i64 0, .slice none 0 0] none hst (fun w1 hst => ?_)
 refine r_nil ?_
 refine W_ret ?_
 refine q_rt [.int .i64 2, .int .i64 n, .slice none 0 0, .int .i64 0, .int .i64 0, .slice none 0 0] [(⟨b1, 0, none⟩, .int .i64 2), (⟨b1, 1, none⟩, .int .i64 n), (⟨b1, 2, none⟩, .slice none 0 0), (⟨b1, 3, none⟩, .int .i64 0), (⟨b1, 4, none⟩, .int .i64 0), (⟨b1, 5, none⟩, .slice none 0 0)] (.agg #[.int .i64 2, .int .i64 n, .slice none 0 0, .int .i64 0, .int .i64 0, .slice none 0 0]) (rc_L 0 rfl rfl (rc_L 0 rfl rfl (rc_L 0 rfl rfl (rc_L 0 rfl rfl (rc_L 0 rfl rfl (rc_L 0 rfl rfl rc_nil)))))) hst ?_
 exact ⟨G, Le.refl _, IsExpr.mk (e := xn n) (Nat.le_refl _) IsExprs.nil (IsPoly.mk (t := t0) (Nat.le_refl _) IsPolys.nil), hst.drop [_]⟩

theorem c31 {G : GH} {L : LH} {w : World} {va : Value} {a : E} {vb : Value} {b : T} (hva : IsExpr G va a) (hvb : IsPoly G vb b) (hst : St G L w) : Cal Try.prog 31 #[va, vb] w fun x w' => ∃ G', Le G G' ∧ IsExpr G' x (xh a b) ∧ St G' L w' := by
 obtain ⟨aA, ac, aB, ad, rfl, hac, hak, haty⟩ := id hva.open
 obtain ⟨bA, bc, rfl, hbc, hbk⟩ := id hvb.open
 refine cal_of_W Try.func31 rfl (Nat.le_of_ble_eq_true (by kernel_rfl)) ?_
 refine W_seq ?_
 refine W_rg [(.f, 0), (.f, 1), (.f, 2)] hst ?_
 refine m_new (.cells #[.int .i64 a.kind, .int .i64 a.num, .slice aA a.kids.length ac, .int .i64 a.ty.kind, .int .i64 a.ty.num, .slice aB a.ty.kids.length ad] 52) (fun b1 => .pointer (some ⟨b1, 0, none⟩)) (some 2) (fun b => by kernel_rfl) hst (fun b1 w1 hst => ?_)
 refine m_new (.cells #[.int .i64 b.kind, .int .i64 b.num, .slice bA b.kids.length bc] 24) (fun b2 => .pointer (some ⟨b2, 0, none⟩)) (some 3) (fun b => by kernel_rfl) hst (fun b2 w1 hst => ?_)
 refine m_new (.cells #[.int .i64 0, .int .i64 0, .slice none 0 0, .int .i64 0, .int .i64 0, .slice none 0 0] 52) (fun b3 => .pointer (some ⟨b3, 0, none⟩)) (some 4) (fun b => by kernel_rfl) hst (fun b3 w1 hst => ?_)
 refine r_nil ?_
 refine W_seq ?_
 refine W_rg [(.l, 0), (.l, 1), (.f, 2), (.p, 3), (.f, 4)] hst ?_
 refine r_sg [(.l, 0), (.l, 1)] [[.int .i64 b.kind, .int .i64 b.num, .slice bA b.kids.length bc], [.int .i64 a.kind, .int .i64 a.num, .slice aA a.kids.length ac, .int .i64 a.ty.kind, .int .i64 a.ty.num, .slice aB a.ty.kids.length ad]] [(⟨b2, 0, none⟩, .int .i64 b.kind), (⟨b2, 1, none⟩, .int .i64 b.num), (⟨b2, 2, none⟩, .slice bA b.kids.length bc), (⟨b1, 0, none⟩, .int .i64 a.kind), (⟨b1, 1, none⟩, .int .i64 a.num), (⟨b1, 2, none⟩, .slice aA a.kids.length ac), (⟨b1, 3, none⟩, .int .i64 a.ty.kind), (⟨b1, 4, none⟩, .int .i64 a.ty.num), (⟨b1, 5, none⟩, .slice aB a.ty.kids.length ad)] [(5, .agg #[.int .i64 b.kind, .int .i64 b.num, .slice bA b.kids.length bc]), (6, .agg #[.int .i64 a.kind, .int .i64 a.num, .slice aA a.kids.length ac, .int .i64 a.ty.kind, .int .i64 a.ty.num, .slice aB a.ty.kids.length ad])] (rc_L 1 rfl rfl (rc_L 1 rfl rfl (rc_L 1 rfl rfl (rc_L 2 rfl rfl (rc_L 2 rfl rfl (rc_L 2 rfl rfl (rc_L 2 rfl rfl (rc_L 2 rfl rfl (rc_L 2 rfl rfl rc_nil))))))))) ?_
 refine m_new (.cells #[.int .i64 a.kind, .int .i64 a.num, .slice aA a.kids.length ac, .int .i64 a.ty.kind, .int .i64 a.ty.num, .slice aB a.ty.kids.length ad] 52) (fun b4 => .slice (some ⟨b4, 0, none⟩) 1 1) (some 7) (fun b => by kernel_rfl) hst (fun b4 w1 hst => ?_)
 refine r_sg [(.p, 3)] [] [] [(8, .agg #[.int .i64 6, .int .i64 0, .slice (some ⟨b4, 0, none⟩) 1 1, .int .i64 b.kind, .int .i64 b.num, .slice bA b.kids.length bc])] rc_nil ?_
 refine m_st ((b4, .cells #[.int .i64 a.kind, .int .i64 a.num, .slice aA a.kids.length ac, .int .i64 a.ty.kind, .int .i64 a.ty.num, .slice aB a.ty.kids.length ad] 52) :: (b3, .cells #[.int .i64 6, .int .i64 0, .slice (some ⟨b4, 0, none⟩) 1 1, .int .i64 b.kind, .int .i64 b.num, .slice bA b.kids.length bc] 52) :: (b2, .cells #[.int .i64 b.kind, .int .i64 b.num, .slice bA b.kids.length bc] 24) :: (b1, .cells #[.int .i64 a.kind, .int .i64 a.num, .slice aA a.kids.length ac, .int .i64 a.ty.kind, .int .i64 a.ty.num, .slice aB a.ty.kids.length ad] 52) :: L) 1 [(0, .int .i64 6), (1, .int .i64 0), (2, .slice (some ⟨b4, 0, none⟩) 1 1), (3, .int .i64 b.kind), (4, .int .i64 b.num), (5, .slice bA b.kids.length bc)] [.int .i64 6, .int .i64 0, .slice (some ⟨b4, 0, none⟩) 1 1, .int .i64 b.kind, .int .i64 b.num, .slice bA b.kids.length bc] none hst (fun w1 hst => ?_)
 refine r_nil ?_
 refine W_ret ?_
 refine q_rt [.int .i64 6, .int .i64 0, .slice (some ⟨b4, 0, none⟩) 1 1, .int .i64 b.kind, .int .i64 b.num, .slice bA b.kids.length bc] [(⟨b3, 0, none⟩, .int .i64 6), (⟨b3, 1, none⟩, .int .i64 0), (⟨b3, 2, none⟩, .slice (some ⟨b4, 0, none⟩) 1 1), (⟨b3, 3, none⟩, .int .i64 b.kind), (⟨b3, 4, none⟩, .int .i64 b.num), (⟨b3, 5, none⟩, .slice bA b.kids.length bc)] (.agg #[.int .i64 6, .int .i64 0, .slice (some ⟨b4, 0, none⟩) 1 1, .int .i64 b.kind, .int .i64 b.num, .slice bA b.kids.length bc]) (rc_L 1 rfl rfl (rc_L 1 rfl rfl (rc_L 1 rfl rfl (rc_L 1 rfl rfl (rc_L 1 rfl rfl (rc_L 1 rfl rfl rc_nil)))))) hst ?_
 obtain ⟨G9, hG9, hF9, hst⟩ := St.freeze [_] hst
 have hf := hF9 _ (.head _)
 exact ⟨G9, hG9, IsExpr.mk (e := xh a b) (Nat.le_refl _) (exprs1 hf (hva.mono hG9)) (hvb.mono hG9), hst.drop [_, _, _]⟩

end Go.Proofs.Ytjgnhhgigickaaa.Wk
