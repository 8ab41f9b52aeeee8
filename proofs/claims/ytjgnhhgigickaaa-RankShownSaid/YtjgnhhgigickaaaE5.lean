/- The texts W29 M2 W30 W31 W32 W33 K15 W34 W35 M3, joined by wip/tools/squeeze.py: contracts of the given program's functions and plain laws. Conditions: each theorem's own. -/
import Derived.Test.YtjgnhhgigickaaaE4
set_option linter.all false

/- Walks of the given program's functions: Parse. Printed by tools/w29.py. Conditions: none. -/

namespace Go.Proofs.Ytjgnhhgigickaaa.Wk
open Go Md
set_option maxRecDepth 20000
set_option linter.unusedVariables false
set_option linter.unusedSimpArgs false
attribute [local irreducible] endQ

theorem word_step : ∀ (l s : List UInt8) (at_ : Nat), (word l s at_).1 = true → (word l s at_).2 = at_ + l.length
 | [], _, _, _ => rfl
 | c :: l, s, at_, h => by
  unfold word at h ⊢
  split
  ·rename_i hc; rw [if_pos hc] at h; rw [word_step l s _ h]; simp only [List.length_cons]; omega
  ·rename_i hc; rw [if_neg hc] at h; cases h
theorem typ_sz : ∀ (f : Nat), (∀ {s : List UInt8} {at_ at2 : Nat} {n : Int} {i : Bool} {t : T}, Md.typ f s at_ n i = some ((t, true), at2) → T.sz t + at_ ≤ at2) ∧
  (∀ {s : List UInt8} {at_ at2 : Nat} {n : Int} {i m : Bool} {u t : T}, Md.rest f s at_ n i m u = some ((t, true), at2) → T.sz t + at_ ≤ at2 + T.sz u) ∧
  (∀ {s : List UInt8} {at_ at2 : Nat} {n : Int} {i : Bool} {t : T}, Md.quantifier f s at_ n i = some ((t, true), at2) → T.sz t + at_ ≤ at2)
 | 0 => ⟨(fun h => nomatch h), (fun h => nomatch h), (fun h => nomatch h)⟩
 | f + 1 => by
  have ih := typ_sz f
  refine ⟨fun {s at_ at2 n i t} h => ?_, fun {s at_ at2 n i m u t} h => ?_, fun {s at_ at2 n i t} h => ?_⟩
  ·unfold Md.typ at h
   dsimp only at h
   split at h
   ·have := ih.2.1 h; simp only [T.sz, T.szs] at this; omega
   split at h
   ·obtain ⟨⟨⟨q, qb⟩, a⟩, hq, h⟩ := Option.bind_eq_some_iff.1 h
    dsimp only at h
    split at h
    ·cases h
    split at h
    ·cases h
    rename_i h1 h2
    have hw := word_step _ _ _ (by simpa using h2)
    have := ih.2.1 h
    cases qb
    ·exact absurd (Or.inl rfl) h1
    have := ih.1 hq
    rw [hw] at *; simp only [List.length_cons, List.length_nil] at *; omega
   split at h
   ·exact ih.2.2 h
   split at h
   ·have := ih.2.1 h; simp only [T.sz, T.szs] at this; omega
   ·cases h
  ·unfold Md.rest at h
   split at h
   ·cases h; omega
   split at h
   ·cases h
   rename_i _ h2
   have hw := word_step _ _ _ (by simpa using h2)
   obtain ⟨⟨⟨q, qb⟩, a⟩, hq, h⟩ := Option.bind_eq_some_iff.1 h
   dsimp only at h
   cases h
   have := ih.1 hq
   rw [hw] at this
   simp only [List.length_cons, List.length_nil, T.sz, T.szs] at *; omega
  unfold Md.quantifier at h
  dsimp only at h
  split at h
  ·cases h
  split at h
  ·cases h
  split at h
  ·cases h
  rename_i h1 h2 h3
  have w1 := word_step _ _ _ (by simpa using h1)
  have w2 := word_step _ _ _ (by simpa using h2)
  have w3 := word_step _ _ _ (by simpa using h3)
  obtain ⟨⟨⟨q, qb⟩, a⟩, hq, h⟩ := Option.bind_eq_some_iff.1 h
  dsimp only at h
  cases h
  have := ih.1 hq
  rw [w3, w2, w1] at this
  simp only [List.length_cons, List.length_nil, T.sz, T.szs] at *; omega

theorem c16 {f : Nat} {G : GH} {L : LH} {w : World} {s : List UInt8} {t : T} {a e : Int} (hs : s.length < lim) (hst : St G L w) (h : Md.Parse f s = some ((t, a), e)) :
  Cal Try.prog 16 #[.string (bs s)] w fun x w' => ∃ G' A c, x = .tuple #[.agg #[.int .i64 t.kind, .int .i64 t.num, .slice A t.kids.length c], .int .i64 a, .int .i64 e] ∧ Le G G' ∧ IsPoly G' (.agg #[.int .i64 t.kind, .int .i64 t.num, .slice A t.kids.length c]) t ∧ St G' L w' := by
 have hlim : lim = 1099511627776 := rfl
 unfold Md.Parse at h
 refine cal_of_W Try.func16 rfl (Nat.le_of_ble_eq_true (by kernel_rfl)) ?_
 refine W_sr [(.f, 0), (.p, 1), (.p, 2)] hst ?_
 refine m_new (.cells #[iN 0, iN 0, .slice none 0 0] 24) (fun b1 => pN b1 0) (some 2) (fun b => by kernel_rfl) hst (fun b1 w1 hst => ?_)
 refine r_z [(3, iN 0), (4, iN 0)] ?_
 refine W_seq ?_
 refine W_sr [(.p, 0), (.p, 1), (.p, 2)] hst ?_
 refine r_z [(9, .string (bs s)), (10, nN s.length), (11, .bool (decide ((((s.length : Nat) : Int)) > 65536)))] ?_
 refine W_cd (b := decide ((((s.length : Nat) : Int)) > 65536)) (fun hc2 => ?_) (fun hc2 => ?_)
 ·skip
  have hln : ((s.length : Nat) : Int) > 65536 := by simpa using hc2
  rw [if_pos hln] at h; simp only [Option.some.injEq, Prod.mk.injEq] at h; obtain ⟨⟨rfl, rfl⟩, rfl⟩ := h
  refine W_sr [(.p, 0), (.f, 1), (.p, 2), (.p, 3)] hst ?_
  refine r_y [(.p, 0)] [(12, .agg #[iN 0, iN 0, .slice none 0 0])] ?_
  refine s_0 [(0, iN 0), (1, iN 0), (2, .slice none 0 0)] [iN 0, iN 0, .slice none 0 0] none hst (fun w1 hst => ?_)
  refine r_z [(3, iN 0), (4, iN 11)] ?_
  refine W_ret ?_
  refine q_rt [iN 0, iN 0, .slice none 0 0] [(⟨b1, 0, none⟩, iN 0), (⟨b1, 1, none⟩, iN 0), (⟨b1, 2, none⟩, .slice none 0 0)] (.tuple #[.agg #[iN 0, iN 0, .slice none 0 0], iN 0, iN 11]) (rc_L 0 rfl rfl (rc_L 0 rfl rfl (rc_L 0 rfl rfl rc_nil))) hst ?_
  exact ⟨G, _, _, rfl, Le.refl _, (IsPoly.mk (t := t0) (Nat.le_refl _) IsPolys.nil), hst.drop [_]⟩
 have hln : ¬ ((s.length : Nat) : Int) > 65536 := by simpa using hc2
 rw [if_neg hln] at h
 refine W_skip ?_
 refine W_sr [(.p, 0), (.p, 1), (.f, 2), (.p, 3)] hst ?_
 refine r_y [(.p, 0), (.p, 1)] [(13, .string (bs s)), (14, .agg #[.string (bs s), iN 0])] ?_
 refine m_new (.cells #[.string (bs s), iN 0] 87) (fun b3 => pN b3 0) (some 15) (fun b => by kernel_rfl) hst (fun b3 w1 hst => ?_)
 refine r_z [(5, pN b3 0)] ?_
 refine W_sr [(.p, 0), (.f, 1), (.p, 2), (.p, 3), (.p, 4), (.f, 5), (.f, 6), (.p, 7)] hst ?_
 refine r_y [(.p, 0)] [(17, pN b3 0)] ?_
 obtain ⟨⟨⟨q, qb⟩, ar⟩, hq, h⟩ := Option.bind_eq_some_iff.1 h; dsimp only at h
 refine m_cl #[pN b3 0, iN 0, .bool false] (some 18) (c59 f (Nat.zero_le _) hs (by decide) (by decide) hst hq) ?_
 rintro _ w1 ⟨G1, qA, qc, rfl, hG1, hqp, hatq, hqk, hst⟩
 refine nx hst ?_
 refine r_y [(.p, 2), (.p, 3), (.p, 4)] [(16, .tuple #[(aT q qA qc), .bool qb]), (19, (aT q qA qc)), (20, .bool qb)] ?_
 refine m_new (.cells #[iN 0, iN 0, .slice none 0 0] 24) (fun b4 => pN b4 0) (some 6) (fun b => by kernel_rfl) hst (fun b4 w1 hst => ?_)
 refine s_0 [(0, iN q.kind), (1, iN q.num), (2, .slice qA q.kids.length qc)] [iN q.kind, iN q.num, .slice qA q.kids.length qc] none hst (fun w1 hst => ?_)
 refine r_z [(7, .bool qb)] ?_
 cases qb
 ·skip
  rw [if_pos rfl] at h; simp only [Option.some.injEq, Prod.mk.injEq] at h; obtain ⟨⟨rfl, rfl⟩, rfl⟩ := h
  refine W_seq ?_
  refine W_sr [(.p, 0), (.p, 1)] hst ?_
  refine r_z [(21, .bool false), (22, .bool true)] ?_
  refine W_cT ?_
  refine W_seq ?_
  refine W_rgd [(.p, 0), (.p, 1), (.p, 2), (.p, 3), (.l, 4), (.e, 5), (.p, 6), (.p, 7)] hst (fun w1 hst => ?_)
  refine r_s [1] [(.p, 0), (.p, 1), (.p, 2), (.p, 3), (.l, 4)] [(23, .agg #[iN 0, iN 0, .slice none 0 0]), (24, pN b3 0), (25, pN b3 0), (26, pN b3 1), (27, nN ar)] (rc_l 1 1 rfl rfl rc_nil) ?_
  refine m_storeE (L' := (b4, cT q qA qc) :: (b3, .cells #[.string (bs s), nN ar] 87) :: (b1, .cells #[iN 0, iN 0, .slice none 0 0] 24) :: L) 2 [(0, iN 0), (1, iN 0), (2, .slice none 0 0)] [iN 0, iN 0, .slice none 0 0] none (by kernel_rfl) hst rfl (by kernel_rfl) rfl rfl (fun _ h => h.ss' (Le.refl _) (fun _ hp => hp)) (fun w1 hst => ?_)
  refine r_z [(3, nN ar), (4, iN 4)] ?_
  refine W_ret ?_
  refine q_rt [iN 0, iN 0, .slice none 0 0] [(⟨b1, 0, none⟩, iN 0), (⟨b1, 1, none⟩, iN 0), (⟨b1, 2, none⟩, .slice none 0 0)] (.tuple #[.agg #[iN 0, iN 0, .slice none 0 0], nN ar, iN 4]) (rc_L 2 rfl rfl (rc_L 2 rfl rfl (rc_L 2 rfl rfl rc_nil))) hst ?_
  exact ⟨G1, _, _, rfl, hG1, (IsPoly.mk (t := t0) (Nat.le_refl _) IsPolys.nil), hst.drop [_, _, _]⟩
 rw [if_neg (by decide)] at h
 refine W_seq ?_
 refine W_sr [(.p, 0), (.p, 1)] hst ?_
 refine r_z [(21, .bool true), (22, .bool false)] ?_
 refine W_cF ?_
 refine W_skip ?_
 refine W_seq ?_
 refine W_sr [(.l, 0), (.f, 1), (.f, 2), (.p, 3)] hst ?_
 refine r_s [3] [(.l, 0)] [(28, (aT q qA qc))] (rc_l 0 0 rfl rfl (rc_l 0 1 rfl rfl (rc_l 0 2 rfl rfl rc_nil))) ?_
 refine m_new (cT q qA qc) (fun b5 => .slice (some ⟨b5, 0, none⟩) 1 1) (some 29) (fun b => by kernel_rfl) hst (fun b5 w1 hst => ?_)
 obtain ⟨G2, hG2, hF6, hst⟩ := St.freeze [_] hst
 have hfs := hF6 _ (.head _)
 have hcl56 := c56 (ts := [q]) (c := 1) (polys_of (cs := [.int .i64 q.kind, .int .i64 q.num, .slice qA q.kids.length qc]) ⟨(hqp).mono hG2, trivial⟩ hfs) (Nat.le_refl _) (by have := (typ_sz f).1 hq; rw [T.sz1]; omega) hst
 refine m_cl #[.slice (some ⟨b5, 0, none⟩) 1 1] (some 30) (hcl56) ?_
 rintro _ w1 ⟨G2', hG2', rfl, hst⟩
 replace hfs := hG2' _ _ hfs
 refine nx hst ?_
 refine r_z [(8, iN (closed [q]))] ?_
 refine W_sr [(.p, 0), (.p, 1)] hst ?_
 refine r_z [(31, iN (closed [q])), (32, .bool ((closed [q]) != 0))] ?_
 refine W_cd (b := (closed [q]) != 0) (fun hc7 => ?_) (fun hc7 => ?_)
 ·skip
  have hcl : closed [q] ≠ 0 := by simpa using hc7
  rw [if_pos hcl] at h; simp only [Option.some.injEq, Prod.mk.injEq] at h; obtain ⟨⟨rfl, rfl⟩, rfl⟩ := h
  refine W_sr [(.p, 0), (.p, 1), (.f, 2), (.p, 3), (.p, 4)] hst ?_
  refine r_y [(.p, 0), (.p, 1)] [(33, .agg #[iN 0, iN 0, .slice none 0 0]), (34, iN (closed [q]))] ?_
  refine s_2 [(0, iN 0), (1, iN 0), (2, .slice none 0 0)] [iN 0, iN 0, .slice none 0 0] none hst (fun w1 hst => ?_)
  refine r_z [(3, iN 0), (4, iN (closed [q]))] ?_
  refine W_ret ?_
  refine q_rt [iN 0, iN 0, .slice none 0 0] [(⟨b1, 0, none⟩, iN 0), (⟨b1, 1, none⟩, iN 0), (⟨b1, 2, none⟩, .slice none 0 0)] (.tuple #[.agg #[iN 0, iN 0, .slice none 0 0], iN 0, iN (closed [q])]) (rc_L 2 rfl rfl (rc_L 2 rfl rfl (rc_L 2 rfl rfl rc_nil))) hst ?_
  exact ⟨G2', _, _, rfl, (hG1.trans hG2).trans hG2', (IsPoly.mk (t := t0) (Nat.le_refl _) IsPolys.nil), hst.drop [_, _, _]⟩
 have hcl : ¬ closed [q] ≠ 0 := by simpa using hc7
 rw [if_neg hcl] at h; simp only [Option.some.injEq, Prod.mk.injEq] at h; obtain ⟨⟨rfl, rfl⟩, rfl⟩ := h
 refine W_skip ?_
 refine W_sr [(.l, 0), (.f, 1), (.p, 2), (.p, 3)] hst ?_
 refine r_s [3] [(.l, 0)] [(35, (aT q qA qc))] (rc_l 0 0 rfl rfl (rc_l 0 1 rfl rfl (rc_l 0 2 rfl rfl rc_nil))) ?_
 refine s_2 [(0, iN q.kind), (1, iN q.num), (2, .slice qA q.kids.length qc)] [iN q.kind, iN q.num, .slice qA q.kids.length qc] none hst (fun w1 hst => ?_)
 refine r_z [(3, iN 0), (4, iN 0)] ?_
 refine W_ret ?_
 refine q_rt [iN q.kind, iN q.num, .slice qA q.kids.length qc] [(⟨b1, 0, none⟩, iN q.kind), (⟨b1, 1, none⟩, iN q.num), (⟨b1, 2, none⟩, .slice qA q.kids.length qc)] (.tuple #[.agg #[iN q.kind, iN q.num, .slice qA q.kids.length qc], iN 0, iN 0]) (rc_L 2 rfl rfl (rc_L 2 rfl rfl (rc_L 2 rfl rfl rc_nil))) hst ?_
 exact ⟨G2', _, _, rfl, (hG1.trans hG2).trans hG2', ((hqp.mono hG2).mono hG2'), hst.drop [_, _, _]⟩

end Go.Proofs.Ytjgnhhgigickaaa.Wk
/- What the reference's functions on types and texts compute, and the law's counting, as functions on trees. Conditions: none. -/

namespace Go.Proofs.Ytjgnhhgigickaaa.Md
open Go Wk

/-! ### the law's counting -/
mutual
def cnt : T → Int → Int → Int
  | .mk _ _ ks, m, d => if d > 60 then 1000 else cnts ks (m + 1) (d + 1)
def cnts : List T → Int → Int → Int
  | [], m, _ => m
  | t :: ts, m, d => if m ≤ 40 then cnts ts (cnt t m d) d else m
end
mutual
def nds : T → Nat
  | .mk _ _ ks => ndss ks + 1
def ndss : List T → Nat
  | [] => 0
  | t :: ts => nds t + ndss ts
end

/-! ### right types, as the reference looks at them -/
def wantsR (k : Int) : Int := if k = 4 then 1 else if k = 3 then 2 else 0
mutual
def rR : T → Int → Int → Int × Int
  | .mk k num ks, b, wi =>
    if b ≥ 12 then (b, 2)
    else if k < 1 ∨ k > 4 ∨ num < 0 ∨ (num > 0 ∧ k ≠ 1) then (b, 3)
    else if (ks.length : Int) ≠ wantsR k then (b, 4)
    else if k = 1 ∧ num ≥ wi then (b, 1)
    else rRs ks (w64 (b + 1)) (if k = 4 then w64 (wi + 1) else wi)
def rRs : List T → Int → Int → Int × Int
  | [], b, _ => (b, 0)
  | t :: ts, b, wi => if (rR t b wi).2 ≠ 0 then rR t b wi else rRs ts (rR t b wi).1 wi
end
def rRight (t : T) (n : Int) : Int := if n < 0 ∨ n > 26 then 3 else (rR t 0 n).2

/-! ### texts -/
def rletter (n : Int) : List UInt8 := [byt (w64 (97 + n))]
def rprinted : Nat → T → Int → Option (List UInt8)
  | 0, _, _ => none
  | f + 1, t, n =>
    if t.kind = 1 then some (rletter (w64 (w64 (n - 1) - t.num)))
    else if t.kind = 4 then
      match t.kids with
      | a :: _ => (rprinted f a (w64 (n + 1))).bind fun s => cap ((([97, 108, 108, 32] ++ rletter n) ++ [46, 32]) ++ s)
      | [] => none
    else if t.kind = 3 then
      match t.kids with
      | a :: b :: _ => (rprinted f a n).bind fun s => (rprinted f b n).bind fun r => cap (((if a.kind = 3 ∨ a.kind = 4 then ([40] ++ s) ++ [41] else s) ++ [32, 45, 62, 32]) ++ r)
      | _ => none
    else some [78]
def rPrint (f : Nat) (t : T) : Option (List UInt8 × Int) := if rRight t 0 ≠ 0 then some ([], rRight t 0) else (rprinted f t 0).bind fun s => some (s, 0)

mutual
/-- a type's text, as the reference reads it: the tree, whether something is wrong, and where -/
def rtyped : Nat → List UInt8 → Nat → Int → Option ((T × Bool) × Nat)
  | 0, _, _, _ => none
  | f + 1, s, at_, n =>
    if s[at_]? = some 97 ∧ n ≠ 26 ∧ (n = 0 ∨ s[at_ + 1]? = some 108) then rall f s at_ n
    else (rsimple f s at_ n).bind fun q =>
      if q.1.2 = true ∨ (s[at_]? ≠ some 40 ∧ s[q.2]? ≠ some 32) then some q
      else if (word [32, 45, 62, 32] s q.2).1 = false then some ((q.1.1, true), (word [32, 45, 62, 32] s q.2).2)
      else (rtyped f s (word [32, 45, 62, 32] s q.2).2 n).bind fun p => some ((.mk 3 0 [q.1.1, p.1.1], p.1.2), p.2)
def rall : Nat → List UInt8 → Nat → Int → Option ((T × Bool) × Nat)
  | 0, _, _, _ => none
  | f + 1, s, at_, n =>
    if (word [97, 108, 108, 32] s at_).1 = false then some ((t0, true), (word [97, 108, 108, 32] s at_).2)
    else if (word (rletter n ++ [46, 32]) s (word [97, 108, 108, 32] s at_).2).1 = false then some ((t0, true), (word (rletter n ++ [46, 32]) s (word [97, 108, 108, 32] s at_).2).2)
    else (rtyped f s (word (rletter n ++ [46, 32]) s (word [97, 108, 108, 32] s at_).2).2 (w64 (n + 1))).bind fun q => some ((.mk 4 0 [q.1.1], q.1.2), q.2)
def rsimple : Nat → List UInt8 → Nat → Int → Option ((T × Bool) × Nat)
  | 0, _, _, _ => none
  | f + 1, s, at_, n =>
    if s[at_]? = some 78 then some ((.mk 2 0 [], false), at_ + 1)
    else if s[at_]? = some 40 then
      (rtyped f s (at_ + 1) n).bind fun q =>
        if q.1.2 = false ∧ q.1.1.kind ≠ 3 ∧ q.1.1.kind ≠ 4 then some ((q.1.1, true), q.2)
        else if q.1.2 = true then some ((q.1.1, true), q.2)
        else some ((q.1.1, !(word [41] s q.2).1), (word [41] s q.2).2)
    else match s[at_]? with
      | none => some ((t0, true), at_)
      | some c => if c ≥ 97 ∧ ((c - 97).toNat : Int) < n then some ((.mk 1 (w64 (w64 (n - 1) - ((c - 97).toNat : Int))) [], false), at_ + 1) else some ((t0, true), at_)
end
def rParse (f : Nat) (s : List UInt8) : Option ((T × Int) × Int) :=
  if (s.length : Int) > 65536 then some ((t0, 0), 11)
  else (rtyped f s 0 0).bind fun q =>
    if q.1.2 = true ∨ q.2 < s.length then some ((t0, (q.2 : Int)), 4)
    else if rRight q.1.1 0 ≠ 0 then some ((t0, 0), rRight q.1.1 0)
    else some ((q.1.1, 0), 0)
end Go.Proofs.Ytjgnhhgigickaaa.Md
/- Walks of the given program's functions: Equal, Own, counted, great. Printed by tools/w30.py. Conditions: none. -/

namespace Go.Proofs.Ytjgnhhgigickaaa.Wk
open Go Md
set_option maxRecDepth 20000
set_option linter.unusedVariables false
set_option linter.unusedSimpArgs false
attribute [local irreducible] endQ

theorem same_eq (a b : T) : same a b = (a.kind == b.kind && a.num == b.num && sames a.kids b.kids) := by cases a; cases b; rfl
theorem sames_len : ∀ {xs ys : List T}, sames xs ys = true → xs.length = ys.length
 | [], [], _ => rfl
 | [], _ :: _, h => by cases h
 | _ :: _, [], h => by cases h
 | a :: xs, b :: ys, h => by
  unfold sames at h
  rw [Bool.and_eq_true] at h
  simp [sames_len h.2]
theorem same_kind {a b : T} (h : (a.kind != b.kind) = true) : same a b = false := by
 rw [same_eq]; have : (a.kind == b.kind) = false := by simpa using h
 rw [this]; rfl
theorem same_num {a b : T} (h : (a.num != b.num) = true) : same a b = false := by
 rw [same_eq]; have : (a.num == b.num) = false := by simpa using h
 rw [this]; simp
theorem same_len {a b : T} (h : (((a.kids.length : Nat) : Int) != ((b.kids.length : Nat) : Int)) = true) : same a b = false := by
 rw [same_eq]
 have : sames a.kids b.kids = false := by
  cases hx : sames a.kids b.kids
  ·rfl
  ·have := sames_len hx; rw [this] at h; simp at h
 rw [this]; simp
theorem same_kids {a b : T} (h1 : (a.kind != b.kind) = false) (h2 : (a.num != b.num) = false) (h3 : (((a.kids.length : Nat) : Int) != ((b.kids.length : Nat) : Int)) = false) : same a b = sames a.kids b.kids ∧ a.kids.length = b.kids.length := by
 rw [same_eq]
 have e1 : (a.kind == b.kind) = true := by simpa using h1
 have e2 : (a.num == b.num) = true := by simpa using h2
 have e3 : ((a.kids.length : Nat) : Int) = ((b.kids.length : Nat) : Int) := by simpa using h3
 rw [e1, e2]; exact ⟨rfl, by omega⟩
mutual
theorem same_refl : ∀ (a : T), same a a = true
 | .mk k n ks => by unfold same; simp [sames_refl ks]
theorem sames_refl : ∀ (xs : List T), sames xs xs = true
 | [] => rfl
 | a :: xs => by unfold sames; simp [same_refl a, sames_refl xs]
end

theorem c18 : ∀ (f : Nat) {G : GH} {L : LH} {w : World} {va vb : Value} {a b : T}, T.sz a < f → T.sz a < lim → IsPoly G va a → IsPoly G vb b → St G L w → Cal Try.prog 18 #[va, vb] w fun x w' => x = .bool (same a b) ∧ St G L w' := by
 intro f
 induction f with
 | zero => intro G L w va vb a b h; omega
 | succ f ih =>
 intro G L w va vb a b hf hz hva hvb hst
 have hlim : lim = 1099511627776 := rfl
 have hln := T.len_le a
 obtain ⟨aA, ac, rfl, hac, hak⟩ := id hva.open
 obtain ⟨bA, bc, rfl, hbc, hbk⟩ := id hvb.open
 refine cal_of_W Try.func18 rfl (Nat.le_of_ble_eq_true (by kernel_rfl)) ?_
 refine W_sr [(.f, 0), (.f, 1), (.p, 2)] hst ?_
 refine m_new (cT a aA ac) (fun b1 => pN b1 0) (some 2) (fun b => by kernel_rfl) hst (fun b1 w1 hst => ?_)
 refine m_new (cT b bA bc) (fun b2 => pN b2 0) (some 3) (fun b => by kernel_rfl) hst (fun b2 w1 hst => ?_)
 refine r_z [(4, .bool false)] ?_
 refine W_seq ?_
 refine W_sr [(.p, 0), (.l, 1), (.p, 2), (.l, 3), (.p, 4), (.p, 5), (.p, 6), (.l, 7), (.p, 8), (.l, 9), (.p, 10), (.p, 11), (.p, 12), (.p, 13), (.l, 14), (.p, 15), (.p, 16), (.l, 17), (.p, 18), (.p, 19), (.p, 20)] hst ?_
 refine r_s [1, 1] [(.p, 0), (.l, 1), (.p, 2), (.l, 3), (.p, 4), (.p, 5)] [(6, pN b1 0), (7, iN a.kind), (8, pN b2 0), (9, iN b.kind), (10, .bool (a.kind != b.kind)), (11, .bool (a.kind != b.kind))] (rc_l 1 0 rfl rfl (rc_l 0 0 rfl rfl rc_nil)) ?_
 rcases Bool.eq_false_or_eq_true (a.kind != b.kind) with hc3 | hc3
 ·rw [hc3]
  have hr := same_kind hc3
  refine r_z [(12, undef), (13, undef), (14, undef), (15, undef), (16, undef), (17, .bool true), (18, .bool true), (19, undef), (20, undef), (21, undef), (22, undef), (23, undef), (24, undef), (25, undef), (26, .bool true)] ?_
  refine W_cT ?_
  refine W_sr [(.p, 0)] hst ?_
  refine r_z [(4, .bool false)] ?_
  refine W_ret ?_
  refine q_rt [] [] (.bool false) rc_nil hst ?_
  exact ⟨by rw [hr], hst.drop [_, _]⟩
 rw [hc3]
 have hnkind := hc3
 refine r_s [1, 1] [(.p, 6), (.l, 7), (.p, 8), (.l, 9), (.p, 10), (.p, 11), (.p, 12)] [(12, pN b1 1), (13, iN a.num), (14, pN b2 1), (15, iN b.num), (16, .bool (a.num != b.num)), (17, .bool (a.num != b.num)), (18, .bool (a.num != b.num))] (rc_l 1 1 rfl rfl (rc_l 0 1 rfl rfl rc_nil)) ?_
 rcases Bool.eq_false_or_eq_true (a.num != b.num) with hc4 | hc4
 ·rw [hc4]
  have hr := same_num hc4
  refine r_z [(19, undef), (20, undef), (21, undef), (22, undef), (23, undef), (24, undef), (25, undef), (26, .bool true)] ?_
  refine W_cT ?_
  refine W_sr [(.p, 0)] hst ?_
  refine r_z [(4, .bool false)] ?_
  refine W_ret ?_
  refine q_rt [] [] (.bool false) rc_nil hst ?_
  exact ⟨by rw [hr], hst.drop [_, _]⟩
 rw [hc4]
 have hnnum := hc4
 refine r_x [1, 1] [(19, pN b1 2), (20, .slice aA a.kids.length ac), (21, nN a.kids.length), (22, pN b2 2), (23, .slice bA b.kids.length bc), (24, nN b.kids.length), (25, .bool ((((a.kids.length : Nat) : Int)) != (((b.kids.length : Nat) : Int)))), (26, .bool ((((a.kids.length : Nat) : Int)) != (((b.kids.length : Nat) : Int))))] (rc_l 1 2 rfl rfl (rc_l 0 2 rfl rfl rc_nil)) ?_
 refine W_cd (b := (((a.kids.length : Nat) : Int)) != (((b.kids.length : Nat) : Int))) (fun hc5 => ?_) (fun hc5 => ?_)
 ·skip
  have hr := same_len hc5
  refine W_sr [(.p, 0)] hst ?_
  refine r_z [(4, .bool false)] ?_
  refine W_ret ?_
  refine q_rt [] [] (.bool false) rc_nil hst ?_
  exact ⟨by rw [hr], hst.drop [_, _]⟩
 obtain ⟨hsk, hsl⟩ := same_kids hnkind hnnum hc5
 refine W_skip ?_
 refine W_seq ?_
 refine W_sr [(.p, 0), (.l, 1), (.p, 2), (.p, 3)] hst ?_
 refine r_x [1] [(27, pN b1 2), (28, .slice aA a.kids.length ac), (29, nN a.kids.length), (30, iN 0)] (rc_l 1 2 rfl rfl rc_nil) ?_
 refine W_block ?_
 refine W_loop (fun m ρ D w => ∃ (k : Nat), EqS ρ [(2, pN b1 0), (3, pN b2 0), (29, iN (((a.kids.length : Nat) : Int))), (30, iN (((k : Nat) : Int)))] ∧ D = [] ∧ St G ((b2, cT b bA bc) :: (b1, cT a aA ac) :: L) w ∧ (k ≤ a.kids.length) ∧ (same a b = sames (a.kids.drop k) (b.kids.drop k)) ∧ a.kids.length - k = m) (a.kids.length - 0) ⟨0, ⟨by kernel_rfl, by kernel_rfl, by kernel_rfl, by kernel_rfl, trivial⟩, rfl, hst, Nat.zero_le _, hsk, rfl⟩ ?_
 clear hst; rintro m6 ρ D w1 ⟨k, hE7, rfl, hst, hkk, hsm, hm8⟩
 refine W_env hE7 ?_
 refine W_sr [(.p, 0)] hst ?_
 refine r_z [(31, .bool (decide ((((k : Nat) : Int)) < (((a.kids.length : Nat) : Int)))))] ?_
 refine W_seq ?_
 refine W_cd (b := decide ((((k : Nat) : Int)) < (((a.kids.length : Nat) : Int)))) (fun hc9 => ?_) (fun hc9 => ?_)
 ·skip
  have hlt : k < a.kids.length := by have := of_decide_eq_true hc9; omega
  have hlt2 : k < b.kids.length := by omega
  obtain ⟨q, hq⟩ := get_of_lt hlt; obtain ⟨p, hp⟩ := get_of_lt hlt2
  have hqz := T.sz_kid hq
  have hstk := hst
  obtain ⟨eb1, eo1, qA, qc, rfl, hq0, hq1, hq2, hqp⟩ := (hak).elem hq
  have hst := hstk; clear hstk
  have hstk := hst
  obtain ⟨eb2, eo2, pA, pc, rfl, hp0, hp1, hp2, hpp⟩ := (hbk).elem hp
  have hst := hstk; clear hstk
  rw [drop_cons hq, drop_cons hp] at hsm; unfold sames at hsm
  refine W_skip ?_
  refine W_seq ?_
  refine W_block ?_
  refine W_sr [(.p, 0), (.p, 1)] hst ?_
  refine r_z [(32, nN k), (5, nN k)] ?_
  refine W_seq ?_
  refine W_rgd [(.p, 0), (.l, 1), (.p, 2), (.p, 3), (.l, 4), (.p, 5), (.l, 6), (.p, 7), (.p, 8), (.l, 9), (.f, 10), (.p, 11)] hst (fun w1 hst => ?_)
  refine r_s [1] [(.p, 0), (.l, 1), (.p, 2)] [(33, pN b1 2), (34, .slice (some ⟨eb1, eo1, none⟩) a.kids.length ac), (35, nN k)] (rc_l 1 2 rfl rfl rc_nil) ?_
  refine m_idx (sz := 3) (b := eb1) (off := eo1) (n := a.kids.length) (c := ac) (k := k) (some 36) (show opAt _ _ _ = some (.indexAddr 22 (.tmp 34) (.tmp 35), _) by kernel_rfl) (by kernel_rfl) (by kernel_rfl) Try.underlying22 sz24 hlt ?_
  refine r_s [3, 1] [(.l, 4), (.p, 5), (.l, 6), (.p, 7)] [(37, (aT q qA qc)), (38, pN b2 2), (39, .slice (some ⟨eb2, eo2, none⟩) b.kids.length bc), (40, nN k)] (rc_C hq0 (rc_C hq1 (rc_C hq2 (rc_l 0 2 rfl rfl rc_nil)))) ?_
  refine m_idx (sz := 3) (b := eb2) (off := eo2) (n := b.kids.length) (c := bc) (k := k) (some 41) (show opAt _ _ _ = some (.indexAddr 22 (.tmp 39) (.tmp 40), _) by kernel_rfl) (by kernel_rfl) (by kernel_rfl) Try.underlying22 sz24 hlt2 ?_
  refine r_s [3] [(.l, 9)] [(42, (aT p pA pc))] (rc_C hp0 (rc_C hp1 (rc_C hp2 rc_nil))) ?_
  refine m_cl #[(aT q qA qc), (aT p pA pc)] (some 43) (ih (a := q) (b := p) (by omega) (by omega) hqp hpp hst) ?_
  rintro _ w1 ⟨rfl, hst⟩
  refine nx hst ?_
  refine r_z [(44, .bool (!(same q p)))] ?_
  refine W_cd (b := !(same q p)) (fun hc10 => ?_) (fun hc10 => ?_)
  ·skip
   have hr : same a b = false := by have := hc10; rw [Bool.not_eq_true'] at this; rw [hsm, this]; rfl
   refine W_sr [(.p, 0)] hst ?_
   refine r_z [(4, .bool false)] ?_
   refine W_ret ?_
   refine q_rt [] [] (.bool false) rc_nil hst ?_
   exact ⟨by rw [hr], hst.drop [_, _]⟩
  have hqp1 : same q p = true := by have := hc10; rw [Bool.not_eq_false'] at this; exact this
  refine W_skip ?_
  refine W_rg [(.p, 0), (.p, 1)] hst ?_
  refine r_z [(45, iN (IntKind.wrap .i64 ((((k : Nat) : Int)) + 1))), (30, iN (IntKind.wrap .i64 ((((k : Nat) : Int)) + 1)))] ?_
  exact ⟨_, (by omega), k + 1, ⟨by kernel_rfl, by kernel_rfl, by kernel_rfl, (by rw [← wrap_succ (k := k) (by omega)]; kernel_rfl), trivial⟩, rfl, hst, hlt, (by rw [hsm, hqp1]; rfl), rfl⟩
 rw [List.drop_of_length_le (by have := of_decide_eq_false hc9; omega), List.drop_of_length_le (by have := of_decide_eq_false hc9; omega)] at hsm
 have hr : same a b = true := hsm
 refine W_exit ?_
 refine W_sr [(.p, 0)] hst ?_
 refine r_z [(4, .bool true)] ?_
 refine W_ret ?_
 refine q_rt [] [] (.bool true) rc_nil hst ?_
 exact ⟨by rw [hr], hst.drop [_, _]⟩

end Go.Proofs.Ytjgnhhgigickaaa.Wk
/- Walks of the given program's functions: the reference: right, Right, letter, printed, Print. Printed by tools/w31.py. Conditions: none. -/

namespace Go.Proofs.Ytjgnhhgigickaaa.Wk
open Go Md
set_option maxRecDepth 20000
set_option linter.unusedVariables false
set_option linter.unusedSimpArgs false
attribute [local irreducible] endQ
end Go.Proofs.Ytjgnhhgigickaaa.Wk
/- Walks of the given program's functions: the reference reads a text. Printed by tools/w32.py. Conditions: none. -/

namespace Go.Proofs.Ytjgnhhgigickaaa.Wk
open Go Md
set_option maxRecDepth 20000
set_option linter.unusedVariables false
set_option linter.unusedSimpArgs false
attribute [local irreducible] endQ
def mst (l s : List UInt8) (a : Nat) (b : Bool) : Nat × Bool := if b then (a, true) else ((word l s a).2, !(word l s a).1)
def RT (f : Nat) : Prop := ∀ {G : GH} {L : LH} {w : World} {pb at_ at2 : Nat} {s : List UInt8} {n : Int} {b0 : Bool} {t : T}, at_ ≤ s.length → s.length < lim → St G ((pb, .cells #[.string (bs s), .int .i64 ((at_ : Nat) : Int), .bool false] 91) :: L) w → rtyped f s at_ n = some ((t, b0), at2) →
 Cal Try.prog 60 #[.pointer (some ⟨pb, 0, none⟩), .int .i64 n] w fun x w' => ∃ G' A c, x = .agg #[.int .i64 t.kind, .int .i64 t.num, .slice A t.kids.length c] ∧ Le G G' ∧ IsPoly G' (.agg #[.int .i64 t.kind, .int .i64 t.num, .slice A t.kids.length c]) t ∧ at2 ≤ s.length ∧ St G' ((pb, .cells #[.string (bs s), .int .i64 ((at2 : Nat) : Int), .bool b0] 91) :: L) w'

end Go.Proofs.Ytjgnhhgigickaaa.Wk
/- Walks of the given program's functions: the reference: Parse. Printed by tools/w33.py. Conditions: none. -/

namespace Go.Proofs.Ytjgnhhgigickaaa.Wk
open Go Md
set_option maxRecDepth 20000
set_option linter.unusedVariables false
set_option linter.unusedSimpArgs false
attribute [local irreducible] endQ
end Go.Proofs.Ytjgnhhgigickaaa.Wk
/- The chapter's examples, reckoned in the model. Conditions: none. -/

namespace Go.Proofs.Ytjgnhhgigickaaa.Wk
open Go Md
@[reducible] def nt : T := .mk 2 0 []
@[reducible] def vr (n : Int) : T := .mk 1 n []
@[reducible] def fn (a b : T) : T := .mk 3 0 [a, b]
@[reducible] def al (a : T) : T := .mk 4 0 [a]
@[reducible] def idt : T := al (fn (vr 0) (vr 0))
@[reducible] def xv (n : Int) : E := .mk 1 n [] t0
@[reducible] def xn (n : Int) : E := .mk 2 n [] t0
@[reducible] def xl (x : E) : E := .mk 3 0 [x] t0
@[reducible] def xa (x y : E) : E := .mk 5 0 [x, y] t0
@[reducible] def xt (t : T) (x : E) : E := .mk 4 0 [x] t
@[reducible] def xh (x : E) (t : T) : E := .mk 6 0 [x] t

theorem aw1 : Md.Witness 30 idt (fn nt nt) = some ([nt], 0) := by kernel_rfl
theorem aw2 : Md.Witness 30 idt (al (fn (fn (vr 0) (vr 0)) (fn (vr 0) (vr 0)))) = some ([fn (vr 0) (vr 0)], 0) := by kernel_rfl
theorem aw3 : Md.Uses 30 (fn nt nt) idt = some (false, 0) := by kernel_rfl
theorem aw4 : Md.Rank 30 (fn idt nt) = some (2, 0) := by kernel_rfl
theorem aw5 : Md.Witness 30 (fn nt idt) (al (fn nt (fn (vr 0) (vr 0)))) = some ([vr 0], 0) := by kernel_rfl
theorem aw6 : Md.Witness 30 (al (fn nt (fn (vr 0) (vr 0)))) (fn nt idt) = some ([], 6) := by kernel_rfl
theorem aw7 : Md.Witness 30 (al nt) nt = some ([nt], 0) := by kernel_rfl
theorem aw8 : Md.Synth 30 [] (xl (xv 0)) = some (idt, 0) := by kernel_rfl
theorem aw9 : Md.Synth 30 [] (xl (xa (xv 0) (xv 0))) = some (t0, 8) := by kernel_rfl
theorem aw10 : Md.Synth 30 [] (xt idt (xa (xv 0) (xv 0))) = some (al (fn idt (fn (vr 0) (vr 0))), 0) := by kernel_rfl
theorem aw11 : Md.Synth 30 [fn idt nt] (xa (xv 0) (xl (xv 0))) = some (nt, 0) := by kernel_rfl
theorem aw12 : Md.Synth 30 [fn idt nt] (xa (xv 0) (xl (xn 3))) = some (t0, 8) := by kernel_rfl
theorem aw13 : Md.Synth 30 [] (xh (xl (xv 0)) (fn nt nt)) = some (fn nt nt, 0) := by kernel_rfl
theorem aw14 : Md.Parse 30 [98] = some ((t0, 0), 4) := by kernel_rfl
theorem aw15 : Md.Parse 30 [97] = some ((t0, 1), 4) := by kernel_rfl
theorem aw16 : Md.Parse 30 [97, 108, 108, 32, 98, 46, 32, 98] = some ((t0, 4), 4) := by kernel_rfl
theorem aw17 : Md.Parse 30 [40, 78, 41] = some ((t0, 2), 4) := by kernel_rfl
theorem aw18 : Md.Parse 30 [78, 32, 45, 62, 32] = some ((t0, 5), 4) := by kernel_rfl
theorem aw19 : Md.Parse 30 [78, 32, 45, 62, 78] = some ((t0, 4), 4) := by kernel_rfl
theorem aw20 : Md.Print 30 (fn idt nt) = some ([40, 97, 108, 108, 32, 97, 46, 32, 97, 32, 45, 62, 32, 97, 41, 32, 45, 62, 32, 78], 0) := by kernel_rfl
end Go.Proofs.Ytjgnhhgigickaaa.Wk
/- Walks of the given program's functions: the law's makers of types and terms. Printed by tools/w34.py. Conditions: none. -/

namespace Go.Proofs.Ytjgnhhgigickaaa.Wk
open Go Md
set_option maxRecDepth 20000
set_option linter.unusedVariables false
set_option linter.unusedSimpArgs false
attribute [local irreducible] endQ

theorem exprs1 {G : GH} {b : Nat} {v0 v1 v2 v3 v4 v5 : Value} {e : E} (hf : G b = some (.cells #[v0, v1, v2, v3, v4, v5] 52 (0, 0))) (h : IsExpr G (.agg #[v0, v1, v2, v3, v4, v5]) e) : IsExprs G (some ⟨b, 0, none⟩) [e] := by
 unfold IsExprs
 exact ⟨b, 0, v0, v1, v2, v3, v4, v5, rfl, GC.of hf rfl, GC.of hf rfl, GC.of hf rfl, GC.of hf rfl, GC.of hf rfl, GC.of hf rfl, h, by unfold IsExprs; trivial⟩
theorem exprs2 {G : GH} {b : Nat} {v0 v1 v2 v3 v4 v5 u0 u1 u2 u3 u4 u5 : Value} {e f : E} (hf : G b = some (.cells #[v0, v1, v2, v3, v4, v5, u0, u1, u2, u3, u4, u5] 52 (0, 0))) (h : IsExpr G (.agg #[v0, v1, v2, v3, v4, v5]) e) (h2 : IsExpr G (.agg #[u0, u1, u2, u3, u4, u5]) f) : IsExprs G (some ⟨b, 0, none⟩) [e, f] := by
 unfold IsExprs
 refine ⟨b, 0, v0, v1, v2, v3, v4, v5, rfl, GC.of hf rfl, GC.of hf rfl, GC.of hf rfl, GC.of hf rfl, GC.of hf rfl, GC.of hf rfl, h, ?_⟩
 unfold IsExprs
 exact ⟨b, 6, u0, u1, u2, u3, u4, u5, rfl, GC.of hf rfl, GC.of hf rfl, GC.of hf rfl, GC.of hf rfl, GC.of hf rfl, GC.of hf rfl, h2, by unfold IsExprs; trivial⟩

theorem c27 {G : GH} {L : LH} {w : World} (hst : St G L w) : Cal Try.prog 27 #[] w fun x w' => ∃ G', Le G G' ∧ IsPoly G' x (nt) ∧ St G' L w' := by
 refine cal_of_W Try.func27 rfl (Nat.le_of_ble_eq_true (by kernel_rfl)) ?_
 refine W_sr [(.f, 0)] hst ?_
 refine m_new (.cells #[iN 0, iN 0, .slice none 0 0] 24) (fun b1 => pN b1 0) (some 0) (fun b => by kernel_rfl) hst (fun b1 w1 hst => ?_)
 refine r_nil ?_
 refine W_sr [(.p, 0), (.f, 1)] hst ?_
 refine r_y [(.p, 0)] [(1, .agg #[iN 2, iN 0, .slice none 0 0])] ?_
 refine s_0 [(0, iN 2), (1, iN 0), (2, .slice none 0 0)] [iN 2, iN 0, .slice none 0 0] none hst (fun w1 hst => ?_)
 refine r_nil ?_
 refine W_ret ?_
 refine q_rt [iN 2, iN 0, .slice none 0 0] [(⟨b1, 0, none⟩, iN 2), (⟨b1, 1, none⟩, iN 0), (⟨b1, 2, none⟩, .slice none 0 0)] (.agg #[iN 2, iN 0, .slice none 0 0]) (rc_L 0 rfl rfl (rc_L 0 rfl rfl (rc_L 0 rfl rfl rc_nil))) hst ?_
 exact ⟨G, Le.refl _, IsPoly.mk (t := nt) (Nat.le_refl _) IsPolys.nil, hst.drop [_]⟩

theorem c50 {G : GH} {L : LH} {w : World} {n : Int} (hst : St G L w) : Cal Try.prog 50 #[.int .i64 n] w fun x w' => ∃ G', Le G G' ∧ IsPoly G' x (vr n) ∧ St G' L w' := by
 refine cal_of_W Try.func50 rfl (Nat.le_of_ble_eq_true (by kernel_rfl)) ?_
 refine W_sr [(.f, 0)] hst ?_
 refine m_new (.cells #[iN 0, iN 0, .slice none 0 0] 24) (fun b1 => pN b1 0) (some 2) (fun b => by kernel_rfl) hst (fun b1 w1 hst => ?_)
 refine r_nil ?_
 refine W_sr [(.p, 0), (.p, 1), (.f, 2)] hst ?_
 refine r_y [(.p, 0), (.p, 1)] [(3, iN n), (4, .agg #[iN 1, iN n, .slice none 0 0])] ?_
 refine s_0 [(0, iN 1), (1, iN n), (2, .slice none 0 0)] [iN 1, iN n, .slice none 0 0] none hst (fun w1 hst => ?_)
 refine r_nil ?_
 refine W_ret ?_
 refine q_rt [iN 1, iN n, .slice none 0 0] [(⟨b1, 0, none⟩, iN 1), (⟨b1, 1, none⟩, iN n), (⟨b1, 2, none⟩, .slice none 0 0)] (.agg #[iN 1, iN n, .slice none 0 0]) (rc_L 0 rfl rfl (rc_L 0 rfl rfl (rc_L 0 rfl rfl rc_nil))) hst ?_
 exact ⟨G, Le.refl _, IsPoly.mk (t := vr n) (Nat.le_refl _) IsPolys.nil, hst.drop [_]⟩

theorem c26 {G : GH} {L : LH} {w : World} {va : Value} {a : T} {vb : Value} {b : T} (hva : IsPoly G va a) (hvb : IsPoly G vb b) (hst : St G L w) : Cal Try.prog 26 #[va, vb] w fun x w' => ∃ G', Le G G' ∧ IsPoly G' x (fn a b) ∧ St G' L w' := by
 obtain ⟨aA, ac, rfl, hac, hak⟩ := id hva.open
 obtain ⟨bA, bc, rfl, hbc, hbk⟩ := id hvb.open
 refine cal_of_W Try.func26 rfl (Nat.le_of_ble_eq_true (by kernel_rfl)) ?_
 refine W_sr [(.f, 0), (.f, 1), (.f, 2)] hst ?_
 refine m_new (cT a aA ac) (fun b1 => pN b1 0) (some 2) (fun b => by kernel_rfl) hst (fun b1 w1 hst => ?_)
 refine m_new (cT b bA bc) (fun b2 => pN b2 0) (some 3) (fun b => by kernel_rfl) hst (fun b2 w1 hst => ?_)
 refine m_new (.cells #[iN 0, iN 0, .slice none 0 0] 24) (fun b3 => pN b3 0) (some 4) (fun b => by kernel_rfl) hst (fun b3 w1 hst => ?_)
 refine r_nil ?_
 refine W_sr [(.l, 0), (.l, 1), (.f, 2), (.p, 3), (.f, 4)] hst ?_
 refine r_s [3, 3] [(.l, 0), (.l, 1)] [(5, (aT a aA ac)), (6, (aT b bA bc))] (rc_l 2 0 rfl rfl (rc_l 2 1 rfl rfl (rc_l 2 2 rfl rfl (rc_l 1 0 rfl rfl (rc_l 1 1 rfl rfl (rc_l 1 2 rfl rfl rc_nil)))))) ?_
 refine m_new (.cells #[iN a.kind, iN a.num, .slice aA a.kids.length ac, iN b.kind, iN b.num, .slice bA b.kids.length bc] 24) (fun b4 => .slice (some ⟨b4, 0, none⟩) 2 2) (some 7) (fun b => by kernel_rfl) hst (fun b4 w1 hst => ?_)
 refine r_y [(.p, 3)] [(8, .agg #[iN 3, iN 0, .slice (some ⟨b4, 0, none⟩) 2 2])] ?_
 refine s_1 [(0, iN 3), (1, iN 0), (2, .slice (some ⟨b4, 0, none⟩) 2 2)] [iN 3, iN 0, .slice (some ⟨b4, 0, none⟩) 2 2] none hst (fun w1 hst => ?_)
 refine r_nil ?_
 refine W_ret ?_
 refine q_rt [iN 3, iN 0, .slice (some ⟨b4, 0, none⟩) 2 2] [(⟨b3, 0, none⟩, iN 3), (⟨b3, 1, none⟩, iN 0), (⟨b3, 2, none⟩, .slice (some ⟨b4, 0, none⟩) 2 2)] (.agg #[iN 3, iN 0, .slice (some ⟨b4, 0, none⟩) 2 2]) (rc_L 1 rfl rfl (rc_L 1 rfl rfl (rc_L 1 rfl rfl rc_nil))) hst ?_
 obtain ⟨G9, hG9, hF9, hst⟩ := St.freeze [_] hst
 have hf := hF9 _ (.head _)
 exact ⟨G9, hG9, IsPoly.mk (t := fn a b) (Nat.le_refl _) (polys_of (cs := [iN a.kind, iN a.num, .slice aA a.kids.length ac, iN b.kind, iN b.num, .slice bA b.kids.length bc]) ⟨hva.mono hG9, hvb.mono hG9, trivial⟩ hf), hst.drop [_, _, _]⟩

theorem c49 {G : GH} {L : LH} {w : World} {va : Value} {a : T} (hva : IsPoly G va a) (hst : St G L w) : Cal Try.prog 49 #[va] w fun x w' => ∃ G', Le G G' ∧ IsPoly G' x (al a) ∧ St G' L w' := by
 obtain ⟨aA, ac, rfl, hac, hak⟩ := id hva.open
 refine cal_of_W Try.func49 rfl (Nat.le_of_ble_eq_true (by kernel_rfl)) ?_
 refine W_sr [(.f, 0), (.f, 1)] hst ?_
 refine m_new (cT a aA ac) (fun b1 => pN b1 0) (some 1) (fun b => by kernel_rfl) hst (fun b1 w1 hst => ?_)
 refine m_new (.cells #[iN 0, iN 0, .slice none 0 0] 24) (fun b2 => pN b2 0) (some 2) (fun b => by kernel_rfl) hst (fun b2 w1 hst => ?_)
 refine r_nil ?_
 refine W_sr [(.l, 0), (.f, 1), (.p, 2), (.f, 3)] hst ?_
 refine r_s [3] [(.l, 0)] [(3, (aT a aA ac))] (rc_l 1 0 rfl rfl (rc_l 1 1 rfl rfl (rc_l 1 2 rfl rfl rc_nil))) ?_
 refine m_new (cT a aA ac) (fun b3 => .slice (some ⟨b3, 0, none⟩) 1 1) (some 4) (fun b => by kernel_rfl) hst (fun b3 w1 hst => ?_)
 refine r_y [(.p, 2)] [(5, .agg #[iN 4, iN 0, .slice (some ⟨b3, 0, none⟩) 1 1])] ?_
 refine s_1 [(0, iN 4), (1, iN 0), (2, .slice (some ⟨b3, 0, none⟩) 1 1)] [iN 4, iN 0, .slice (some ⟨b3, 0, none⟩) 1 1] none hst (fun w1 hst => ?_)
 refine r_nil ?_
 refine W_ret ?_
 refine q_rt [iN 4, iN 0, .slice (some ⟨b3, 0, none⟩) 1 1] [(⟨b2, 0, none⟩, iN 4), (⟨b2, 1, none⟩, iN 0), (⟨b2, 2, none⟩, .slice (some ⟨b3, 0, none⟩) 1 1)] (.agg #[iN 4, iN 0, .slice (some ⟨b3, 0, none⟩) 1 1]) (rc_L 1 rfl rfl (rc_L 1 rfl rfl (rc_L 1 rfl rfl rc_nil))) hst ?_
 obtain ⟨G9, hG9, hF9, hst⟩ := St.freeze [_] hst
 have hf := hF9 _ (.head _)
 exact ⟨G9, hG9, IsPoly.mk (t := al a) (Nat.le_refl _) (polys_of (cs := [iN a.kind, iN a.num, .slice aA a.kids.length ac]) ⟨hva.mono hG9, trivial⟩ hf), hst.drop [_, _]⟩

theorem c48 {G : GH} {L : LH} {w : World} (hst : St G L w) : Cal Try.prog 48 #[] w fun x w' => ∃ G', Le G G' ∧ IsPoly G' x idt ∧ St G' L w' := by
 refine cal_of_W Try.func48 rfl (Nat.le_of_ble_eq_true (by kernel_rfl)) ?_
 refine W_sr [(.f, 0)] hst ?_
 refine m_new (.cells #[iN 0, iN 0, .slice none 0 0] 24) (fun b1 => pN b1 0) (some 0) (fun b => by kernel_rfl) hst (fun b1 w1 hst => ?_)
 refine r_nil ?_
 refine W_sr [(.f, 0), (.f, 1), (.f, 2), (.f, 3), (.f, 4)] hst ?_
 refine m_cl #[iN 0] (some 1) (c50 hst) ?_
 rintro x1 w1 ⟨G1, hG1, hx1, hst⟩
 refine nx hst ?_
 refine m_cl #[iN 0] (some 2) (c50 hst) ?_
 rintro x2 w1 ⟨G2, hG2, hx2, hst⟩
 refine nx hst ?_
 refine m_cl #[x1, x2] (some 3) (c26 (hx1.mono hG2) hx2 hst) ?_
 rintro x3 w1 ⟨G3, hG3, hx3, hst⟩
 refine nx hst ?_
 refine m_cl #[x3] (some 4) (c49 hx3 hst) ?_
 rintro x4 w1 ⟨G4, hG4, hx4, hst⟩
 refine nx hst ?_
 obtain ⟨oA, oc, rfl, hoc, hok⟩ := id hx4.open
 refine s_0 [(0, iN idt.kind), (1, iN idt.num), (2, .slice oA idt.kids.length oc)] [iN idt.kind, iN idt.num, .slice oA idt.kids.length oc] none hst (fun w1 hst => ?_)
 refine r_nil ?_
 refine W_ret ?_
 refine q_rt [iN idt.kind, iN idt.num, .slice oA idt.kids.length oc] [(⟨b1, 0, none⟩, iN idt.kind), (⟨b1, 1, none⟩, iN idt.num), (⟨b1, 2, none⟩, .slice oA idt.kids.length oc)] (.agg #[iN idt.kind, iN idt.num, .slice oA idt.kids.length oc]) (rc_L 0 rfl rfl (rc_L 0 rfl rfl (rc_L 0 rfl rfl rc_nil))) hst ?_
 exact ⟨G4, ((hG1.trans hG2).trans hG3).trans hG4, hx4, hst.drop [_]⟩

theorem c51 {G : GH} {L : LH} {w : World} {va : Value} {a : E} (hva : IsExpr G va a) (hst : St G L w) : Cal Try.prog 51 #[va] w fun x w' => ∃ G', Le G G' ∧ IsExpr G' x (xl a) ∧ St G' L w' := by
 obtain ⟨aA, ac, aB, ad, rfl, hac, hak, haty⟩ := id hva.open
 refine cal_of_W Try.func51 rfl (Nat.le_of_ble_eq_true (by kernel_rfl)) ?_
 refine W_sr [(.f, 0), (.f, 1)] hst ?_
 refine m_new (.cells #[iN a.kind, iN a.num, .slice aA a.kids.length ac, iN a.ty.kind, iN a.ty.num, .slice aB a.ty.kids.length ad] 52) (fun b1 => pN b1 0) (some 1) (fun b => by kernel_rfl) hst (fun b1 w1 hst => ?_)
 refine m_new (.cells #[iN 0, iN 0, .slice none 0 0, iN 0, iN 0, .slice none 0 0] 52) (fun b2 => pN b2 0) (some 2) (fun b => by kernel_rfl) hst (fun b2 w1 hst => ?_)
 refine r_nil ?_
 refine W_sr [(.l, 0), (.f, 1), (.p, 2), (.f, 3)] hst ?_
 refine r_s [6] [(.l, 0)] [(3, .agg #[iN a.kind, iN a.num, .slice aA a.kids.length ac, iN a.ty.kind, iN a.ty.num, .slice aB a.ty.kids.length ad])] (rc_l 1 0 rfl rfl (rc_l 1 1 rfl rfl (rc_l 1 2 rfl rfl (rc_l 1 3 rfl rfl (rc_l 1 4 rfl rfl (rc_l 1 5 rfl rfl rc_nil)))))) ?_
 refine m_new (.cells #[iN a.kind, iN a.num, .slice aA a.kids.length ac, iN a.ty.kind, iN a.ty.num, .slice aB a.ty.kids.length ad] 52) (fun b3 => .slice (some ⟨b3, 0, none⟩) 1 1) (some 4) (fun b => by kernel_rfl) hst (fun b3 w1 hst => ?_)
 refine r_y [(.p, 2)] [(5, .agg #[iN 3, iN 0, .slice (some ⟨b3, 0, none⟩) 1 1, iN 0, iN 0, .slice none 0 0])] ?_
 refine s_1 [(0, iN 3), (1, iN 0), (2, .slice (some ⟨b3, 0, none⟩) 1 1), (3, iN 0), (4, iN 0), (5, .slice none 0 0)] [iN 3, iN 0, .slice (some ⟨b3, 0, none⟩) 1 1, iN 0, iN 0, .slice none 0 0] none hst (fun w1 hst => ?_)
 refine r_nil ?_
 refine W_ret ?_
 refine q_rt [iN 3, iN 0, .slice (some ⟨b3, 0, none⟩) 1 1, iN 0, iN 0, .slice none 0 0] [(⟨b2, 0, none⟩, iN 3), (⟨b2, 1, none⟩, iN 0), (⟨b2, 2, none⟩, .slice (some ⟨b3, 0, none⟩) 1 1), (⟨b2, 3, none⟩, iN 0), (⟨b2, 4, none⟩, iN 0), (⟨b2, 5, none⟩, .slice none 0 0)] (.agg #[iN 3, iN 0, .slice (some ⟨b3, 0, none⟩) 1 1, iN 0, iN 0, .slice none 0 0]) (rc_L 1 rfl rfl (rc_L 1 rfl rfl (rc_L 1 rfl rfl (rc_L 1 rfl rfl (rc_L 1 rfl rfl (rc_L 1 rfl rfl rc_nil)))))) hst ?_
 obtain ⟨G9, hG9, hF9, hst⟩ := St.freeze [_] hst
 have hf := hF9 _ (.head _)
 exact ⟨G9, hG9, IsExpr.mk (e := xl a) (Nat.le_refl _) (exprs1 hf (hva.mono hG9)) (IsPoly.mk (t := t0) (Nat.le_refl _) IsPolys.nil), hst.drop [_, _]⟩

theorem c52 {G : GH} {L : LH} {w : World} {n : Int} (hst : St G L w) : Cal Try.prog 52 #[.int .i64 n] w fun x w' => ∃ G', Le G G' ∧ IsExpr G' x (xv n) ∧ St G' L w' := by
 refine cal_of_W Try.func52 rfl (Nat.le_of_ble_eq_true (by kernel_rfl)) ?_
 refine W_sr [(.f, 0)] hst ?_
 refine m_new (.cells #[iN 0, iN 0, .slice none 0 0, iN 0, iN 0, .slice none 0 0] 52) (fun b1 => pN b1 0) (some 2) (fun b => by kernel_rfl) hst (fun b1 w1 hst => ?_)
 refine r_nil ?_
 refine W_sr [(.p, 0), (.p, 1), (.f, 2)] hst ?_
 refine r_y [(.p, 0), (.p, 1)] [(3, iN n), (4, .agg #[iN 1, iN n, .slice none 0 0, iN 0, iN 0, .slice none 0 0])] ?_
 refine s_0 [(0, iN 1), (1, iN n), (2, .slice none 0 0), (3, iN 0), (4, iN 0), (5, .slice none 0 0)] [iN 1, iN n, .slice none 0 0, iN 0, iN 0, .slice none 0 0] none hst (fun w1 hst => ?_)
 refine r_nil ?_
 refine W_ret ?_
 refine q_rt [iN 1, iN n, .slice none 0 0, iN 0, iN 0, .slice none 0 0] [(⟨b1, 0, none⟩, iN 1), (⟨b1, 1, none⟩, iN n), (⟨b1, 2, none⟩, .slice none 0 0), (⟨b1, 3, none⟩, iN 0), (⟨b1, 4, none⟩, iN 0), (⟨b1, 5, none⟩, .slice none 0 0)] (.agg #[iN 1, iN n, .slice none 0 0, iN 0, iN 0, .slice none 0 0]) (rc_L 0 rfl rfl (rc_L 0 rfl rfl (rc_L 0 rfl rfl (rc_L 0 rfl rfl (rc_L 0 rfl rfl (rc_L 0 rfl rfl rc_nil)))))) hst ?_
 exact ⟨G, Le.refl _, IsExpr.mk (e := xv n) (Nat.le_refl _) IsExprs.nil (IsPoly.mk (t := t0) (Nat.le_refl _) IsPolys.nil), hst.drop [_]⟩

theorem c53 {G : GH} {L : LH} {w : World} {va : Value} {a : E} {vb : Value} {b : E} (hva : IsExpr G va a) (hvb : IsExpr G vb b) (hst : St G L w) : Cal Try.prog 53 #[va, vb] w fun x w' => ∃ G', Le G G' ∧ IsExpr G' x (xa a b) ∧ St G' L w' := by
 obtain ⟨aA, ac, aB, ad, rfl, hac, hak, haty⟩ := id hva.open
 obtain ⟨bA, bc, bB, bd, rfl, hbc, hbk, hbty⟩ := id hvb.open
 refine cal_of_W Try.func53 rfl (Nat.le_of_ble_eq_true (by kernel_rfl)) ?_
 refine W_sr [(.f, 0), (.f, 1), (.f, 2)] hst ?_
 refine m_new (.cells #[iN a.kind, iN a.num, .slice aA a.kids.length ac, iN a.ty.kind, iN a.ty.num, .slice aB a.ty.kids.length ad] 52) (fun b1 => pN b1 0) (some 2) (fun b => by kernel_rfl) hst (fun b1 w1 hst => ?_)
 refine m_new (.cells #[iN b.kind, iN b.num, .slice bA b.kids.length bc, iN b.ty.kind, iN b.ty.num, .slice bB b.ty.kids.length bd] 52) (fun b2 => pN b2 0) (some 3) (fun b => by kernel_rfl) hst (fun b2 w1 hst => ?_)
 refine m_new (.cells #[iN 0, iN 0, .slice none 0 0, iN 0, iN 0, .slice none 0 0] 52) (fun b3 => pN b3 0) (some 4) (fun b => by kernel_rfl) hst (fun b3 w1 hst => ?_)
 refine r_nil ?_
 refine W_sr [(.l, 0), (.l, 1), (.f, 2), (.p, 3), (.f, 4)] hst ?_
 refine r_s [6, 6] [(.l, 0), (.l, 1)] [(5, .agg #[iN a.kind, iN a.num, .slice aA a.kids.length ac, iN a.ty.kind, iN a.ty.num, .slice aB a.ty.kids.length ad]), (6, .agg #[iN b.kind, iN b.num, .slice bA b.kids.length bc, iN b.ty.kind, iN b.ty.num, .slice bB b.ty.kids.length bd])] (rc_l 2 0 rfl rfl (rc_l 2 1 rfl rfl (rc_l 2 2 rfl rfl (rc_l 2 3 rfl rfl (rc_l 2 4 rfl rfl (rc_l 2 5 rfl rfl (rc_l 1 0 rfl rfl (rc_l 1 1 rfl rfl (rc_l 1 2 rfl rfl (rc_l 1 3 rfl rfl (rc_l 1 4 rfl rfl (rc_l 1 5 rfl rfl rc_nil)))))))))))) ?_
 refine m_new (.cells #[iN a.kind, iN a.num, .slice aA a.kids.length ac, iN a.ty.kind, iN a.ty.num, .slice aB a.ty.kids.length ad, iN b.kind, iN b.num, .slice bA b.kids.length bc, iN b.ty.kind, iN b.ty.num, .slice bB b.ty.kids.length bd] 52) (fun b4 => .slice (some ⟨b4, 0, none⟩) 2 2) (some 7) (fun b => by kernel_rfl) hst (fun b4 w1 hst => ?_)
 refine r_y [(.p, 3)] [(8, .agg #[iN 5, iN 0, .slice (some ⟨b4, 0, none⟩) 2 2, iN 0, iN 0, .slice none 0 0])] ?_
 refine s_1 [(0, iN 5), (1, iN 0), (2, .slice (some ⟨b4, 0, none⟩) 2 2), (3, iN 0), (4, iN 0), (5, .slice none 0 0)] [iN 5, iN 0, .slice (some ⟨b4, 0, none⟩) 2 2, iN 0, iN 0, .slice none 0 0] none hst (fun w1 hst => ?_)
 refine r_nil ?_
 refine W_ret ?_
 refine q_rt [iN 5, iN 0, .slice (some ⟨b4, 0, none⟩) 2 2, iN 0, iN 0, .slice none 0 0] [(⟨b3, 0, none⟩, iN 5), (⟨b3, 1, none⟩, iN 0), (⟨b3, 2, none⟩, .slice (some ⟨b4, 0, none⟩) 2 2), (⟨b3, 3, none⟩, iN 0), (⟨b3, 4, none⟩, iN 0), (⟨b3, 5, none⟩, .slice none 0 0)] (.agg #[iN 5, iN 0, .slice (some ⟨b4, 0, none⟩) 2 2, iN 0, iN 0, .slice none 0 0]) (rc_L 1 rfl rfl (rc_L 1 rfl rfl (rc_L 1 rfl rfl (rc_L 1 rfl rfl (rc_L 1 rfl rfl (rc_L 1 rfl rfl rc_nil)))))) hst ?_
 obtain ⟨G9, hG9, hF9, hst⟩ := St.freeze [_] hst
 have hf := hF9 _ (.head _)
 exact ⟨G9, hG9, IsExpr.mk (e := xa a b) (Nat.le_refl _) (exprs2 hf (hva.mono hG9) (hvb.mono hG9)) (IsPoly.mk (t := t0) (Nat.le_refl _) IsPolys.nil), hst.drop [_, _, _]⟩

theorem c54 {G : GH} {L : LH} {w : World} {va : Value} {a : T} {vb : Value} {b : E} (hva : IsPoly G va a) (hvb : IsExpr G vb b) (hst : St G L w) : Cal Try.prog 54 #[va, vb] w fun x w' => ∃ G', Le G G' ∧ IsExpr G' x (xt a b) ∧ St G' L w' := by
 obtain ⟨aA, ac, rfl, hac, hak⟩ := id hva.open
 obtain ⟨bA, bc, bB, bd, rfl, hbc, hbk, hbty⟩ := id hvb.open
 refine cal_of_W Try.func54 rfl (Nat.le_of_ble_eq_true (by kernel_rfl)) ?_
 refine W_sr [(.f, 0), (.f, 1), (.f, 2)] hst ?_
 refine m_new (cT a aA ac) (fun b1 => pN b1 0) (some 2) (fun b => by kernel_rfl) hst (fun b1 w1 hst => ?_)
 refine m_new (.cells #[iN b.kind, iN b.num, .slice bA b.kids.length bc, iN b.ty.kind, iN b.ty.num, .slice bB b.ty.kids.length bd] 52) (fun b2 => pN b2 0) (some 3) (fun b => by kernel_rfl) hst (fun b2 w1 hst => ?_)
 refine m_new (.cells #[iN 0, iN 0, .slice none 0 0, iN 0, iN 0, .slice none 0 0] 52) (fun b3 => pN b3 0) (some 4) (fun b => by kernel_rfl) hst (fun b3 w1 hst => ?_)
 refine r_nil ?_
 refine W_sr [(.l, 0), (.l, 1), (.f, 2), (.p, 3), (.f, 4)] hst ?_
 refine r_s [3, 6] [(.l, 0), (.l, 1)] [(5, (aT a aA ac)), (6, .agg #[iN b.kind, iN b.num, .slice bA b.kids.length bc, iN b.ty.kind, iN b.ty.num, .slice bB b.ty.kids.length bd])] (rc_l 2 0 rfl rfl (rc_l 2 1 rfl rfl (rc_l 2 2 rfl rfl (rc_l 1 0 rfl rfl (rc_l 1 1 rfl rfl (rc_l 1 2 rfl rfl (rc_l 1 3 rfl rfl (rc_l 1 4 rfl rfl (rc_l 1 5 rfl rfl rc_nil))))))))) ?_
 refine m_new (.cells #[iN b.kind, iN b.num, .slice bA b.kids.length bc, iN b.ty.kind, iN b.ty.num, .slice bB b.ty.kids.length bd] 52) (fun b4 => .slice (some ⟨b4, 0, none⟩) 1 1) (some 7) (fun b => by kernel_rfl) hst (fun b4 w1 hst => ?_)
 refine r_y [(.p, 3)] [(8, .agg #[iN 4, iN 0, .slice (some ⟨b4, 0, none⟩) 1 1, iN a.kind, iN a.num, .slice aA a.kids.length ac])] ?_
 refine s_1 [(0, iN 4), (1, iN 0), (2, .slice (some ⟨b4, 0, none⟩) 1 1), (3, iN a.kind), (4, iN a.num), (5, .slice aA a.kids.length ac)] [iN 4, iN 0, .slice (some ⟨b4, 0, none⟩) 1 1, iN a.kind, iN a.num, .slice aA a.kids.length ac] none hst (fun w1 hst => ?_)
 refine r_nil ?_
 refine W_ret ?_
 refine q_rt [iN 4, iN 0, .slice (some ⟨b4, 0, none⟩) 1 1, iN a.kind, iN a.num, .slice aA a.kids.length ac] [(⟨b3, 0, none⟩, iN 4), (⟨b3, 1, none⟩, iN 0), (⟨b3, 2, none⟩, .slice (some ⟨b4, 0, none⟩) 1 1), (⟨b3, 3, none⟩, iN a.kind), (⟨b3, 4, none⟩, iN a.num), (⟨b3, 5, none⟩, .slice aA a.kids.length ac)] (.agg #[iN 4, iN 0, .slice (some ⟨b4, 0, none⟩) 1 1, iN a.kind, iN a.num, .slice aA a.kids.length ac]) (rc_L 1 rfl rfl (rc_L 1 rfl rfl (rc_L 1 rfl rfl (rc_L 1 rfl rfl (rc_L 1 rfl rfl (rc_L 1 rfl rfl rc_nil)))))) hst ?_
 obtain ⟨G9, hG9, hF9, hst⟩ := St.freeze [_] hst
 have hf := hF9 _ (.head _)
 exact ⟨G9, hG9, IsExpr.mk (e := xt a b) (Nat.le_refl _) (exprs1 hf (hvb.mono hG9)) (hva.mono hG9), hst.drop [_, _, _]⟩

theorem c55 {G : GH} {L : LH} {w : World} {n : Int} (hst : St G L w) : Cal Try.prog 55 #[.int .i64 n] w fun x w' => ∃ G', Le G G' ∧ IsExpr G' x (xn n) ∧ St G' L w' := by
 refine cal_of_W Try.func55 rfl (Nat.le_of_ble_eq_true (by kernel_rfl)) ?_
 refine W_sr [(.f, 0)] hst ?_
 refine m_new (.cells #[iN 0, iN 0, .slice none 0 0, iN 0, iN 0, .slice none 0 0] 52) (fun b1 => pN b1 0) (some 2) (fun b => by kernel_rfl) hst (fun b1 w1 hst => ?_)
 refine r_nil ?_
 refine W_sr [(.p, 0), (.p, 1), (.f, 2)] hst ?_
 refine r_y [(.p, 0), (.p, 1)] [(3, iN n), (4, .agg #[iN 2, iN n, .slice none 0 0, iN 0, iN 0, .slice none 0 0])] ?_
 refine s_0 [(0, iN 2), (1, iN n), (2, .slice none 0 0), (3, iN 0), (4, iN 0), (5, .slice none 0 0)] [iN 2, iN n, .slice none 0 0, iN 0, iN 0, .slice none 0 0] none hst (fun w1 hst => ?_)
 refine r_nil ?_
 refine W_ret ?_
 refine q_rt [iN 2, iN n, .slice none 0 0, iN 0, iN 0, .slice none 0 0] [(⟨b1, 0, none⟩, iN 2), (⟨b1, 1, none⟩, iN n), (⟨b1, 2, none⟩, .slice none 0 0), (⟨b1, 3, none⟩, iN 0), (⟨b1, 4, none⟩, iN 0), (⟨b1, 5, none⟩, .slice none 0 0)] (.agg #[iN 2, iN n, .slice none 0 0, iN 0, iN 0, .slice none 0 0]) (rc_L 0 rfl rfl (rc_L 0 rfl rfl (rc_L 0 rfl rfl (rc_L 0 rfl rfl (rc_L 0 rfl rfl (rc_L 0 rfl rfl rc_nil)))))) hst ?_
 exact ⟨G, Le.refl _, IsExpr.mk (e := xn n) (Nat.le_refl _) IsExprs.nil (IsPoly.mk (t := t0) (Nat.le_refl _) IsPolys.nil), hst.drop [_]⟩

theorem c31 {G : GH} {L : LH} {w : World} {va : Value} {a : E} {vb : Value} {b : T} (hva : IsExpr G va a) (hvb : IsPoly G vb b) (hst : St G L w) : Cal Try.prog 31 #[va, vb] w fun x w' => ∃ G', Le G G' ∧ IsExpr G' x (xh a b) ∧ St G' L w' := by
 obtain ⟨aA, ac, aB, ad, rfl, hac, hak, haty⟩ := id hva.open
 obtain ⟨bA, bc, rfl, hbc, hbk⟩ := id hvb.open
 refine cal_of_W Try.func31 rfl (Nat.le_of_ble_eq_true (by kernel_rfl)) ?_
 refine W_sr [(.f, 0), (.f, 1), (.f, 2)] hst ?_
 refine m_new (.cells #[iN a.kind, iN a.num, .slice aA a.kids.length ac, iN a.ty.kind, iN a.ty.num, .slice aB a.ty.kids.length ad] 52) (fun b1 => pN b1 0) (some 2) (fun b => by kernel_rfl) hst (fun b1 w1 hst => ?_)
 refine m_new (cT b bA bc) (fun b2 => pN b2 0) (some 3) (fun b => by kernel_rfl) hst (fun b2 w1 hst => ?_)
 refine m_new (.cells #[iN 0, iN 0, .slice none 0 0, iN 0, iN 0, .slice none 0 0] 52) (fun b3 => pN b3 0) (some 4) (fun b => by kernel_rfl) hst (fun b3 w1 hst => ?_)
 refine r_nil ?_
 refine W_sr [(.l, 0), (.l, 1), (.f, 2), (.p, 3), (.f, 4)] hst ?_
 refine r_s [3, 6] [(.l, 0), (.l, 1)] [(5, (aT b bA bc)), (6, .agg #[iN a.kind, iN a.num, .slice aA a.kids.length ac, iN a.ty.kind, iN a.ty.num, .slice aB a.ty.kids.length ad])] (rc_l 1 0 rfl rfl (rc_l 1 1 rfl rfl (rc_l 1 2 rfl rfl (rc_l 2 0 rfl rfl (rc_l 2 1 rfl rfl (rc_l 2 2 rfl rfl (rc_l 2 3 rfl rfl (rc_l 2 4 rfl rfl (rc_l 2 5 rfl rfl rc_nil))))))))) ?_
 refine m_new (.cells #[iN a.kind, iN a.num, .slice aA a.kids.length ac, iN a.ty.kind, iN a.ty.num, .slice aB a.ty.kids.length ad] 52) (fun b4 => .slice (some ⟨b4, 0, none⟩) 1 1) (some 7) (fun b => by kernel_rfl) hst (fun b4 w1 hst => ?_)
 refine r_y [(.p, 3)] [(8, .agg #[iN 6, iN 0, .slice (some ⟨b4, 0, none⟩) 1 1, iN b.kind, iN b.num, .slice bA b.kids.length bc])] ?_
 refine s_1 [(0, iN 6), (1, iN 0), (2, .slice (some ⟨b4, 0, none⟩) 1 1), (3, iN b.kind), (4, iN b.num), (5, .slice bA b.kids.length bc)] [iN 6, iN 0, .slice (some ⟨b4, 0, none⟩) 1 1, iN b.kind, iN b.num, .slice bA b.kids.length bc] none hst (fun w1 hst => ?_)
 refine r_nil ?_
 refine W_ret ?_
 refine q_rt [iN 6, iN 0, .slice (some ⟨b4, 0, none⟩) 1 1, iN b.kind, iN b.num, .slice bA b.kids.length bc] [(⟨b3, 0, none⟩, iN 6), (⟨b3, 1, none⟩, iN 0), (⟨b3, 2, none⟩, .slice (some ⟨b4, 0, none⟩) 1 1), (⟨b3, 3, none⟩, iN b.kind), (⟨b3, 4, none⟩, iN b.num), (⟨b3, 5, none⟩, .slice bA b.kids.length bc)] (.agg #[iN 6, iN 0, .slice (some ⟨b4, 0, none⟩) 1 1, iN b.kind, iN b.num, .slice bA b.kids.length bc]) (rc_L 1 rfl rfl (rc_L 1 rfl rfl (rc_L 1 rfl rfl (rc_L 1 rfl rfl (rc_L 1 rfl rfl (rc_L 1 rfl rfl rc_nil)))))) hst ?_
 obtain ⟨G9, hG9, hF9, hst⟩ := St.freeze [_] hst
 have hf := hF9 _ (.head _)
 exact ⟨G9, hG9, IsExpr.mk (e := xh a b) (Nat.le_refl _) (exprs1 hf (hva.mono hG9)) (hvb.mono hG9), hst.drop [_, _, _]⟩

end Go.Proofs.Ytjgnhhgigickaaa.Wk
/- Walks of the given program's functions: awake. Printed by tools/w35.py. Conditions: none. -/

namespace Go.Proofs.Ytjgnhhgigickaaa.Wk
open Go Md
set_option maxRecDepth 20000
set_option linter.unusedVariables false
set_option linter.unusedSimpArgs false
attribute [local irreducible] endQ

theorem St.weak {G G' : GH} {L : LH} {w : World} (h : St G' L w) (hG : Le G G') : St G L w :=
 ⟨fun b o x => h.imm b o (hG b o x), h.loc, (fun p hp => by
  cases hx : G p.1 with
  | none => rfl
  | some o => have h1 := hG _ _ hx; have h2 := h.sep p hp; rw [h1] at h2; cases h2), h.nd, h.os.trans hG.os, h.out.trans hG.out⟩
theorem c18t {G : GH} {L : LH} {w : World} {va vb : Value} {a b : T} (hz : T.sz a < lim) (hva : IsPoly G va a) (hvb : IsPoly G vb b) (h : same a b = true) (hst : St G L w) : Cal Try.prog 18 #[va, vb] w fun x w' => x = .bool true ∧ St G L w' := by
 have := c18 _ (Nat.lt_succ_self _) hz hva hvb hst
 rwa [h] at this

theorem c12 {G : GH} {L : LH} {w : World} (hst : St G L w) : Cal Try.prog 12 #[] w fun x w' => x = .bool true ∧ St G L w' := by
 refine cal_of_W Try.func12 rfl (Nat.le_of_ble_eq_true (by kernel_rfl)) ?_
 refine W_sr [(.p, 0)] hst ?_
 refine r_z [(0, .bool false)] ?_
 refine W_sr [(.f, 0), (.f, 1), (.f, 2), (.f, 3), (.f, 4), (.p, 5), (.p, 6), (.p, 7), (.p, 8), (.p, 9)] hst ?_
 refine m_cl #[] (some 29) (c48  hst) ?_
 rintro x1 w1 ⟨G1, hG1, hx1, hst⟩
 refine nx hst ?_
 refine m_cl #[] (some 30) (c27  hst) ?_
 rintro x2 w1 ⟨G2, hG2, hx2, hst⟩
 refine nx hst ?_
 refine m_cl #[] (some 31) (c27  hst) ?_
 rintro x3 w1 ⟨G3, hG3, hx3, hst⟩
 refine nx hst ?_
 refine m_cl #[x2, x3] (some 32) (c26 ((hx2).mono (hG3)) (hx3) hst) ?_
 rintro x4 w1 ⟨G4, hG4, hx4, hst⟩
 refine nx hst ?_
 refine m_cl #[x1, x4] (some 33) (c43 ((hx1).mono (((hG2).trans hG3).trans hG4)) (hx4) (by decide) hst aw1 (by decide)) ?_
 rintro _ w1 ⟨G5, A5, k5, hG5, rfl, _, hk5, hst⟩
 refine nx hst ?_
 obtain ⟨eb5, eo5, qA5, qc5, rfl, ha5, hb5, hc_5, hx5⟩ := hk5.elem (i := 0) (t := nt) rfl
 refine r_z [(28, .tuple #[.slice (some ⟨eb5, eo5, none⟩) 1 k5, iN 0]), (34, .slice (some ⟨eb5, eo5, none⟩) 1 k5), (35, iN 0), (1, .slice (some ⟨eb5, eo5, none⟩) 1 k5), (2, iN 0)] ?_
 refine W_sr [(.f, 0), (.f, 1), (.f, 2), (.f, 3), (.f, 4), (.f, 5), (.f, 6), (.f, 7), (.f, 8), (.f, 9), (.p, 10), (.p, 11), (.p, 12), (.p, 13), (.p, 14)] hst ?_
 refine m_cl #[] (some 37) (c48  hst) ?_
 rintro x6 w1 ⟨G6, hG6, hx6, hst⟩
 refine nx hst ?_
 refine m_cl #[iN 0] (some 38) (c50  hst) ?_
 rintro x7 w1 ⟨G7, hG7, hx7, hst⟩
 refine nx hst ?_
 refine m_cl #[iN 0] (some 39) (c50  hst) ?_
 rintro x8 w1 ⟨G8, hG8, hx8, hst⟩
 refine nx hst ?_
 refine m_cl #[x7, x8] (some 40) (c26 ((hx7).mono (hG8)) (hx8) hst) ?_
 rintro x9 w1 ⟨G9, hG9, hx9, hst⟩
 refine nx hst ?_
 refine m_cl #[iN 0] (some 41) (c50  hst) ?_
 rintro x10 w1 ⟨G10, hG10, hx10, hst⟩
 refine nx hst ?_
 refine m_cl #[iN 0] (some 42) (c50  hst) ?_
 rintro x11 w1 ⟨G11, hG11, hx11, hst⟩
 refine nx hst ?_
 refine m_cl #[x10, x11] (some 43) (c26 ((hx10).mono (hG11)) (hx11) hst) ?_
 rintro x12 w1 ⟨G12, hG12, hx12, hst⟩
 refine nx hst ?_
 refine m_cl #[x9, x12] (some 44) (c26 ((hx9).mono (((hG10).trans hG11).trans hG12)) (hx12) hst) ?_
 rintro x13 w1 ⟨G13, hG13, hx13, hst⟩
 refine nx hst ?_
 refine m_cl #[x13] (some 45) (c49 (hx13) hst) ?_
 rintro x14 w1 ⟨G14, hG14, hx14, hst⟩
 refine nx hst ?_
 refine m_cl #[x6, x14] (some 46) (c43 ((hx6).mono ((((((((hG7).trans hG8).trans hG9).trans hG10).trans hG11).trans hG12).trans hG13).trans hG14)) (hx14) (by decide) hst aw2 (by decide)) ?_
 rintro _ w1 ⟨G15, A15, k15, hG15, rfl, _, hk15, hst⟩
 refine nx hst ?_
 obtain ⟨eb15, eo15, qA15, qc15, rfl, ha15, hb15, hc_15, hx15⟩ := hk15.elem (i := 0) (t := fn (vr 0) (vr 0)) rfl
 refine r_z [(36, .tuple #[.slice (some ⟨eb15, eo15, none⟩) 1 k15, iN 0]), (47, .slice (some ⟨eb15, eo15, none⟩) 1 k15), (48, iN 0), (3, .slice (some ⟨eb15, eo15, none⟩) 1 k15), (4, iN 0)] ?_
 refine W_sr [(.f, 0), (.f, 1), (.f, 2), (.f, 3), (.f, 4), (.p, 5), (.p, 6), (.p, 7), (.p, 8), (.p, 9)] hst ?_
 refine m_cl #[] (some 50) (c27  hst) ?_
 rintro x16 w1 ⟨G16, hG16, hx16, hst⟩
 refine nx hst ?_
 refine m_cl #[] (some 51) (c27  hst) ?_
 rintro x17 w1 ⟨G17, hG17, hx17, hst⟩
 refine nx hst ?_
 refine m_cl #[x16, x17] (some 52) (c26 ((hx16).mono (hG17)) (hx17) hst) ?_
 rintro x18 w1 ⟨G18, hG18, hx18, hst⟩
 refine nx hst ?_
 refine m_cl #[] (some 53) (c48  hst) ?_
 rintro x19 w1 ⟨G19, hG19, hx19, hst⟩
 refine nx hst ?_
 refine m_cl #[x18, x19] (some 54) (c21 ((hx18).mono (hG19)) (hx19) (by decide) hst aw3) ?_
 rintro _ w1 ⟨G20, hG20, rfl, hst⟩
 refine nx hst ?_
 refine r_z [(49, .tuple #[.bool false, iN 0]), (55, .bool false), (56, iN 0), (5, .bool false), (6, iN 0)] ?_
 refine W_sr [(.f, 0), (.f, 1), (.f, 2), (.f, 3), (.p, 4), (.p, 5), (.p, 6), (.p, 7), (.p, 8)] hst ?_
 refine m_cl #[] (some 58) (c48  hst) ?_
 rintro x21 w1 ⟨G21, hG21, hx21, hst⟩
 refine nx hst ?_
 refine m_cl #[] (some 59) (c27  hst) ?_
 rintro x22 w1 ⟨G22, hG22, hx22, hst⟩
 refine nx hst ?_
 refine m_cl #[x21, x22] (some 60) (c26 ((hx21).mono (hG22)) (hx22) hst) ?_
 rintro x23 w1 ⟨G23, hG23, hx23, hst⟩
 refine nx hst ?_
 refine m_cl #[x23] (some 61) (c25 (hx23) (by decide) hst aw4) ?_
 rintro _ w1 ⟨G24, hG24, rfl, hst⟩
 refine nx hst ?_
 refine r_z [(57, .tuple #[iN 2, iN 0]), (62, iN 2), (63, iN 0), (7, iN 2), (8, iN 0)] ?_
 refine W_seq ?_
 refine W_seq ?_
 refine W_rgd [(.p, 0), (.p, 1), (.p, 2), (.p, 3), (.p, 4), (.p, 5), (.p, 6), (.p, 7), (.p, 8), (.p, 9), (.p, 10), (.p, 11), (.p, 12), (.p, 13), (.p, 14), (.p, 15), (.p, 16), (.p, 17), (.p, 18), (.p, 19), (.p, 20), (.p, 21), (.l, 22), (.e, 23), (.f, 24), (.p, 25), (.p, 26), (.p, 27), (.p, 28), (.p, 29), (.p, 30), (.p, 31), (.p, 32), (.p, 33), (.p, 34), (.l, 35), (.e, 36), (.e, 37), (.e, 38), (.f, 39), (.p, 40), (.p, 41), (.p, 42), (.p, 43), (.p, 44), (.p, 45), (.p, 46), (.p, 47), (.p, 48)] hst (fun w1 hst => ?_)
 refine r_s [3] [(.p, 0), (.p, 1), (.p, 2), (.p, 3), (.p, 4), (.p, 5), (.p, 6), (.p, 7), (.p, 8), (.p, 9), (.p, 10), (.p, 11), (.p, 12), (.p, 13), (.p, 14), (.p, 15), (.p, 16), (.p, 17), (.p, 18), (.p, 19), (.p, 20), (.p, 21), (.l, 22)] [(64, iN 0), (65, .bool false), (66, .bool false), (67, iN 0), (68, .bool false), (69, .bool false), (70, .bool false), (71, iN 0), (72, .bool false), (73, .bool false), (74, .bool false), (75, iN 0), (76, .bool false), (77, .bool false), (78, .bool false), (79, .slice (some ⟨eb5, eo5, none⟩) 1 k5), (80, iN 1), (81, .bool false), (82, .bool false), (83, .bool false), (84, .slice (some ⟨eb5, eo5, none⟩) 1 k5), (85, .pointer (some ⟨eb5, eo5, none⟩)), (86, (aT nt qA5 qc5))] (rc_C ((ha5).mono (((((((((((((((((((hG6).trans hG7).trans hG8).trans hG9).trans hG10).trans hG11).trans hG12).trans hG13).trans hG14).trans hG15).trans hG16).trans hG17).trans hG18).trans hG19).trans hG20).trans hG21).trans hG22).trans hG23).trans hG24)) (rc_C ((hb5).mono (((((((((((((((((((hG6).trans hG7).trans hG8).trans hG9).trans hG10).trans hG11).trans hG12).trans hG13).trans hG14).trans hG15).trans hG16).trans hG17).trans hG18).trans hG19).trans hG20).trans hG21).trans hG22).trans hG23).trans hG24)) (rc_C ((hc_5).mono (((((((((((((((((((hG6).trans hG7).trans hG8).trans hG9).trans hG10).trans hG11).trans hG12).trans hG13).trans hG14).trans hG15).trans hG16).trans hG17).trans hG18).trans hG19).trans hG20).trans hG21).trans hG22).trans hG23).trans hG24)) rc_nil))) ?_
 refine m_callE #[] (some 87) (by kernel_rfl) (c27  hst) ?_
 rintro x25 w1 ⟨G25, hG25, hx25, hst⟩
 refine ⟨hst.ss' ((Le.refl _).trans hG25) (fun _ hp => hp), ?_⟩
 refine m_cl #[(aT nt qA5 qc5), x25] (some 88) (c18t (a := nt) (b := nt) (by decide) ((hx5).mono ((((((((((((((((((((hG6).trans hG7).trans hG8).trans hG9).trans hG10).trans hG11).trans hG12).trans hG13).trans hG14).trans hG15).trans hG16).trans hG17).trans hG18).trans hG19).trans hG20).trans hG21).trans hG22).trans hG23).trans hG24).trans hG25)) (hx25) (same_refl _) hst) ?_
 rintro _ w1 ⟨rfl, hst⟩
 refine nx hst ?_
 refine r_s [3] [(.p, 25), (.p, 26), (.p, 27), (.p, 28), (.p, 29), (.p, 30), (.p, 31), (.p, 32), (.p, 33), (.p, 34), (.l, 35)] [(89, .bool false), (90, .bool false), (91, .bool false), (92, .slice (some ⟨eb15, eo15, none⟩) 1 k15), (93, iN 1), (94, .bool false), (95, .bool false), (96, .bool false), (97, .slice (some ⟨eb15, eo15, none⟩) 1 k15), (98, .pointer (some ⟨eb15, eo15, none⟩)), (99, .agg #[iN ((fn (vr 0) (vr 0)).kind), iN ((fn (vr 0) (vr 0)).num), .slice qA15 ((fn (vr 0) (vr 0)).kids.length) qc15])] (rc_C ((ha15).mono ((((((((((hG16).trans hG17).trans hG18).trans hG19).trans hG20).trans hG21).trans hG22).trans hG23).trans hG24).trans hG25)) (rc_C ((hb15).mono ((((((((((hG16).trans hG17).trans hG18).trans hG19).trans hG20).trans hG21).trans hG22).trans hG23).trans hG24).trans hG25)) (rc_C ((hc_15).mono ((((((((((hG16).trans hG17).trans hG18).trans hG19).trans hG20).trans hG21).trans hG22).trans hG23).trans hG24).trans hG25)) rc_nil))) ?_
 refine m_callE #[iN 0] (some 100) (by kernel_rfl) (c50  hst) ?_
 rintro x26 w1 ⟨G26, hG26, hx26, hst⟩
 refine ⟨hst.ss' ((Le.refl _).trans hG26) (fun _ hp => hp), ?_⟩
 refine m_callE #[iN 0] (some 101) (by kernel_rfl) (c50  hst) ?_
 rintro x27 w1 ⟨G27, hG27, hx27, hst⟩
 refine ⟨hst.ss' (((Le.refl _).trans hG26).trans hG27) (fun _ hp => hp), ?_⟩
 refine m_callE #[x26, x27] (some 102) (by kernel_rfl) (c26 ((hx26).mono (hG27)) (hx27) hst) ?_
 rintro x28 w1 ⟨G28, hG28, hx28, hst⟩
 refine ⟨hst.ss' ((((Le.refl _).trans hG26).trans hG27).trans hG28) (fun _ hp => hp), ?_⟩
 refine m_cl #[.agg #[iN ((fn (vr 0) (vr 0)).kind), iN ((fn (vr 0) (vr 0)).num), .slice qA15 ((fn (vr 0) (vr 0)).kids.length) qc15], x28] (some 103) (c18t (a := fn (vr 0) (vr 0)) (b := fn (vr 0) (vr 0)) (by decide) ((hx15).mono (((((((((((((hG16).trans hG17).trans hG18).trans hG19).trans hG20).trans hG21).trans hG22).trans hG23).trans hG24).trans hG25).trans hG26).trans hG27).trans hG28)) (hx28) (same_refl _) hst) ?_
 rintro _ w1 ⟨rfl, hst⟩
 refine nx hst ?_
 refine r_z [(104, .bool false), (105, .bool false), (106, .bool false), (107, .bool false), (108, .bool false), (109, .bool false), (110, iN 2), (111, .bool false), (112, .bool false)] ?_
 refine W_cF ?_
 refine W_skip ?_
 refine W_seq ?_
 replace hst := hst.weak ((((((((((((((((((((((((((((hG1).trans hG2).trans hG3).trans hG4).trans hG5).trans hG6).trans hG7).trans hG8).trans hG9).trans hG10).trans hG11).trans hG12).trans hG13).trans hG14).trans hG15).trans hG16).trans hG17).trans hG18).trans hG19).trans hG20).trans hG21).trans hG22).trans hG23).trans hG24).trans hG25).trans hG26).trans hG27).trans hG28)
 refine W_rg [(.f, 0), (.f, 1), (.f, 2), (.f, 3), (.f, 4), (.f, 5), (.f, 6), (.f, 7), (.f, 8), (.f, 9), (.p, 10), (.p, 11), (.p, 12), (.p, 13), (.p, 14)] hst ?_
 refine m_cl #[] (some 114) (c27  hst) ?_
 rintro x29 w1 ⟨G29, hG29, hx29, hst⟩
 refine nx hst ?_
 refine m_cl #[] (some 115) (c48  hst) ?_
 rintro x30 w1 ⟨G30, hG30, hx30, hst⟩
 refine nx hst ?_
 refine m_cl #[x29, x30] (some 116) (c26 ((hx29).mono (hG30)) (hx30) hst) ?_
 rintro x31 w1 ⟨G31, hG31, hx31, hst⟩
 refine nx hst ?_
 refine m_cl #[] (some 117) (c27  hst) ?_
 rintro x32 w1 ⟨G32, hG32, hx32, hst⟩
 refine nx hst ?_
 refine m_cl #[iN 0] (some 118) (c50  hst) ?_
 rintro x33 w1 ⟨G33, hG33, hx33, hst⟩
 refine nx hst ?_
 refine m_cl #[iN 0] (some 119) (c50  hst) ?_
 rintro x34 w1 ⟨G34, hG34, hx34, hst⟩
 refine nx hst ?_
 refine m_cl #[x33, x34] (some 120) (c26 ((hx33).mono (hG34)) (hx34) hst) ?_
 rintro x35 w1 ⟨G35, hG35, hx35, hst⟩
 refine nx hst ?_
 refine m_cl #[x32, x35] (some 121) (c26 ((hx32).mono (((hG33).trans hG34).trans hG35)) (hx35) hst) ?_
 rintro x36 w1 ⟨G36, hG36, hx36, hst⟩
 refine nx hst ?_
 refine m_cl #[x36] (some 122) (c49 (hx36) hst) ?_
 rintro x37 w1 ⟨G37, hG37, hx37, hst⟩
 refine nx hst ?_
 refine m_cl #[x31, x37] (some 123) (c43 ((hx31).mono ((((((hG32).trans hG33).trans hG34).trans hG35).trans hG36).trans hG37)) (hx37) (by decide) hst aw5 (by decide)) ?_
 rintro _ w1 ⟨G38, A38, k38, hG38, rfl, _, hk38, hst⟩
 refine nx hst ?_
 obtain ⟨eb38, eo38, qA38, qc38, rfl, ha38, hb38, hc_38, hx38⟩ := hk38.elem (i := 0) (t := vr 0) rfl
 refine r_z [(113, .tuple #[.slice (some ⟨eb38, eo38, none⟩) 1 k38, iN 0]), (124, .slice (some ⟨eb38, eo38, none⟩) 1 k38), (125, iN 0), (9, .slice (some ⟨eb38, eo38, none⟩) 1 k38), (2, iN 0)] ?_
 refine W_sr [(.f, 0), (.f, 1), (.f, 2), (.f, 3), (.f, 4), (.f, 5), (.f, 6), (.f, 7), (.f, 8), (.f, 9), (.p, 10), (.p, 11), (.p, 12), (.p, 13), (.p, 14)] hst ?_
 refine m_cl #[] (some 127) (c27  hst) ?_
 rintro x39 w1 ⟨G39, hG39, hx39, hst⟩
 refine nx hst ?_
 refine m_cl #[iN 0] (some 128) (c50  hst) ?_
 rintro x40 w1 ⟨G40, hG40, hx40, hst⟩
 refine nx hst ?_
 refine m_cl #[iN 0] (some 129) (c50  hst) ?_
 rintro x41 w1 ⟨G41, hG41, hx41, hst⟩
 refine nx hst ?_
 refine m_cl #[x40, x41] (some 130) (c26 ((hx40).mono (hG41)) (hx41) hst) ?_
 rintro x42 w1 ⟨G42, hG42, hx42, hst⟩
 refine nx hst ?_
 refine m_cl #[x39, x42] (some 131) (c26 ((hx39).mono (((hG40).trans hG41).trans hG42)) (hx42) hst) ?_
 rintro x43 w1 ⟨G43, hG43, hx43, hst⟩
 refine nx hst ?_
 refine m_cl #[x43] (some 132) (c49 (hx43) hst) ?_
 rintro x44 w1 ⟨G44, hG44, hx44, hst⟩
 refine nx hst ?_
 refine m_cl #[] (some 133) (c27  hst) ?_
 rintro x45 w1 ⟨G45, hG45, hx45, hst⟩
 refine nx hst ?_
 refine m_cl #[] (some 134) (c48  hst) ?_
 rintro x46 w1 ⟨G46, hG46, hx46, hst⟩
 refine nx hst ?_
 refine m_cl #[x45, x46] (some 135) (c26 ((hx45).mono (hG46)) (hx46) hst) ?_
 rintro x47 w1 ⟨G47, hG47, hx47, hst⟩
 refine nx hst ?_
 refine m_cl #[x44, x47] (some 136) (c43 ((hx44).mono (((hG45).trans hG46).trans hG47)) (hx47) (by decide) hst aw6 (by decide)) ?_
 rintro _ w1 ⟨G48, A48, k48, hG48, rfl, _, hk48, hst⟩
 refine nx hst ?_
 refine r_z [(126, .tuple #[.slice A48 0 k48, iN 6]), (137, .slice A48 0 k48), (138, iN 6), (10, .slice A48 0 k48), (11, iN 6)] ?_
 refine W_sr [(.f, 0), (.f, 1), (.f, 2), (.f, 3), (.p, 4), (.p, 5), (.p, 6), (.p, 7), (.p, 8)] hst ?_
 refine m_cl #[] (some 140) (c27  hst) ?_
 rintro x49 w1 ⟨G49, hG49, hx49, hst⟩
 refine nx hst ?_
 refine m_cl #[x49] (some 141) (c49 (hx49) hst) ?_
 rintro x50 w1 ⟨G50, hG50, hx50, hst⟩
 refine nx hst ?_
 refine m_cl #[] (some 142) (c27  hst) ?_
 rintro x51 w1 ⟨G51, hG51, hx51, hst⟩
 refine nx hst ?_
 refine m_cl #[x50, x51] (some 143) (c43 ((hx50).mono (hG51)) (hx51) (by decide) hst aw7 (by decide)) ?_
 rintro _ w1 ⟨G52, A52, k52, hG52, rfl, _, hk52, hst⟩
 refine nx hst ?_
 obtain ⟨eb52, eo52, qA52, qc52, rfl, ha52, hb52, hc_52, hx52⟩ := hk52.elem (i := 0) (t := nt) rfl
 refine r_z [(139, .tuple #[.slice (some ⟨eb52, eo52, none⟩) 1 k52, iN 0]), (144, .slice (some ⟨eb52, eo52, none⟩) 1 k52), (145, iN 0), (12, .slice (some ⟨eb52, eo52, none⟩) 1 k52), (6, iN 0)] ?_
 refine W_seq ?_
 refine W_seq ?_
 refine W_rgd [(.p, 0), (.p, 1), (.p, 2), (.p, 3), (.p, 4), (.p, 5), (.p, 6), (.p, 7), (.p, 8), (.p, 9), (.p, 10), (.p, 11), (.p, 12), (.p, 13), (.p, 14), (.p, 15), (.p, 16), (.p, 17), (.l, 18), (.e, 19), (.f, 20), (.p, 21), (.p, 22), (.p, 23), (.p, 24), (.p, 25), (.p, 26), (.p, 27), (.p, 28), (.p, 29), (.p, 30), (.l, 31), (.e, 32), (.f, 33), (.p, 34), (.p, 35)] hst (fun w1 hst => ?_)
 refine r_s [3] [(.p, 0), (.p, 1), (.p, 2), (.p, 3), (.p, 4), (.p, 5), (.p, 6), (.p, 7), (.p, 8), (.p, 9), (.p, 10), (.p, 11), (.p, 12), (.p, 13), (.p, 14), (.p, 15), (.p, 16), (.p, 17), (.l, 18)] [(146, iN 0), (147, .bool false), (148, .bool false), (149, iN 6), (150, .bool false), (151, .bool false), (152, .bool false), (153, iN 0), (154, .bool false), (155, .bool false), (156, .bool false), (157, .slice (some ⟨eb38, eo38, none⟩) 1 k38), (158, iN 1), (159, .bool false), (160, .bool false), (161, .bool false), (162, .slice (some ⟨eb38, eo38, none⟩) 1 k38), (163, .pointer (some ⟨eb38, eo38, none⟩)), (164, .agg #[iN ((vr 0).kind), iN ((vr 0).num), .slice qA38 ((vr 0).kids.length) qc38])] (rc_C ((ha38).mono ((((((((((((((hG39).trans hG40).trans hG41).trans hG42).trans hG43).trans hG44).trans hG45).trans hG46).trans hG47).trans hG48).trans hG49).trans hG50).trans hG51).trans hG52)) (rc_C ((hb38).mono ((((((((((((((hG39).trans hG40).trans hG41).trans hG42).trans hG43).trans hG44).trans hG45).trans hG46).trans hG47).trans hG48).trans hG49).trans hG50).trans hG51).trans hG52)) (rc_C ((hc_38).mono ((((((((((((((hG39).trans hG40).trans hG41).trans hG42).trans hG43).trans hG44).trans hG45).trans hG46).trans hG47).trans hG48).trans hG49).trans hG50).trans hG51).trans hG52)) rc_nil))) ?_
 refine m_callE #[iN 0] (some 165) (by kernel_rfl) (c50  hst) ?_
 rintro x53 w1 ⟨G53, hG53, hx53, hst⟩
 refine ⟨hst.ss' ((Le.refl _).trans hG53) (fun _ hp => hp), ?_⟩
 refine m_cl #[.agg #[iN ((vr 0).kind), iN ((vr 0).num), .slice qA38 ((vr 0).kids.length) qc38], x53] (some 166) (c18t (a := vr 0) (b := vr 0) (by decide) ((hx38).mono (((((((((((((((hG39).trans hG40).trans hG41).trans hG42).trans hG43).trans hG44).trans hG45).trans hG46).trans hG47).trans hG48).trans hG49).trans hG50).trans hG51).trans hG52).trans hG53)) (hx53) (same_refl _) hst) ?_
 rintro _ w1 ⟨rfl, hst⟩
 refine nx hst ?_
 refine r_s [3] [(.p, 21), (.p, 22), (.p, 23), (.p, 24), (.p, 25), (.p, 26), (.p, 27), (.p, 28), (.p, 29), (.p, 30), (.l, 31)] [(167, .bool false), (168, .bool false), (169, .bool false), (170, .slice (some ⟨eb52, eo52, none⟩) 1 k52), (171, iN 1), (172, .bool false), (173, .bool false), (174, .bool false), (175, .slice (some ⟨eb52, eo52, none⟩) 1 k52), (176, .pointer (some ⟨eb52, eo52, none⟩)), (177, (aT nt qA52 qc52))] (rc_C ((ha52).mono (hG53)) (rc_C ((hb52).mono (hG53)) (rc_C ((hc_52).mono (hG53)) rc_nil))) ?_
 refine m_callE #[] (some 178) (by kernel_rfl) (c27  hst) ?_
 rintro x54 w1 ⟨G54, hG54, hx54, hst⟩
 refine ⟨hst.ss' ((Le.refl _).trans hG54) (fun _ hp => hp), ?_⟩
 refine m_cl #[(aT nt qA52 qc52), x54] (some 179) (c18t (a := nt) (b := nt) (by decide) ((hx52).mono ((hG53).trans hG54)) (hx54) (same_refl _) hst) ?_
 rintro _ w1 ⟨rfl, hst⟩
 refine nx hst ?_
 refine r_z [(180, .bool false), (181, .bool false)] ?_
 refine W_cF ?_
 refine W_skip ?_
 refine W_seq ?_
 replace hst := hst.weak ((((((((((((((((((((((((((hG29).trans hG30).trans hG31).trans hG32).trans hG33).trans hG34).trans hG35).trans hG36).trans hG37).trans hG38).trans hG39).trans hG40).trans hG41).trans hG42).trans hG43).trans hG44).trans hG45).trans hG46).trans hG47).trans hG48).trans hG49).trans hG50).trans hG51).trans hG52).trans hG53).trans hG54)
 refine W_rg [(.f, 0), (.f, 1), (.f, 2), (.p, 3), (.p, 4), (.p, 5), (.f, 6), (.f, 7), (.p, 8)] hst ?_
 refine m_cl #[iN 0] (some 183) (c52  hst) ?_
 rintro x55 w1 ⟨G55, hG55, hx55, hst⟩
 refine nx hst ?_
 refine m_cl #[x55] (some 184) (c51 (hx55) hst) ?_
 rintro x56 w1 ⟨G56, hG56, hx56, hst⟩
 refine nx hst ?_
 refine m_cl #[.slice none 0 0, x56] (some 185) (c29 (l := []) (IsPolys.nil) (Nat.le_refl _) (by decide) (hx56) (by decide) hst aw8) ?_
 rintro _ w1 ⟨G57, _, hG57, rfl, hx57, hst⟩
 refine nx hst ?_
 obtain ⟨A57, k57, rfl, _, _⟩ := id hx57.open
 refine r_y [(.p, 3), (.p, 4), (.p, 5)] [(182, .tuple #[(aT idt A57 k57), iN 0]), (186, (aT idt A57 k57)), (187, iN 0)] ?_
 refine m_new (.cells #[iN 0, iN 0, .slice none 0 0] 24) (fun b1 => pN b1 0) (some 13) (fun b => by kernel_rfl) hst (fun b1 w1 hst => ?_)
 refine s_0 [(0, iN idt.kind), (1, iN idt.num), (2, .slice A57 idt.kids.length k57)] [iN idt.kind, iN idt.num, .slice A57 idt.kids.length k57] none hst (fun w1 hst => ?_)
 refine r_z [(2, iN 0)] ?_
 refine W_sr [(.f, 0), (.f, 1), (.f, 2), (.f, 3), (.f, 4), (.p, 5), (.p, 6), (.p, 7), (.f, 8), (.f, 9), (.p, 10)] hst ?_
 refine m_cl #[iN 0] (some 189) (c52  hst) ?_
 rintro x58 w1 ⟨G58, hG58, hx58, hst⟩
 refine nx hst ?_
 refine m_cl #[iN 0] (some 190) (c52  hst) ?_
 rintro x59 w1 ⟨G59, hG59, hx59, hst⟩
 refine nx hst ?_
 refine m_cl #[x58, x59] (some 191) (c53 ((hx58).mono (hG59)) (hx59) hst) ?_
 rintro x60 w1 ⟨G60, hG60, hx60, hst⟩
 refine nx hst ?_
 refine m_cl #[x60] (some 192) (c51 (hx60) hst) ?_
 rintro x61 w1 ⟨G61, hG61, hx61, hst⟩
 refine nx hst ?_
 refine m_cl #[.slice none 0 0, x61] (some 193) (c29 (l := []) (IsPolys.nil) (Nat.le_refl _) (by decide) (hx61) (by decide) hst aw9) ?_
 rintro _ w1 ⟨G62, _, hG62, rfl, hx62, hst⟩
 refine nx hst ?_
 obtain ⟨A62, k62, rfl, _, _⟩ := id hx62.open
 refine r_y [(.p, 5), (.p, 6), (.p, 7)] [(188, .tuple #[(aT t0 A62 k62), iN 8]), (194, (aT t0 A62 k62)), (195, iN 8)] ?_
 refine m_new (.cells #[iN 0, iN 0, .slice none 0 0] 24) (fun b2 => pN b2 0) (some 14) (fun b => by kernel_rfl) hst (fun b2 w1 hst => ?_)
 refine s_0 [(0, iN t0.kind), (1, iN t0.num), (2, .slice A62 t0.kids.length k62)] [iN t0.kind, iN t0.num, .slice A62 t0.kids.length k62] none hst (fun w1 hst => ?_)
 refine r_z [(15, iN 8)] ?_
 refine W_sr [(.f, 0), (.f, 1), (.f, 2), (.f, 3), (.f, 4), (.f, 5), (.p, 6), (.p, 7), (.p, 8), (.f, 9), (.f, 10), (.p, 11)] hst ?_
 refine m_cl #[] (some 197) (c48  hst) ?_
 rintro x63 w1 ⟨G63, hG63, hx63, hst⟩
 refine nx hst ?_
 refine m_cl #[iN 0] (some 198) (c52  hst) ?_
 rintro x64 w1 ⟨G64, hG64, hx64, hst⟩
 refine nx hst ?_
 refine m_cl #[iN 0] (some 199) (c52  hst) ?_
 rintro x65 w1 ⟨G65, hG65, hx65, hst⟩
 refine nx hst ?_
 refine m_cl #[x64, x65] (some 200) (c53 ((hx64).mono (hG65)) (hx65) hst) ?_
 rintro x66 w1 ⟨G66, hG66, hx66, hst⟩
 refine nx hst ?_
 refine m_cl #[x63, x66] (some 201) (c54 ((hx63).mono (((hG64).trans hG65).trans hG66)) (hx66) hst) ?_
 rintro x67 w1 ⟨G67, hG67, hx67, hst⟩
 refine nx hst ?_
 refine m_cl #[.slice none 0 0, x67] (some 202) (c29 (l := []) (IsPolys.nil) (Nat.le_refl _) (by decide) (hx67) (by decide) hst aw10) ?_
 rintro _ w1 ⟨G68, _, hG68, rfl, hx68, hst⟩
 refine nx hst ?_
 obtain ⟨A68, k68, rfl, _, _⟩ := id hx68.open
 refine r_y [(.p, 6), (.p, 7), (.p, 8)] [(196, .tuple #[.agg #[iN ((al (fn idt (fn (vr 0) (vr 0)))).kind), iN ((al (fn idt (fn (vr 0) (vr 0)))).num), .slice A68 ((al (fn idt (fn (vr 0) (vr 0)))).kids.length) k68], iN 0]), (203, .agg #[iN ((al (fn idt (fn (vr 0) (vr 0)))).kind), iN ((al (fn idt (fn (vr 0) (vr 0)))).num), .slice A68 ((al (fn idt (fn (vr 0) (vr 0)))).kids.length) k68]), (204, iN 0)] ?_
 refine m_new (.cells #[iN 0, iN 0, .slice none 0 0] 24) (fun b3 => pN b3 0) (some 16) (fun b => by kernel_rfl) hst (fun b3 w1 hst => ?_)
 refine s_0 [(0, iN ((al (fn idt (fn (vr 0) (vr 0)))).kind)), (1, iN ((al (fn idt (fn (vr 0) (vr 0)))).num)), (2, .slice A68 ((al (fn idt (fn (vr 0) (vr 0)))).kids.length) k68)] [iN ((al (fn idt (fn (vr 0) (vr 0)))).kind), iN ((al (fn idt (fn (vr 0) (vr 0)))).num), .slice A68 ((al (fn idt (fn (vr 0) (vr 0)))).kids.length) k68] none hst (fun w1 hst => ?_)
 refine r_z [(6, iN 0)] ?_
 refine W_sr [(.f, 0), (.f, 1), (.f, 2), (.f, 3), (.f, 4), (.f, 5), (.f, 6), (.f, 7), (.f, 8), (.p, 9), (.p, 10), (.p, 11), (.f, 12), (.f, 13), (.p, 14)] hst ?_
 refine m_cl #[] (some 206) (c48  hst) ?_
 rintro x69 w1 ⟨G69, hG69, hx69, hst⟩
 refine nx hst ?_
 refine m_cl #[] (some 207) (c27  hst) ?_
 rintro x70 w1 ⟨G70, hG70, hx70, hst⟩
 refine nx hst ?_
 refine m_cl #[x69, x70] (some 208) (c26 ((hx69).mono (hG70)) (hx70) hst) ?_
 rintro x71 w1 ⟨G71, hG71, hx71, hst⟩
 refine nx hst ?_
 obtain ⟨A71, k71, rfl, _, _⟩ := id hx71.open
 refine m_new (.cells #[iN ((fn idt nt).kind), iN ((fn idt nt).num), .slice A71 ((fn idt nt).kids.length) k71] 24) (fun b4 => .slice (some ⟨b4, 0, none⟩) 1 1) (some 209) (fun b => by kernel_rfl) hst (fun b4 w1 hst => ?_)
 refine m_cl #[iN 0] (some 210) (c52  hst) ?_
 rintro x72 w1 ⟨G72, hG72, hx72, hst⟩
 refine nx hst ?_
 refine m_cl #[iN 0] (some 211) (c52  hst) ?_
 rintro x73 w1 ⟨G73, hG73, hx73, hst⟩
 refine nx hst ?_
 refine m_cl #[x73] (some 212) (c51 (hx73) hst) ?_
 rintro x74 w1 ⟨G74, hG74, hx74, hst⟩
 refine nx hst ?_
 refine m_cl #[x72, x74] (some 213) (c53 ((hx72).mono ((hG73).trans hG74)) (hx74) hst) ?_
 rintro x75 w1 ⟨G75, hG75, hx75, hst⟩
 refine nx hst ?_
 obtain ⟨G76, hG76, hF76, hst⟩ := St.freeze [_] hst
 have hl76 := polys_of (cs := [.int .i64 ((fn idt nt).kind), .int .i64 ((fn idt nt).num), .slice A71 ((fn idt nt).kids.length) k71]) (ts := [fn idt nt]) ⟨((hx71).mono ((((hG72).trans hG73).trans hG74).trans hG75)).mono hG76, trivial⟩ (hF76 _ (.head _))
 refine m_cl #[.slice (some ⟨b4, 0, none⟩) 1 1, x75] (some 214) (c29 (l := [fn idt nt]) hl76 (Nat.le_refl _) (by decide) ((hx75).mono (hG76)) (by decide) hst aw11) ?_
 rintro _ w1 ⟨G77, _, hG77, rfl, hx77, hst⟩
 refine nx hst ?_
 obtain ⟨A77, k77, rfl, _, _⟩ := id hx77.open
 refine r_y [(.p, 9), (.p, 10), (.p, 11)] [(205, .tuple #[(aT nt A77 k77), iN 0]), (215, (aT nt A77 k77)), (216, iN 0)] ?_
 refine m_new (.cells #[iN 0, iN 0, .slice none 0 0] 24) (fun b5 => pN b5 0) (some 17) (fun b => by kernel_rfl) hst (fun b5 w1 hst => ?_)
 refine s_0 [(0, iN nt.kind), (1, iN nt.num), (2, .slice A77 nt.kids.length k77)] [iN nt.kind, iN nt.num, .slice A77 nt.kids.length k77] none hst (fun w1 hst => ?_)
 refine r_z [(8, iN 0)] ?_
 refine W_sr [(.f, 0), (.f, 1), (.f, 2), (.f, 3), (.f, 4), (.f, 5), (.f, 6), (.f, 7), (.f, 8), (.p, 9), (.p, 10), (.p, 11), (.f, 12), (.f, 13), (.p, 14)] hst ?_
 refine m_cl #[] (some 218) (c48  hst) ?_
 rintro x78 w1 ⟨G78, hG78, hx78, hst⟩
 refine nx hst ?_
 refine m_cl #[] (some 219) (c27  hst) ?_
 rintro x79 w1 ⟨G79, hG79, hx79, hst⟩
 refine nx hst ?_
 refine m_cl #[x78, x79] (some 220) (c26 ((hx78).mono (hG79)) (hx79) hst) ?_
 rintro x80 w1 ⟨G80, hG80, hx80, hst⟩
 refine nx hst ?_
 obtain ⟨A80, k80, rfl, _, _⟩ := id hx80.open
 refine m_new (.cells #[iN ((fn idt nt).kind), iN ((fn idt nt).num), .slice A80 ((fn idt nt).kids.length) k80] 24) (fun b6 => .slice (some ⟨b6, 0, none⟩) 1 1) (some 221) (fun b => by kernel_rfl) hst (fun b6 w1 hst => ?_)
 refine m_cl #[iN 0] (some 222) (c52  hst) ?_
 rintro x81 w1 ⟨G81, hG81, hx81, hst⟩
 refine nx hst ?_
 refine m_cl #[iN 3] (some 223) (c55  hst) ?_
 rintro x82 w1 ⟨G82, hG82, hx82, hst⟩
 refine nx hst ?_
 refine m_cl #[x82] (some 224) (c51 (hx82) hst) ?_
 rintro x83 w1 ⟨G83, hG83, hx83, hst⟩
 refine nx hst ?_
 refine m_cl #[x81, x83] (some 225) (c53 ((hx81).mono ((hG82).trans hG83)) (hx83) hst) ?_
 rintro x84 w1 ⟨G84, hG84, hx84, hst⟩
 refine nx hst ?_
 obtain ⟨G85, hG85, hF85, hst⟩ := St.freeze [_] hst
 have hl85 := polys_of (cs := [.int .i64 ((fn idt nt).kind), .int .i64 ((fn idt nt).num), .slice A80 ((fn idt nt).kids.length) k80]) (ts := [fn idt nt]) ⟨((hx80).mono ((((hG81).trans hG82).trans hG83).trans hG84)).mono hG85, trivial⟩ (hF85 _ (.head _))
 refine m_cl #[.slice (some ⟨b6, 0, none⟩) 1 1, x84] (some 226) (c29 (l := [fn idt nt]) hl85 (Nat.le_refl _) (by decide) ((hx84).mono (hG85)) (by decide) hst aw12) ?_
 rintro _ w1 ⟨G86, _, hG86, rfl, hx86, hst⟩
 refine nx hst ?_
 obtain ⟨A86, k86, rfl, _, _⟩ := id hx86.open
 refine r_y [(.p, 9), (.p, 10), (.p, 11)] [(217, .tuple #[(aT t0 A86 k86), iN 8]), (227, (aT t0 A86 k86)), (228, iN 8)] ?_
 refine m_new (.cells #[iN 0, iN 0, .slice none 0 0] 24) (fun b7 => pN b7 0) (some 18) (fun b => by kernel_rfl) hst (fun b7 w1 hst => ?_)
 refine s_0 [(0, iN t0.kind), (1, iN t0.num), (2, .slice A86 t0.kids.length k86)] [iN t0.kind, iN t0.num, .slice A86 t0.kids.length k86] none hst (fun w1 hst => ?_)
 refine r_z [(19, iN 8)] ?_
 refine W_sr [(.f, 0), (.f, 1), (.f, 2), (.f, 3), (.f, 4), (.f, 5), (.f, 6), (.p, 7), (.p, 8), (.p, 9), (.f, 10), (.f, 11), (.p, 12)] hst ?_
 refine m_cl #[iN 0] (some 230) (c52  hst) ?_
 rintro x87 w1 ⟨G87, hG87, hx87, hst⟩
 refine nx hst ?_
 refine m_cl #[x87] (some 231) (c51 (hx87) hst) ?_
 rintro x88 w1 ⟨G88, hG88, hx88, hst⟩
 refine nx hst ?_
 refine m_cl #[] (some 232) (c27  hst) ?_
 rintro x89 w1 ⟨G89, hG89, hx89, hst⟩
 refine nx hst ?_
 refine m_cl #[] (some 233) (c27  hst) ?_
 rintro x90 w1 ⟨G90, hG90, hx90, hst⟩
 refine nx hst ?_
 refine m_cl #[x89, x90] (some 234) (c26 ((hx89).mono (hG90)) (hx90) hst) ?_
 rintro x91 w1 ⟨G91, hG91, hx91, hst⟩
 refine nx hst ?_
 refine m_cl #[x88, x91] (some 235) (c31 ((hx88).mono (((hG89).trans hG90).trans hG91)) (hx91) hst) ?_
 rintro x92 w1 ⟨G92, hG92, hx92, hst⟩
 refine nx hst ?_
 refine m_cl #[.slice none 0 0, x92] (some 236) (c29 (l := []) (IsPolys.nil) (Nat.le_refl _) (by decide) (hx92) (by decide) hst aw13) ?_
 rintro _ w1 ⟨G93, _, hG93, rfl, hx93, hst⟩
 refine nx hst ?_
 obtain ⟨A93, k93, rfl, _, _⟩ := id hx93.open
 refine r_y [(.p, 7), (.p, 8), (.p, 9)] [(229, .tuple #[.agg #[iN ((fn nt nt).kind), iN ((fn nt nt).num), .slice A93 ((fn nt nt).kids.length) k93], iN 0]), (237, .agg #[iN ((fn nt nt).kind), iN ((fn nt nt).num), .slice A93 ((fn nt nt).kids.length) k93]), (238, iN 0)] ?_
 refine m_new (.cells #[iN 0, iN 0, .slice none 0 0] 24) (fun b8 => pN b8 0) (some 20) (fun b => by kernel_rfl) hst (fun b8 w1 hst => ?_)
 refine s_0 [(0, iN ((fn nt nt).kind)), (1, iN ((fn nt nt).num)), (2, .slice A93 ((fn nt nt).kids.length) k93)] [iN ((fn nt nt).kind), iN ((fn nt nt).num), .slice A93 ((fn nt nt).kids.length) k93] none hst (fun w1 hst => ?_)
 refine r_z [(21, iN 0)] ?_
 refine W_seq ?_
 refine W_seq ?_
 refine W_rgd [(.p, 0), (.p, 1), (.p, 2), (.p, 3), (.p, 4), (.p, 5), (.p, 6), (.p, 7), (.p, 8), (.p, 9), (.p, 10), (.p, 11), (.p, 12), (.p, 13), (.p, 14), (.p, 15), (.p, 16), (.p, 17), (.p, 18), (.p, 19), (.p, 20), (.p, 21), (.p, 22), (.l, 23), (.e, 24), (.f, 25), (.p, 26), (.p, 27), (.p, 28), (.l, 29), (.e, 30), (.e, 31), (.e, 32), (.e, 33), (.e, 34), (.e, 35), (.f, 36), (.p, 37), (.p, 38), (.p, 39), (.l, 40), (.e, 41), (.f, 42), (.p, 43), (.p, 44), (.p, 45), (.l, 46), (.e, 47), (.e, 48), (.e, 49), (.f, 50), (.p, 51), (.p, 52)] hst (fun w1 hst => ?_)
 refine r_s [3] [(.p, 0), (.p, 1), (.p, 2), (.p, 3), (.p, 4), (.p, 5), (.p, 6), (.p, 7), (.p, 8), (.p, 9), (.p, 10), (.p, 11), (.p, 12), (.p, 13), (.p, 14), (.p, 15), (.p, 16), (.p, 17), (.p, 18), (.p, 19), (.p, 20), (.p, 21), (.p, 22), (.l, 23)] [(239, iN 0), (240, .bool false), (241, .bool false), (242, iN 8), (243, .bool false), (244, .bool false), (245, .bool false), (246, iN 0), (247, .bool false), (248, .bool false), (249, .bool false), (250, iN 0), (251, .bool false), (252, .bool false), (253, .bool false), (254, iN 8), (255, .bool false), (256, .bool false), (257, .bool false), (258, iN 0), (259, .bool false), (260, .bool false), (261, .bool false), (262, (aT idt A57 k57))] (rc_l 5 0 rfl rfl (rc_l 5 1 rfl rfl (rc_l 5 2 rfl rfl rc_nil))) ?_
 refine m_callE #[] (some 263) (by kernel_rfl) (c48  hst) ?_
 rintro x94 w1 ⟨G94, hG94, hx94, hst⟩
 refine ⟨hst.ss' ((Le.refl _).trans hG94) (fun _ hp => hp), ?_⟩
 refine m_cl #[(aT idt A57 k57), x94] (some 264) (c18t (a := idt) (b := idt) (by decide) ((hx57).mono (((((((((((((((((((((((((((((((((((((hG58).trans hG59).trans hG60).trans hG61).trans hG62).trans hG63).trans hG64).trans hG65).trans hG66).trans hG67).trans hG68).trans hG69).trans hG70).trans hG71).trans hG72).trans hG73).trans hG74).trans hG75).trans hG76).trans hG77).trans hG78).trans hG79).trans hG80).trans hG81).trans hG82).trans hG83).trans hG84).trans hG85).trans hG86).trans hG87).trans hG88).trans hG89).trans hG90).trans hG91).trans hG92).trans hG93).trans hG94)) (hx94) (same_refl _) hst) ?_
 rintro _ w1 ⟨rfl, hst⟩
 refine nx hst ?_
 refine r_s [3] [(.p, 26), (.p, 27), (.p, 28), (.l, 29)] [(265, .bool false), (266, .bool false), (267, .bool false), (268, .agg #[iN ((al (fn idt (fn (vr 0) (vr 0)))).kind), iN ((al (fn idt (fn (vr 0) (vr 0)))).num), .slice A68 ((al (fn idt (fn (vr 0) (vr 0)))).kids.length) k68])] (rc_l 3 0 rfl rfl (rc_l 3 1 rfl rfl (rc_l 3 2 rfl rfl rc_nil))) ?_
 refine m_callE #[] (some 269) (by kernel_rfl) (c48  hst) ?_
 rintro x95 w1 ⟨G95, hG95, hx95, hst⟩
 refine ⟨hst.ss' ((Le.refl _).trans hG95) (fun _ hp => hp), ?_⟩
 refine m_callE #[iN 0] (some 270) (by kernel_rfl) (c50  hst) ?_
 rintro x96 w1 ⟨G96, hG96, hx96, hst⟩
 refine ⟨hst.ss' (((Le.refl _).trans hG95).trans hG96) (fun _ hp => hp), ?_⟩
 refine m_callE #[iN 0] (some 271) (by kernel_rfl) (c50  hst) ?_
 rintro x97 w1 ⟨G97, hG97, hx97, hst⟩
 refine ⟨hst.ss' ((((Le.refl _).trans hG95).trans hG96).trans hG97) (fun _ hp => hp), ?_⟩
 refine m_callE #[x96, x97] (some 272) (by kernel_rfl) (c26 ((hx96).mono (hG97)) (hx97) hst) ?_
 rintro x98 w1 ⟨G98, hG98, hx98, hst⟩
 refine ⟨hst.ss' (((((Le.refl _).trans hG95).trans hG96).trans hG97).trans hG98) (fun _ hp => hp), ?_⟩
 refine m_callE #[x95, x98] (some 273) (by kernel_rfl) (c26 ((hx95).mono (((hG96).trans hG97).trans hG98)) (hx98) hst) ?_
 rintro x99 w1 ⟨G99, hG99, hx99, hst⟩
 refine ⟨hst.ss' ((((((Le.refl _).trans hG95).trans hG96).trans hG97).trans hG98).trans hG99) (fun _ hp => hp), ?_⟩
 refine m_callE #[x99] (some 274) (by kernel_rfl) (c49 (hx99) hst) ?_
 rintro x100 w1 ⟨G100, hG100, hx100, hst⟩
 refine ⟨hst.ss' (((((((Le.refl _).trans hG95).trans hG96).trans hG97).trans hG98).trans hG99).trans hG100) (fun _ hp => hp), ?_⟩
 refine m_cl #[.agg #[iN ((al (fn idt (fn (vr 0) (vr 0)))).kind), iN ((al (fn idt (fn (vr 0) (vr 0)))).num), .slice A68 ((al (fn idt (fn (vr 0) (vr 0)))).kids.length) k68], x100] (some 275) (c18t (a := al (fn idt (fn (vr 0) (vr 0)))) (b := al (fn idt (fn (vr 0) (vr 0)))) (by decide) ((hx68).mono ((((((((((((((((((((((((((((((((hG69).trans hG70).trans hG71).trans hG72).trans hG73).trans hG74).trans hG75).trans hG76).trans hG77).trans hG78).trans hG79).trans hG80).trans hG81).trans hG82).trans hG83).trans hG84).trans hG85).trans hG86).trans hG87).trans hG88).trans hG89).trans hG90).trans hG91).trans hG92).trans hG93).trans hG94).trans hG95).trans hG96).trans hG97).trans hG98).trans hG99).trans hG100)) (hx100) (same_refl _) hst) ?_
 rintro _ w1 ⟨rfl, hst⟩
 refine nx hst ?_
 refine r_s [3] [(.p, 37), (.p, 38), (.p, 39), (.l, 40)] [(276, .bool false), (277, .bool false), (278, .bool false), (279, (aT nt A77 k77))] (rc_l 2 0 rfl rfl (rc_l 2 1 rfl rfl (rc_l 2 2 rfl rfl rc_nil))) ?_
 refine m_callE #[] (some 280) (by kernel_rfl) (c27  hst) ?_
 rintro x101 w1 ⟨G101, hG101, hx101, hst⟩
 refine ⟨hst.ss' ((Le.refl _).trans hG101) (fun _ hp => hp), ?_⟩
 refine m_cl #[(aT nt A77 k77), x101] (some 281) (c18t (a := nt) (b := nt) (by decide) ((hx77).mono ((((((((((((((((((((((((hG78).trans hG79).trans hG80).trans hG81).trans hG82).trans hG83).trans hG84).trans hG85).trans hG86).trans hG87).trans hG88).trans hG89).trans hG90).trans hG91).trans hG92).trans hG93).trans hG94).trans hG95).trans hG96).trans hG97).trans hG98).trans hG99).trans hG100).trans hG101)) (hx101) (same_refl _) hst) ?_
 rintro _ w1 ⟨rfl, hst⟩
 refine nx hst ?_
 refine r_s [3] [(.p, 43), (.p, 44), (.p, 45), (.l, 46)] [(282, .bool false), (283, .bool false), (284, .bool false), (285, .agg #[iN ((fn nt nt).kind), iN ((fn nt nt).num), .slice A93 ((fn nt nt).kids.length) k93])] (rc_l 0 0 rfl rfl (rc_l 0 1 rfl rfl (rc_l 0 2 rfl rfl rc_nil))) ?_
 refine m_callE #[] (some 286) (by kernel_rfl) (c27  hst) ?_
 rintro x102 w1 ⟨G102, hG102, hx102, hst⟩
 refine ⟨hst.ss' ((Le.refl _).trans hG102) (fun _ hp => hp), ?_⟩
 refine m_callE #[] (some 287) (by kernel_rfl) (c27  hst) ?_
 rintro x103 w1 ⟨G103, hG103, hx103, hst⟩
 refine ⟨hst.ss' (((Le.refl _).trans hG102).trans hG103) (fun _ hp => hp), ?_⟩
 refine m_callE #[x102, x103] (some 288) (by kernel_rfl) (c26 ((hx102).mono (hG103)) (hx103) hst) ?_
 rintro x104 w1 ⟨G104, hG104, hx104, hst⟩
 refine ⟨hst.ss' ((((Le.refl _).trans hG102).trans hG103).trans hG104) (fun _ hp => hp), ?_⟩
 refine m_cl #[.agg #[iN ((fn nt nt).kind), iN ((fn nt nt).num), .slice A93 ((fn nt nt).kids.length) k93], x104] (some 289) (c18t (a := fn nt nt) (b := fn nt nt) (by decide) ((hx93).mono (((((((((((hG94).trans hG95).trans hG96).trans hG97).trans hG98).trans hG99).trans hG100).trans hG101).trans hG102).trans hG103).trans hG104)) (hx104) (same_refl _) hst) ?_
 rintro _ w1 ⟨rfl, hst⟩
 refine nx hst ?_
 refine r_z [(290, .bool false), (291, .bool false)] ?_
 refine W_cF ?_
 refine W_skip ?_
 refine W_seq ?_
 refine W_seq ?_
 replace hst := hst.weak ((((((((((((((((((((((((((((((((((((((((((((((((((hG55).trans hG56).trans hG57).trans hG58).trans hG59).trans hG60).trans hG61).trans hG62).trans hG63).trans hG64).trans hG65).trans hG66).trans hG67).trans hG68).trans hG69).trans hG70).trans hG71).trans hG72).trans hG73).trans hG74).trans hG75).trans hG76).trans hG77).trans hG78).trans hG79).trans hG80).trans hG81).trans hG82).trans hG83).trans hG84).trans hG85).trans hG86).trans hG87).trans hG88).trans hG89).trans hG90).trans hG91).trans hG92).trans hG93).trans hG94).trans hG95).trans hG96).trans hG97).trans hG98).trans hG99).trans hG100).trans hG101).trans hG102).trans hG103).trans hG104)
 refine W_rg [(.p, 0), (.p, 1), (.p, 2), (.p, 3), (.p, 4), (.p, 5), (.f, 6), (.p, 7), (.p, 8)] hst ?_
 refine r_y [(.p, 0), (.p, 1), (.p, 2), (.p, 3), (.p, 4), (.p, 5)] [(292, .agg #[.string (bs [98]), iN 0]), (293, .agg #[.string (bs [97]), iN 1]), (294, .agg #[.string (bs [97, 108, 108, 32, 98, 46, 32, 98]), iN 4]), (295, .agg #[.string (bs [40, 78, 41]), iN 2]), (296, .agg #[.string (bs [78, 32, 45, 62, 32]), iN 5]), (297, .agg #[.string (bs [78, 32, 45, 62, 78]), iN 4])] ?_
 refine m_new (.cells #[.string (bs [98]), iN 0, .string (bs [97]), iN 1, .string (bs [97, 108, 108, 32, 98, 46, 32, 98]), iN 4, .string (bs [40, 78, 41]), iN 2, .string (bs [78, 32, 45, 62, 32]), iN 5, .string (bs [78, 32, 45, 62, 78]), iN 4] 81) (fun b9 => .slice (some ⟨b9, 0, none⟩) 6 6) (some 298) (fun b => by kernel_rfl) hst (fun b9 w1 hst => ?_)
 refine r_z [(299, iN 6), (300, iN 0)] ?_
 refine W_block ?_
 refine W_loop (fun m ρ D w => D = [] ∧ ((m = 6 ∧ EqS ρ [(298, .slice (some ⟨b9, 0, none⟩) 6 6), (299, iN 6), (300, iN 0)] ∧ St G ((b9, .cells #[.string (bs [98]), iN 0, .string (bs [97]), iN 1, .string (bs [97, 108, 108, 32, 98, 46, 32, 98]), iN 4, .string (bs [40, 78, 41]), iN 2, .string (bs [78, 32, 45, 62, 32]), iN 5, .string (bs [78, 32, 45, 62, 78]), iN 4] 81) :: (b8, .cells #[iN ((fn nt nt).kind), iN ((fn nt nt).num), .slice A93 ((fn nt nt).kids.length) k93] 24) :: (b7, cT t0 A86 k86) :: (b5, cT nt A77 k77) :: (b3, .cells #[iN ((al (fn idt (fn (vr 0) (vr 0)))).kind), iN ((al (fn idt (fn (vr 0) (vr 0)))).num), .slice A68 ((al (fn idt (fn (vr 0) (vr 0)))).kids.length) k68] 24) :: (b2, cT t0 A62 k62) :: (b1, cT idt A57 k57) :: L) w) ∨ ((m = 5 ∧ EqS ρ [(298, .slice (some ⟨b9, 0, none⟩) 6 6), (299, iN 6), (300, iN 1)] ∧ St G ((b9, .cells #[.string (bs [98]), iN 0, .string (bs [97]), iN 1, .string (bs [97, 108, 108, 32, 98, 46, 32, 98]), iN 4, .string (bs [40, 78, 41]), iN 2, .string (bs [78, 32, 45, 62, 32]), iN 5, .string (bs [78, 32, 45, 62, 78]), iN 4] 81) :: (b8, .cells #[iN ((fn nt nt).kind), iN ((fn nt nt).num), .slice A93 ((fn nt nt).kids.length) k93] 24) :: (b7, cT t0 A86 k86) :: (b5, cT nt A77 k77) :: (b3, .cells #[iN ((al (fn idt (fn (vr 0) (vr 0)))).kind), iN ((al (fn idt (fn (vr 0) (vr 0)))).num), .slice A68 ((al (fn idt (fn (vr 0) (vr 0)))).kids.length) k68] 24) :: (b2, cT t0 A62 k62) :: (b1, cT idt A57 k57) :: L) w) ∨ ((m = 4 ∧ EqS ρ [(298, .slice (some ⟨b9, 0, none⟩) 6 6), (299, iN 6), (300, iN 2)] ∧ St G ((b9, .cells #[.string (bs [98]), iN 0, .string (bs [97]), iN 1, .string (bs [97, 108, 108, 32, 98, 46, 32, 98]), iN 4, .string (bs [40, 78, 41]), iN 2, .string (bs [78, 32, 45, 62, 32]), iN 5, .string (bs [78, 32, 45, 62, 78]), iN 4] 81) :: (b8, .cells #[iN ((fn nt nt).kind), iN ((fn nt nt).num), .slice A93 ((fn nt nt).kids.length) k93] 24) :: (b7, cT t0 A86 k86) :: (b5, cT nt A77 k77) :: (b3, .cells #[iN ((al (fn idt (fn (vr 0) (vr 0)))).kind), iN ((al (fn idt (fn (vr 0) (vr 0)))).num), .slice A68 ((al (fn idt (fn (vr 0) (vr 0)))).kids.length) k68] 24) :: (b2, cT t0 A62 k62) :: (b1, cT idt A57 k57) :: L) w) ∨ ((m = 3 ∧ EqS ρ [(298, .slice (some ⟨b9, 0, none⟩) 6 6), (299, iN 6), (300, iN 3)] ∧ St G ((b9, .cells #[.string (bs [98]), iN 0, .string (bs [97]), iN 1, .string (bs [97, 108, 108, 32, 98, 46, 32, 98]), iN 4, .string (bs [40, 78, 41]), iN 2, .string (bs [78, 32, 45, 62, 32]), iN 5, .string (bs [78, 32, 45, 62, 78]), iN 4] 81) :: (b8, .cells #[iN ((fn nt nt).kind), iN ((fn nt nt).num), .slice A93 ((fn nt nt).kids.length) k93] 24) :: (b7, cT t0 A86 k86) :: (b5, cT nt A77 k77) :: (b3, .cells #[iN ((al (fn idt (fn (vr 0) (vr 0)))).kind), iN ((al (fn idt (fn (vr 0) (vr 0)))).num), .slice A68 ((al (fn idt (fn (vr 0) (vr 0)))).kids.length) k68] 24) :: (b2, cT t0 A62 k62) :: (b1, cT idt A57 k57) :: L) w) ∨ ((m = 2 ∧ EqS ρ [(298, .slice (some ⟨b9, 0, none⟩) 6 6), (299, iN 6), (300, iN 4)] ∧ St G ((b9, .cells #[.string (bs [98]), iN 0, .string (bs [97]), iN 1, .string (bs [97, 108, 108, 32, 98, 46, 32, 98]), iN 4, .string (bs [40, 78, 41]), iN 2, .string (bs [78, 32, 45, 62, 32]), iN 5, .string (bs [78, 32, 45, 62, 78]), iN 4] 81) :: (b8, .cells #[iN ((fn nt nt).kind), iN ((fn nt nt).num), .slice A93 ((fn nt nt).kids.length) k93] 24) :: (b7, cT t0 A86 k86) :: (b5, cT nt A77 k77) :: (b3, .cells #[iN ((al (fn idt (fn (vr 0) (vr 0)))).kind), iN ((al (fn idt (fn (vr 0) (vr 0)))).num), .slice A68 ((al (fn idt (fn (vr 0) (vr 0)))).kids.length) k68] 24) :: (b2, cT t0 A62 k62) :: (b1, cT idt A57 k57) :: L) w) ∨ ((m = 1 ∧ EqS ρ [(298, .slice (some ⟨b9, 0, none⟩) 6 6), (299, iN 6), (300, iN 5)] ∧ St G ((b9, .cells #[.string (bs [98]), iN 0, .string (bs [97]), iN 1, .string (bs [97, 108, 108, 32, 98, 46, 32, 98]), iN 4, .string (bs [40, 78, 41]), iN 2, .string (bs [78, 32, 45, 62, 32]), iN 5, .string (bs [78, 32, 45, 62, 78]), iN 4] 81) :: (b8, .cells #[iN ((fn nt nt).kind), iN ((fn nt nt).num), .slice A93 ((fn nt nt).kids.length) k93] 24) :: (b7, cT t0 A86 k86) :: (b5, cT nt A77 k77) :: (b3, .cells #[iN ((al (fn idt (fn (vr 0) (vr 0)))).kind), iN ((al (fn idt (fn (vr 0) (vr 0)))).num), .slice A68 ((al (fn idt (fn (vr 0) (vr 0)))).kids.length) k68] 24) :: (b2, cT t0 A62 k62) :: (b1, cT idt A57 k57) :: L) w) ∨ ((m = 0 ∧ EqS ρ [(298, .slice (some ⟨b9, 0, none⟩) 6 6), (299, iN 6), (300, iN 6)] ∧ St G ((b9, .cells #[.string (bs [98]), iN 0, .string (bs [97]), iN 1, .string (bs [97, 108, 108, 32, 98, 46, 32, 98]), iN 4, .string (bs [40, 78, 41]), iN 2, .string (bs [78, 32, 45, 62, 32]), iN 5, .string (bs [78, 32, 45, 62, 78]), iN 4] 81) :: (b8, .cells #[iN ((fn nt nt).kind), iN ((fn nt nt).num), .slice A93 ((fn nt nt).kids.length) k93] 24) :: (b7, cT t0 A86 k86) :: (b5, cT nt A77 k77) :: (b3, .cells #[iN ((al (fn idt (fn (vr 0) (vr 0)))).kind), iN ((al (fn idt (fn (vr 0) (vr 0)))).num), .slice A68 ((al (fn idt (fn (vr 0) (vr 0)))).kids.length) k68] 24) :: (b2, cT t0 A62 k62) :: (b1, cT idt A57 k57) :: L) w))))))))) 6 ⟨rfl, .inl (⟨rfl, ⟨by kernel_rfl, by kernel_rfl, by kernel_rfl, trivial⟩, hst⟩)⟩ ?_
 clear hst; rintro m ρ D w1 ⟨rfl, ⟨rfl, hE, hst⟩ | ⟨rfl, hE, hst⟩ | ⟨rfl, hE, hst⟩ | ⟨rfl, hE, hst⟩ | ⟨rfl, hE, hst⟩ | ⟨rfl, hE, hst⟩ | ⟨rfl, hE, hst⟩⟩
 ·refine W_env hE ?_
  refine W_sr [(.p, 0)] hst ?_
  refine r_z [(301, .bool true)] ?_
  refine W_seq ?_
  refine W_cT ?_
  refine W_skip ?_
  refine W_seq ?_
  refine W_block ?_
  refine W_sr [(.p, 0), (.l, 1), (.f, 2), (.f, 3)] hst ?_
  refine r_s [2] [(.p, 0), (.l, 1)] [(302, pN b9 0), (303, .agg #[.string (bs [98]), iN 0])] (rc_l 0 0 rfl rfl (rc_l 0 1 rfl rfl rc_nil)) ?_
  refine m_new (.cells #[.string (bs []), iN 0] 81) (fun b22 => pN b22 0) (some 23) (fun b => by kernel_rfl) hst (fun b22 w1 hst => ?_)
  refine s_0 [(0, .string (bs [98])), (1, iN 0)] [.string (bs [98]), iN 0] none hst (fun w1 hst => ?_)
  refine r_nil ?_
  refine W_sr [(.p, 0), (.l, 1), (.f, 2), (.p, 3), (.p, 4), (.p, 5), (.p, 6), (.f, 7), (.f, 8), (.p, 9), (.p, 10)] hst ?_
  refine r_s [1] [(.p, 0), (.l, 1)] [(305, pN b22 0), (306, .string (bs [98]))] (rc_l 0 0 rfl rfl rc_nil) ?_
  refine m_cl #[.string (bs [98])] (some 307) (c16 (by decide) hst aw14) ?_
  rintro _ w1 ⟨G111, zA, zc, rfl, hG111, _, hst⟩
  refine nx hst ?_
  refine r_y [(.p, 3), (.p, 4), (.p, 5), (.p, 6)] [(304, .tuple #[(aT t0 zA zc), iN 0, iN 4]), (308, (aT t0 zA zc)), (309, iN 0), (310, iN 4)] ?_
  refine m_new (.cells #[iN 0, iN 0, .slice none 0 0] 24) (fun b23 => pN b23 0) (some 24) (fun b => by kernel_rfl) hst (fun b23 w1 hst => ?_)
  refine s_0 [(0, iN t0.kind), (1, iN t0.num), (2, .slice zA t0.kids.length zc)] [iN t0.kind, iN t0.num, .slice zA t0.kids.length zc] none hst (fun w1 hst => ?_)
  refine r_z [(25, iN 0), (26, iN 4)] ?_
  refine W_sr [(.p, 0), (.p, 1), (.l, 2), (.p, 3), (.p, 4), (.p, 5), (.p, 6), (.p, 7)] hst ?_
  refine r_x [1] [(311, iN 0), (312, pN b22 1), (313, iN 0), (314, .bool false), (315, .bool false), (316, iN 4), (317, .bool false), (318, .bool false)] (rc_l 1 1 rfl rfl rc_nil) ?_
  refine W_cF ?_
  refine W_skip ?_
  replace hst := hst.weak (hG111)
  have hst := hst.drop [_, _]
  refine W_rg [(.p, 0), (.p, 1)] hst ?_
  refine r_z [(319, iN 1), (300, iN 1)] ?_
  exact ⟨5, by decide, rfl, .inr (.inl (⟨rfl, ⟨by kernel_rfl, by kernel_rfl, by kernel_rfl, trivial⟩, hst⟩))⟩
 ·refine W_env hE ?_
  refine W_sr [(.p, 0)] hst ?_
  refine r_z [(301, .bool true)] ?_
  refine W_seq ?_
  refine W_cT ?_
  refine W_skip ?_
  refine W_seq ?_
  refine W_block ?_
  refine W_sr [(.p, 0), (.l, 1), (.f, 2), (.f, 3)] hst ?_
  refine r_s [2] [(.p, 0), (.l, 1)] [(302, pN b9 2), (303, .agg #[.string (bs [97]), iN 1])] (rc_l 0 2 rfl rfl (rc_l 0 3 rfl rfl rc_nil)) ?_
  refine m_new (.cells #[.string (bs []), iN 0] 81) (fun b24 => pN b24 0) (some 23) (fun b => by kernel_rfl) hst (fun b24 w1 hst => ?_)
  refine s_0 [(0, .string (bs [97])), (1, iN 1)] [.string (bs [97]), iN 1] none hst (fun w1 hst => ?_)
  refine r_nil ?_
  refine W_sr [(.p, 0), (.l, 1), (.f, 2), (.p, 3), (.p, 4), (.p, 5), (.p, 6), (.f, 7), (.f, 8), (.p, 9), (.p, 10)] hst ?_
  refine r_s [1] [(.p, 0), (.l, 1)] [(305, pN b24 0), (306, .string (bs [97]))] (rc_l 0 0 rfl rfl rc_nil) ?_
  refine m_cl #[.string (bs [97])] (some 307) (c16 (by decide) hst aw15) ?_
  rintro _ w1 ⟨G112, zA, zc, rfl, hG112, _, hst⟩
  refine nx hst ?_
  refine r_y [(.p, 3), (.p, 4), (.p, 5), (.p, 6)] [(304, .tuple #[(aT t0 zA zc), iN 1, iN 4]), (308, (aT t0 zA zc)), (309, iN 1), (310, iN 4)] ?_
  refine m_new (.cells #[iN 0, iN 0, .slice none 0 0] 24) (fun b25 => pN b25 0) (some 24) (fun b => by kernel_rfl) hst (fun b25 w1 hst => ?_)
  refine s_0 [(0, iN t0.kind), (1, iN t0.num), (2, .slice zA t0.kids.length zc)] [iN t0.kind, iN t0.num, .slice zA t0.kids.length zc] none hst (fun w1 hst => ?_)
  refine r_z [(25, iN 1), (26, iN 4)] ?_
  refine W_sr [(.p, 0), (.p, 1), (.l, 2), (.p, 3), (.p, 4), (.p, 5), (.p, 6), (.p, 7)] hst ?_
  refine r_x [1] [(311, iN 1), (312, pN b24 1), (313, iN 1), (314, .bool false), (315, .bool false), (316, iN 4), (317, .bool false), (318, .bool false)] (rc_l 1 1 rfl rfl rc_nil) ?_
  refine W_cF ?_
  refine W_skip ?_
  replace hst := hst.weak (hG112)
  have hst := hst.drop [_, _]
  refine W_rg [(.p, 0), (.p, 1)] hst ?_
  refine r_z [(319, iN 2), (300, iN 2)] ?_
  exact ⟨4, by decide, rfl, .inr (.inr (.inl (⟨rfl, ⟨by kernel_rfl, by kernel_rfl, by kernel_rfl, trivial⟩, hst⟩)))⟩
 ·refine W_env hE ?_
  refine W_sr [(.p, 0)] hst ?_
  refine r_z [(301, .bool true)] ?_
  refine W_seq ?_
  refine W_cT ?_
  refine W_skip ?_
  refine W_seq ?_
  refine W_block ?_
  refine W_sr [(.p, 0), (.l, 1), (.f, 2), (.f, 3)] hst ?_
  refine r_s [2] [(.p, 0), (.l, 1)] [(302, pN b9 4), (303, .agg #[.string (bs [97, 108, 108, 32, 98, 46, 32, 98]), iN 4])] (rc_l 0 4 rfl rfl (rc_l 0 5 rfl rfl rc_nil)) ?_
  refine m_new (.cells #[.string (bs []), iN 0] 81) (fun b26 => pN b26 0) (some 23) (fun b => by kernel_rfl) hst (fun b26 w1 hst => ?_)
  refine s_0 [(0, .string (bs [97, 108, 108, 32, 98, 46, 32, 98])), (1, iN 4)] [.string (bs [97, 108, 108, 32, 98, 46, 32, 98]), iN 4] none hst (fun w1 hst => ?_)
  refine r_nil ?_
  refine W_sr [(.p, 0), (.l, 1), (.f, 2), (.p, 3), (.p, 4), (.p, 5), (.p, 6), (.f, 7), (.f, 8), (.p, 9), (.p, 10)] hst ?_
  refine r_s [1] [(.p, 0), (.l, 1)] [(305, pN b26 0), (306, .string (bs [97, 108, 108, 32, 98, 46, 32, 98]))] (rc_l 0 0 rfl rfl rc_nil) ?_
  refine m_cl #[.string (bs [97, 108, 108, 32, 98, 46, 32, 98])] (some 307) (c16 (by decide) hst aw16) ?_
  rintro _ w1 ⟨G113, zA, zc, rfl, hG113, _, hst⟩
  refine nx hst ?_
  refine r_y [(.p, 3), (.p, 4), (.p, 5), (.p, 6)] [(304, .tuple #[(aT t0 zA zc), iN 4, iN 4]), (308, (aT t0 zA zc)), (309, iN 4), (310, iN 4)] ?_
  refine m_new (.cells #[iN 0, iN 0, .slice none 0 0] 24) (fun b27 => pN b27 0) (some 24) (fun b => by kernel_rfl) hst (fun b27 w1 hst => ?_)
  refine s_0 [(0, iN t0.kind), (1, iN t0.num), (2, .slice zA t0.kids.length zc)] [iN t0.kind, iN t0.num, .slice zA t0.kids.length zc] none hst (fun w1 hst => ?_)
  refine r_z [(25, iN 4), (26, iN 4)] ?_
  refine W_sr [(.p, 0), (.p, 1), (.l, 2), (.p, 3), (.p, 4), (.p, 5), (.p, 6), (.p, 7)] hst ?_
  refine r_x [1] [(311, iN 4), (312, pN b26 1), (313, iN 4), (314, .bool false), (315, .bool false), (316, iN 4), (317, .bool false), (318, .bool false)] (rc_l 1 1 rfl rfl rc_nil) ?_
  refine W_cF ?_
  refine W_skip ?_
  replace hst := hst.weak (hG113)
  have hst := hst.drop [_, _]
  refine W_rg [(.p, 0), (.p, 1)] hst ?_
  refine r_z [(319, iN 3), (300, iN 3)] ?_
  exact ⟨3, by decide, rfl, .inr (.inr (.inr (.inl (⟨rfl, ⟨by kernel_rfl, by kernel_rfl, by kernel_rfl, trivial⟩, hst⟩))))⟩
 ·refine W_env hE ?_
  refine W_sr [(.p, 0)] hst ?_
  refine r_z [(301, .bool true)] ?_
  refine W_seq ?_
  refine W_cT ?_
  refine W_skip ?_
  refine W_seq ?_
  refine W_block ?_
  refine W_sr [(.p, 0), (.l, 1), (.f, 2), (.f, 3)] hst ?_
  refine r_s [2] [(.p, 0), (.l, 1)] [(302, pN b9 6), (303, .agg #[.string (bs [40, 78, 41]), iN 2])] (rc_l 0 6 rfl rfl (rc_l 0 7 rfl rfl rc_nil)) ?_
  refine m_new (.cells #[.string (bs []), iN 0] 81) (fun b28 => pN b28 0) (some 23) (fun b => by kernel_rfl) hst (fun b28 w1 hst => ?_)
  refine s_0 [(0, .string (bs [40, 78, 41])), (1, iN 2)] [.string (bs [40, 78, 41]), iN 2] none hst (fun w1 hst => ?_)
  refine r_nil ?_
  refine W_sr [(.p, 0), (.l, 1), (.f, 2), (.p, 3), (.p, 4), (.p, 5), (.p, 6), (.f, 7), (.f, 8), (.p, 9), (.p, 10)] hst ?_
  refine r_s [1] [(.p, 0), (.l, 1)] [(305, pN b28 0), (306, .string (bs [40, 78, 41]))] (rc_l 0 0 rfl rfl rc_nil) ?_
  refine m_cl #[.string (bs [40, 78, 41])] (some 307) (c16 (by decide) hst aw17) ?_
  rintro _ w1 ⟨G114, zA, zc, rfl, hG114, _, hst⟩
  refine nx hst ?_
  refine r_y [(.p, 3), (.p, 4), (.p, 5), (.p, 6)] [(304, .tuple #[(aT t0 zA zc), iN 2, iN 4]), (308, (aT t0 zA zc)), (309, iN 2), (310, iN 4)] ?_
  refine m_new (.cells #[iN 0, iN 0, .slice none 0 0] 24) (fun b29 => pN b29 0) (some 24) (fun b => by kernel_rfl) hst (fun b29 w1 hst => ?_)
  refine s_0 [(0, iN t0.kind), (1, iN t0.num), (2, .slice zA t0.kids.length zc)] [iN t0.kind, iN t0.num, .slice zA t0.kids.length zc] none hst (fun w1 hst => ?_)
  refine r_z [(25, iN 2), (26, iN 4)] ?_
  refine W_sr [(.p, 0), (.p, 1), (.l, 2), (.p, 3), (.p, 4), (.p, 5), (.p, 6), (.p, 7)] hst ?_
  refine r_x [1] [(311, iN 2), (312, pN b28 1), (313, iN 2), (314, .bool false), (315, .bool false), (316, iN 4), (317, .bool false), (318, .bool false)] (rc_l 1 1 rfl rfl rc_nil) ?_
  refine W_cF ?_
  refine W_skip ?_
  replace hst := hst.weak (hG114)
  have hst := hst.drop [_, _]
  refine W_rg [(.p, 0), (.p, 1)] hst ?_
  refine r_z [(319, iN 4), (300, iN 4)] ?_
  exact ⟨2, by decide, rfl, .inr (.inr (.inr (.inr (.inl (⟨rfl, ⟨by kernel_rfl, by kernel_rfl, by kernel_rfl, trivial⟩, hst⟩)))))⟩
 ·refine W_env hE ?_
  refine W_sr [(.p, 0)] hst ?_
  refine r_z [(301, .bool true)] ?_
  refine W_seq ?_
  refine W_cT ?_
  refine W_skip ?_
  refine W_seq ?_
  refine W_block ?_
  refine W_sr [(.p, 0), (.l, 1), (.f, 2), (.f, 3)] hst ?_
  refine r_s [2] [(.p, 0), (.l, 1)] [(302, pN b9 8), (303, .agg #[.string (bs [78, 32, 45, 62, 32]), iN 5])] (rc_l 0 8 rfl rfl (rc_l 0 9 rfl rfl rc_nil)) ?_
  refine m_new (.cells #[.string (bs []), iN 0] 81) (fun b30 => pN b30 0) (some 23) (fun b => by kernel_rfl) hst (fun b30 w1 hst => ?_)
  refine s_0 [(0, .string (bs [78, 32, 45, 62, 32])), (1, iN 5)] [.string (bs [78, 32, 45, 62, 32]), iN 5] none hst (fun w1 hst => ?_)
  refine r_nil ?_
  refine W_sr [(.p, 0), (.l, 1), (.f, 2), (.p, 3), (.p, 4), (.p, 5), (.p, 6), (.f, 7), (.f, 8), (.p, 9), (.p, 10)] hst ?_
  refine r_s [1] [(.p, 0), (.l, 1)] [(305, pN b30 0), (306, .string (bs [78, 32, 45, 62, 32]))] (rc_l 0 0 rfl rfl rc_nil) ?_
  refine m_cl #[.string (bs [78, 32, 45, 62, 32])] (some 307) (c16 (by decide) hst aw18) ?_
  rintro _ w1 ⟨G115, zA, zc, rfl, hG115, _, hst⟩
  refine nx hst ?_
  refine r_y [(.p, 3), (.p, 4), (.p, 5), (.p, 6)] [(304, .tuple #[(aT t0 zA zc), iN 5, iN 4]), (308, (aT t0 zA zc)), (309, iN 5), (310, iN 4)] ?_
  refine m_new (.cells #[iN 0, iN 0, .slice none 0 0] 24) (fun b31 => pN b31 0) (some 24) (fun b => by kernel_rfl) hst (fun b31 w1 hst => ?_)
  refine s_0 [(0, iN t0.kind), (1, iN t0.num), (2, .slice zA t0.kids.length zc)] [iN t0.kind, iN t0.num, .slice zA t0.kids.length zc] none hst (fun w1 hst => ?_)
  refine r_z [(25, iN 5), (26, iN 4)] ?_
  refine W_sr [(.p, 0), (.p, 1), (.l, 2), (.p, 3), (.p, 4), (.p, 5), (.p, 6), (.p, 7)] hst ?_
  refine r_x [1] [(311, iN 5), (312, pN b30 1), (313, iN 5), (314, .bool false), (315, .bool false), (316, iN 4), (317, .bool false), (318, .bool false)] (rc_l 1 1 rfl rfl rc_nil) ?_
  refine W_cF ?_
  refine W_skip ?_
  replace hst := hst.weak (hG115)
  have hst := hst.drop [_, _]
  refine W_rg [(.p, 0), (.p, 1)] hst ?_
  refine r_z [(319, iN 5), (300, iN 5)] ?_
  exact ⟨1, by decide, rfl, .inr (.inr (.inr (.inr (.inr (.inl (⟨rfl, ⟨by kernel_rfl, by kernel_rfl, by kernel_rfl, trivial⟩, hst⟩))))))⟩
 ·refine W_env hE ?_
  refine W_sr [(.p, 0)] hst ?_
  refine r_z [(301, .bool true)] ?_
  refine W_seq ?_
  refine W_cT ?_
  refine W_skip ?_
  refine W_seq ?_
  refine W_block ?_
  refine W_sr [(.p, 0), (.l, 1), (.f, 2), (.f, 3)] hst ?_
  refine r_s [2] [(.p, 0), (.l, 1)] [(302, pN b9 10), (303, .agg #[.string (bs [78, 32, 45, 62, 78]), iN 4])] (rc_l 0 10 rfl rfl (rc_l 0 11 rfl rfl rc_nil)) ?_
  refine m_new (.cells #[.string (bs []), iN 0] 81) (fun b32 => pN b32 0) (some 23) (fun b => by kernel_rfl) hst (fun b32 w1 hst => ?_)
  refine s_0 [(0, .string (bs [78, 32, 45, 62, 78])), (1, iN 4)] [.string (bs [78, 32, 45, 62, 78]), iN 4] none hst (fun w1 hst => ?_)
  refine r_nil ?_
  refine W_sr [(.p, 0), (.l, 1), (.f, 2), (.p, 3), (.p, 4), (.p, 5), (.p, 6), (.f, 7), (.f, 8), (.p, 9), (.p, 10)] hst ?_
  refine r_s [1] [(.p, 0), (.l, 1)] [(305, pN b32 0), (306, .string (bs [78, 32, 45, 62, 78]))] (rc_l 0 0 rfl rfl rc_nil) ?_
  refine m_cl #[.string (bs [78, 32, 45, 62, 78])] (some 307) (c16 (by decide) hst aw19) ?_
  rintro _ w1 ⟨G116, zA, zc, rfl, hG116, _, hst⟩
  refine nx hst ?_
  refine r_y [(.p, 3), (.p, 4), (.p, 5), (.p, 6)] [(304, .tuple #[(aT t0 zA zc), iN 4, iN 4]), (308, (aT t0 zA zc)), (309, iN 4), (310, iN 4)] ?_
  refine m_new (.cells #[iN 0, iN 0, .slice none 0 0] 24) (fun b33 => pN b33 0) (some 24) (fun b => by kernel_rfl) hst (fun b33 w1 hst => ?_)
  refine s_0 [(0, iN t0.kind), (1, iN t0.num), (2, .slice zA t0.kids.length zc)] [iN t0.kind, iN t0.num, .slice zA t0.kids.length zc] none hst (fun w1 hst => ?_)
  refine r_z [(25, iN 4), (26, iN 4)] ?_
  refine W_sr [(.p, 0), (.p, 1), (.l, 2), (.p, 3), (.p, 4), (.p, 5), (.p, 6), (.p, 7)] hst ?_
  refine r_x [1] [(311, iN 4), (312, pN b32 1), (313, iN 4), (314, .bool false), (315, .bool false), (316, iN 4), (317, .bool false), (318, .bool false)] (rc_l 1 1 rfl rfl rc_nil) ?_
  refine W_cF ?_
  refine W_skip ?_
  replace hst := hst.weak (hG116)
  have hst := hst.drop [_, _]
  refine W_rg [(.p, 0), (.p, 1)] hst ?_
  refine r_z [(319, iN 6), (300, iN 6)] ?_
  exact ⟨0, by decide, rfl, .inr (.inr (.inr (.inr (.inr (.inr (⟨rfl, ⟨by kernel_rfl, by kernel_rfl, by kernel_rfl, trivial⟩, hst⟩))))))⟩
 refine W_env hE ?_
 refine W_sr [(.p, 0)] hst ?_
 refine r_z [(301, .bool false)] ?_
 refine W_seq ?_
 refine W_cF ?_
 refine W_exit ?_
 refine W_sr [(.f, 0), (.f, 1), (.f, 2), (.f, 3), (.p, 4), (.p, 5), (.p, 6), (.p, 7), (.p, 8)] hst ?_
 refine m_cl #[] (some 321) (c48  hst) ?_
 rintro x117 w1 ⟨G117, hG117, hx117, hst⟩
 refine nx hst ?_
 refine m_cl #[] (some 322) (c27  hst) ?_
 rintro x118 w1 ⟨G118, hG118, hx118, hst⟩
 refine nx hst ?_
 refine m_cl #[x117, x118] (some 323) (c26 ((hx117).mono (hG118)) (hx118) hst) ?_
 rintro x119 w1 ⟨G119, hG119, hx119, hst⟩
 refine nx hst ?_
 refine m_cl #[x119] (some 324) (c14 (hx119) (by decide) hst aw20) ?_
 rintro _ w1 ⟨G120, hG120, rfl, hst⟩
 refine nx hst ?_
 refine r_z [(320, .tuple #[.string (bs [40, 97, 108, 108, 32, 97, 46, 32, 97, 32, 45, 62, 32, 97, 41, 32, 45, 62, 32, 78]), iN 0]), (325, .string (bs [40, 97, 108, 108, 32, 97, 46, 32, 97, 32, 45, 62, 32, 97, 41, 32, 45, 62, 32, 78])), (326, iN 0), (27, .string (bs [40, 97, 108, 108, 32, 97, 46, 32, 97, 32, 45, 62, 32, 97, 41, 32, 45, 62, 32, 78])), (2, iN 0)] ?_
 refine W_sr [(.p, 0), (.p, 1), (.p, 2), (.p, 3), (.p, 4), (.p, 5), (.p, 6)] hst ?_
 refine r_z [(327, iN 0), (328, .bool true), (329, .bool true), (330, .string (bs [40, 97, 108, 108, 32, 97, 46, 32, 97, 32, 45, 62, 32, 97, 41, 32, 45, 62, 32, 78])), (331, .bool true), (332, .bool true), (0, .bool true)] ?_
 refine W_ret ?_
 refine q_rt [] [] (.bool true) rc_nil hst ?_
 replace hst := hst.weak ((((hG117).trans hG118).trans hG119).trans hG120)
 exact ⟨rfl, hst.drop [_, _, _, _, _, _, _]⟩

end Go.Proofs.Ytjgnhhgigickaaa.Wk
/- The plain laws behind RankTexts: whether a type is right, its text, and the type of a text, are in the program as in the reference. Conditions: none. -/

namespace Go.Proofs.Ytjgnhhgigickaaa.Wk
open Go Md

theorem w64_def (x : Int) : w64 x = (x + 9223372036854775808) % 18446744073709551616 - 9223372036854775808 := by
  unfold w64
  simp only [IntKind.wrap, IntKind.bits, IntKind.signed]
  simp
  split <;> omega
theorem w64_id {x : Int} (h : -9223372036854775808 ≤ x) (h2 : x < 9223372036854775808) : w64 x = x := by rw [w64_def]; omega
theorem w64_l (a b : Int) : w64 (w64 a + b) = w64 (a + b) := by simp only [w64_def]; omega
/-! ### right -/
theorem kidsOk_eq {k : Int} {n : Nat} (h : 1 ≤ k) (h2 : k ≤ 4) : (kidsOk k n = false) ↔ (n : Int) ≠ wantsR k := by
  unfold kidsOk wantsR
  by_cases h1 : k = 1
  · subst h1; simp
  by_cases h22 : k = 2
  · subst h22; simp
  by_cases h3 : k = 3
  · subst h3; simp; try omega
  by_cases h4 : k = 4
  · subst h4; simp; try omega
  omega
/-- well formed, as far as kinds and Kids go -/
def wfn (k : Int) (n : Nat) : Prop := (k = 1 ∨ k = 2) ∧ n = 0 ∨ k = 3 ∧ n = 2 ∨ k = 4 ∧ n = 1
mutual
def wf : T → Prop
  | .mk k _ ks => wfn k ks.length ∧ wfs ks
def wfs : List T → Prop
  | [] => True
  | t :: ts => wf t ∧ wfs ts
end
theorem rtNode_eq {ar n m k num wi : Int} {len : Nat} (hm : m ≤ 12) (hw : wi = w64 (ar + n)) :
    rtNode ar n m k num len = (if m ≥ 12 then 2 else if k < 1 ∨ k > 4 ∨ num < 0 ∨ (num > 0 ∧ k ≠ 1) then 3 else if (len : Int) ≠ wantsR k then 4 else if k = 1 ∧ num ≥ wi then 1 else 0) := by
  unfold rtNode
  rw [← hw]
  by_cases h1 : m = 12
  · rw [if_pos h1, if_pos (by omega)]
  rw [if_neg h1, if_neg (show ¬ m ≥ 12 by omega)]
  by_cases h2 : k < 1 ∨ k > 4 ∨ num < 0 ∨ (num > 0 ∧ k ≠ 1)
  · rw [if_pos h2, if_pos h2]
  rw [if_neg h2, if_neg h2]
  have h3 := kidsOk_eq (k := k) (n := len) (by omega) (by omega)
  by_cases h4 : kidsOk k len = false
  · rw [if_pos h4, if_pos (h3.1 h4)]
  · rw [if_neg h4, if_neg (fun h => h4 (h3.2 h))]
mutual
theorem rt_eq : ∀ (t : T) {n ar m wi : Int}, 0 ≤ m → m ≤ 12 → wi = w64 (ar + n) → (rtWalk n ar m t).1 = (rR t m wi).2 ∧ ((rtWalk n ar m t).1 = 0 → (rtWalk n ar m t).2 = (rR t m wi).1 ∧ (rtWalk n ar m t).2 = m + (nds t : Int) ∧ (rtWalk n ar m t).2 ≤ 12 ∧ wf t)
  | .mk k num ks, n, ar, m, wi, h0, h1, hw => by
    have hn := rtNode_eq (k := k) (num := num) (len := ks.length) h1 hw
    unfold rtWalk rR
    dsimp only
    rw [hn]
    by_cases c1 : m ≥ 12
    · simp only [if_pos c1]; rw [if_neg (by decide)]; exact ⟨rfl, fun h => by simp at h⟩
    simp only [if_neg c1]
    by_cases c2 : k < 1 ∨ k > 4 ∨ num < 0 ∨ (num > 0 ∧ k ≠ 1)
    · simp only [if_pos c2]; rw [if_neg (by decide)]; exact ⟨rfl, fun h => by simp at h⟩
    simp only [if_neg c2]
    by_cases c3 : (ks.length : Int) ≠ wantsR k
    · simp only [if_pos c3]; rw [if_neg (by decide)]; exact ⟨rfl, fun h => by simp at h⟩
    simp only [if_neg c3]
    by_cases c4 : k = 1 ∧ num ≥ wi
    · simp only [if_pos c4]; rw [if_neg (by decide)]; exact ⟨rfl, fun h => by simp at h⟩
    simp only [if_neg c4, if_true]
    have hm1 : w64 (m + 1) = m + 1 := w64_id (by omega) (by omega)
    rw [hm1]
    have hwi : (if k = 4 then w64 (wi + 1) else wi) = w64 ((if k = 4 then w64 (ar + 1) else ar) + n) := by
      split
      · rw [hw, w64_l, w64_l]; congr 1; omega
      · exact hw
    have ih := rts_eq ks (n := n) (ar := if k = 4 then w64 (ar + 1) else ar) (m := m + 1) (wi := if k = 4 then w64 (wi + 1) else wi) (by omega) (by omega) hwi
    refine ⟨ih.1, fun h => ?_⟩
    obtain ⟨a1, a2, a3, a4⟩ := ih.2 h
    refine ⟨a1, ?_, a3, ?_⟩
    · rw [a2]; unfold nds; omega
    · unfold wf
      refine ⟨?_, a4⟩
      unfold wfn
      have c3 : (ks.length : Int) = wantsR k := Classical.byContradiction c3
      unfold wantsR at c3
      split at c3
      · omega
      · split at c3 <;> omega
theorem rts_eq : ∀ (ts : List T) {n ar m wi : Int}, 0 ≤ m → m ≤ 12 → wi = w64 (ar + n) → (rtList n ar m ts).1 = (rRs ts m wi).2 ∧ ((rtList n ar m ts).1 = 0 → (rtList n ar m ts).2 = (rRs ts m wi).1 ∧ (rtList n ar m ts).2 = m + (ndss ts : Int) ∧ (rtList n ar m ts).2 ≤ 12 ∧ wfs ts)
  | [], n, ar, m, wi, h0, h1, hw => by
    unfold rtList rRs
    exact ⟨rfl, fun _ => ⟨rfl, by unfold ndss; simp, h1, by unfold wfs; trivial⟩⟩
  | t :: ts, n, ar, m, wi, h0, h1, hw => by
    have i1 := rt_eq t (n := n) (ar := ar) (m := m) (wi := wi) h0 h1 hw
    unfold rtList rRs
    dsimp only
    by_cases c : (rtWalk n ar m t).1 = 0
    · obtain ⟨a1, a2, a3, a4⟩ := i1.2 c
      rw [if_pos c, if_neg (by rw [← i1.1]; exact fun h => h c)]
      have i2 := rts_eq ts (n := n) (ar := ar) (m := (rtWalk n ar m t).2) (wi := wi) (by omega) a3 hw
      rw [← a1]
      refine ⟨i2.1, fun h => ?_⟩
      obtain ⟨b1, b2, b3, b4⟩ := i2.2 h
      exact ⟨b1, by unfold ndss; omega, b3, by unfold wfs; exact ⟨a4, b4⟩⟩
    · rw [if_neg c, if_pos (by rw [← i1.1]; exact c)]
      exact ⟨i1.1, fun h => absurd h c⟩
end
theorem right_eq (t : T) (n : Int) : right t n = rRight t n := by
  unfold right rRight
  split
  · rfl
  · rename_i h
    exact (rt_eq t (n := n) (ar := 0) (m := 0) (wi := n) (by decide) (by decide) (by rw [w64_id (by omega) (by omega)]; omega)).1
theorem right_wf {t : T} {n : Int} (h : right t n = 0) : wf t ∧ nds t ≤ 12 := by
  unfold right at h
  split at h
  · cases h
  · rename_i hn
    obtain ⟨_, a, b, c⟩ := (rt_eq t (n := n) (ar := 0) (m := 0) (wi := n) (by decide) (by decide) (by rw [w64_id (by omega) (by omega)]; omega)).2 h
    exact ⟨c, by omega⟩
theorem closed_one (t : T) : closed [t] = rRight t 0 := by
  unfold closed
  rw [right_eq]
  split
  · rename_i h; rw [h]; rfl
  · rfl

/-! ### texts -/
mutual
theorem sz_nds : ∀ (t : T), T.sz t + 1 ≤ 2 * nds t
  | .mk _ _ ks => by unfold T.sz nds; have := szs_ndss ks; omega
theorem szs_ndss : ∀ (ts : List T), T.szs ts ≤ 2 * ndss ts
  | [] => by unfold T.szs ndss; omega
  | t :: ts => by unfold T.szs ndss; have := sz_nds t; have := szs_ndss ts; omega
end
end Go.Proofs.Ytjgnhhgigickaaa.Wk
