/- The texts W29 M2 W30 W31 W32 W33 K15 W34 W35 M3 M4 K16 M5 W37 W38 W39 K18 W40 W41 M6 W43 W44 W45, joined by wip/tools/squeeze.py: contracts of the given program's functions and plain laws. Conditions: each theorem's own. -/
import Derived.Test.YtjgnhhgigickaaaF4
import Derived.Test.YtjgnhhgigickaaaRows
import Derived.ProofKit
set_option linter.all false


namespace Go.Proofs.Ytjgnhhgigickaaa.Wk
open Go Md
set_option maxRecDepth 20000
attribute [local irreducible] endQ

theorem word_step : ∀ (l s : List UInt8) (at_ : Nat), (word l s at_).1 = true → (word l s at_).2 = at_ + l.length
 | [], _, _, _ => rfl
 | c :: l, s, at_, h => by
  unfold word at h ⊢
  split
  ·rename_i hc; rw [if_pos hc] at h; rw [word_step l s _ h]; simp only [List.length_cons]; omega
  ·rename_i hc; rw [if_neg hc] at h; cases h
theorem typ_sz : ∀ (f : Nat), (∀ {s : List UInt8} {at_ at2 : Nat} {n : Int} {i : Bool} {t : T}, Md.typ f s at_ n i = some ((t, true), at2) → T.sz t + at_ ≤ at2) ∧
  (∀ {s : List UInt8} {at_ at2 : Nat} {n : Int} {i m : Bool} {u t : T}, Md.rest f s at_ n i m u = some ((t, true), at2) → T.sz t + at_ ≤ at2 + T.sz u) ∧
  (∀ {s : List UInt8} {at_ at2 : Nat} {n : Int} {i : Bool} {t : T}, Md.quantifier f s at_ n i = some ((t, true), at2) → T.sz t + at_ ≤ at2)
 | 0 => ⟨(fun h => nomatch h), (fun h => nomatch h), (fun h => nomatch h)⟩
 | f + 1 => by
  have ih := typ_sz f
  refine ⟨fun {s at_ at2 n i t} h => ?_, fun {s at_ at2 n i m u t} h => ?_, fun {s at_ at2 n i t} h => ?_⟩
  ·unfold Md.typ at h
   dsimp only at h
   split at h
   ·have := ih.2.1 h; simp only [T.sz, T.szs] at this; omega
   split at h
   ·obtain ⟨⟨⟨q, qb⟩, a⟩, hq, h⟩ := Option.bind_eq_some_iff.1 h
    dsimp only at h
    split at h
    ·cases h
    split at h
    ·cases h
    rename_i h1 h2
    have hw := word_step _ _ _ (by simpa using h2)
    have := ih.2.1 h
    cases qb
    ·exact absurd (Or.inl rfl) h1
    have := ih.1 hq
    rw [hw] at *; simp only [List.length_cons, List.length_nil] at *; omega
   split at h
   ·exact ih.2.2 h
   split at h
   ·have := ih.2.1 h; simp only [T.sz, T.szs] at this; omega
   ·cases h
  ·unfold Md.rest at h
   split at h
   ·cases h; omega
   split at h
   ·cases h
   rename_i _ h2
   have hw := word_step _ _ _ (by simpa using h2)
   obtain ⟨⟨⟨q, qb⟩, a⟩, hq, h⟩ := Option.bind_eq_some_iff.1 h
   dsimp only at h
   cases h
   have := ih.1 hq
   rw [hw] at this
   simp only [List.length_cons, List.length_nil, T.sz, T.szs] at *; omega
  unfold Md.quantifier at h
  dsimp only at h
  split at h
  ·cases h
  split at h
  ·cases h
  split at h
  ·cases h
  rename_i h1 h2 h3
  have w1 := word_step _ _ _ (by simpa using h1)
  have w2 := word_step _ _ _ (by simpa using h2)
  have w3 := word_step _ _ _ (by simpa using h3)
  obtain ⟨⟨⟨q, qb⟩, a⟩, hq, h⟩ := Option.bind_eq_some_iff.1 h
  dsimp only at h
  cases h
  have := ih.1 hq
  rw [w3, w2, w1] at this
  simp only [List.length_cons, List.length_nil, T.sz, T.szs] at *; omega

theorem c16 {f : Nat} {G : GH} {L : LH} {w : World} {s : List UInt8} {t : T} {a e : Int} (hs : s.length < lim) (H : St G L w) (h : Md.Parse f s = some ((t, a), e)) :
  Cal Try.prog 16 #[.string (bs s)] w fun x w' => ∃ G' A c, x = .tuple #[.agg #[.int .i64 t.kind, .int .i64 t.num, .slice A t.kids.length c], .int .i64 a, .int .i64 e] ∧ Le G G' ∧ IsPoly G' (.agg #[.int .i64 t.kind, .int .i64 t.num, .slice A t.kids.length c]) t ∧ St G' L w' := by
 have hlim : lim = 1099511627776 := rfl
 unfold Md.Parse at h
 refine cal_of_W Try.func16 rfl (Nat.le_of_ble_eq_true e_) ?_;refine W_sr [(.f, 0), (.p, 1), (.p, 2)] H ?_;refine m_nw oT 2 H (fun b1 w1 H => ?_);refine r_z [(3, iN 0), (4, iN 0)] ?_;refine W_seq ?_;refine W_sr (pL 3) H ?_;refine r_z [(9, .string (bs s)), (10, nN s.length), (11, .bool (decide ((((s.length : Nat) : Int)) > 65536)))] ?_;refine W_cd (b := decide ((((s.length : Nat) : Int)) > 65536)) (fun hc2 => ?_) (fun hc2 => ?_)
 ·skip
  have hln : ((s.length : Nat) : Int) > 65536 := by simpa using hc2
  rw [if_pos hln] at h; simp only [o_j, p_j] at h; obtain ⟨⟨rfl, rfl⟩, rfl⟩ := h
  refine W_sr [(.p, 0), (.f, 1), (.p, 2), (.p, 3)] H ?_;refine r_y [(.p, 0)] [(12, .agg #[iN 0, iN 0, .slice none 0 0])] ?_;refine s_0 [(0, iN 0), (1, iN 0), (2, .slice none 0 0)] [iN 0, iN 0, .slice none 0 0] none H (fun w1 H => ?_);refine r_z [(3, iN 0), (4, iN 11)] ?_;refine W_ret ?_;refine q_rt [iN 0, iN 0, .slice none 0 0] [(⟨b1, 0, none⟩, iN 0), (⟨b1, 1, none⟩, iN 0), (⟨b1, 2, none⟩, .slice none 0 0)] (.tuple #[.agg #[iN 0, iN 0, .slice none 0 0], iN 0, iN 11]) (rc_L 0 rfl rfl (rc_L 0 rfl rfl (rc_L 0 rfl rfl rc_nil))) H ?_
  exact ⟨G, _, _, rfl, Le.refl _, (IsPoly.mk (t := t0) (Nat.le_refl _) IsPolys.nil), H.drop [_]⟩
 have hln : ¬ ((s.length : Nat) : Int) > 65536 := by simpa using hc2
 rw [if_neg hln] at h;refine W_skip ?_;refine W_sr [(.p, 0), (.p, 1), (.f, 2), (.p, 3)] H ?_;refine r_y [(.p, 0), (.p, 1)] [(13, .string (bs s)), (14, .agg #[.string (bs s), iN 0])] ?_;refine m_nw (.cells #[.string (bs s), iN 0] 87) 15 H (fun b3 w1 H => ?_);refine r_z [(5, pN b3 0)] ?_;refine W_sr [(.p, 0), (.f, 1), (.p, 2), (.p, 3), (.p, 4), (.f, 5), (.f, 6), (.p, 7)] H ?_;refine r_y [(.p, 0)] [(17, pN b3 0)] ?_
 obtain ⟨⟨⟨q, qb⟩, ar⟩, hq, h⟩ := Option.bind_eq_some_iff.1 h; dsimp only at h
 refine m_cl #[pN b3 0, iN 0, .bool false] (some 18) (c59 f (Nat.zero_le _) hs (by decide) (by decide) H hq) ?_;rintro _ w1 ⟨G1, qA, qc, rfl, hG1, hqp, hatq, hqk, H⟩;refine nx H ?_;refine r_y [(.p, 2), (.p, 3), (.p, 4)] [(16, .tuple #[(aT q qA qc), .bool qb]), (19, (aT q qA qc)), (20, .bool qb)] ?_;refine m_nw oT 6 H (fun b4 w1 H => ?_);refine s_0 [(0, iN q.kind), (1, iN q.num), (2, .slice qA q.kids.length qc)] [iN q.kind, iN q.num, .slice qA q.kids.length qc] none H (fun w1 H => ?_);refine r_z [(7, .bool qb)] ?_;cases qb
 ·skip
  rw [if_pos rfl] at h; simp only [o_j, p_j] at h; obtain ⟨⟨rfl, rfl⟩, rfl⟩ := h
  refine W_seq ?_;refine W_sr (pL 2) H ?_;refine r_z [(21, .bool false), (22, .bool true)] ?_;refine W_cT ?_;refine W_seq ?_;refine W_rgd [(.p, 0), (.p, 1), (.p, 2), (.p, 3), (.l, 4), (.e, 5), (.p, 6), (.p, 7)] H (fun w1 H => ?_);refine r_s [1] [(.p, 0), (.p, 1), (.p, 2), (.p, 3), (.l, 4)] [(23, .agg #[iN 0, iN 0, .slice none 0 0]), (24, pN b3 0), (25, pN b3 0), (26, pN b3 1), (27, nN ar)] (rc_l 1 1 rfl rfl rc_nil) ?_;refine m_storeE (L' := (b4, cT q qA qc) :: (b3, .cells #[.string (bs s), nN ar] 87) :: (b1, oT) :: L) 2 [(0, iN 0), (1, iN 0), (2, .slice none 0 0)] [iN 0, iN 0, .slice none 0 0] none e_ H rfl e_ rfl rfl (fun _ h => h.ss' (Le.refl _) (fun _ hp => hp)) (fun w1 H => ?_);refine r_z [(3, nN ar), (4, iN 4)] ?_;refine W_ret ?_;refine q_rt [iN 0, iN 0, .slice none 0 0] [(⟨b1, 0, none⟩, iN 0), (⟨b1, 1, none⟩, iN 0), (⟨b1, 2, none⟩, .slice none 0 0)] (.tuple #[.agg #[iN 0, iN 0, .slice none 0 0], nN ar, iN 4]) (rc_L 2 rfl rfl (rc_L 2 rfl rfl (rc_L 2 rfl rfl rc_nil))) H ?_
  exact ⟨G1, _, _, rfl, hG1, (IsPoly.mk (t := t0) (Nat.le_refl _) IsPolys.nil), H.drop [_, _, _]⟩
 rw [if_neg (by decide)] at h;refine W_seq ?_;refine W_sr (pL 2) H ?_;refine r_z [(21, .bool true), (22, .bool false)] ?_;refine W_cF ?_;refine W_skip ?_;refine W_seq ?_;refine W_sr [(.l, 0), (.f, 1), (.f, 2), (.p, 3)] H ?_;refine r_s [3] [(.l, 0)] [(28, (aT q qA qc))] (rc_l 0 0 rfl rfl (rc_l 0 1 rfl rfl (rc_l 0 2 rfl rfl rc_nil))) ?_;refine m_new (cT q qA qc) (fun b5 => sN b5 0 1 1) (some 29) (fun b => by kernel_rfl) H (fun b5 w1 H => ?_);obtain ⟨G2, hG2, hF6, H⟩ := St.freeze [_] H
 have hfs := hF6 _ (.head _)
 have hcl56 := c56 (ts := [q]) (c := 1) (polys_of (cs := [.int .i64 q.kind, .int .i64 q.num, .slice qA q.kids.length qc]) ⟨(hqp).mono hG2, trivial⟩ hfs) (Nat.le_refl _) (by have := (typ_sz f).1 hq; rw [T.sz1]; omega) H
 refine m_cl #[sN b5 0 1 1] (some 30) (hcl56) ?_;rintro _ w1 ⟨G2', hG2', rfl, H⟩;replace hfs := hG2' _ _ hfs;refine nx H ?_;refine r_z [(8, iN (closed [q]))] ?_;refine W_sr (pL 2) H ?_;refine r_z [(31, iN (closed [q])), (32, .bool ((closed [q]) != 0))] ?_;refine W_cd (b := (closed [q]) != 0) (fun hc7 => ?_) (fun hc7 => ?_)
 ·skip
  have hcl : closed [q] ≠ 0 := by simpa using hc7
  rw [if_pos hcl] at h; simp only [o_j, p_j] at h; obtain ⟨⟨rfl, rfl⟩, rfl⟩ := h
  refine W_sr [(.p, 0), (.p, 1), (.f, 2), (.p, 3), (.p, 4)] H ?_;refine r_y [(.p, 0), (.p, 1)] [(33, .agg #[iN 0, iN 0, .slice none 0 0]), (34, iN (closed [q]))] ?_;refine s_2 [(0, iN 0), (1, iN 0), (2, .slice none 0 0)] [iN 0, iN 0, .slice none 0 0] none H (fun w1 H => ?_);refine r_z [(3, iN 0), (4, iN (closed [q]))] ?_;refine W_ret ?_;refine q_rt [iN 0, iN 0, .slice none 0 0] [(⟨b1, 0, none⟩, iN 0), (⟨b1, 1, none⟩, iN 0), (⟨b1, 2, none⟩, .slice none 0 0)] (.tuple #[.agg #[iN 0, iN 0, .slice none 0 0], iN 0, iN (closed [q])]) (rc_L 2 rfl rfl (rc_L 2 rfl rfl (rc_L 2 rfl rfl rc_nil))) H ?_
  exact ⟨G2', _, _, rfl, (hG1.trans hG2).trans hG2', (IsPoly.mk (t := t0) (Nat.le_refl _) IsPolys.nil), H.drop [_, _, _]⟩
 have hcl : ¬ closed [q] ≠ 0 := by simpa using hc7
 rw [if_neg hcl] at h; simp only [o_j, p_j] at h; obtain ⟨⟨rfl, rfl⟩, rfl⟩ := h
 refine W_skip ?_;refine W_sr [(.l, 0), (.f, 1), (.p, 2), (.p, 3)] H ?_;refine r_s [3] [(.l, 0)] [(35, (aT q qA qc))] (rc_l 0 0 rfl rfl (rc_l 0 1 rfl rfl (rc_l 0 2 rfl rfl rc_nil))) ?_;refine s_2 [(0, iN q.kind), (1, iN q.num), (2, .slice qA q.kids.length qc)] [iN q.kind, iN q.num, .slice qA q.kids.length qc] none H (fun w1 H => ?_);refine r_z [(3, iN 0), (4, iN 0)] ?_;refine W_ret ?_;refine q_rt [iN q.kind, iN q.num, .slice qA q.kids.length qc] [(⟨b1, 0, none⟩, iN q.kind), (⟨b1, 1, none⟩, iN q.num), (⟨b1, 2, none⟩, .slice qA q.kids.length qc)] (.tuple #[.agg #[iN q.kind, iN q.num, .slice qA q.kids.length qc], iN 0, iN 0]) (rc_L 2 rfl rfl (rc_L 2 rfl rfl (rc_L 2 rfl rfl rc_nil))) H ?_
 exact ⟨G2', _, _, rfl, (hG1.trans hG2).trans hG2', ((hqp.mono hG2).mono hG2'), H.drop [_, _, _]⟩

end Go.Proofs.Ytjgnhhgigickaaa.Wk

namespace Go.Proofs.Ytjgnhhgigickaaa.Md
open Go Wk

/-! ### the law's counting -/
mutual
def cnt : T → Int → Int → Int
  | .mk _ _ ks, m, d => if d > 60 then 1000 else cnts ks (m + 1) (d + 1)
def cnts : List T → Int → Int → Int
  | [], m, _ => m
  | t :: ts, m, d => if m ≤ 40 then cnts ts (cnt t m d) d else m
end
mutual
def nds : T → Nat
  | .mk _ _ ks => ndss ks + 1
def ndss : List T → Nat
  | [] => 0
  | t :: ts => nds t + ndss ts
end

/-! ### right types, as the reference looks at them -/
def wantsR (k : Int) : Int := if k = 4 then 1 else if k = 3 then 2 else 0
mutual
def rR : T → Int → Int → Int × Int
  | .mk k num ks, b, wi =>
    if b ≥ 12 then (b, 2)
    else if k < 1 ∨ k > 4 ∨ num < 0 ∨ (num > 0 ∧ k ≠ 1) then (b, 3)
    else if (ks.length : Int) ≠ wantsR k then (b, 4)
    else if k = 1 ∧ num ≥ wi then (b, 1)
    else rRs ks (w64 (b + 1)) (if k = 4 then w64 (wi + 1) else wi)
def rRs : List T → Int → Int → Int × Int
  | [], b, _ => (b, 0)
  | t :: ts, b, wi => if (rR t b wi).2 ≠ 0 then rR t b wi else rRs ts (rR t b wi).1 wi
end
def rRight (t : T) (n : Int) : Int := if n < 0 ∨ n > 26 then 3 else (rR t 0 n).2

/-! ### texts -/
def rletter (n : Int) : List UInt8 := [byt (w64 (97 + n))]
def rprinted : Nat → T → Int → Option (List UInt8)
  | 0, _, _ => none
  | f + 1, t, n =>
    if t.kind = 1 then some (rletter (w64 (w64 (n - 1) - t.num)))
    else if t.kind = 4 then
      match t.kids with
      | a :: _ => (rprinted f a (w64 (n + 1))).bind fun s => cap ((([97, 108, 108, 32] ++ rletter n) ++ [46, 32]) ++ s)
      | [] => none
    else if t.kind = 3 then
      match t.kids with
      | a :: b :: _ => (rprinted f a n).bind fun s => (rprinted f b n).bind fun r => cap (((if a.kind = 3 ∨ a.kind = 4 then ([40] ++ s) ++ [41] else s) ++ [32, 45, 62, 32]) ++ r)
      | _ => none
    else some [78]
def rPrint (f : Nat) (t : T) : Option (List UInt8 × Int) := if rRight t 0 ≠ 0 then some ([], rRight t 0) else (rprinted f t 0).bind fun s => some (s, 0)

mutual
/-- a type's text, as the reference reads it: the tree, whether something is wrong, and where -/
def rtyped : Nat → List UInt8 → Nat → Int → Option ((T × Bool) × Nat)
  | 0, _, _, _ => none
  | f + 1, s, at_, n =>
    if s[at_]? = some 97 ∧ n ≠ 26 ∧ (n = 0 ∨ s[at_ + 1]? = some 108) then rall f s at_ n
    else (rsimple f s at_ n).bind fun q =>
      if q.1.2 = true ∨ (s[at_]? ≠ some 40 ∧ s[q.2]? ≠ some 32) then some q
      else if (word [32, 45, 62, 32] s q.2).1 = false then some ((q.1.1, true), (word [32, 45, 62, 32] s q.2).2)
      else (rtyped f s (word [32, 45, 62, 32] s q.2).2 n).bind fun p => some ((.mk 3 0 [q.1.1, p.1.1], p.1.2), p.2)
def rall : Nat → List UInt8 → Nat → Int → Option ((T × Bool) × Nat)
  | 0, _, _, _ => none
  | f + 1, s, at_, n =>
    if (word [97, 108, 108, 32] s at_).1 = false then some ((t0, true), (word [97, 108, 108, 32] s at_).2)
    else if (word (rletter n ++ [46, 32]) s (word [97, 108, 108, 32] s at_).2).1 = false then some ((t0, true), (word (rletter n ++ [46, 32]) s (word [97, 108, 108, 32] s at_).2).2)
    else (rtyped f s (word (rletter n ++ [46, 32]) s (word [97, 108, 108, 32] s at_).2).2 (w64 (n + 1))).bind fun q => some ((.mk 4 0 [q.1.1], q.1.2), q.2)
def rsimple : Nat → List UInt8 → Nat → Int → Option ((T × Bool) × Nat)
  | 0, _, _, _ => none
  | f + 1, s, at_, n =>
    if s[at_]? = some 78 then some ((.mk 2 0 [], false), at_ + 1)
    else if s[at_]? = some 40 then
      (rtyped f s (at_ + 1) n).bind fun q =>
        if q.1.2 = false ∧ q.1.1.kind ≠ 3 ∧ q.1.1.kind ≠ 4 then some ((q.1.1, true), q.2)
        else if q.1.2 = true then some ((q.1.1, true), q.2)
        else some ((q.1.1, !(word [41] s q.2).1), (word [41] s q.2).2)
    else match s[at_]? with
      | none => some ((t0, true), at_)
      | some c => if c ≥ 97 ∧ ((c - 97).toNat : Int) < n then some ((.mk 1 (w64 (w64 (n - 1) - ((c - 97).toNat : Int))) [], false), at_ + 1) else some ((t0, true), at_)
end
def rParse (f : Nat) (s : List UInt8) : Option ((T × Int) × Int) :=
  if (s.length : Int) > 65536 then some ((t0, 0), 11)
  else (rtyped f s 0 0).bind fun q =>
    if q.1.2 = true ∨ q.2 < s.length then some ((t0, (q.2 : Int)), 4)
    else if rRight q.1.1 0 ≠ 0 then some ((t0, 0), rRight q.1.1 0)
    else some ((q.1.1, 0), 0)
end Go.Proofs.Ytjgnhhgigickaaa.Md

namespace Go.Proofs.Ytjgnhhgigickaaa.Wk
open Go Md
set_option maxRecDepth 20000
attribute [local irreducible] endQ

theorem same_eq (a b : T) : same a b = (a.kind == b.kind && a.num == b.num && sames a.kids b.kids) := by cases a; cases b; rfl
theorem sames_len : ∀ {xs ys : List T}, sames xs ys = true → xs.length = ys.length
 | [], [], _ => rfl
 | [], _ :: _, h => by cases h
 | _ :: _, [], h => by cases h
 | a :: xs, b :: ys, h => by
  unfold sames at h
  rw [Bool.and_eq_true] at h
  simp [sames_len h.2]
theorem same_kind {a b : T} (h : (a.kind != b.kind) = true) : same a b = false := by
 rw [same_eq]; have : (a.kind == b.kind) = false := by simpa using h
 rw [this]; rfl
theorem same_num {a b : T} (h : (a.num != b.num) = true) : same a b = false := by
 rw [same_eq]; have : (a.num == b.num) = false := by simpa using h
 rw [this]; simp
theorem same_len {a b : T} (h : (((a.kids.length : Nat) : Int) != ((b.kids.length : Nat) : Int)) = true) : same a b = false := by
 rw [same_eq]
 have : sames a.kids b.kids = false := by
  cases hx : sames a.kids b.kids
  ·rfl
  ·have := sames_len hx; rw [this] at h; simp at h
 rw [this]; simp
theorem same_kids {a b : T} (h1 : (a.kind != b.kind) = false) (h2 : (a.num != b.num) = false) (h3 : (((a.kids.length : Nat) : Int) != ((b.kids.length : Nat) : Int)) = false) : same a b = sames a.kids b.kids ∧ a.kids.length = b.kids.length := by
 rw [same_eq]
 have e1 : (a.kind == b.kind) = true := by simpa using h1
 have e2 : (a.num == b.num) = true := by simpa using h2
 have e3 : ((a.kids.length : Nat) : Int) = ((b.kids.length : Nat) : Int) := by simpa using h3
 rw [e1, e2]; exact ⟨rfl, by omega⟩
mutual
theorem same_refl : ∀ (a : T), same a a = true
 | .mk k n ks => by unfold same; simp [sames_refl ks]
theorem sames_refl : ∀ (xs : List T), sames xs xs = true
 | [] => rfl
 | a :: xs => by unfold sames; simp [same_refl a, sames_refl xs]
end

theorem c18 : ∀ (f : Nat) {G : GH} {L : LH} {w : World} {va vb : Value} {a b : T}, T.sz a < f → T.sz a < lim → IsPoly G va a → IsPoly G vb b → St G L w → Cal Try.prog 18 #[va, vb] w fun x w' => x = .bool (same a b) ∧ St G L w' := by
 intro f
 induction f with
 | zero => intro G L w va vb a b h; omega
 | succ f ih =>
 intro G L w va vb a b hf hz hva hvb H
 have hlim : lim = 1099511627776 := rfl
 have hln := T.len_le a
 obtain ⟨aA, ac, rfl, hac, hak⟩ := id hva.open;obtain ⟨bA, bc, rfl, hbc, hbk⟩ := id hvb.open;refine cal_of_W Try.func18 rfl (Nat.le_of_ble_eq_true e_) ?_;refine W_sr [(.f, 0), (.f, 1), (.p, 2)] H ?_;refine m_nw (cT a aA ac) 2 H (fun b1 w1 H => ?_);refine m_nw (cT b bA bc) 3 H (fun b2 w1 H => ?_);refine r_z [(4, .bool false)] ?_;refine W_seq ?_;refine W_sr [(.p, 0), (.l, 1), (.p, 2), (.l, 3), (.p, 4), (.p, 5), (.p, 6), (.l, 7), (.p, 8), (.l, 9), (.p, 10), (.p, 11), (.p, 12), (.p, 13), (.l, 14), (.p, 15), (.p, 16), (.l, 17), (.p, 18), (.p, 19), (.p, 20)] H ?_;refine r_s [1, 1] [(.p, 0), (.l, 1), (.p, 2), (.l, 3), (.p, 4), (.p, 5)] [(6, pN b1 0), (7, iN a.kind), (8, pN b2 0), (9, iN b.kind), (10, .bool (a.kind != b.kind)), (11, .bool (a.kind != b.kind))] (rc_l 1 0 rfl rfl (rc_l 0 0 rfl rfl rc_nil)) ?_
 rcases Bool.eq_false_or_eq_true (a.kind != b.kind) with hc3 | hc3
 ·rw [hc3]
  have hr := same_kind hc3
  refine r_z (uD 12 5 [(17, .bool true), (18, .bool true), (19, undef), (20, undef), (21, undef), (22, undef), (23, undef), (24, undef), (25, undef), (26, .bool true)]) ?_;refine W_cT ?_;refine W_sr [(.p, 0)] H ?_;refine r_z [(4, .bool false)] ?_;refine W_ret ?_;refine q_rt [] [] (.bool false) rc_nil H ?_
  exact ⟨by rw [hr], H.drop [_, _]⟩
 rw [hc3]
 have hnkind := hc3
 refine r_s [1, 1] [(.p, 6), (.l, 7), (.p, 8), (.l, 9), (.p, 10), (.p, 11), (.p, 12)] [(12, pN b1 1), (13, iN a.num), (14, pN b2 1), (15, iN b.num), (16, .bool (a.num != b.num)), (17, .bool (a.num != b.num)), (18, .bool (a.num != b.num))] (rc_l 1 1 rfl rfl (rc_l 0 1 rfl rfl rc_nil)) ?_
 rcases Bool.eq_false_or_eq_true (a.num != b.num) with hc4 | hc4
 ·rw [hc4]
  have hr := same_num hc4
  refine r_z (uD 19 7 [(26, .bool true)]) ?_;refine W_cT ?_;refine W_sr [(.p, 0)] H ?_;refine r_z [(4, .bool false)] ?_;refine W_ret ?_;refine q_rt [] [] (.bool false) rc_nil H ?_
  exact ⟨by rw [hr], H.drop [_, _]⟩
 rw [hc4]
 have hnnum := hc4
 refine r_x [1, 1] [(19, pN b1 2), (20, .slice aA a.kids.length ac), (21, nN a.kids.length), (22, pN b2 2), (23, .slice bA b.kids.length bc), (24, nN b.kids.length), (25, .bool ((((a.kids.length : Nat) : Int)) != (((b.kids.length : Nat) : Int)))), (26, .bool ((((a.kids.length : Nat) : Int)) != (((b.kids.length : Nat) : Int))))] (rc_l 1 2 rfl rfl (rc_l 0 2 rfl rfl rc_nil)) ?_;refine W_cd (b := (((a.kids.length : Nat) : Int)) != (((b.kids.length : Nat) : Int))) (fun hc5 => ?_) (fun hc5 => ?_)
 ·skip
  have hr := same_len hc5
  refine W_sr [(.p, 0)] H ?_;refine r_z [(4, .bool false)] ?_;refine W_ret ?_;refine q_rt [] [] (.bool false) rc_nil H ?_
  exact ⟨by rw [hr], H.drop [_, _]⟩
 obtain ⟨hsk, hsl⟩ := same_kids hnkind hnnum hc5;refine W_skip ?_;refine W_seq ?_;refine W_sr [(.p, 0), (.l, 1), (.p, 2), (.p, 3)] H ?_;refine r_x [1] [(27, pN b1 2), (28, .slice aA a.kids.length ac), (29, nN a.kids.length), (30, iN 0)] (rc_l 1 2 rfl rfl rc_nil) ?_;refine W_block ?_;refine W_loop (fun m ρ D w => ∃ (k : Nat), EqS ρ [(2, pN b1 0), (3, pN b2 0), (29, iN (((a.kids.length : Nat) : Int))), (30, iN (((k : Nat) : Int)))] ∧ D = [] ∧ St G ((b2, cT b bA bc) :: (b1, cT a aA ac) :: L) w ∧ (k ≤ a.kids.length) ∧ (same a b = sames (a.kids.drop k) (b.kids.drop k)) ∧ a.kids.length - k = m) (a.kids.length - 0) ⟨0, ⟨e_, e_, e_, e_, trivial⟩, rfl, H, Nat.zero_le _, hsk, rfl⟩ ?_
 clear H; rintro m6 ρ D w1 ⟨k, hE7, rfl, H, hkk, hsm, hm8⟩
 refine W_env hE7 ?_;refine W_sr [(.p, 0)] H ?_;refine r_z [(31, .bool (decide ((((k : Nat) : Int)) < (((a.kids.length : Nat) : Int)))))] ?_;refine W_seq ?_;refine W_cd (b := decide ((((k : Nat) : Int)) < (((a.kids.length : Nat) : Int)))) (fun hc9 => ?_) (fun hc9 => ?_)
 ·skip
  have hlt : k < a.kids.length := by have := of_decide_eq_true hc9; omega
  have hlt2 : k < b.kids.length := by omega
  obtain ⟨q, hq⟩ := get_of_lt hlt; obtain ⟨p, hp⟩ := get_of_lt hlt2
  have hqz := T.sz_kid hq
  have hstk := H
  obtain ⟨eb1, eo1, qA, qc, rfl, hq0, hq1, hq2, hqp⟩ := (hak).elem hq
  have H := hstk; clear hstk
  have hstk := H
  obtain ⟨eb2, eo2, pA, pc, rfl, hp0, hp1, hp2, hpp⟩ := (hbk).elem hp
  have H := hstk; clear hstk
  rw [drop_cons hq, drop_cons hp] at hsm; unfold sames at hsm
  refine W_skip ?_;refine W_seq ?_;refine W_block ?_;refine W_sr (pL 2) H ?_;refine r_z [(32, nN k), (5, nN k)] ?_;refine W_seq ?_;refine W_rgd [(.p, 0), (.l, 1), (.p, 2), (.p, 3), (.l, 4), (.p, 5), (.l, 6), (.p, 7), (.p, 8), (.l, 9), (.f, 10), (.p, 11)] H (fun w1 H => ?_);refine r_s [1] [(.p, 0), (.l, 1), (.p, 2)] [(33, pN b1 2), (34, sN eb1 eo1 a.kids.length ac), (35, nN k)] (rc_l 1 2 rfl rfl rc_nil) ?_;refine m_idx (sz := 3) (b := eb1) (off := eo1) (n := a.kids.length) (c := ac) (k := k) (some 36) (show opAt _ _ _ = some (.indexAddr 22 (.tmp 34) (.tmp 35), _) by kernel_rfl) e_ e_ Try.underlying22 sz24 hlt ?_;refine r_s [3, 1] [(.l, 4), (.p, 5), (.l, 6), (.p, 7)] [(37, (aT q qA qc)), (38, pN b2 2), (39, sN eb2 eo2 b.kids.length bc), (40, nN k)] (rc_C hq0 (rc_C hq1 (rc_C hq2 (rc_l 0 2 rfl rfl rc_nil)))) ?_;refine m_idx (sz := 3) (b := eb2) (off := eo2) (n := b.kids.length) (c := bc) (k := k) (some 41) (show opAt _ _ _ = some (.indexAddr 22 (.tmp 39) (.tmp 40), _) by kernel_rfl) e_ e_ Try.underlying22 sz24 hlt2 ?_;refine r_s [3] [(.l, 9)] [(42, (aT p pA pc))] (rc_C hp0 (rc_C hp1 (rc_C hp2 rc_nil))) ?_;refine m_cl #[(aT q qA qc), (aT p pA pc)] (some 43) (ih (a := q) (b := p) (by omega) (by omega) hqp hpp H) ?_;rintro _ w1 ⟨rfl, H⟩;refine nx H ?_;refine r_z [(44, .bool (!(same q p)))] ?_;refine W_cd (b := !(same q p)) (fun hc10 => ?_) (fun hc10 => ?_)
  ·skip
   have hr : same a b = false := by have := hc10; rw [Bool.not_eq_true'] at this; rw [hsm, this]; rfl
   refine W_sr [(.p, 0)] H ?_;refine r_z [(4, .bool false)] ?_;refine W_ret ?_;refine q_rt [] [] (.bool false) rc_nil H ?_
   exact ⟨by rw [hr], H.drop [_, _]⟩
  have hqp1 : same q p = true := by have := hc10; rw [Bool.not_eq_false'] at this; exact this
  refine W_skip ?_;refine W_rg (pL 2) H ?_;refine r_z [(45, iN (IntKind.wrap .i64 ((((k : Nat) : Int)) + 1))), (30, iN (IntKind.wrap .i64 ((((k : Nat) : Int)) + 1)))] ?_
  exact ⟨_, (by omega), k + 1, ⟨e_, e_, e_, (by rw [← wrap_succ (k := k) (by omega)]; kernel_rfl), trivial⟩, rfl, H, hlt, (by rw [hsm, hqp1]; rfl), rfl⟩
 rw [List.drop_of_length_le (by have := of_decide_eq_false hc9; omega), List.drop_of_length_le (by have := of_decide_eq_false hc9; omega)] at hsm
 have hr : same a b = true := hsm
 refine W_exit ?_;refine W_sr [(.p, 0)] H ?_;refine r_z [(4, .bool true)] ?_;refine W_ret ?_;refine q_rt [] [] (.bool true) rc_nil H ?_
 exact ⟨by rw [hr], H.drop [_, _]⟩


def mst (l s : List UInt8) (a : Nat) (b : Bool) : Nat × Bool := if b then (a, true) else ((word l s a).2, !(word l s a).1)
def RT (f : Nat) : Prop := ∀ {G : GH} {L : LH} {w : World} {pb at_ at2 : Nat} {s : List UInt8} {n : Int} {b0 : Bool} {t : T}, at_ ≤ s.length → s.length < lim → St G ((pb, .cells #[.string (bs s), .int .i64 ((at_ : Nat) : Int), .bool false] 91) :: L) w → rtyped f s at_ n = some ((t, b0), at2) →
 Cal Try.prog 60 #[.pointer (some ⟨pb, 0, none⟩), .int .i64 n] w fun x w' => ∃ G' A c, x = .agg #[.int .i64 t.kind, .int .i64 t.num, .slice A t.kids.length c] ∧ Le G G' ∧ IsPoly G' (.agg #[.int .i64 t.kind, .int .i64 t.num, .slice A t.kids.length c]) t ∧ at2 ≤ s.length ∧ St G' ((pb, .cells #[.string (bs s), .int .i64 ((at2 : Nat) : Int), .bool b0] 91) :: L) w'


end Go.Proofs.Ytjgnhhgigickaaa.Wk

namespace Go.Proofs.Ytjgnhhgigickaaa.Wk
open Go Md
@[reducible] def nt : T := .mk 2 0 []
@[reducible] def vr (n : Int) : T := .mk 1 n []
@[reducible] def fn (a b : T) : T := .mk 3 0 [a, b]
@[reducible] def al (a : T) : T := .mk 4 0 [a]
@[reducible] def idt : T := al (fn (vr 0) (vr 0))
@[reducible] def xv (n : Int) : E := .mk 1 n [] t0
@[reducible] def xn (n : Int) : E := .mk 2 n [] t0
@[reducible] def xl (x : E) : E := .mk 3 0 [x] t0
@[reducible] def xa (x y : E) : E := .mk 5 0 [x, y] t0
@[reducible] def xt (t : T) (x : E) : E := .mk 4 0 [x] t
@[reducible] def xh (x : E) (t : T) : E := .mk 6 0 [x] t

theorem aw1 : Md.Witness 30 idt (fn nt nt) = some ([nt], 0) := by kernel_rfl
theorem aw2 : Md.Witness 30 idt (al (fn (fn (vr 0) (vr 0)) (fn (vr 0) (vr 0)))) = some ([fn (vr 0) (vr 0)], 0) := by kernel_rfl
theorem aw3 : Md.Uses 30 (fn nt nt) idt = some (false, 0) := by kernel_rfl
theorem aw4 : Md.Rank 30 (fn idt nt) = some (2, 0) := by kernel_rfl
theorem aw5 : Md.Witness 30 (fn nt idt) (al (fn nt (fn (vr 0) (vr 0)))) = some ([vr 0], 0) := by kernel_rfl
theorem aw6 : Md.Witness 30 (al (fn nt (fn (vr 0) (vr 0)))) (fn nt idt) = some ([], 6) := by kernel_rfl
theorem aw7 : Md.Witness 30 (al nt) nt = some ([nt], 0) := by kernel_rfl
theorem aw8 : Md.Synth 30 [] (xl (xv 0)) = some (idt, 0) := by kernel_rfl
theorem aw9 : Md.Synth 30 [] (xl (xa (xv 0) (xv 0))) = some (t0, 8) := by kernel_rfl
theorem aw10 : Md.Synth 30 [] (xt idt (xa (xv 0) (xv 0))) = some (al (fn idt (fn (vr 0) (vr 0))), 0) := by kernel_rfl
theorem aw11 : Md.Synth 30 [fn idt nt] (xa (xv 0) (xl (xv 0))) = some (nt, 0) := by kernel_rfl
theorem aw12 : Md.Synth 30 [fn idt nt] (xa (xv 0) (xl (xn 3))) = some (t0, 8) := by kernel_rfl
theorem aw13 : Md.Synth 30 [] (xh (xl (xv 0)) (fn nt nt)) = some (fn nt nt, 0) := by kernel_rfl
theorem aw14 : Md.Parse 30 [98] = some ((t0, 0), 4) := by kernel_rfl
theorem aw15 : Md.Parse 30 [97] = some ((t0, 1), 4) := by kernel_rfl
theorem aw16 : Md.Parse 30 [97, 108, 108, 32, 98, 46, 32, 98] = some ((t0, 4), 4) := by kernel_rfl
theorem aw17 : Md.Parse 30 [40, 78, 41] = some ((t0, 2), 4) := by kernel_rfl
theorem aw18 : Md.Parse 30 [78, 32, 45, 62, 32] = some ((t0, 5), 4) := by kernel_rfl
theorem aw19 : Md.Parse 30 [78, 32, 45, 62, 78] = some ((t0, 4), 4) := by kernel_rfl
theorem aw20 : Md.Print 30 (fn idt nt) = some ([40, 97, 108, 108, 32, 97, 46, 32, 97, 32, 45, 62, 32, 97, 41, 32, 45, 62, 32, 78], 0) := by kernel_rfl
set_option maxRecDepth 20000
attribute [local irreducible] endQ
theorem exprs1 {G : GH} {b : Nat} {v0 v1 v2 v3 v4 v5 : Value} {e : E} (hf : G b = some (.cells #[v0, v1, v2, v3, v4, v5] 52 (0, 0))) (h : IsExpr G (.agg #[v0, v1, v2, v3, v4, v5]) e) : IsExprs G (some ⟨b, 0, none⟩) [e] := by
 unfold IsExprs
 exact ⟨b, 0, v0, v1, v2, v3, v4, v5, rfl, GC.of hf rfl, GC.of hf rfl, GC.of hf rfl, GC.of hf rfl, GC.of hf rfl, GC.of hf rfl, h, by unfold IsExprs; trivial⟩
theorem exprs2 {G : GH} {b : Nat} {v0 v1 v2 v3 v4 v5 u0 u1 u2 u3 u4 u5 : Value} {e f : E} (hf : G b = some (.cells #[v0, v1, v2, v3, v4, v5, u0, u1, u2, u3, u4, u5] 52 (0, 0))) (h : IsExpr G (.agg #[v0, v1, v2, v3, v4, v5]) e) (h2 : IsExpr G (.agg #[u0, u1, u2, u3, u4, u5]) f) : IsExprs G (some ⟨b, 0, none⟩) [e, f] := by
 unfold IsExprs
 refine ⟨b, 0, v0, v1, v2, v3, v4, v5, rfl, GC.of hf rfl, GC.of hf rfl, GC.of hf rfl, GC.of hf rfl, GC.of hf rfl, GC.of hf rfl, h, ?_⟩
 unfold IsExprs
 exact ⟨b, 6, u0, u1, u2, u3, u4, u5, rfl, GC.of hf rfl, GC.of hf rfl, GC.of hf rfl, GC.of hf rfl, GC.of hf rfl, GC.of hf rfl, h2, by unfold IsExprs; trivial⟩

theorem c27 {G : GH} {L : LH} {w : World} (H : St G L w) : Cal Try.prog 27 #[] w fun x w' => ∃ G', Le G G' ∧ IsPoly G' x (nt) ∧ St G' L w' := by
 refine cal_of_W Try.func27 rfl (Nat.le_of_ble_eq_true e_) ?_;refine W_sr [(.f, 0)] H ?_;refine m_nw oT 0 H (fun b1 w1 H => ?_);refine r_nil ?_;refine W_sr [(.p, 0), (.f, 1)] H ?_;refine r_y [(.p, 0)] [(1, .agg #[iN 2, iN 0, .slice none 0 0])] ?_;refine s_0 [(0, iN 2), (1, iN 0), (2, .slice none 0 0)] [iN 2, iN 0, .slice none 0 0] none H (fun w1 H => ?_);refine r_nil ?_;refine W_ret ?_;refine q_rt [iN 2, iN 0, .slice none 0 0] [(⟨b1, 0, none⟩, iN 2), (⟨b1, 1, none⟩, iN 0), (⟨b1, 2, none⟩, .slice none 0 0)] (.agg #[iN 2, iN 0, .slice none 0 0]) (rc_L 0 rfl rfl (rc_L 0 rfl rfl (rc_L 0 rfl rfl rc_nil))) H ?_
 exact ⟨G, Le.refl _, IsPoly.mk (t := nt) (Nat.le_refl _) IsPolys.nil, H.drop [_]⟩

theorem c50 {G : GH} {L : LH} {w : World} {n : Int} (H : St G L w) : Cal Try.prog 50 #[.int .i64 n] w fun x w' => ∃ G', Le G G' ∧ IsPoly G' x (vr n) ∧ St G' L w' := by
 refine cal_of_W Try.func50 rfl (Nat.le_of_ble_eq_true e_) ?_;refine W_sr [(.f, 0)] H ?_;refine m_nw oT 2 H (fun b1 w1 H => ?_);refine r_nil ?_;refine W_sr [(.p, 0), (.p, 1), (.f, 2)] H ?_;refine r_y [(.p, 0), (.p, 1)] [(3, iN n), (4, .agg #[iN 1, iN n, .slice none 0 0])] ?_;refine s_0 [(0, iN 1), (1, iN n), (2, .slice none 0 0)] [iN 1, iN n, .slice none 0 0] none H (fun w1 H => ?_);refine r_nil ?_;refine W_ret ?_;refine q_rt [iN 1, iN n, .slice none 0 0] [(⟨b1, 0, none⟩, iN 1), (⟨b1, 1, none⟩, iN n), (⟨b1, 2, none⟩, .slice none 0 0)] (.agg #[iN 1, iN n, .slice none 0 0]) (rc_L 0 rfl rfl (rc_L 0 rfl rfl (rc_L 0 rfl rfl rc_nil))) H ?_
 exact ⟨G, Le.refl _, IsPoly.mk (t := vr n) (Nat.le_refl _) IsPolys.nil, H.drop [_]⟩

theorem c26 {G : GH} {L : LH} {w : World} {va : Value} {a : T} {vb : Value} {b : T} (hva : IsPoly G va a) (hvb : IsPoly G vb b) (H : St G L w) : Cal Try.prog 26 #[va, vb] w fun x w' => ∃ G', Le G G' ∧ IsPoly G' x (fn a b) ∧ St G' L w' := by
 obtain ⟨aA, ac, rfl, hac, hak⟩ := id hva.open;obtain ⟨bA, bc, rfl, hbc, hbk⟩ := id hvb.open;refine cal_of_W Try.func26 rfl (Nat.le_of_ble_eq_true e_) ?_;refine W_sr [(.f, 0), (.f, 1), (.f, 2)] H ?_;refine m_nw (cT a aA ac) 2 H (fun b1 w1 H => ?_);refine m_nw (cT b bA bc) 3 H (fun b2 w1 H => ?_);refine m_nw oT 4 H (fun b3 w1 H => ?_);refine r_nil ?_;refine W_sr [(.l, 0), (.l, 1), (.f, 2), (.p, 3), (.f, 4)] H ?_;refine r_s [3, 3] [(.l, 0), (.l, 1)] [(5, (aT a aA ac)), (6, (aT b bA bc))] (rc_l 2 0 rfl rfl (rc_l 2 1 rfl rfl (rc_l 2 2 rfl rfl (rc_l 1 0 rfl rfl (rc_l 1 1 rfl rfl (rc_l 1 2 rfl rfl rc_nil)))))) ?_;refine m_new (.cells #[iN a.kind, iN a.num, .slice aA a.kids.length ac, iN b.kind, iN b.num, .slice bA b.kids.length bc] 24) (fun b4 => sN b4 0 2 2) (some 7) (fun b => by kernel_rfl) H (fun b4 w1 H => ?_);refine r_y [(.p, 3)] [(8, .agg #[iN 3, iN 0, sN b4 0 2 2])] ?_;refine s_1 [(0, iN 3), (1, iN 0), (2, sN b4 0 2 2)] [iN 3, iN 0, sN b4 0 2 2] none H (fun w1 H => ?_);refine r_nil ?_;refine W_ret ?_;refine q_rt [iN 3, iN 0, sN b4 0 2 2] [(⟨b3, 0, none⟩, iN 3), (⟨b3, 1, none⟩, iN 0), (⟨b3, 2, none⟩, sN b4 0 2 2)] (.agg #[iN 3, iN 0, sN b4 0 2 2]) (rc_L 1 rfl rfl (rc_L 1 rfl rfl (rc_L 1 rfl rfl rc_nil))) H ?_;obtain ⟨G9, hG9, hF9, H⟩ := St.freeze [_] H
 have hf := hF9 _ (.head _)
 exact ⟨G9, hG9, IsPoly.mk (t := fn a b) (Nat.le_refl _) (polys_of (cs := [iN a.kind, iN a.num, .slice aA a.kids.length ac, iN b.kind, iN b.num, .slice bA b.kids.length bc]) ⟨hva.mono hG9, hvb.mono hG9, trivial⟩ hf), H.drop [_, _, _]⟩

theorem c49 {G : GH} {L : LH} {w : World} {va : Value} {a : T} (hva : IsPoly G va a) (H : St G L w) : Cal Try.prog 49 #[va] w fun x w' => ∃ G', Le G G' ∧ IsPoly G' x (al a) ∧ St G' L w' := by
 obtain ⟨aA, ac, rfl, hac, hak⟩ := id hva.open;refine cal_of_W Try.func49 rfl (Nat.le_of_ble_eq_true e_) ?_;refine W_sr [(.f, 0), (.f, 1)] H ?_;refine m_nw (cT a aA ac) 1 H (fun b1 w1 H => ?_);refine m_nw oT 2 H (fun b2 w1 H => ?_);refine r_nil ?_;refine W_sr [(.l, 0), (.f, 1), (.p, 2), (.f, 3)] H ?_;refine r_s [3] [(.l, 0)] [(3, (aT a aA ac))] (rc_l 1 0 rfl rfl (rc_l 1 1 rfl rfl (rc_l 1 2 rfl rfl rc_nil))) ?_;refine m_new (cT a aA ac) (fun b3 => sN b3 0 1 1) (some 4) (fun b => by kernel_rfl) H (fun b3 w1 H => ?_);refine r_y [(.p, 2)] [(5, .agg #[iN 4, iN 0, sN b3 0 1 1])] ?_;refine s_1 [(0, iN 4), (1, iN 0), (2, sN b3 0 1 1)] [iN 4, iN 0, sN b3 0 1 1] none H (fun w1 H => ?_);refine r_nil ?_;refine W_ret ?_;refine q_rt [iN 4, iN 0, sN b3 0 1 1] [(⟨b2, 0, none⟩, iN 4), (⟨b2, 1, none⟩, iN 0), (⟨b2, 2, none⟩, sN b3 0 1 1)] (.agg #[iN 4, iN 0, sN b3 0 1 1]) (rc_L 1 rfl rfl (rc_L 1 rfl rfl (rc_L 1 rfl rfl rc_nil))) H ?_;obtain ⟨G9, hG9, hF9, H⟩ := St.freeze [_] H
 have hf := hF9 _ (.head _)
 exact ⟨G9, hG9, IsPoly.mk (t := al a) (Nat.le_refl _) (polys_of (cs := [iN a.kind, iN a.num, .slice aA a.kids.length ac]) ⟨hva.mono hG9, trivial⟩ hf), H.drop [_, _]⟩

theorem c48 {G : GH} {L : LH} {w : World} (H : St G L w) : Cal Try.prog 48 #[] w fun x w' => ∃ G', Le G G' ∧ IsPoly G' x idt ∧ St G' L w' := by
 refine cal_of_W Try.func48 rfl (Nat.le_of_ble_eq_true e_) ?_;refine W_sr [(.f, 0)] H ?_;refine m_nw oT 0 H (fun b1 w1 H => ?_);refine r_nil ?_;refine W_sr [(.f, 0), (.f, 1), (.f, 2), (.f, 3), (.f, 4)] H ?_;refine m_cl #[iN 0] (some 1) (c50 H) ?_;rintro x1 w1 ⟨G1, hG1, hx1, H⟩;refine nx H ?_;refine m_cl #[iN 0] (some 2) (c50 H) ?_;rintro x2 w1 ⟨G2, hG2, hx2, H⟩;refine nx H ?_;refine m_cl #[x1, x2] (some 3) (c26 (hx1.mono hG2) hx2 H) ?_;rintro x3 w1 ⟨G3, hG3, hx3, H⟩;refine nx H ?_;refine m_cl #[x3] (some 4) (c49 hx3 H) ?_;rintro x4 w1 ⟨G4, hG4, hx4, H⟩;refine nx H ?_;obtain ⟨oA, oc, rfl, hoc, hok⟩ := id hx4.open;refine s_0 [(0, iN idt.kind), (1, iN idt.num), (2, .slice oA idt.kids.length oc)] [iN idt.kind, iN idt.num, .slice oA idt.kids.length oc] none H (fun w1 H => ?_);refine r_nil ?_;refine W_ret ?_;refine q_rt [iN idt.kind, iN idt.num, .slice oA idt.kids.length oc] [(⟨b1, 0, none⟩, iN idt.kind), (⟨b1, 1, none⟩, iN idt.num), (⟨b1, 2, none⟩, .slice oA idt.kids.length oc)] (.agg #[iN idt.kind, iN idt.num, .slice oA idt.kids.length oc]) (rc_L 0 rfl rfl (rc_L 0 rfl rfl (rc_L 0 rfl rfl rc_nil))) H ?_
 exact ⟨G4, ((hG1.trans hG2).trans hG3).trans hG4, hx4, H.drop [_]⟩

theorem c51 {G : GH} {L : LH} {w : World} {va : Value} {a : E} (hva : IsExpr G va a) (H : St G L w) : Cal Try.prog 51 #[va] w fun x w' => ∃ G', Le G G' ∧ IsExpr G' x (xl a) ∧ St G' L w' := by
 obtain ⟨aA, ac, aB, ad, rfl, hac, hak, haty⟩ := id hva.open;refine cal_of_W Try.func51 rfl (Nat.le_of_ble_eq_true e_) ?_;refine W_sr [(.f, 0), (.f, 1)] H ?_;refine m_nw (cE a aA ac aB ad) 1 H (fun b1 w1 H => ?_);refine m_nw oE 2 H (fun b2 w1 H => ?_);refine r_nil ?_;refine W_sr [(.l, 0), (.f, 1), (.p, 2), (.f, 3)] H ?_;refine r_s [6] [(.l, 0)] [(3, (aE a aA ac aB ad))] (rc_l 1 0 rfl rfl (rc_l 1 1 rfl rfl (rc_l 1 2 rfl rfl (rc_l 1 3 rfl rfl (rc_l 1 4 rfl rfl (rc_l 1 5 rfl rfl rc_nil)))))) ?_;refine m_new (cE a aA ac aB ad) (fun b3 => sN b3 0 1 1) (some 4) (fun b => by kernel_rfl) H (fun b3 w1 H => ?_);refine r_y [(.p, 2)] [(5, .agg #[iN 3, iN 0, sN b3 0 1 1, iN 0, iN 0, .slice none 0 0])] ?_;refine s_1 [(0, iN 3), (1, iN 0), (2, sN b3 0 1 1), (3, iN 0), (4, iN 0), (5, .slice none 0 0)] [iN 3, iN 0, sN b3 0 1 1, iN 0, iN 0, .slice none 0 0] none H (fun w1 H => ?_);refine r_nil ?_;refine W_ret ?_;refine q_rt [iN 3, iN 0, sN b3 0 1 1, iN 0, iN 0, .slice none 0 0] [(⟨b2, 0, none⟩, iN 3), (⟨b2, 1, none⟩, iN 0), (⟨b2, 2, none⟩, sN b3 0 1 1), (⟨b2, 3, none⟩, iN 0), (⟨b2, 4, none⟩, iN 0), (⟨b2, 5, none⟩, .slice none 0 0)] (.agg #[iN 3, iN 0, sN b3 0 1 1, iN 0, iN 0, .slice none 0 0]) (rc_L 1 rfl rfl (rc_L 1 rfl rfl (rc_L 1 rfl rfl (rc_L 1 rfl rfl (rc_L 1 rfl rfl (rc_L 1 rfl rfl rc_nil)))))) H ?_;obtain ⟨G9, hG9, hF9, H⟩ := St.freeze [_] H
 have hf := hF9 _ (.head _)
 exact ⟨G9, hG9, IsExpr.mk (e := xl a) (Nat.le_refl _) (exprs1 hf (hva.mono hG9)) (IsPoly.mk (t := t0) (Nat.le_refl _) IsPolys.nil), H.drop [_, _]⟩

theorem c52 {G : GH} {L : LH} {w : World} {n : Int} (H : St G L w) : Cal Try.prog 52 #[.int .i64 n] w fun x w' => ∃ G', Le G G' ∧ IsExpr G' x (xv n) ∧ St G' L w' := by
 refine cal_of_W Try.func52 rfl (Nat.le_of_ble_eq_true e_) ?_;refine W_sr [(.f, 0)] H ?_;refine m_nw oE 2 H (fun b1 w1 H => ?_);refine r_nil ?_;refine W_sr [(.p, 0), (.p, 1), (.f, 2)] H ?_;refine r_y [(.p, 0), (.p, 1)] [(3, iN n), (4, .agg #[iN 1, iN n, .slice none 0 0, iN 0, iN 0, .slice none 0 0])] ?_;refine s_0 [(0, iN 1), (1, iN n), (2, .slice none 0 0), (3, iN 0), (4, iN 0), (5, .slice none 0 0)] [iN 1, iN n, .slice none 0 0, iN 0, iN 0, .slice none 0 0] none H (fun w1 H => ?_);refine r_nil ?_;refine W_ret ?_;refine q_rt [iN 1, iN n, .slice none 0 0, iN 0, iN 0, .slice none 0 0] [(⟨b1, 0, none⟩, iN 1), (⟨b1, 1, none⟩, iN n), (⟨b1, 2, none⟩, .slice none 0 0), (⟨b1, 3, none⟩, iN 0), (⟨b1, 4, none⟩, iN 0), (⟨b1, 5, none⟩, .slice none 0 0)] (.agg #[iN 1, iN n, .slice none 0 0, iN 0, iN 0, .slice none 0 0]) (rc_L 0 rfl rfl (rc_L 0 rfl rfl (rc_L 0 rfl rfl (rc_L 0 rfl rfl (rc_L 0 rfl rfl (rc_L 0 rfl rfl rc_nil)))))) H ?_
 exact ⟨G, Le.refl _, IsExpr.mk (e := xv n) (Nat.le_refl _) IsExprs.nil (IsPoly.mk (t := t0) (Nat.le_refl _) IsPolys.nil), H.drop [_]⟩

theorem c53 {G : GH} {L : LH} {w : World} {va : Value} {a : E} {vb : Value} {b : E} (hva : IsExpr G va a) (hvb : IsExpr G vb b) (H : St G L w) : Cal Try.prog 53 #[va, vb] w fun x w' => ∃ G', Le G G' ∧ IsExpr G' x (xa a b) ∧ St G' L w' := by
 obtain ⟨aA, ac, aB, ad, rfl, hac, hak, haty⟩ := id hva.open;obtain ⟨bA, bc, bB, bd, rfl, hbc, hbk, hbty⟩ := id hvb.open;refine cal_of_W Try.func53 rfl (Nat.le_of_ble_eq_true e_) ?_;refine W_sr [(.f, 0), (.f, 1), (.f, 2)] H ?_;refine m_nw (cE a aA ac aB ad) 2 H (fun b1 w1 H => ?_);refine m_nw (cE b bA bc bB bd) 3 H (fun b2 w1 H => ?_);refine m_nw oE 4 H (fun b3 w1 H => ?_);refine r_nil ?_;refine W_sr [(.l, 0), (.l, 1), (.f, 2), (.p, 3), (.f, 4)] H ?_;refine r_s [6, 6] [(.l, 0), (.l, 1)] [(5, (aE a aA ac aB ad)), (6, (aE b bA bc bB bd))] (rc_l 2 0 rfl rfl (rc_l 2 1 rfl rfl (rc_l 2 2 rfl rfl (rc_l 2 3 rfl rfl (rc_l 2 4 rfl rfl (rc_l 2 5 rfl rfl (rc_l 1 0 rfl rfl (rc_l 1 1 rfl rfl (rc_l 1 2 rfl rfl (rc_l 1 3 rfl rfl (rc_l 1 4 rfl rfl (rc_l 1 5 rfl rfl rc_nil)))))))))))) ?_;refine m_new (.cells #[iN a.kind, iN a.num, .slice aA a.kids.length ac, iN a.ty.kind, iN a.ty.num, .slice aB a.ty.kids.length ad, iN b.kind, iN b.num, .slice bA b.kids.length bc, iN b.ty.kind, iN b.ty.num, .slice bB b.ty.kids.length bd] 52) (fun b4 => sN b4 0 2 2) (some 7) (fun b => by kernel_rfl) H (fun b4 w1 H => ?_);refine r_y [(.p, 3)] [(8, .agg #[iN 5, iN 0, sN b4 0 2 2, iN 0, iN 0, .slice none 0 0])] ?_;refine s_1 [(0, iN 5), (1, iN 0), (2, sN b4 0 2 2), (3, iN 0), (4, iN 0), (5, .slice none 0 0)] [iN 5, iN 0, sN b4 0 2 2, iN 0, iN 0, .slice none 0 0] none H (fun w1 H => ?_);refine r_nil ?_;refine W_ret ?_;refine q_rt [iN 5, iN 0, sN b4 0 2 2, iN 0, iN 0, .slice none 0 0] [(⟨b3, 0, none⟩, iN 5), (⟨b3, 1, none⟩, iN 0), (⟨b3, 2, none⟩, sN b4 0 2 2), (⟨b3, 3, none⟩, iN 0), (⟨b3, 4, none⟩, iN 0), (⟨b3, 5, none⟩, .slice none 0 0)] (.agg #[iN 5, iN 0, sN b4 0 2 2, iN 0, iN 0, .slice none 0 0]) (rc_L 1 rfl rfl (rc_L 1 rfl rfl (rc_L 1 rfl rfl (rc_L 1 rfl rfl (rc_L 1 rfl rfl (rc_L 1 rfl rfl rc_nil)))))) H ?_;obtain ⟨G9, hG9, hF9, H⟩ := St.freeze [_] H
 have hf := hF9 _ (.head _)
 exact ⟨G9, hG9, IsExpr.mk (e := xa a b) (Nat.le_refl _) (exprs2 hf (hva.mono hG9) (hvb.mono hG9)) (IsPoly.mk (t := t0) (Nat.le_refl _) IsPolys.nil), H.drop [_, _, _]⟩

theorem c54 {G : GH} {L : LH} {w : World} {va : Value} {a : T} {vb : Value} {b : E} (hva : IsPoly G va a) (hvb : IsExpr G vb b) (H : St G L w) : Cal Try.prog 54 #[va, vb] w fun x w' => ∃ G', Le G G' ∧ IsExpr G' x (xt a b) ∧ St G' L w' := by
 obtain ⟨aA, ac, rfl, hac, hak⟩ := id hva.open;obtain ⟨bA, bc, bB, bd, rfl, hbc, hbk, hbty⟩ := id hvb.open;refine cal_of_W Try.func54 rfl (Nat.le_of_ble_eq_true e_) ?_;refine W_sr [(.f, 0), (.f, 1), (.f, 2)] H ?_;refine m_nw (cT a aA ac) 2 H (fun b1 w1 H => ?_);refine m_nw (cE b bA bc bB bd) 3 H (fun b2 w1 H => ?_);refine m_nw oE 4 H (fun b3 w1 H => ?_);refine r_nil ?_;refine W_sr [(.l, 0), (.l, 1), (.f, 2), (.p, 3), (.f, 4)] H ?_;refine r_s [3, 6] [(.l, 0), (.l, 1)] [(5, (aT a aA ac)), (6, (aE b bA bc bB bd))] (rc_l 2 0 rfl rfl (rc_l 2 1 rfl rfl (rc_l 2 2 rfl rfl (rc_l 1 0 rfl rfl (rc_l 1 1 rfl rfl (rc_l 1 2 rfl rfl (rc_l 1 3 rfl rfl (rc_l 1 4 rfl rfl (rc_l 1 5 rfl rfl rc_nil))))))))) ?_;refine m_new (cE b bA bc bB bd) (fun b4 => sN b4 0 1 1) (some 7) (fun b => by kernel_rfl) H (fun b4 w1 H => ?_);refine r_y [(.p, 3)] [(8, .agg #[iN 4, iN 0, sN b4 0 1 1, iN a.kind, iN a.num, .slice aA a.kids.length ac])] ?_;refine s_1 [(0, iN 4), (1, iN 0), (2, sN b4 0 1 1), (3, iN a.kind), (4, iN a.num), (5, .slice aA a.kids.length ac)] [iN 4, iN 0, sN b4 0 1 1, iN a.kind, iN a.num, .slice aA a.kids.length ac] none H (fun w1 H => ?_);refine r_nil ?_;refine W_ret ?_;refine q_rt [iN 4, iN 0, sN b4 0 1 1, iN a.kind, iN a.num, .slice aA a.kids.length ac] [(⟨b3, 0, none⟩, iN 4), (⟨b3, 1, none⟩, iN 0), (⟨b3, 2, none⟩, sN b4 0 1 1), (⟨b3, 3, none⟩, iN a.kind), (⟨b3, 4, none⟩, iN a.num), (⟨b3, 5, none⟩, .slice aA a.kids.length ac)] (.agg #[iN 4, iN 0, sN b4 0 1 1, iN a.kind, iN a.num, .slice aA a.kids.length ac]) (rc_L 1 rfl rfl (rc_L 1 rfl rfl (rc_L 1 rfl rfl (rc_L 1 rfl rfl (rc_L 1 rfl rfl (rc_L 1 rfl rfl rc_nil)))))) H ?_;obtain ⟨G9, hG9, hF9, H⟩ := St.freeze [_] H
 have hf := hF9 _ (.head _)
 exact ⟨G9, hG9, IsExpr.mk (e := xt a b) (Nat.le_refl _) (exprs1 hf (hvb.mono hG9)) (hva.mono hG9), H.drop [_, _, _]⟩

theorem c55 {G : GH} {L : LH} {w : World} {n : Int} (H : St G L w) : Cal Try.prog 55 #[.int .i64 n] w fun x w' => ∃ G', Le G G' ∧ IsExpr G' x (xn n) ∧ St G' L w' := by
 refine cal_of_W Try.func55 rfl (Nat.le_of_ble_eq_true e_) ?_;refine W_sr [(.f, 0)] H ?_;refine m_nw oE 2 H (fun b1 w1 H => ?_);refine r_nil ?_;refine W_sr [(.p, 0), (.p, 1), (.f, 2)] H ?_;refine r_y [(.p, 0), (.p, 1)] [(3, iN n), (4, .agg #[iN 2, iN n, .slice none 0 0, iN 0, iN 0, .slice none 0 0])] ?_;refine s_0 [(0, iN 2), (1, iN n), (2, .slice none 0 0), (3, iN 0), (4, iN 0), (5, .slice none 0 0)] [iN 2, iN n, .slice none 0 0, iN 0, iN 0, .slice none 0 0] none H (fun w1 H => ?_);refine r_nil ?_;refine W_ret ?_;refine q_rt [iN 2, iN n, .slice none 0 0, iN 0, iN 0, .slice none 0 0] [(⟨b1, 0, none⟩, iN 2), (⟨b1, 1, none⟩, iN n), (⟨b1, 2, none⟩, .slice none 0 0), (⟨b1, 3, none⟩, iN 0), (⟨b1, 4, none⟩, iN 0), (⟨b1, 5, none⟩, .slice none 0 0)] (.agg #[iN 2, iN n, .slice none 0 0, iN 0, iN 0, .slice none 0 0]) (rc_L 0 rfl rfl (rc_L 0 rfl rfl (rc_L 0 rfl rfl (rc_L 0 rfl rfl (rc_L 0 rfl rfl (rc_L 0 rfl rfl rc_nil)))))) H ?_
 exact ⟨G, Le.refl _, IsExpr.mk (e := xn n) (Nat.le_refl _) IsExprs.nil (IsPoly.mk (t := t0) (Nat.le_refl _) IsPolys.nil), H.drop [_]⟩

theorem c31 {G : GH} {L : LH} {w : World} {va : Value} {a : E} {vb : Value} {b : T} (hva : IsExpr G va a) (hvb : IsPoly G vb b) (H : St G L w) : Cal Try.prog 31 #[va, vb] w fun x w' => ∃ G', Le G G' ∧ IsExpr G' x (xh a b) ∧ St G' L w' := by
 obtain ⟨aA, ac, aB, ad, rfl, hac, hak, haty⟩ := id hva.open;obtain ⟨bA, bc, rfl, hbc, hbk⟩ := id hvb.open;refine cal_of_W Try.func31 rfl (Nat.le_of_ble_eq_true e_) ?_;refine W_sr [(.f, 0), (.f, 1), (.f, 2)] H ?_;refine m_nw (cE a aA ac aB ad) 2 H (fun b1 w1 H => ?_);refine m_nw (cT b bA bc) 3 H (fun b2 w1 H => ?_);refine m_nw oE 4 H (fun b3 w1 H => ?_);refine r_nil ?_;refine W_sr [(.l, 0), (.l, 1), (.f, 2), (.p, 3), (.f, 4)] H ?_;refine r_s [3, 6] [(.l, 0), (.l, 1)] [(5, (aT b bA bc)), (6, (aE a aA ac aB ad))] (rc_l 1 0 rfl rfl (rc_l 1 1 rfl rfl (rc_l 1 2 rfl rfl (rc_l 2 0 rfl rfl (rc_l 2 1 rfl rfl (rc_l 2 2 rfl rfl (rc_l 2 3 rfl rfl (rc_l 2 4 rfl rfl (rc_l 2 5 rfl rfl rc_nil))))))))) ?_;refine m_new (cE a aA ac aB ad) (fun b4 => sN b4 0 1 1) (some 7) (fun b => by kernel_rfl) H (fun b4 w1 H => ?_);refine r_y [(.p, 3)] [(8, .agg #[iN 6, iN 0, sN b4 0 1 1, iN b.kind, iN b.num, .slice bA b.kids.length bc])] ?_;refine s_1 [(0, iN 6), (1, iN 0), (2, sN b4 0 1 1), (3, iN b.kind), (4, iN b.num), (5, .slice bA b.kids.length bc)] [iN 6, iN 0, sN b4 0 1 1, iN b.kind, iN b.num, .slice bA b.kids.length bc] none H (fun w1 H => ?_);refine r_nil ?_;refine W_ret ?_;refine q_rt [iN 6, iN 0, sN b4 0 1 1, iN b.kind, iN b.num, .slice bA b.kids.length bc] [(⟨b3, 0, none⟩, iN 6), (⟨b3, 1, none⟩, iN 0), (⟨b3, 2, none⟩, sN b4 0 1 1), (⟨b3, 3, none⟩, iN b.kind), (⟨b3, 4, none⟩, iN b.num), (⟨b3, 5, none⟩, .slice bA b.kids.length bc)] (.agg #[iN 6, iN 0, sN b4 0 1 1, iN b.kind, iN b.num, .slice bA b.kids.length bc]) (rc_L 1 rfl rfl (rc_L 1 rfl rfl (rc_L 1 rfl rfl (rc_L 1 rfl rfl (rc_L 1 rfl rfl (rc_L 1 rfl rfl rc_nil)))))) H ?_;obtain ⟨G9, hG9, hF9, H⟩ := St.freeze [_] H
 have hf := hF9 _ (.head _)
 exact ⟨G9, hG9, IsExpr.mk (e := xh a b) (Nat.le_refl _) (exprs1 hf (hva.mono hG9)) (hvb.mono hG9), H.drop [_, _, _]⟩

theorem St.weak {G G' : GH} {L : LH} {w : World} (h : St G' L w) (hG : Le G G') : St G L w :=
 ⟨fun b o x => h.imm b o (hG b o x), h.loc, (fun p hp => by
  cases hx : G p.1 with
  | none => rfl
  | some o => have h1 := hG _ _ hx; have h2 := h.sep p hp; rw [h1] at h2; cases h2), h.nd, h.os.trans hG.os, h.out.trans hG.out⟩
theorem c18t {G : GH} {L : LH} {w : World} {va vb : Value} {a b : T} (hz : T.sz a < lim) (hva : IsPoly G va a) (hvb : IsPoly G vb b) (h : same a b = true) (H : St G L w) : Cal Try.prog 18 #[va, vb] w fun x w' => x = .bool true ∧ St G L w' := by
 have := c18 _ (Nat.lt_succ_self _) hz hva hvb H
 rwa [h] at this

theorem c12 {G : GH} {L : LH} {w : World} (H : St G L w) : Cal Try.prog 12 #[] w fun x w' => x = .bool true ∧ St G L w' := by
 refine cal_of_W Try.func12 rfl (Nat.le_of_ble_eq_true e_) ?_;refine W_sr [(.p, 0)] H ?_;refine r_z [(0, .bool false)] ?_;refine W_sr [(.f, 0), (.f, 1), (.f, 2), (.f, 3), (.f, 4), (.p, 5), (.p, 6), (.p, 7), (.p, 8), (.p, 9)] H ?_;refine m_cl #[] (some 29) (c48  H) ?_;rintro x1 w1 ⟨G1, hG1, hx1, H⟩;refine nx H ?_;refine m_cl #[] (some 30) (c27  H) ?_;rintro x2 w1 ⟨G2, hG2, hx2, H⟩;refine nx H ?_;refine m_cl #[] (some 31) (c27  H) ?_;rintro x3 w1 ⟨G3, hG3, hx3, H⟩;refine nx H ?_;refine m_cl #[x2, x3] (some 32) (c26 ((hx2).mono (hG3)) (hx3) H) ?_;rintro x4 w1 ⟨G4, hG4, hx4, H⟩;refine nx H ?_;refine m_cl #[x1, x4] (some 33) (c43 ((hx1).mono (((hG2).trans hG3).trans hG4)) (hx4) (by decide) H aw1 (by decide)) ?_;rintro _ w1 ⟨G5, A5, k5, hG5, rfl, _, hk5, H⟩;refine nx H ?_;obtain ⟨eb5, eo5, qA5, qc5, rfl, ha5, hb5, hc_5, hx5⟩ := hk5.elem (i := 0) (t := nt) rfl;refine r_z [(28, .tuple #[sN eb5 eo5 1 k5, iN 0]), (34, sN eb5 eo5 1 k5), (35, iN 0), (1, sN eb5 eo5 1 k5), (2, iN 0)] ?_;refine W_sr [(.f, 0), (.f, 1), (.f, 2), (.f, 3), (.f, 4), (.f, 5), (.f, 6), (.f, 7), (.f, 8), (.f, 9), (.p, 10), (.p, 11), (.p, 12), (.p, 13), (.p, 14)] H ?_;refine m_cl #[] (some 37) (c48  H) ?_;rintro x6 w1 ⟨G6, hG6, hx6, H⟩;refine nx H ?_;refine m_cl #[iN 0] (some 38) (c50  H) ?_;rintro x7 w1 ⟨G7, hG7, hx7, H⟩;refine nx H ?_;refine m_cl #[iN 0] (some 39) (c50  H) ?_;rintro x8 w1 ⟨G8, hG8, hx8, H⟩;refine nx H ?_;refine m_cl #[x7, x8] (some 40) (c26 ((hx7).mono (hG8)) (hx8) H) ?_;rintro x9 w1 ⟨G9, hG9, hx9, H⟩;refine nx H ?_;refine m_cl #[iN 0] (some 41) (c50  H) ?_;rintro x10 w1 ⟨G10, hG10, hx10, H⟩;refine nx H ?_;refine m_cl #[iN 0] (some 42) (c50  H) ?_;rintro x11 w1 ⟨G11, hG11, hx11, H⟩;refine nx H ?_;refine m_cl #[x10, x11] (some 43) (c26 ((hx10).mono (hG11)) (hx11) H) ?_;rintro x12 w1 ⟨G12, hG12, hx12, H⟩;refine nx H ?_;refine m_cl #[x9, x12] (some 44) (c26 ((hx9).mono (((hG10).trans hG11).trans hG12)) (hx12) H) ?_;rintro x13 w1 ⟨G13, hG13, hx13, H⟩;refine nx H ?_;refine m_cl #[x13] (some 45) (c49 (hx13) H) ?_;rintro x14 w1 ⟨G14, hG14, hx14, H⟩;refine nx H ?_;refine m_cl #[x6, x14] (some 46) (c43 ((hx6).mono ((((((((hG7).trans hG8).trans hG9).trans hG10).trans hG11).trans hG12).trans hG13).trans hG14)) (hx14) (by decide) H aw2 (by decide)) ?_;rintro _ w1 ⟨G15, A15, k15, hG15, rfl, _, hk15, H⟩;refine nx H ?_;obtain ⟨eb15, eo15, qA15, qc15, rfl, ha15, hb15, hc_15, hx15⟩ := hk15.elem (i := 0) (t := fn (vr 0) (vr 0)) rfl;refine r_z [(36, .tuple #[sN eb15 eo15 1 k15, iN 0]), (47, sN eb15 eo15 1 k15), (48, iN 0), (3, sN eb15 eo15 1 k15), (4, iN 0)] ?_;refine W_sr [(.f, 0), (.f, 1), (.f, 2), (.f, 3), (.f, 4), (.p, 5), (.p, 6), (.p, 7), (.p, 8), (.p, 9)] H ?_;refine m_cl #[] (some 50) (c27  H) ?_;rintro x16 w1 ⟨G16, hG16, hx16, H⟩;refine nx H ?_;refine m_cl #[] (some 51) (c27  H) ?_;rintro x17 w1 ⟨G17, hG17, hx17, H⟩;refine nx H ?_;refine m_cl #[x16, x17] (some 52) (c26 ((hx16).mono (hG17)) (hx17) H) ?_;rintro x18 w1 ⟨G18, hG18, hx18, H⟩;refine nx H ?_;refine m_cl #[] (some 53) (c48  H) ?_;rintro x19 w1 ⟨G19, hG19, hx19, H⟩;refine nx H ?_;refine m_cl #[x18, x19] (some 54) (c21 ((hx18).mono (hG19)) (hx19) (by decide) H aw3) ?_;rintro _ w1 ⟨G20, hG20, rfl, H⟩;refine nx H ?_;refine r_z [(49, .tuple #[.bool false, iN 0]), (55, .bool false), (56, iN 0), (5, .bool false), (6, iN 0)] ?_;refine W_sr [(.f, 0), (.f, 1), (.f, 2), (.f, 3), (.p, 4), (.p, 5), (.p, 6), (.p, 7), (.p, 8)] H ?_;refine m_cl #[] (some 58) (c48  H) ?_;rintro x21 w1 ⟨G21, hG21, hx21, H⟩;refine nx H ?_;refine m_cl #[] (some 59) (c27  H) ?_;rintro x22 w1 ⟨G22, hG22, hx22, H⟩;refine nx H ?_;refine m_cl #[x21, x22] (some 60) (c26 ((hx21).mono (hG22)) (hx22) H) ?_;rintro x23 w1 ⟨G23, hG23, hx23, H⟩;refine nx H ?_;refine m_cl #[x23] (some 61) (c25 (hx23) (by decide) H aw4) ?_;rintro _ w1 ⟨G24, hG24, rfl, H⟩;refine nx H ?_;refine r_z [(57, .tuple #[iN 2, iN 0]), (62, iN 2), (63, iN 0), (7, iN 2), (8, iN 0)] ?_
 refine W_seq ?_;refine W_seq ?_;refine W_rgd [(.p, 0), (.p, 1), (.p, 2), (.p, 3), (.p, 4), (.p, 5), (.p, 6), (.p, 7), (.p, 8), (.p, 9), (.p, 10), (.p, 11), (.p, 12), (.p, 13), (.p, 14), (.p, 15), (.p, 16), (.p, 17), (.p, 18), (.p, 19), (.p, 20), (.p, 21), (.l, 22), (.e, 23), (.f, 24), (.p, 25), (.p, 26), (.p, 27), (.p, 28), (.p, 29), (.p, 30), (.p, 31), (.p, 32), (.p, 33), (.p, 34), (.l, 35), (.e, 36), (.e, 37), (.e, 38), (.f, 39), (.p, 40), (.p, 41), (.p, 42), (.p, 43), (.p, 44), (.p, 45), (.p, 46), (.p, 47), (.p, 48)] H (fun w1 H => ?_);refine r_s [3] [(.p, 0), (.p, 1), (.p, 2), (.p, 3), (.p, 4), (.p, 5), (.p, 6), (.p, 7), (.p, 8), (.p, 9), (.p, 10), (.p, 11), (.p, 12), (.p, 13), (.p, 14), (.p, 15), (.p, 16), (.p, 17), (.p, 18), (.p, 19), (.p, 20), (.p, 21), (.l, 22)] [(64, iN 0), (65, .bool false), (66, .bool false), (67, iN 0), (68, .bool false), (69, .bool false), (70, .bool false), (71, iN 0), (72, .bool false), (73, .bool false), (74, .bool false), (75, iN 0), (76, .bool false), (77, .bool false), (78, .bool false), (79, sN eb5 eo5 1 k5), (80, iN 1), (81, .bool false), (82, .bool false), (83, .bool false), (84, sN eb5 eo5 1 k5), (85, .pointer (some ⟨eb5, eo5, none⟩)), (86, (aT nt qA5 qc5))] (rc_C ((ha5).mono (((((((((((((((((((hG6).trans hG7).trans hG8).trans hG9).trans hG10).trans hG11).trans hG12).trans hG13).trans hG14).trans hG15).trans hG16).trans hG17).trans hG18).trans hG19).trans hG20).trans hG21).trans hG22).trans hG23).trans hG24)) (rc_C ((hb5).mono (((((((((((((((((((hG6).trans hG7).trans hG8).trans hG9).trans hG10).trans hG11).trans hG12).trans hG13).trans hG14).trans hG15).trans hG16).trans hG17).trans hG18).trans hG19).trans hG20).trans hG21).trans hG22).trans hG23).trans hG24)) (rc_C ((hc_5).mono (((((((((((((((((((hG6).trans hG7).trans hG8).trans hG9).trans hG10).trans hG11).trans hG12).trans hG13).trans hG14).trans hG15).trans hG16).trans hG17).trans hG18).trans hG19).trans hG20).trans hG21).trans hG22).trans hG23).trans hG24)) rc_nil))) ?_;refine m_callE #[] (some 87) e_ (c27  H) ?_;rintro x25 w1 ⟨G25, hG25, hx25, H⟩;refine ⟨H.ss' ((Le.refl _).trans hG25) (fun _ hp => hp), ?_⟩;refine m_cl #[(aT nt qA5 qc5), x25] (some 88) (c18t (a := nt) (b := nt) (by decide) ((hx5).mono ((((((((((((((((((((hG6).trans hG7).trans hG8).trans hG9).trans hG10).trans hG11).trans hG12).trans hG13).trans hG14).trans hG15).trans hG16).trans hG17).trans hG18).trans hG19).trans hG20).trans hG21).trans hG22).trans hG23).trans hG24).trans hG25)) (hx25) (same_refl _) H) ?_;rintro _ w1 ⟨rfl, H⟩;refine nx H ?_;refine r_s [3] [(.p, 25), (.p, 26), (.p, 27), (.p, 28), (.p, 29), (.p, 30), (.p, 31), (.p, 32), (.p, 33), (.p, 34), (.l, 35)] [(89, .bool false), (90, .bool false), (91, .bool false), (92, sN eb15 eo15 1 k15), (93, iN 1), (94, .bool false), (95, .bool false), (96, .bool false), (97, sN eb15 eo15 1 k15), (98, .pointer (some ⟨eb15, eo15, none⟩)), (99, .agg #[iN ((fn (vr 0) (vr 0)).kind), iN ((fn (vr 0) (vr 0)).num), .slice qA15 ((fn (vr 0) (vr 0)).kids.length) qc15])] (rc_C ((ha15).mono ((((((((((hG16).trans hG17).trans hG18).trans hG19).trans hG20).trans hG21).trans hG22).trans hG23).trans hG24).trans hG25)) (rc_C ((hb15).mono ((((((((((hG16).trans hG17).trans hG18).trans hG19).trans hG20).trans hG21).trans hG22).trans hG23).trans hG24).trans hG25)) (rc_C ((hc_15).mono ((((((((((hG16).trans hG17).trans hG18).trans hG19).trans hG20).trans hG21).trans hG22).trans hG23).trans hG24).trans hG25)) rc_nil))) ?_;refine m_callE #[iN 0] (some 100) e_ (c50  H) ?_;rintro x26 w1 ⟨G26, hG26, hx26, H⟩;refine ⟨H.ss' ((Le.refl _).trans hG26) (fun _ hp => hp), ?_⟩;refine m_callE #[iN 0] (some 101) e_ (c50  H) ?_;rintro x27 w1 ⟨G27, hG27, hx27, H⟩;refine ⟨H.ss' (((Le.refl _).trans hG26).trans hG27) (fun _ hp => hp), ?_⟩;refine m_callE #[x26, x27] (some 102) e_ (c26 ((hx26).mono (hG27)) (hx27) H) ?_;rintro x28 w1 ⟨G28, hG28, hx28, H⟩;refine ⟨H.ss' ((((Le.refl _).trans hG26).trans hG27).trans hG28) (fun _ hp => hp), ?_⟩
 refine m_cl #[.agg #[iN ((fn (vr 0) (vr 0)).kind), iN ((fn (vr 0) (vr 0)).num), .slice qA15 ((fn (vr 0) (vr 0)).kids.length) qc15], x28] (some 103) (c18t (a := fn (vr 0) (vr 0)) (b := fn (vr 0) (vr 0)) (by decide) ((hx15).mono (((((((((((((hG16).trans hG17).trans hG18).trans hG19).trans hG20).trans hG21).trans hG22).trans hG23).trans hG24).trans hG25).trans hG26).trans hG27).trans hG28)) (hx28) (same_refl _) H) ?_;rintro _ w1 ⟨rfl, H⟩;refine nx H ?_;refine r_z [(104, .bool false), (105, .bool false), (106, .bool false), (107, .bool false), (108, .bool false), (109, .bool false), (110, iN 2), (111, .bool false), (112, .bool false)] ?_;refine W_cF ?_;refine W_skip ?_;refine W_seq ?_;replace H := H.weak ((((((((((((((((((((((((((((hG1).trans hG2).trans hG3).trans hG4).trans hG5).trans hG6).trans hG7).trans hG8).trans hG9).trans hG10).trans hG11).trans hG12).trans hG13).trans hG14).trans hG15).trans hG16).trans hG17).trans hG18).trans hG19).trans hG20).trans hG21).trans hG22).trans hG23).trans hG24).trans hG25).trans hG26).trans hG27).trans hG28);refine W_rg [(.f, 0), (.f, 1), (.f, 2), (.f, 3), (.f, 4), (.f, 5), (.f, 6), (.f, 7), (.f, 8), (.f, 9), (.p, 10), (.p, 11), (.p, 12), (.p, 13), (.p, 14)] H ?_;refine m_cl #[] (some 114) (c27  H) ?_;rintro x29 w1 ⟨G29, hG29, hx29, H⟩;refine nx H ?_;refine m_cl #[] (some 115) (c48  H) ?_;rintro x30 w1 ⟨G30, hG30, hx30, H⟩;refine nx H ?_;refine m_cl #[x29, x30] (some 116) (c26 ((hx29).mono (hG30)) (hx30) H) ?_;rintro x31 w1 ⟨G31, hG31, hx31, H⟩;refine nx H ?_;refine m_cl #[] (some 117) (c27  H) ?_;rintro x32 w1 ⟨G32, hG32, hx32, H⟩;refine nx H ?_;refine m_cl #[iN 0] (some 118) (c50  H) ?_;rintro x33 w1 ⟨G33, hG33, hx33, H⟩;refine nx H ?_;refine m_cl #[iN 0] (some 119) (c50  H) ?_;rintro x34 w1 ⟨G34, hG34, hx34, H⟩;refine nx H ?_;refine m_cl #[x33, x34] (some 120) (c26 ((hx33).mono (hG34)) (hx34) H) ?_;rintro x35 w1 ⟨G35, hG35, hx35, H⟩;refine nx H ?_;refine m_cl #[x32, x35] (some 121) (c26 ((hx32).mono (((hG33).trans hG34).trans hG35)) (hx35) H) ?_;rintro x36 w1 ⟨G36, hG36, hx36, H⟩;refine nx H ?_;refine m_cl #[x36] (some 122) (c49 (hx36) H) ?_;rintro x37 w1 ⟨G37, hG37, hx37, H⟩;refine nx H ?_;refine m_cl #[x31, x37] (some 123) (c43 ((hx31).mono ((((((hG32).trans hG33).trans hG34).trans hG35).trans hG36).trans hG37)) (hx37) (by decide) H aw5 (by decide)) ?_;rintro _ w1 ⟨G38, A38, k38, hG38, rfl, _, hk38, H⟩;refine nx H ?_;obtain ⟨eb38, eo38, qA38, qc38, rfl, ha38, hb38, hc_38, hx38⟩ := hk38.elem (i := 0) (t := vr 0) rfl;refine r_z [(113, .tuple #[sN eb38 eo38 1 k38, iN 0]), (124, sN eb38 eo38 1 k38), (125, iN 0), (9, sN eb38 eo38 1 k38), (2, iN 0)] ?_;refine W_sr [(.f, 0), (.f, 1), (.f, 2), (.f, 3), (.f, 4), (.f, 5), (.f, 6), (.f, 7), (.f, 8), (.f, 9), (.p, 10), (.p, 11), (.p, 12), (.p, 13), (.p, 14)] H ?_;refine m_cl #[] (some 127) (c27  H) ?_;rintro x39 w1 ⟨G39, hG39, hx39, H⟩;refine nx H ?_;refine m_cl #[iN 0] (some 128) (c50  H) ?_;rintro x40 w1 ⟨G40, hG40, hx40, H⟩;refine nx H ?_;refine m_cl #[iN 0] (some 129) (c50  H) ?_;rintro x41 w1 ⟨G41, hG41, hx41, H⟩;refine nx H ?_;refine m_cl #[x40, x41] (some 130) (c26 ((hx40).mono (hG41)) (hx41) H) ?_;rintro x42 w1 ⟨G42, hG42, hx42, H⟩;refine nx H ?_;refine m_cl #[x39, x42] (some 131) (c26 ((hx39).mono (((hG40).trans hG41).trans hG42)) (hx42) H) ?_;rintro x43 w1 ⟨G43, hG43, hx43, H⟩;refine nx H ?_;refine m_cl #[x43] (some 132) (c49 (hx43) H) ?_;rintro x44 w1 ⟨G44, hG44, hx44, H⟩;refine nx H ?_;refine m_cl #[] (some 133) (c27  H) ?_;rintro x45 w1 ⟨G45, hG45, hx45, H⟩;refine nx H ?_;refine m_cl #[] (some 134) (c48  H) ?_;rintro x46 w1 ⟨G46, hG46, hx46, H⟩;refine nx H ?_;refine m_cl #[x45, x46] (some 135) (c26 ((hx45).mono (hG46)) (hx46) H) ?_;rintro x47 w1 ⟨G47, hG47, hx47, H⟩;refine nx H ?_;refine m_cl #[x44, x47] (some 136) (c43 ((hx44).mono (((hG45).trans hG46).trans hG47)) (hx47) (by decide) H aw6 (by decide)) ?_;rintro _ w1 ⟨G48, A48, k48, hG48, rfl, _, hk48, H⟩
 refine nx H ?_;refine r_z [(126, .tuple #[.slice A48 0 k48, iN 6]), (137, .slice A48 0 k48), (138, iN 6), (10, .slice A48 0 k48), (11, iN 6)] ?_;refine W_sr [(.f, 0), (.f, 1), (.f, 2), (.f, 3), (.p, 4), (.p, 5), (.p, 6), (.p, 7), (.p, 8)] H ?_;refine m_cl #[] (some 140) (c27  H) ?_;rintro x49 w1 ⟨G49, hG49, hx49, H⟩;refine nx H ?_;refine m_cl #[x49] (some 141) (c49 (hx49) H) ?_;rintro x50 w1 ⟨G50, hG50, hx50, H⟩;refine nx H ?_;refine m_cl #[] (some 142) (c27  H) ?_;rintro x51 w1 ⟨G51, hG51, hx51, H⟩;refine nx H ?_;refine m_cl #[x50, x51] (some 143) (c43 ((hx50).mono (hG51)) (hx51) (by decide) H aw7 (by decide)) ?_;rintro _ w1 ⟨G52, A52, k52, hG52, rfl, _, hk52, H⟩;refine nx H ?_;obtain ⟨eb52, eo52, qA52, qc52, rfl, ha52, hb52, hc_52, hx52⟩ := hk52.elem (i := 0) (t := nt) rfl;refine r_z [(139, .tuple #[sN eb52 eo52 1 k52, iN 0]), (144, sN eb52 eo52 1 k52), (145, iN 0), (12, sN eb52 eo52 1 k52), (6, iN 0)] ?_;refine W_seq ?_;refine W_seq ?_;refine W_rgd [(.p, 0), (.p, 1), (.p, 2), (.p, 3), (.p, 4), (.p, 5), (.p, 6), (.p, 7), (.p, 8), (.p, 9), (.p, 10), (.p, 11), (.p, 12), (.p, 13), (.p, 14), (.p, 15), (.p, 16), (.p, 17), (.l, 18), (.e, 19), (.f, 20), (.p, 21), (.p, 22), (.p, 23), (.p, 24), (.p, 25), (.p, 26), (.p, 27), (.p, 28), (.p, 29), (.p, 30), (.l, 31), (.e, 32), (.f, 33), (.p, 34), (.p, 35)] H (fun w1 H => ?_);refine r_s [3] [(.p, 0), (.p, 1), (.p, 2), (.p, 3), (.p, 4), (.p, 5), (.p, 6), (.p, 7), (.p, 8), (.p, 9), (.p, 10), (.p, 11), (.p, 12), (.p, 13), (.p, 14), (.p, 15), (.p, 16), (.p, 17), (.l, 18)] [(146, iN 0), (147, .bool false), (148, .bool false), (149, iN 6), (150, .bool false), (151, .bool false), (152, .bool false), (153, iN 0), (154, .bool false), (155, .bool false), (156, .bool false), (157, sN eb38 eo38 1 k38), (158, iN 1), (159, .bool false), (160, .bool false), (161, .bool false), (162, sN eb38 eo38 1 k38), (163, .pointer (some ⟨eb38, eo38, none⟩)), (164, .agg #[iN ((vr 0).kind), iN ((vr 0).num), .slice qA38 ((vr 0).kids.length) qc38])] (rc_C ((ha38).mono ((((((((((((((hG39).trans hG40).trans hG41).trans hG42).trans hG43).trans hG44).trans hG45).trans hG46).trans hG47).trans hG48).trans hG49).trans hG50).trans hG51).trans hG52)) (rc_C ((hb38).mono ((((((((((((((hG39).trans hG40).trans hG41).trans hG42).trans hG43).trans hG44).trans hG45).trans hG46).trans hG47).trans hG48).trans hG49).trans hG50).trans hG51).trans hG52)) (rc_C ((hc_38).mono ((((((((((((((hG39).trans hG40).trans hG41).trans hG42).trans hG43).trans hG44).trans hG45).trans hG46).trans hG47).trans hG48).trans hG49).trans hG50).trans hG51).trans hG52)) rc_nil))) ?_;refine m_callE #[iN 0] (some 165) e_ (c50  H) ?_;rintro x53 w1 ⟨G53, hG53, hx53, H⟩;refine ⟨H.ss' ((Le.refl _).trans hG53) (fun _ hp => hp), ?_⟩;refine m_cl #[.agg #[iN ((vr 0).kind), iN ((vr 0).num), .slice qA38 ((vr 0).kids.length) qc38], x53] (some 166) (c18t (a := vr 0) (b := vr 0) (by decide) ((hx38).mono (((((((((((((((hG39).trans hG40).trans hG41).trans hG42).trans hG43).trans hG44).trans hG45).trans hG46).trans hG47).trans hG48).trans hG49).trans hG50).trans hG51).trans hG52).trans hG53)) (hx53) (same_refl _) H) ?_;rintro _ w1 ⟨rfl, H⟩;refine nx H ?_;refine r_s [3] [(.p, 21), (.p, 22), (.p, 23), (.p, 24), (.p, 25), (.p, 26), (.p, 27), (.p, 28), (.p, 29), (.p, 30), (.l, 31)] [(167, .bool false), (168, .bool false), (169, .bool false), (170, sN eb52 eo52 1 k52), (171, iN 1), (172, .bool false), (173, .bool false), (174, .bool false), (175, sN eb52 eo52 1 k52), (176, .pointer (some ⟨eb52, eo52, none⟩)), (177, (aT nt qA52 qc52))] (rc_C ((ha52).mono (hG53)) (rc_C ((hb52).mono (hG53)) (rc_C ((hc_52).mono (hG53)) rc_nil))) ?_;refine m_callE #[] (some 178) e_ (c27  H) ?_;rintro x54 w1 ⟨G54, hG54, hx54, H⟩;refine ⟨H.ss' ((Le.refl _).trans hG54) (fun _ hp => hp), ?_⟩;refine m_cl #[(aT nt qA52 qc52), x54] (some 179) (c18t (a := nt) (b := nt) (by decide) ((hx52).mono ((hG53).trans hG54)) (hx54) (same_refl _) H) ?_;rintro _ w1 ⟨rfl, H⟩
 refine nx H ?_;refine r_z [(180, .bool false), (181, .bool false)] ?_;refine W_cF ?_;refine W_skip ?_;refine W_seq ?_;replace H := H.weak ((((((((((((((((((((((((((hG29).trans hG30).trans hG31).trans hG32).trans hG33).trans hG34).trans hG35).trans hG36).trans hG37).trans hG38).trans hG39).trans hG40).trans hG41).trans hG42).trans hG43).trans hG44).trans hG45).trans hG46).trans hG47).trans hG48).trans hG49).trans hG50).trans hG51).trans hG52).trans hG53).trans hG54);refine W_rg [(.f, 0), (.f, 1), (.f, 2), (.p, 3), (.p, 4), (.p, 5), (.f, 6), (.f, 7), (.p, 8)] H ?_;refine m_cl #[iN 0] (some 183) (c52  H) ?_;rintro x55 w1 ⟨G55, hG55, hx55, H⟩;refine nx H ?_;refine m_cl #[x55] (some 184) (c51 (hx55) H) ?_;rintro x56 w1 ⟨G56, hG56, hx56, H⟩;refine nx H ?_;refine m_cl #[.slice none 0 0, x56] (some 185) (c29 (l := []) (IsPolys.nil) (Nat.le_refl _) (by decide) (hx56) (by decide) H aw8) ?_;rintro _ w1 ⟨G57, _, hG57, rfl, hx57, H⟩;refine nx H ?_;obtain ⟨A57, k57, rfl, _, _⟩ := id hx57.open;refine r_y [(.p, 3), (.p, 4), (.p, 5)] [(182, .tuple #[(aT idt A57 k57), iN 0]), (186, (aT idt A57 k57)), (187, iN 0)] ?_;refine m_nw oT 13 H (fun b1 w1 H => ?_);refine s_0 [(0, iN idt.kind), (1, iN idt.num), (2, .slice A57 idt.kids.length k57)] [iN idt.kind, iN idt.num, .slice A57 idt.kids.length k57] none H (fun w1 H => ?_);refine r_z [(2, iN 0)] ?_;refine W_sr [(.f, 0), (.f, 1), (.f, 2), (.f, 3), (.f, 4), (.p, 5), (.p, 6), (.p, 7), (.f, 8), (.f, 9), (.p, 10)] H ?_;refine m_cl #[iN 0] (some 189) (c52  H) ?_;rintro x58 w1 ⟨G58, hG58, hx58, H⟩;refine nx H ?_;refine m_cl #[iN 0] (some 190) (c52  H) ?_;rintro x59 w1 ⟨G59, hG59, hx59, H⟩;refine nx H ?_;refine m_cl #[x58, x59] (some 191) (c53 ((hx58).mono (hG59)) (hx59) H) ?_;rintro x60 w1 ⟨G60, hG60, hx60, H⟩;refine nx H ?_;refine m_cl #[x60] (some 192) (c51 (hx60) H) ?_;rintro x61 w1 ⟨G61, hG61, hx61, H⟩;refine nx H ?_;refine m_cl #[.slice none 0 0, x61] (some 193) (c29 (l := []) (IsPolys.nil) (Nat.le_refl _) (by decide) (hx61) (by decide) H aw9) ?_;rintro _ w1 ⟨G62, _, hG62, rfl, hx62, H⟩;refine nx H ?_;obtain ⟨A62, k62, rfl, _, _⟩ := id hx62.open;refine r_y [(.p, 5), (.p, 6), (.p, 7)] [(188, .tuple #[(aT t0 A62 k62), iN 8]), (194, (aT t0 A62 k62)), (195, iN 8)] ?_;refine m_nw oT 14 H (fun b2 w1 H => ?_);refine s_0 [(0, iN t0.kind), (1, iN t0.num), (2, .slice A62 t0.kids.length k62)] [iN t0.kind, iN t0.num, .slice A62 t0.kids.length k62] none H (fun w1 H => ?_);refine r_z [(15, iN 8)] ?_;refine W_sr [(.f, 0), (.f, 1), (.f, 2), (.f, 3), (.f, 4), (.f, 5), (.p, 6), (.p, 7), (.p, 8), (.f, 9), (.f, 10), (.p, 11)] H ?_;refine m_cl #[] (some 197) (c48  H) ?_;rintro x63 w1 ⟨G63, hG63, hx63, H⟩;refine nx H ?_;refine m_cl #[iN 0] (some 198) (c52  H) ?_;rintro x64 w1 ⟨G64, hG64, hx64, H⟩;refine nx H ?_;refine m_cl #[iN 0] (some 199) (c52  H) ?_;rintro x65 w1 ⟨G65, hG65, hx65, H⟩;refine nx H ?_;refine m_cl #[x64, x65] (some 200) (c53 ((hx64).mono (hG65)) (hx65) H) ?_;rintro x66 w1 ⟨G66, hG66, hx66, H⟩;refine nx H ?_;refine m_cl #[x63, x66] (some 201) (c54 ((hx63).mono (((hG64).trans hG65).trans hG66)) (hx66) H) ?_;rintro x67 w1 ⟨G67, hG67, hx67, H⟩;refine nx H ?_;refine m_cl #[.slice none 0 0, x67] (some 202) (c29 (l := []) (IsPolys.nil) (Nat.le_refl _) (by decide) (hx67) (by decide) H aw10) ?_;rintro _ w1 ⟨G68, _, hG68, rfl, hx68, H⟩;refine nx H ?_;obtain ⟨A68, k68, rfl, _, _⟩ := id hx68.open;refine r_y [(.p, 6), (.p, 7), (.p, 8)] [(196, .tuple #[.agg #[iN ((al (fn idt (fn (vr 0) (vr 0)))).kind), iN ((al (fn idt (fn (vr 0) (vr 0)))).num), .slice A68 ((al (fn idt (fn (vr 0) (vr 0)))).kids.length) k68], iN 0]), (203, .agg #[iN ((al (fn idt (fn (vr 0) (vr 0)))).kind), iN ((al (fn idt (fn (vr 0) (vr 0)))).num), .slice A68 ((al (fn idt (fn (vr 0) (vr 0)))).kids.length) k68]), (204, iN 0)] ?_;refine m_nw oT 16 H (fun b3 w1 H => ?_);refine s_0 [(0, iN ((al (fn idt (fn (vr 0) (vr 0)))).kind)), (1, iN ((al (fn idt (fn (vr 0) (vr 0)))).num)), (2, .slice A68 ((al (fn idt (fn (vr 0) (vr 0)))).kids.length) k68)] [iN ((al (fn idt (fn (vr 0) (vr 0)))).kind), iN ((al (fn idt (fn (vr 0) (vr 0)))).num), .slice A68 ((al (fn idt (fn (vr 0) (vr 0)))).kids.length) k68] none H (fun w1 H => ?_)
 refine r_z [(6, iN 0)] ?_;refine W_sr [(.f, 0), (.f, 1), (.f, 2), (.f, 3), (.f, 4), (.f, 5), (.f, 6), (.f, 7), (.f, 8), (.p, 9), (.p, 10), (.p, 11), (.f, 12), (.f, 13), (.p, 14)] H ?_;refine m_cl #[] (some 206) (c48  H) ?_;rintro x69 w1 ⟨G69, hG69, hx69, H⟩;refine nx H ?_;refine m_cl #[] (some 207) (c27  H) ?_;rintro x70 w1 ⟨G70, hG70, hx70, H⟩;refine nx H ?_;refine m_cl #[x69, x70] (some 208) (c26 ((hx69).mono (hG70)) (hx70) H) ?_;rintro x71 w1 ⟨G71, hG71, hx71, H⟩;refine nx H ?_;obtain ⟨A71, k71, rfl, _, _⟩ := id hx71.open;refine m_new (.cells #[iN ((fn idt nt).kind), iN ((fn idt nt).num), .slice A71 ((fn idt nt).kids.length) k71] 24) (fun b4 => sN b4 0 1 1) (some 209) (fun b => by kernel_rfl) H (fun b4 w1 H => ?_);refine m_cl #[iN 0] (some 210) (c52  H) ?_;rintro x72 w1 ⟨G72, hG72, hx72, H⟩;refine nx H ?_;refine m_cl #[iN 0] (some 211) (c52  H) ?_;rintro x73 w1 ⟨G73, hG73, hx73, H⟩;refine nx H ?_;refine m_cl #[x73] (some 212) (c51 (hx73) H) ?_;rintro x74 w1 ⟨G74, hG74, hx74, H⟩;refine nx H ?_;refine m_cl #[x72, x74] (some 213) (c53 ((hx72).mono ((hG73).trans hG74)) (hx74) H) ?_;rintro x75 w1 ⟨G75, hG75, hx75, H⟩;refine nx H ?_;obtain ⟨G76, hG76, hF76, H⟩ := St.freeze [_] H
 have hl76 := polys_of (cs := [.int .i64 ((fn idt nt).kind), .int .i64 ((fn idt nt).num), .slice A71 ((fn idt nt).kids.length) k71]) (ts := [fn idt nt]) ⟨((hx71).mono ((((hG72).trans hG73).trans hG74).trans hG75)).mono hG76, trivial⟩ (hF76 _ (.head _))
 refine m_cl #[sN b4 0 1 1, x75] (some 214) (c29 (l := [fn idt nt]) hl76 (Nat.le_refl _) (by decide) ((hx75).mono (hG76)) (by decide) H aw11) ?_;rintro _ w1 ⟨G77, _, hG77, rfl, hx77, H⟩;refine nx H ?_;obtain ⟨A77, k77, rfl, _, _⟩ := id hx77.open;refine r_y [(.p, 9), (.p, 10), (.p, 11)] [(205, .tuple #[(aT nt A77 k77), iN 0]), (215, (aT nt A77 k77)), (216, iN 0)] ?_;refine m_nw oT 17 H (fun b5 w1 H => ?_);refine s_0 [(0, iN nt.kind), (1, iN nt.num), (2, .slice A77 nt.kids.length k77)] [iN nt.kind, iN nt.num, .slice A77 nt.kids.length k77] none H (fun w1 H => ?_);refine r_z [(8, iN 0)] ?_;refine W_sr [(.f, 0), (.f, 1), (.f, 2), (.f, 3), (.f, 4), (.f, 5), (.f, 6), (.f, 7), (.f, 8), (.p, 9), (.p, 10), (.p, 11), (.f, 12), (.f, 13), (.p, 14)] H ?_;refine m_cl #[] (some 218) (c48  H) ?_;rintro x78 w1 ⟨G78, hG78, hx78, H⟩;refine nx H ?_;refine m_cl #[] (some 219) (c27  H) ?_;rintro x79 w1 ⟨G79, hG79, hx79, H⟩;refine nx H ?_;refine m_cl #[x78, x79] (some 220) (c26 ((hx78).mono (hG79)) (hx79) H) ?_;rintro x80 w1 ⟨G80, hG80, hx80, H⟩;refine nx H ?_;obtain ⟨A80, k80, rfl, _, _⟩ := id hx80.open;refine m_new (.cells #[iN ((fn idt nt).kind), iN ((fn idt nt).num), .slice A80 ((fn idt nt).kids.length) k80] 24) (fun b6 => sN b6 0 1 1) (some 221) (fun b => by kernel_rfl) H (fun b6 w1 H => ?_);refine m_cl #[iN 0] (some 222) (c52  H) ?_;rintro x81 w1 ⟨G81, hG81, hx81, H⟩;refine nx H ?_;refine m_cl #[iN 3] (some 223) (c55  H) ?_;rintro x82 w1 ⟨G82, hG82, hx82, H⟩;refine nx H ?_;refine m_cl #[x82] (some 224) (c51 (hx82) H) ?_;rintro x83 w1 ⟨G83, hG83, hx83, H⟩;refine nx H ?_;refine m_cl #[x81, x83] (some 225) (c53 ((hx81).mono ((hG82).trans hG83)) (hx83) H) ?_;rintro x84 w1 ⟨G84, hG84, hx84, H⟩;refine nx H ?_;obtain ⟨G85, hG85, hF85, H⟩ := St.freeze [_] H
 have hl85 := polys_of (cs := [.int .i64 ((fn idt nt).kind), .int .i64 ((fn idt nt).num), .slice A80 ((fn idt nt).kids.length) k80]) (ts := [fn idt nt]) ⟨((hx80).mono ((((hG81).trans hG82).trans hG83).trans hG84)).mono hG85, trivial⟩ (hF85 _ (.head _))
 refine m_cl #[sN b6 0 1 1, x84] (some 226) (c29 (l := [fn idt nt]) hl85 (Nat.le_refl _) (by decide) ((hx84).mono (hG85)) (by decide) H aw12) ?_;rintro _ w1 ⟨G86, _, hG86, rfl, hx86, H⟩;refine nx H ?_;obtain ⟨A86, k86, rfl, _, _⟩ := id hx86.open;refine r_y [(.p, 9), (.p, 10), (.p, 11)] [(217, .tuple #[(aT t0 A86 k86), iN 8]), (227, (aT t0 A86 k86)), (228, iN 8)] ?_;refine m_nw oT 18 H (fun b7 w1 H => ?_);refine s_0 [(0, iN t0.kind), (1, iN t0.num), (2, .slice A86 t0.kids.length k86)] [iN t0.kind, iN t0.num, .slice A86 t0.kids.length k86] none H (fun w1 H => ?_);refine r_z [(19, iN 8)] ?_;refine W_sr [(.f, 0), (.f, 1), (.f, 2), (.f, 3), (.f, 4), (.f, 5), (.f, 6), (.p, 7), (.p, 8), (.p, 9), (.f, 10), (.f, 11), (.p, 12)] H ?_;refine m_cl #[iN 0] (some 230) (c52  H) ?_;rintro x87 w1 ⟨G87, hG87, hx87, H⟩;refine nx H ?_;refine m_cl #[x87] (some 231) (c51 (hx87) H) ?_;rintro x88 w1 ⟨G88, hG88, hx88, H⟩;refine nx H ?_;refine m_cl #[] (some 232) (c27  H) ?_;rintro x89 w1 ⟨G89, hG89, hx89, H⟩;refine nx H ?_;refine m_cl #[] (some 233) (c27  H) ?_;rintro x90 w1 ⟨G90, hG90, hx90, H⟩;refine nx H ?_;refine m_cl #[x89, x90] (some 234) (c26 ((hx89).mono (hG90)) (hx90) H) ?_;rintro x91 w1 ⟨G91, hG91, hx91, H⟩;refine nx H ?_;refine m_cl #[x88, x91] (some 235) (c31 ((hx88).mono (((hG89).trans hG90).trans hG91)) (hx91) H) ?_;rintro x92 w1 ⟨G92, hG92, hx92, H⟩;refine nx H ?_;refine m_cl #[.slice none 0 0, x92] (some 236) (c29 (l := []) (IsPolys.nil) (Nat.le_refl _) (by decide) (hx92) (by decide) H aw13) ?_;rintro _ w1 ⟨G93, _, hG93, rfl, hx93, H⟩;refine nx H ?_;obtain ⟨A93, k93, rfl, _, _⟩ := id hx93.open;refine r_y [(.p, 7), (.p, 8), (.p, 9)] [(229, .tuple #[.agg #[iN ((fn nt nt).kind), iN ((fn nt nt).num), .slice A93 ((fn nt nt).kids.length) k93], iN 0]), (237, .agg #[iN ((fn nt nt).kind), iN ((fn nt nt).num), .slice A93 ((fn nt nt).kids.length) k93]), (238, iN 0)] ?_;refine m_nw oT 20 H (fun b8 w1 H => ?_);refine s_0 [(0, iN ((fn nt nt).kind)), (1, iN ((fn nt nt).num)), (2, .slice A93 ((fn nt nt).kids.length) k93)] [iN ((fn nt nt).kind), iN ((fn nt nt).num), .slice A93 ((fn nt nt).kids.length) k93] none H (fun w1 H => ?_);refine r_z [(21, iN 0)] ?_;refine W_seq ?_;refine W_seq ?_;refine W_rgd [(.p, 0), (.p, 1), (.p, 2), (.p, 3), (.p, 4), (.p, 5), (.p, 6), (.p, 7), (.p, 8), (.p, 9), (.p, 10), (.p, 11), (.p, 12), (.p, 13), (.p, 14), (.p, 15), (.p, 16), (.p, 17), (.p, 18), (.p, 19), (.p, 20), (.p, 21), (.p, 22), (.l, 23), (.e, 24), (.f, 25), (.p, 26), (.p, 27), (.p, 28), (.l, 29), (.e, 30), (.e, 31), (.e, 32), (.e, 33), (.e, 34), (.e, 35), (.f, 36), (.p, 37), (.p, 38), (.p, 39), (.l, 40), (.e, 41), (.f, 42), (.p, 43), (.p, 44), (.p, 45), (.l, 46), (.e, 47), (.e, 48), (.e, 49), (.f, 50), (.p, 51), (.p, 52)] H (fun w1 H => ?_);refine r_s [3] [(.p, 0), (.p, 1), (.p, 2), (.p, 3), (.p, 4), (.p, 5), (.p, 6), (.p, 7), (.p, 8), (.p, 9), (.p, 10), (.p, 11), (.p, 12), (.p, 13), (.p, 14), (.p, 15), (.p, 16), (.p, 17), (.p, 18), (.p, 19), (.p, 20), (.p, 21), (.p, 22), (.l, 23)] [(239, iN 0), (240, .bool false), (241, .bool false), (242, iN 8), (243, .bool false), (244, .bool false), (245, .bool false), (246, iN 0), (247, .bool false), (248, .bool false), (249, .bool false), (250, iN 0), (251, .bool false), (252, .bool false), (253, .bool false), (254, iN 8), (255, .bool false), (256, .bool false), (257, .bool false), (258, iN 0), (259, .bool false), (260, .bool false), (261, .bool false), (262, (aT idt A57 k57))] (rc_l 5 0 rfl rfl (rc_l 5 1 rfl rfl (rc_l 5 2 rfl rfl rc_nil))) ?_;refine m_callE #[] (some 263) e_ (c48  H) ?_;rintro x94 w1 ⟨G94, hG94, hx94, H⟩;refine ⟨H.ss' ((Le.refl _).trans hG94) (fun _ hp => hp), ?_⟩;refine m_cl #[(aT idt A57 k57), x94] (some 264) (c18t (a := idt) (b := idt) (by decide) ((hx57).mono (((((((((((((((((((((((((((((((((((((hG58).trans hG59).trans hG60).trans hG61).trans hG62).trans hG63).trans hG64).trans hG65).trans hG66).trans hG67).trans hG68).trans hG69).trans hG70).trans hG71).trans hG72).trans hG73).trans hG74).trans hG75).trans hG76).trans hG77).trans hG78).trans hG79).trans hG80).trans hG81).trans hG82).trans hG83).trans hG84).trans hG85).trans hG86).trans hG87).trans hG88).trans hG89).trans hG90).trans hG91).trans hG92).trans hG93).trans hG94)) (hx94) (same_refl _) H) ?_
 rintro _ w1 ⟨rfl, H⟩;refine nx H ?_;refine r_s [3] [(.p, 26), (.p, 27), (.p, 28), (.l, 29)] [(265, .bool false), (266, .bool false), (267, .bool false), (268, .agg #[iN ((al (fn idt (fn (vr 0) (vr 0)))).kind), iN ((al (fn idt (fn (vr 0) (vr 0)))).num), .slice A68 ((al (fn idt (fn (vr 0) (vr 0)))).kids.length) k68])] (rc_l 3 0 rfl rfl (rc_l 3 1 rfl rfl (rc_l 3 2 rfl rfl rc_nil))) ?_;refine m_callE #[] (some 269) e_ (c48  H) ?_;rintro x95 w1 ⟨G95, hG95, hx95, H⟩;refine ⟨H.ss' ((Le.refl _).trans hG95) (fun _ hp => hp), ?_⟩;refine m_callE #[iN 0] (some 270) e_ (c50  H) ?_;rintro x96 w1 ⟨G96, hG96, hx96, H⟩;refine ⟨H.ss' (((Le.refl _).trans hG95).trans hG96) (fun _ hp => hp), ?_⟩;refine m_callE #[iN 0] (some 271) e_ (c50  H) ?_;rintro x97 w1 ⟨G97, hG97, hx97, H⟩;refine ⟨H.ss' ((((Le.refl _).trans hG95).trans hG96).trans hG97) (fun _ hp => hp), ?_⟩;refine m_callE #[x96, x97] (some 272) e_ (c26 ((hx96).mono (hG97)) (hx97) H) ?_;rintro x98 w1 ⟨G98, hG98, hx98, H⟩;refine ⟨H.ss' (((((Le.refl _).trans hG95).trans hG96).trans hG97).trans hG98) (fun _ hp => hp), ?_⟩;refine m_callE #[x95, x98] (some 273) e_ (c26 ((hx95).mono (((hG96).trans hG97).trans hG98)) (hx98) H) ?_;rintro x99 w1 ⟨G99, hG99, hx99, H⟩;refine ⟨H.ss' ((((((Le.refl _).trans hG95).trans hG96).trans hG97).trans hG98).trans hG99) (fun _ hp => hp), ?_⟩;refine m_callE #[x99] (some 274) e_ (c49 (hx99) H) ?_;rintro x100 w1 ⟨G100, hG100, hx100, H⟩;refine ⟨H.ss' (((((((Le.refl _).trans hG95).trans hG96).trans hG97).trans hG98).trans hG99).trans hG100) (fun _ hp => hp), ?_⟩;refine m_cl #[.agg #[iN ((al (fn idt (fn (vr 0) (vr 0)))).kind), iN ((al (fn idt (fn (vr 0) (vr 0)))).num), .slice A68 ((al (fn idt (fn (vr 0) (vr 0)))).kids.length) k68], x100] (some 275) (c18t (a := al (fn idt (fn (vr 0) (vr 0)))) (b := al (fn idt (fn (vr 0) (vr 0)))) (by decide) ((hx68).mono ((((((((((((((((((((((((((((((((hG69).trans hG70).trans hG71).trans hG72).trans hG73).trans hG74).trans hG75).trans hG76).trans hG77).trans hG78).trans hG79).trans hG80).trans hG81).trans hG82).trans hG83).trans hG84).trans hG85).trans hG86).trans hG87).trans hG88).trans hG89).trans hG90).trans hG91).trans hG92).trans hG93).trans hG94).trans hG95).trans hG96).trans hG97).trans hG98).trans hG99).trans hG100)) (hx100) (same_refl _) H) ?_;rintro _ w1 ⟨rfl, H⟩;refine nx H ?_;refine r_s [3] [(.p, 37), (.p, 38), (.p, 39), (.l, 40)] [(276, .bool false), (277, .bool false), (278, .bool false), (279, (aT nt A77 k77))] (rc_l 2 0 rfl rfl (rc_l 2 1 rfl rfl (rc_l 2 2 rfl rfl rc_nil))) ?_;refine m_callE #[] (some 280) e_ (c27  H) ?_;rintro x101 w1 ⟨G101, hG101, hx101, H⟩;refine ⟨H.ss' ((Le.refl _).trans hG101) (fun _ hp => hp), ?_⟩;refine m_cl #[(aT nt A77 k77), x101] (some 281) (c18t (a := nt) (b := nt) (by decide) ((hx77).mono ((((((((((((((((((((((((hG78).trans hG79).trans hG80).trans hG81).trans hG82).trans hG83).trans hG84).trans hG85).trans hG86).trans hG87).trans hG88).trans hG89).trans hG90).trans hG91).trans hG92).trans hG93).trans hG94).trans hG95).trans hG96).trans hG97).trans hG98).trans hG99).trans hG100).trans hG101)) (hx101) (same_refl _) H) ?_;rintro _ w1 ⟨rfl, H⟩;refine nx H ?_;refine r_s [3] [(.p, 43), (.p, 44), (.p, 45), (.l, 46)] [(282, .bool false), (283, .bool false), (284, .bool false), (285, .agg #[iN ((fn nt nt).kind), iN ((fn nt nt).num), .slice A93 ((fn nt nt).kids.length) k93])] (rc_l 0 0 rfl rfl (rc_l 0 1 rfl rfl (rc_l 0 2 rfl rfl rc_nil))) ?_;refine m_callE #[] (some 286) e_ (c27  H) ?_;rintro x102 w1 ⟨G102, hG102, hx102, H⟩;refine ⟨H.ss' ((Le.refl _).trans hG102) (fun _ hp => hp), ?_⟩;refine m_callE #[] (some 287) e_ (c27  H) ?_;rintro x103 w1 ⟨G103, hG103, hx103, H⟩;refine ⟨H.ss' (((Le.refl _).trans hG102).trans hG103) (fun _ hp => hp), ?_⟩;refine m_callE #[x102, x103] (some 288) e_ (c26 ((hx102).mono (hG103)) (hx103) H) ?_;rintro x104 w1 ⟨G104, hG104, hx104, H⟩;refine ⟨H.ss' ((((Le.refl _).trans hG102).trans hG103).trans hG104) (fun _ hp => hp), ?_⟩
 refine m_cl #[.agg #[iN ((fn nt nt).kind), iN ((fn nt nt).num), .slice A93 ((fn nt nt).kids.length) k93], x104] (some 289) (c18t (a := fn nt nt) (b := fn nt nt) (by decide) ((hx93).mono (((((((((((hG94).trans hG95).trans hG96).trans hG97).trans hG98).trans hG99).trans hG100).trans hG101).trans hG102).trans hG103).trans hG104)) (hx104) (same_refl _) H) ?_;rintro _ w1 ⟨rfl, H⟩;refine nx H ?_;refine r_z [(290, .bool false), (291, .bool false)] ?_;refine W_cF ?_;refine W_skip ?_;refine W_seq ?_;refine W_seq ?_;replace H := H.weak ((((((((((((((((((((((((((((((((((((((((((((((((((hG55).trans hG56).trans hG57).trans hG58).trans hG59).trans hG60).trans hG61).trans hG62).trans hG63).trans hG64).trans hG65).trans hG66).trans hG67).trans hG68).trans hG69).trans hG70).trans hG71).trans hG72).trans hG73).trans hG74).trans hG75).trans hG76).trans hG77).trans hG78).trans hG79).trans hG80).trans hG81).trans hG82).trans hG83).trans hG84).trans hG85).trans hG86).trans hG87).trans hG88).trans hG89).trans hG90).trans hG91).trans hG92).trans hG93).trans hG94).trans hG95).trans hG96).trans hG97).trans hG98).trans hG99).trans hG100).trans hG101).trans hG102).trans hG103).trans hG104);refine W_rg [(.p, 0), (.p, 1), (.p, 2), (.p, 3), (.p, 4), (.p, 5), (.f, 6), (.p, 7), (.p, 8)] H ?_;refine r_y [(.p, 0), (.p, 1), (.p, 2), (.p, 3), (.p, 4), (.p, 5)] [(292, .agg #[.string (bs [98]), iN 0]), (293, .agg #[.string (bs [97]), iN 1]), (294, .agg #[.string (bs [97, 108, 108, 32, 98, 46, 32, 98]), iN 4]), (295, .agg #[.string (bs [40, 78, 41]), iN 2]), (296, .agg #[.string (bs [78, 32, 45, 62, 32]), iN 5]), (297, .agg #[.string (bs [78, 32, 45, 62, 78]), iN 4])] ?_;refine m_new (.cells #[.string (bs [98]), iN 0, .string (bs [97]), iN 1, .string (bs [97, 108, 108, 32, 98, 46, 32, 98]), iN 4, .string (bs [40, 78, 41]), iN 2, .string (bs [78, 32, 45, 62, 32]), iN 5, .string (bs [78, 32, 45, 62, 78]), iN 4] 81) (fun b9 => sN b9 0 6 6) (some 298) (fun b => by kernel_rfl) H (fun b9 w1 H => ?_);refine r_z [(299, iN 6), (300, iN 0)] ?_;refine W_block ?_;refine W_loop (fun m ρ D w => D = [] ∧ ((m = 6 ∧ EqS ρ [(298, sN b9 0 6 6), (299, iN 6), (300, iN 0)] ∧ St G ((b9, .cells #[.string (bs [98]), iN 0, .string (bs [97]), iN 1, .string (bs [97, 108, 108, 32, 98, 46, 32, 98]), iN 4, .string (bs [40, 78, 41]), iN 2, .string (bs [78, 32, 45, 62, 32]), iN 5, .string (bs [78, 32, 45, 62, 78]), iN 4] 81) :: (b8, .cells #[iN ((fn nt nt).kind), iN ((fn nt nt).num), .slice A93 ((fn nt nt).kids.length) k93] 24) :: (b7, cT t0 A86 k86) :: (b5, cT nt A77 k77) :: (b3, .cells #[iN ((al (fn idt (fn (vr 0) (vr 0)))).kind), iN ((al (fn idt (fn (vr 0) (vr 0)))).num), .slice A68 ((al (fn idt (fn (vr 0) (vr 0)))).kids.length) k68] 24) :: (b2, cT t0 A62 k62) :: (b1, cT idt A57 k57) :: L) w) ∨ ((m = 5 ∧ EqS ρ [(298, sN b9 0 6 6), (299, iN 6), (300, iN 1)] ∧ St G ((b9, .cells #[.string (bs [98]), iN 0, .string (bs [97]), iN 1, .string (bs [97, 108, 108, 32, 98, 46, 32, 98]), iN 4, .string (bs [40, 78, 41]), iN 2, .string (bs [78, 32, 45, 62, 32]), iN 5, .string (bs [78, 32, 45, 62, 78]), iN 4] 81) :: (b8, .cells #[iN ((fn nt nt).kind), iN ((fn nt nt).num), .slice A93 ((fn nt nt).kids.length) k93] 24) :: (b7, cT t0 A86 k86) :: (b5, cT nt A77 k77) :: (b3, .cells #[iN ((al (fn idt (fn (vr 0) (vr 0)))).kind), iN ((al (fn idt (fn (vr 0) (vr 0)))).num), .slice A68 ((al (fn idt (fn (vr 0) (vr 0)))).kids.length) k68] 24) :: (b2, cT t0 A62 k62) :: (b1, cT idt A57 k57) :: L) w) ∨ ((m = 4 ∧ EqS ρ [(298, sN b9 0 6 6), (299, iN 6), (300, iN 2)] ∧ St G ((b9, .cells #[.string (bs [98]), iN 0, .string (bs [97]), iN 1, .string (bs [97, 108, 108, 32, 98, 46, 32, 98]), iN 4, .string (bs [40, 78, 41]), iN 2, .string (bs [78, 32, 45, 62, 32]), iN 5, .string (bs [78, 32, 45, 62, 78]), iN 4] 81) :: (b8, .cells #[iN ((fn nt nt).kind), iN ((fn nt nt).num), .slice A93 ((fn nt nt).kids.length) k93] 24) :: (b7, cT t0 A86 k86) :: (b5, cT nt A77 k77) :: (b3, .cells #[iN ((al (fn idt (fn (vr 0) (vr 0)))).kind), iN ((al (fn idt (fn (vr 0) (vr 0)))).num), .slice A68 ((al (fn idt (fn (vr 0) (vr 0)))).kids.length) k68] 24) :: (b2, cT t0 A62 k62) :: (b1, cT idt A57 k57) :: L) w) ∨ ((m = 3 ∧ EqS ρ [(298, sN b9 0 6 6), (299, iN 6), (300, iN 3)] ∧ St G ((b9, .cells #[.string (bs [98]), iN 0, .string (bs [97]), iN 1, .string (bs [97, 108, 108, 32, 98, 46, 32, 98]), iN 4, .string (bs [40, 78, 41]), iN 2, .string (bs [78, 32, 45, 62, 32]), iN 5, .string (bs [78, 32, 45, 62, 78]), iN 4] 81) :: (b8, .cells #[iN ((fn nt nt).kind), iN ((fn nt nt).num), .slice A93 ((fn nt nt).kids.length) k93] 24) :: (b7, cT t0 A86 k86) :: (b5, cT nt A77 k77) :: (b3, .cells #[iN ((al (fn idt (fn (vr 0) (vr 0)))).kind), iN ((al (fn idt (fn (vr 0) (vr 0)))).num), .slice A68 ((al (fn idt (fn (vr 0) (vr 0)))).kids.length) k68] 24) :: (b2, cT t0 A62 k62) :: (b1, cT idt A57 k57) :: L) w) ∨ ((m = 2 ∧ EqS ρ [(298, sN b9 0 6 6), (299, iN 6), (300, iN 4)] ∧ St G ((b9, .cells #[.string (bs [98]), iN 0, .string (bs [97]), iN 1, .string (bs [97, 108, 108, 32, 98, 46, 32, 98]), iN 4, .string (bs [40, 78, 41]), iN 2, .string (bs [78, 32, 45, 62, 32]), iN 5, .string (bs [78, 32, 45, 62, 78]), iN 4] 81) :: (b8, .cells #[iN ((fn nt nt).kind), iN ((fn nt nt).num), .slice A93 ((fn nt nt).kids.length) k93] 24) :: (b7, cT t0 A86 k86) :: (b5, cT nt A77 k77) :: (b3, .cells #[iN ((al (fn idt (fn (vr 0) (vr 0)))).kind), iN ((al (fn idt (fn (vr 0) (vr 0)))).num), .slice A68 ((al (fn idt (fn (vr 0) (vr 0)))).kids.length) k68] 24) :: (b2, cT t0 A62 k62) :: (b1, cT idt A57 k57) :: L) w) ∨ ((m = 1 ∧ EqS ρ [(298, sN b9 0 6 6), (299, iN 6), (300, iN 5)] ∧ St G ((b9, .cells #[.string (bs [98]), iN 0, .string (bs [97]), iN 1, .string (bs [97, 108, 108, 32, 98, 46, 32, 98]), iN 4, .string (bs [40, 78, 41]), iN 2, .string (bs [78, 32, 45, 62, 32]), iN 5, .string (bs [78, 32, 45, 62, 78]), iN 4] 81) :: (b8, .cells #[iN ((fn nt nt).kind), iN ((fn nt nt).num), .slice A93 ((fn nt nt).kids.length) k93] 24) :: (b7, cT t0 A86 k86) :: (b5, cT nt A77 k77) :: (b3, .cells #[iN ((al (fn idt (fn (vr 0) (vr 0)))).kind), iN ((al (fn idt (fn (vr 0) (vr 0)))).num), .slice A68 ((al (fn idt (fn (vr 0) (vr 0)))).kids.length) k68] 24) :: (b2, cT t0 A62 k62) :: (b1, cT idt A57 k57) :: L) w) ∨ ((m = 0 ∧ EqS ρ [(298, sN b9 0 6 6), (299, iN 6), (300, iN 6)] ∧ St G ((b9, .cells #[.string (bs [98]), iN 0, .string (bs [97]), iN 1, .string (bs [97, 108, 108, 32, 98, 46, 32, 98]), iN 4, .string (bs [40, 78, 41]), iN 2, .string (bs [78, 32, 45, 62, 32]), iN 5, .string (bs [78, 32, 45, 62, 78]), iN 4] 81) :: (b8, .cells #[iN ((fn nt nt).kind), iN ((fn nt nt).num), .slice A93 ((fn nt nt).kids.length) k93] 24) :: (b7, cT t0 A86 k86) :: (b5, cT nt A77 k77) :: (b3, .cells #[iN ((al (fn idt (fn (vr 0) (vr 0)))).kind), iN ((al (fn idt (fn (vr 0) (vr 0)))).num), .slice A68 ((al (fn idt (fn (vr 0) (vr 0)))).kids.length) k68] 24) :: (b2, cT t0 A62 k62) :: (b1, cT idt A57 k57) :: L) w))))))))) 6 ⟨rfl, .inl (⟨rfl, ⟨e_, e_, e_, trivial⟩, H⟩)⟩ ?_
 clear H; rintro m ρ D w1 ⟨rfl, ⟨rfl, hE, H⟩ | ⟨rfl, hE, H⟩ | ⟨rfl, hE, H⟩ | ⟨rfl, hE, H⟩ | ⟨rfl, hE, H⟩ | ⟨rfl, hE, H⟩ | ⟨rfl, hE, H⟩⟩
 ·refine W_env hE ?_;refine W_sr [(.p, 0)] H ?_;refine r_z [(301, .bool true)] ?_;refine W_seq ?_;refine W_cT ?_;refine W_skip ?_;refine W_seq ?_;refine W_block ?_;refine W_sr [(.p, 0), (.l, 1), (.f, 2), (.f, 3)] H ?_;refine r_s [2] [(.p, 0), (.l, 1)] [(302, pN b9 0), (303, .agg #[.string (bs [98]), iN 0])] (rc_l 0 0 rfl rfl (rc_l 0 1 rfl rfl rc_nil)) ?_;refine m_nw (.cells #[.string (bs []), iN 0] 81) 23 H (fun b22 w1 H => ?_);refine s_0 [(0, .string (bs [98])), (1, iN 0)] [.string (bs [98]), iN 0] none H (fun w1 H => ?_);refine r_nil ?_;refine W_sr [(.p, 0), (.l, 1), (.f, 2), (.p, 3), (.p, 4), (.p, 5), (.p, 6), (.f, 7), (.f, 8), (.p, 9), (.p, 10)] H ?_;refine r_s [1] [(.p, 0), (.l, 1)] [(305, pN b22 0), (306, .string (bs [98]))] (rc_l 0 0 rfl rfl rc_nil) ?_;refine m_cl #[.string (bs [98])] (some 307) (c16 (by decide) H aw14) ?_;rintro _ w1 ⟨G111, zA, zc, rfl, hG111, _, H⟩;refine nx H ?_;refine r_y [(.p, 3), (.p, 4), (.p, 5), (.p, 6)] [(304, .tuple #[(aT t0 zA zc), iN 0, iN 4]), (308, (aT t0 zA zc)), (309, iN 0), (310, iN 4)] ?_;refine m_nw oT 24 H (fun b23 w1 H => ?_);refine s_0 [(0, iN t0.kind), (1, iN t0.num), (2, .slice zA t0.kids.length zc)] [iN t0.kind, iN t0.num, .slice zA t0.kids.length zc] none H (fun w1 H => ?_);refine r_z [(25, iN 0), (26, iN 4)] ?_;refine W_sr [(.p, 0), (.p, 1), (.l, 2), (.p, 3), (.p, 4), (.p, 5), (.p, 6), (.p, 7)] H ?_;refine r_x [1] [(311, iN 0), (312, pN b22 1), (313, iN 0), (314, .bool false), (315, .bool false), (316, iN 4), (317, .bool false), (318, .bool false)] (rc_l 1 1 rfl rfl rc_nil) ?_;refine W_cF ?_;refine W_skip ?_;replace H := H.weak (hG111);have H := H.drop [_, _];refine W_rg (pL 2) H ?_;refine r_z [(319, iN 1), (300, iN 1)] ?_
  exact ⟨5, by decide, rfl, .inr (.inl (⟨rfl, ⟨e_, e_, e_, trivial⟩, H⟩))⟩
 ·refine W_env hE ?_;refine W_sr [(.p, 0)] H ?_;refine r_z [(301, .bool true)] ?_;refine W_seq ?_;refine W_cT ?_;refine W_skip ?_;refine W_seq ?_;refine W_block ?_;refine W_sr [(.p, 0), (.l, 1), (.f, 2), (.f, 3)] H ?_;refine r_s [2] [(.p, 0), (.l, 1)] [(302, pN b9 2), (303, .agg #[.string (bs [97]), iN 1])] (rc_l 0 2 rfl rfl (rc_l 0 3 rfl rfl rc_nil)) ?_;refine m_nw (.cells #[.string (bs []), iN 0] 81) 23 H (fun b24 w1 H => ?_);refine s_0 [(0, .string (bs [97])), (1, iN 1)] [.string (bs [97]), iN 1] none H (fun w1 H => ?_);refine r_nil ?_;refine W_sr [(.p, 0), (.l, 1), (.f, 2), (.p, 3), (.p, 4), (.p, 5), (.p, 6), (.f, 7), (.f, 8), (.p, 9), (.p, 10)] H ?_;refine r_s [1] [(.p, 0), (.l, 1)] [(305, pN b24 0), (306, .string (bs [97]))] (rc_l 0 0 rfl rfl rc_nil) ?_;refine m_cl #[.string (bs [97])] (some 307) (c16 (by decide) H aw15) ?_;rintro _ w1 ⟨G112, zA, zc, rfl, hG112, _, H⟩;refine nx H ?_;refine r_y [(.p, 3), (.p, 4), (.p, 5), (.p, 6)] [(304, .tuple #[(aT t0 zA zc), iN 1, iN 4]), (308, (aT t0 zA zc)), (309, iN 1), (310, iN 4)] ?_;refine m_nw oT 24 H (fun b25 w1 H => ?_);refine s_0 [(0, iN t0.kind), (1, iN t0.num), (2, .slice zA t0.kids.length zc)] [iN t0.kind, iN t0.num, .slice zA t0.kids.length zc] none H (fun w1 H => ?_);refine r_z [(25, iN 1), (26, iN 4)] ?_;refine W_sr [(.p, 0), (.p, 1), (.l, 2), (.p, 3), (.p, 4), (.p, 5), (.p, 6), (.p, 7)] H ?_;refine r_x [1] [(311, iN 1), (312, pN b24 1), (313, iN 1), (314, .bool false), (315, .bool false), (316, iN 4), (317, .bool false), (318, .bool false)] (rc_l 1 1 rfl rfl rc_nil) ?_;refine W_cF ?_;refine W_skip ?_;replace H := H.weak (hG112);have H := H.drop [_, _];refine W_rg (pL 2) H ?_;refine r_z [(319, iN 2), (300, iN 2)] ?_
  exact ⟨4, by decide, rfl, .inr (.inr (.inl (⟨rfl, ⟨e_, e_, e_, trivial⟩, H⟩)))⟩
 ·refine W_env hE ?_;refine W_sr [(.p, 0)] H ?_;refine r_z [(301, .bool true)] ?_;refine W_seq ?_;refine W_cT ?_;refine W_skip ?_;refine W_seq ?_;refine W_block ?_;refine W_sr [(.p, 0), (.l, 1), (.f, 2), (.f, 3)] H ?_;refine r_s [2] [(.p, 0), (.l, 1)] [(302, pN b9 4), (303, .agg #[.string (bs [97, 108, 108, 32, 98, 46, 32, 98]), iN 4])] (rc_l 0 4 rfl rfl (rc_l 0 5 rfl rfl rc_nil)) ?_;refine m_nw (.cells #[.string (bs []), iN 0] 81) 23 H (fun b26 w1 H => ?_);refine s_0 [(0, .string (bs [97, 108, 108, 32, 98, 46, 32, 98])), (1, iN 4)] [.string (bs [97, 108, 108, 32, 98, 46, 32, 98]), iN 4] none H (fun w1 H => ?_);refine r_nil ?_;refine W_sr [(.p, 0), (.l, 1), (.f, 2), (.p, 3), (.p, 4), (.p, 5), (.p, 6), (.f, 7), (.f, 8), (.p, 9), (.p, 10)] H ?_;refine r_s [1] [(.p, 0), (.l, 1)] [(305, pN b26 0), (306, .string (bs [97, 108, 108, 32, 98, 46, 32, 98]))] (rc_l 0 0 rfl rfl rc_nil) ?_;refine m_cl #[.string (bs [97, 108, 108, 32, 98, 46, 32, 98])] (some 307) (c16 (by decide) H aw16) ?_;rintro _ w1 ⟨G113, zA, zc, rfl, hG113, _, H⟩;refine nx H ?_;refine r_y [(.p, 3), (.p, 4), (.p, 5), (.p, 6)] [(304, .tuple #[(aT t0 zA zc), iN 4, iN 4]), (308, (aT t0 zA zc)), (309, iN 4), (310, iN 4)] ?_;refine m_nw oT 24 H (fun b27 w1 H => ?_);refine s_0 [(0, iN t0.kind), (1, iN t0.num), (2, .slice zA t0.kids.length zc)] [iN t0.kind, iN t0.num, .slice zA t0.kids.length zc] none H (fun w1 H => ?_);refine r_z [(25, iN 4), (26, iN 4)] ?_;refine W_sr [(.p, 0), (.p, 1), (.l, 2), (.p, 3), (.p, 4), (.p, 5), (.p, 6), (.p, 7)] H ?_;refine r_x [1] [(311, iN 4), (312, pN b26 1), (313, iN 4), (314, .bool false), (315, .bool false), (316, iN 4), (317, .bool false), (318, .bool false)] (rc_l 1 1 rfl rfl rc_nil) ?_;refine W_cF ?_;refine W_skip ?_;replace H := H.weak (hG113);have H := H.drop [_, _];refine W_rg (pL 2) H ?_;refine r_z [(319, iN 3), (300, iN 3)] ?_
  exact ⟨3, by decide, rfl, .inr (.inr (.inr (.inl (⟨rfl, ⟨e_, e_, e_, trivial⟩, H⟩))))⟩
 ·refine W_env hE ?_;refine W_sr [(.p, 0)] H ?_;refine r_z [(301, .bool true)] ?_;refine W_seq ?_;refine W_cT ?_;refine W_skip ?_;refine W_seq ?_;refine W_block ?_;refine W_sr [(.p, 0), (.l, 1), (.f, 2), (.f, 3)] H ?_;refine r_s [2] [(.p, 0), (.l, 1)] [(302, pN b9 6), (303, .agg #[.string (bs [40, 78, 41]), iN 2])] (rc_l 0 6 rfl rfl (rc_l 0 7 rfl rfl rc_nil)) ?_;refine m_nw (.cells #[.string (bs []), iN 0] 81) 23 H (fun b28 w1 H => ?_);refine s_0 [(0, .string (bs [40, 78, 41])), (1, iN 2)] [.string (bs [40, 78, 41]), iN 2] none H (fun w1 H => ?_);refine r_nil ?_;refine W_sr [(.p, 0), (.l, 1), (.f, 2), (.p, 3), (.p, 4), (.p, 5), (.p, 6), (.f, 7), (.f, 8), (.p, 9), (.p, 10)] H ?_;refine r_s [1] [(.p, 0), (.l, 1)] [(305, pN b28 0), (306, .string (bs [40, 78, 41]))] (rc_l 0 0 rfl rfl rc_nil) ?_;refine m_cl #[.string (bs [40, 78, 41])] (some 307) (c16 (by decide) H aw17) ?_;rintro _ w1 ⟨G114, zA, zc, rfl, hG114, _, H⟩;refine nx H ?_;refine r_y [(.p, 3), (.p, 4), (.p, 5), (.p, 6)] [(304, .tuple #[(aT t0 zA zc), iN 2, iN 4]), (308, (aT t0 zA zc)), (309, iN 2), (310, iN 4)] ?_;refine m_nw oT 24 H (fun b29 w1 H => ?_);refine s_0 [(0, iN t0.kind), (1, iN t0.num), (2, .slice zA t0.kids.length zc)] [iN t0.kind, iN t0.num, .slice zA t0.kids.length zc] none H (fun w1 H => ?_);refine r_z [(25, iN 2), (26, iN 4)] ?_;refine W_sr [(.p, 0), (.p, 1), (.l, 2), (.p, 3), (.p, 4), (.p, 5), (.p, 6), (.p, 7)] H ?_;refine r_x [1] [(311, iN 2), (312, pN b28 1), (313, iN 2), (314, .bool false), (315, .bool false), (316, iN 4), (317, .bool false), (318, .bool false)] (rc_l 1 1 rfl rfl rc_nil) ?_;refine W_cF ?_;refine W_skip ?_;replace H := H.weak (hG114);have H := H.drop [_, _];refine W_rg (pL 2) H ?_;refine r_z [(319, iN 4), (300, iN 4)] ?_
  exact ⟨2, by decide, rfl, .inr (.inr (.inr (.inr (.inl (⟨rfl, ⟨e_, e_, e_, trivial⟩, H⟩)))))⟩
 ·refine W_env hE ?_;refine W_sr [(.p, 0)] H ?_;refine r_z [(301, .bool true)] ?_;refine W_seq ?_;refine W_cT ?_;refine W_skip ?_;refine W_seq ?_;refine W_block ?_;refine W_sr [(.p, 0), (.l, 1), (.f, 2), (.f, 3)] H ?_;refine r_s [2] [(.p, 0), (.l, 1)] [(302, pN b9 8), (303, .agg #[.string (bs [78, 32, 45, 62, 32]), iN 5])] (rc_l 0 8 rfl rfl (rc_l 0 9 rfl rfl rc_nil)) ?_;refine m_nw (.cells #[.string (bs []), iN 0] 81) 23 H (fun b30 w1 H => ?_);refine s_0 [(0, .string (bs [78, 32, 45, 62, 32])), (1, iN 5)] [.string (bs [78, 32, 45, 62, 32]), iN 5] none H (fun w1 H => ?_);refine r_nil ?_;refine W_sr [(.p, 0), (.l, 1), (.f, 2), (.p, 3), (.p, 4), (.p, 5), (.p, 6), (.f, 7), (.f, 8), (.p, 9), (.p, 10)] H ?_;refine r_s [1] [(.p, 0), (.l, 1)] [(305, pN b30 0), (306, .string (bs [78, 32, 45, 62, 32]))] (rc_l 0 0 rfl rfl rc_nil) ?_;refine m_cl #[.string (bs [78, 32, 45, 62, 32])] (some 307) (c16 (by decide) H aw18) ?_;rintro _ w1 ⟨G115, zA, zc, rfl, hG115, _, H⟩;refine nx H ?_;refine r_y [(.p, 3), (.p, 4), (.p, 5), (.p, 6)] [(304, .tuple #[(aT t0 zA zc), iN 5, iN 4]), (308, (aT t0 zA zc)), (309, iN 5), (310, iN 4)] ?_;refine m_nw oT 24 H (fun b31 w1 H => ?_);refine s_0 [(0, iN t0.kind), (1, iN t0.num), (2, .slice zA t0.kids.length zc)] [iN t0.kind, iN t0.num, .slice zA t0.kids.length zc] none H (fun w1 H => ?_);refine r_z [(25, iN 5), (26, iN 4)] ?_;refine W_sr [(.p, 0), (.p, 1), (.l, 2), (.p, 3), (.p, 4), (.p, 5), (.p, 6), (.p, 7)] H ?_;refine r_x [1] [(311, iN 5), (312, pN b30 1), (313, iN 5), (314, .bool false), (315, .bool false), (316, iN 4), (317, .bool false), (318, .bool false)] (rc_l 1 1 rfl rfl rc_nil) ?_;refine W_cF ?_;refine W_skip ?_;replace H := H.weak (hG115);have H := H.drop [_, _];refine W_rg (pL 2) H ?_;refine r_z [(319, iN 5), (300, iN 5)] ?_
  exact ⟨1, by decide, rfl, .inr (.inr (.inr (.inr (.inr (.inl (⟨rfl, ⟨e_, e_, e_, trivial⟩, H⟩))))))⟩
 ·refine W_env hE ?_;refine W_sr [(.p, 0)] H ?_;refine r_z [(301, .bool true)] ?_;refine W_seq ?_;refine W_cT ?_;refine W_skip ?_;refine W_seq ?_;refine W_block ?_;refine W_sr [(.p, 0), (.l, 1), (.f, 2), (.f, 3)] H ?_;refine r_s [2] [(.p, 0), (.l, 1)] [(302, pN b9 10), (303, .agg #[.string (bs [78, 32, 45, 62, 78]), iN 4])] (rc_l 0 10 rfl rfl (rc_l 0 11 rfl rfl rc_nil)) ?_;refine m_nw (.cells #[.string (bs []), iN 0] 81) 23 H (fun b32 w1 H => ?_);refine s_0 [(0, .string (bs [78, 32, 45, 62, 78])), (1, iN 4)] [.string (bs [78, 32, 45, 62, 78]), iN 4] none H (fun w1 H => ?_);refine r_nil ?_;refine W_sr [(.p, 0), (.l, 1), (.f, 2), (.p, 3), (.p, 4), (.p, 5), (.p, 6), (.f, 7), (.f, 8), (.p, 9), (.p, 10)] H ?_;refine r_s [1] [(.p, 0), (.l, 1)] [(305, pN b32 0), (306, .string (bs [78, 32, 45, 62, 78]))] (rc_l 0 0 rfl rfl rc_nil) ?_;refine m_cl #[.string (bs [78, 32, 45, 62, 78])] (some 307) (c16 (by decide) H aw19) ?_;rintro _ w1 ⟨G116, zA, zc, rfl, hG116, _, H⟩;refine nx H ?_;refine r_y [(.p, 3), (.p, 4), (.p, 5), (.p, 6)] [(304, .tuple #[(aT t0 zA zc), iN 4, iN 4]), (308, (aT t0 zA zc)), (309, iN 4), (310, iN 4)] ?_;refine m_nw oT 24 H (fun b33 w1 H => ?_);refine s_0 [(0, iN t0.kind), (1, iN t0.num), (2, .slice zA t0.kids.length zc)] [iN t0.kind, iN t0.num, .slice zA t0.kids.length zc] none H (fun w1 H => ?_);refine r_z [(25, iN 4), (26, iN 4)] ?_;refine W_sr [(.p, 0), (.p, 1), (.l, 2), (.p, 3), (.p, 4), (.p, 5), (.p, 6), (.p, 7)] H ?_;refine r_x [1] [(311, iN 4), (312, pN b32 1), (313, iN 4), (314, .bool false), (315, .bool false), (316, iN 4), (317, .bool false), (318, .bool false)] (rc_l 1 1 rfl rfl rc_nil) ?_;refine W_cF ?_;refine W_skip ?_;replace H := H.weak (hG116);have H := H.drop [_, _];refine W_rg (pL 2) H ?_;refine r_z [(319, iN 6), (300, iN 6)] ?_
  exact ⟨0, by decide, rfl, .inr (.inr (.inr (.inr (.inr (.inr (⟨rfl, ⟨e_, e_, e_, trivial⟩, H⟩))))))⟩
 refine W_env hE ?_;refine W_sr [(.p, 0)] H ?_;refine r_z [(301, .bool false)] ?_;refine W_seq ?_;refine W_cF ?_;refine W_exit ?_;refine W_sr [(.f, 0), (.f, 1), (.f, 2), (.f, 3), (.p, 4), (.p, 5), (.p, 6), (.p, 7), (.p, 8)] H ?_;refine m_cl #[] (some 321) (c48  H) ?_;rintro x117 w1 ⟨G117, hG117, hx117, H⟩;refine nx H ?_;refine m_cl #[] (some 322) (c27  H) ?_;rintro x118 w1 ⟨G118, hG118, hx118, H⟩;refine nx H ?_;refine m_cl #[x117, x118] (some 323) (c26 ((hx117).mono (hG118)) (hx118) H) ?_;rintro x119 w1 ⟨G119, hG119, hx119, H⟩;refine nx H ?_;refine m_cl #[x119] (some 324) (c14 (hx119) (by decide) H aw20) ?_;rintro _ w1 ⟨G120, hG120, rfl, H⟩;refine nx H ?_;refine r_z [(320, .tuple #[.string (bs [40, 97, 108, 108, 32, 97, 46, 32, 97, 32, 45, 62, 32, 97, 41, 32, 45, 62, 32, 78]), iN 0]), (325, .string (bs [40, 97, 108, 108, 32, 97, 46, 32, 97, 32, 45, 62, 32, 97, 41, 32, 45, 62, 32, 78])), (326, iN 0), (27, .string (bs [40, 97, 108, 108, 32, 97, 46, 32, 97, 32, 45, 62, 32, 97, 41, 32, 45, 62, 32, 78])), (2, iN 0)] ?_;refine W_sr (pL 7) H ?_;refine r_z [(327, iN 0), (328, .bool true), (329, .bool true), (330, .string (bs [40, 97, 108, 108, 32, 97, 46, 32, 97, 32, 45, 62, 32, 97, 41, 32, 45, 62, 32, 78])), (331, .bool true), (332, .bool true), (0, .bool true)] ?_;refine W_ret ?_;refine q_rt [] [] (.bool true) rc_nil H ?_;replace H := H.weak ((((hG117).trans hG118).trans hG119).trans hG120)
 exact ⟨rfl, H.drop [_, _, _, _, _, _, _]⟩

end Go.Proofs.Ytjgnhhgigickaaa.Wk

namespace Go.Proofs.Ytjgnhhgigickaaa.Wk
open Go Md

theorem w64_def (x : Int) : w64 x = (x + 9223372036854775808) % 18446744073709551616 - 9223372036854775808 := by
  unfold w64
  simp only [IntKind.wrap, IntKind.bits, IntKind.signed]
  simp
  split <;> omega
theorem w64_id {x : Int} (h : -9223372036854775808 ≤ x) (h2 : x < 9223372036854775808) : w64 x = x := by rw [w64_def]; omega
theorem w64_l (a b : Int) : w64 (w64 a + b) = w64 (a + b) := by simp only [w64_def]; omega
/-! ### right -/
theorem kidsOk_eq {k : Int} {n : Nat} (h : 1 ≤ k) (h2 : k ≤ 4) : (kidsOk k n = false) ↔ (n : Int) ≠ wantsR k := by
  unfold kidsOk wantsR
  by_cases h1 : k = 1
  · subst h1; simp
  by_cases h22 : k = 2
  · subst h22; simp
  by_cases h3 : k = 3
  · subst h3; simp; try omega
  by_cases h4 : k = 4
  · subst h4; simp; try omega
  omega
/-- well formed, as far as kinds and Kids go -/
def wfn (k : Int) (n : Nat) : Prop := (k = 1 ∨ k = 2) ∧ n = 0 ∨ k = 3 ∧ n = 2 ∨ k = 4 ∧ n = 1
mutual
def wf : T → Prop
  | .mk k _ ks => wfn k ks.length ∧ wfs ks
def wfs : List T → Prop
  | [] => True
  | t :: ts => wf t ∧ wfs ts
end
theorem rtNode_eq {ar n m k num wi : Int} {len : Nat} (hm : m ≤ 12) (hw : wi = w64 (ar + n)) :
    rtNode ar n m k num len = (if m ≥ 12 then 2 else if k < 1 ∨ k > 4 ∨ num < 0 ∨ (num > 0 ∧ k ≠ 1) then 3 else if (len : Int) ≠ wantsR k then 4 else if k = 1 ∧ num ≥ wi then 1 else 0) := by
  unfold rtNode
  rw [← hw]
  by_cases h1 : m = 12
  · rw [if_pos h1, if_pos (by omega)]
  rw [if_neg h1, if_neg (show ¬ m ≥ 12 by omega)]
  by_cases h2 : k < 1 ∨ k > 4 ∨ num < 0 ∨ (num > 0 ∧ k ≠ 1)
  · rw [if_pos h2, if_pos h2]
  rw [if_neg h2, if_neg h2]
  have h3 := kidsOk_eq (k := k) (n := len) (by omega) (by omega)
  by_cases h4 : kidsOk k len = false
  · rw [if_pos h4, if_pos (h3.1 h4)]
  · rw [if_neg h4, if_neg (fun h => h4 (h3.2 h))]
mutual
theorem rt_eq : ∀ (t : T) {n ar m wi : Int}, 0 ≤ m → m ≤ 12 → wi = w64 (ar + n) → (rtWalk n ar m t).1 = (rR t m wi).2 ∧ ((rtWalk n ar m t).1 = 0 → (rtWalk n ar m t).2 = (rR t m wi).1 ∧ (rtWalk n ar m t).2 = m + (nds t : Int) ∧ (rtWalk n ar m t).2 ≤ 12 ∧ wf t)
  | .mk k num ks, n, ar, m, wi, h0, h1, hw => by
    have hn := rtNode_eq (k := k) (num := num) (len := ks.length) h1 hw
    unfold rtWalk rR
    dsimp only
    rw [hn]
    by_cases c1 : m ≥ 12
    · simp only [if_pos c1]; rw [if_neg (by decide)]; exact ⟨rfl, fun h => by simp at h⟩
    simp only [if_neg c1]
    by_cases c2 : k < 1 ∨ k > 4 ∨ num < 0 ∨ (num > 0 ∧ k ≠ 1)
    · simp only [if_pos c2]; rw [if_neg (by decide)]; exact ⟨rfl, fun h => by simp at h⟩
    simp only [if_neg c2]
    by_cases c3 : (ks.length : Int) ≠ wantsR k
    · simp only [if_pos c3]; rw [if_neg (by decide)]; exact ⟨rfl, fun h => by simp at h⟩
    simp only [if_neg c3]
    by_cases c4 : k = 1 ∧ num ≥ wi
    · simp only [if_pos c4]; rw [if_neg (by decide)]; exact ⟨rfl, fun h => by simp at h⟩
    simp only [if_neg c4, if_true]
    have hm1 : w64 (m + 1) = m + 1 := w64_id (by omega) (by omega)
    rw [hm1]
    have hwi : (if k = 4 then w64 (wi + 1) else wi) = w64 ((if k = 4 then w64 (ar + 1) else ar) + n) := by
      split
      · rw [hw, w64_l, w64_l]; congr 1; omega
      · exact hw
    have ih := rts_eq ks (n := n) (ar := if k = 4 then w64 (ar + 1) else ar) (m := m + 1) (wi := if k = 4 then w64 (wi + 1) else wi) (by omega) (by omega) hwi
    refine ⟨ih.1, fun h => ?_⟩
    obtain ⟨a1, a2, a3, a4⟩ := ih.2 h
    refine ⟨a1, ?_, a3, ?_⟩
    · rw [a2]; unfold nds; omega
    · unfold wf
      refine ⟨?_, a4⟩
      unfold wfn
      have c3 : (ks.length : Int) = wantsR k := Classical.byContradiction c3
      unfold wantsR at c3
      split at c3
      · omega
      · split at c3 <;> omega
theorem rts_eq : ∀ (ts : List T) {n ar m wi : Int}, 0 ≤ m → m ≤ 12 → wi = w64 (ar + n) → (rtList n ar m ts).1 = (rRs ts m wi).2 ∧ ((rtList n ar m ts).1 = 0 → (rtList n ar m ts).2 = (rRs ts m wi).1 ∧ (rtList n ar m ts).2 = m + (ndss ts : Int) ∧ (rtList n ar m ts).2 ≤ 12 ∧ wfs ts)
  | [], n, ar, m, wi, h0, h1, hw => by
    unfold rtList rRs
    exact ⟨rfl, fun _ => ⟨rfl, by unfold ndss; simp, h1, by unfold wfs; trivial⟩⟩
  | t :: ts, n, ar, m, wi, h0, h1, hw => by
    have i1 := rt_eq t (n := n) (ar := ar) (m := m) (wi := wi) h0 h1 hw
    unfold rtList rRs
    dsimp only
    by_cases c : (rtWalk n ar m t).1 = 0
    · obtain ⟨a1, a2, a3, a4⟩ := i1.2 c
      rw [if_pos c, if_neg (by rw [← i1.1]; exact fun h => h c)]
      have i2 := rts_eq ts (n := n) (ar := ar) (m := (rtWalk n ar m t).2) (wi := wi) (by omega) a3 hw
      rw [← a1]
      refine ⟨i2.1, fun h => ?_⟩
      obtain ⟨b1, b2, b3, b4⟩ := i2.2 h
      exact ⟨b1, by unfold ndss; omega, b3, by unfold wfs; exact ⟨a4, b4⟩⟩
    · rw [if_neg c, if_pos (by rw [← i1.1]; exact c)]
      exact ⟨i1.1, fun h => absurd h c⟩
end
theorem right_eq (t : T) (n : Int) : right t n = rRight t n := by
  unfold right rRight
  split
  · rfl
  · rename_i h
    exact (rt_eq t (n := n) (ar := 0) (m := 0) (wi := n) (by decide) (by decide) (by rw [w64_id (by omega) (by omega)]; omega)).1
theorem right_wf {t : T} {n : Int} (h : right t n = 0) : wf t ∧ nds t ≤ 12 := by
  unfold right at h
  split at h
  · cases h
  · rename_i hn
    obtain ⟨_, a, b, c⟩ := (rt_eq t (n := n) (ar := 0) (m := 0) (wi := n) (by decide) (by decide) (by rw [w64_id (by omega) (by omega)]; omega)).2 h
    exact ⟨c, by omega⟩
theorem closed_one (t : T) : closed [t] = rRight t 0 := by
  unfold closed
  rw [right_eq]
  split
  · rename_i h; rw [h]; rfl
  · rfl

/-! ### texts -/
mutual
theorem sz_nds : ∀ (t : T), T.sz t + 1 ≤ 2 * nds t
  | .mk _ _ ks => by unfold T.sz nds; have := szs_ndss ks; omega
theorem szs_ndss : ∀ (ts : List T), T.szs ts ≤ 2 * ndss ts
  | [] => by unfold T.szs ndss; omega
  | t :: ts => by unfold T.szs ndss; have := sz_nds t; have := szs_ndss ts; omega
end
/-- what the answers of both have to do with one another -/
def Rel (s : List UInt8) (inner : Bool) (at_ : Nat) (q r : (T × Bool) × Nat) : Prop :=
  q.2 = r.2 ∧ at_ ≤ q.2 ∧ q.2 ≤ s.length ∧
  (q.1.2 = true → r.1.2 = false ∧ r.1.1 = q.1.1 ∧ (q.1.1.kids.length = 0 ↔ q.1.1.kind ≠ 3 ∧ q.1.1.kind ≠ 4) ∧ (inner = false → q.2 = s.length) ∧ (inner = true → s[q.2]? = some 41)) ∧
  (q.1.2 = false → r.1.2 = true ∨ (inner = false → q.2 ≠ s.length) ∧ (inner = true → ¬ s[q.2]? = some 41))
/-- the reference, behind the first part of a type -/
def rcont (f : Nat) (s : List UInt8) (at_ : Nat) (n : Int) (must : Bool) (t : T) : Option ((T × Bool) × Nat) :=
  if must = false ∧ ¬ s[at_]? = some 32 then some ((t, false), at_)
  else if (word [32, 45, 62, 32] s at_).1 = false then some ((t, true), (word [32, 45, 62, 32] s at_).2)
  else (rtyped f s (word [32, 45, 62, 32] s at_).2 n).bind fun p => some ((.mk 3 0 [t, p.1.1], p.1.2), p.2)
def Both (s : List UInt8) (m : Nat) : Prop := ∀ (at_ : Nat) (n : Int) (inner : Bool) (f g : Nat), at_ ≤ s.length → s.length - at_ ≤ m → 0 ≤ n → n ≤ 26 → 3 * (s.length - at_) + 3 ≤ f → 3 * (s.length - at_) + 3 ≤ g →
  ∃ q r, Md.typ f s at_ n inner = some q ∧ rtyped g s at_ n = some r ∧ Rel s inner at_ q r
open Go.ChangeAt Go.ChangeShapes Go.RowKit Go.WideShapes
/-- all that is there -/
def WG (w : World) : GH := ⟨fun b => w.heap[b]?, w.os, w.output⟩
theorem WG.st (w : World) : St (WG w) [] w := ⟨fun _ _ h => h, (fun p hp => by cases hp), (fun p hp => by cases hp), List.nodup_nil, rfl, rfl⟩

/-- behind the call: what was there is there -/
theorem kept_of {w w' : World} (h : St (WG w) [] w') (may : MemPlace → Prop) : w.keptBut w' may := by
  refine ⟨h.os, h.out, fun i hi => ?_⟩
  have hx : w.heap[i]? = some (w.heap[i]'hi) := Array.getElem?_eq_getElem hi
  have := h.imm i _ hx
  rw [this, hx]
  cases w.heap[i]'hi with
  | cells c t fz => exact ⟨rfl, rfl, rfl, fun _ _ => rfl⟩
  | map es ck => exact .inr ⟨rfl, rfl⟩
  | _ => rfl
theorem same_of {w w' : World} (h : St (WG w) [] w') {x : MemPlace} (hx : x.block < w.heap.size) : w.sameAt w' x := by
  have h0 : w.heap[x.block]? = some (w.heap[x.block]'hx) := Array.getElem?_eq_getElem hx
  have h1 := h.imm _ _ h0
  cases x with
  | cell b off => show (match w'.heap[b]? with | some (.cells c _ _) => _ | _ => none) = (match w.heap[b]? with | some (.cells c _ _) => _ | _ => none); rw [show w'.heap[b]? = w.heap[b]? from h1.trans h0.symm]
  | map b => exact h1.trans h0.symm
theorem Try.laidOut : laidOutB Try.prog = true := by kernel_rfl
theorem trod_kept {H : Type} {enc : TypeId × Value → H} {t : TypeId} (hr : Try.prog.readableRec t = true) (hrow : t < Try.prog.types.size) {w w' : World} {v : Value} {d : DataW H} {ps : List MemPlace}
    (h : DataW.Trod enc Try.prog w 0 (fun _ => true) true t v d ps) (hs : St (WG w) [] w') (hlt : ∀ x ∈ ps, x.block < w.heap.size) :
    DataW.Trod enc Try.prog w' 0 (fun b => decide (b < w.heap.size)) true t v d ps :=
  WideElems.Trod_stays Try.laidOut hr hrow h (fun x hx => same_of hs (hlt x hx)) (fun x hx => by simpa using hlt x hx)
/-- the row's word of a call that answers true and leaves all alone -/
theorem post_true {H : Type} {enc : TypeId × Value → H} {f : Func} {s : ChangeSpec} {apart fresh handsOn : Bool} {w w' : World} {args : Array Value} {ds : List (DataW H)} {before : List MemPlace}
    (hW : DataW.Whole enc Try.prog f.params.toList s.vars apart w args.toList ds [] before) (hv : s.vars = []) (hrt : f.resultTypes = #[4]) (hres : (s.fn H (ds ++ [])).results = [.lit (.bool true)]) (hra : (s.fn H (ds ++ [])).args = ds) (hrv : (s.fn H (ds ++ [])).vars = [])
    (hargs : DataW.TrodAll enc Try.prog w' 0 (fun b => decide (b < w.heap.size)) true f.params.toList args.toList ds before) (hs : St (WG w) [] w') :
    s.post enc Try.prog f apart fresh handsOn false w args (.bool true) w' := by
  refine ⟨ds, [], before, [], before, [], hW, ?_, by rw [hra]; exact hargs, by rw [hrv, hv]; rfl, kept_of hs _, fun h => by cases h⟩
  rw [hrt, hres]
  exact trodAll_mk1 (shut_bool Try.underlying4 true)
end Go.Proofs.Ytjgnhhgigickaaa.Wk

namespace Go.Proofs.Ytjgnhhgigickaaa.Md
open Go Wk
def rrank : Nat → T → Option Int
  | 0, _ => none
  | f + 1, t =>
    if t.kind = 4 then
      match t.kids with
      | a :: _ => (rrank f a).bind fun r => some (max 1 r)
      | [] => none
    else if t.kind = 3 then
      match t.kids with
      | a :: b :: _ => (rrank f a).bind fun n => (rrank f b).bind fun m => some (max (if n > 0 then w64 (n + 1) else n) m)
      | _ => none
    else some 0
def rRank (f : Nat) (t : T) : Option (Int × Int) := if rRight t 0 ≠ 0 then some (0, rRight t 0) else (rrank f t).bind fun r => some (r, 0)
def rboth (a b : T) : Int := if rRight a 0 ≠ 0 then rRight a 0 else rRight b 0
def rSame (a b : T) : Bool × Int := if rboth a b ≠ 0 then (false, rboth a b) else (same a b, 0)
mutual
def rput (wth : T) : T → Int → T
  | .mk k num ks, out =>
    if k = 1 then (if num = out then wth else if num > out then .mk k (w64 (num - 1)) ks else .mk k num ks)
    else .mk k num (rputs wth ks (if k = 4 then w64 (out + 1) else out))
def rputs (wth : T) : List T → Int → List T
  | [], _ => []
  | t :: ts, out => rput wth t out :: rputs wth ts out
end
def rOpen (t wth : T) : T × Int :=
  if rboth t wth ≠ 0 then (t0, rboth t wth)
  else if t.kind ≠ 4 then (t0, 6)
  else match t.kids with
    | k :: _ => if rRight (rput wth k 0) 0 ≠ 0 then (t0, rRight (rput wth k 0) 0) else (rput wth k 0, 0)
    | [] => (t0, 0)
end Go.Proofs.Ytjgnhhgigickaaa.Md

namespace Go.Proofs.Ytjgnhhgigickaaa.Wk
open Go Md
set_option maxRecDepth 20000
attribute [local irreducible] endQ

def SameC (f : Nat) : Prop := ∀ {G : GH} {L : LH} {w : World} {va vb : Value} {a b : T}, T.sz a < f → IsPoly G va a → IsPoly G vb b → St G L w → Cal Try.prog 79 #[va, vb] w fun x w' => x = .bool (same a b) ∧ St G L w'

theorem rput_eq (wth t : T) (out : Int) : rput wth t out = if t.kind = 1 then (if t.num = out then wth else if t.num > out then .mk t.kind (w64 (t.num - 1)) t.kids else .mk t.kind t.num t.kids) else .mk t.kind t.num (rputs wth t.kids (if t.kind = 4 then w64 (out + 1) else out)) := by
 cases t; unfold rput; rfl
theorem nds_mk (k n : Int) (ks : List T) : nds (.mk k n ks) = ndss ks + 1 := rfl
theorem ndss_cons (t : T) (ts : List T) : ndss (t :: ts) = nds t + ndss ts := rfl
theorem nds_pos (t : T) : 1 ≤ nds t := by cases t; unfold nds; omega
mutual
theorem nds_rput (wth : T) : ∀ (t : T) (out : Int), nds (rput wth t out) ≤ nds t * nds wth
 | .mk k num ks, out => by
  have hp := nds_pos wth
  have h1 : nds (.mk k num ks) ≤ nds (.mk k num ks) * nds wth := Nat.le_mul_of_pos_right _ hp
  have h2 : nds wth ≤ nds (.mk k num ks) * nds wth := Nat.le_mul_of_pos_left _ (nds_pos _)
  unfold rput
  split
  ·split
   ·exact h2
   split
   ·exact h1
   ·exact h1
  have h3 := nds_rputs wth ks (if k = 4 then w64 (out + 1) else out)
  rw [nds_mk, nds_mk, Nat.add_mul]; omega
theorem nds_rputs (wth : T) : ∀ (ts : List T) (out : Int), ndss (rputs wth ts out) ≤ ndss ts * nds wth
 | [], _ => Nat.zero_le _
 | t :: ts, out => by
  have h1 := nds_rput wth t out
  have h2 := nds_rputs wth ts out
  unfold rputs
  rw [ndss_cons, ndss_cons, Nat.add_mul]; omega
end
theorem nds_kid {t u : T} {i : Nat} (h : t.kids[i]? = some u) : nds u < nds t := by
 obtain ⟨k, n, ks⟩ := t
 have key : ∀ {ks : List T} {i : Nat}, ks[i]? = some u → nds u ≤ ndss ks := by
  intro ks
  induction ks with
  | nil => intro i h; simp at h
  | cons a ks ih =>
   intro i h
   cases i with
   | zero => simp at h; subst h; rw [ndss_cons]; omega
   | succ i => simp at h; have := ih h; rw [ndss_cons]; omega
 have : nds u ≤ ndss ks := key h
 rw [nds_mk]; omega
end Go.Proofs.Ytjgnhhgigickaaa.Wk

namespace Go.Proofs.Ytjgnhhgigickaaa.Wk
open Go Md

def lk (F : LH) (x : Nat) : Option Obj := (F.find? fun p => p.1 == x).map (·.2)
theorem lk_mem {F : LH} {x : Nat} {o : Obj} (h : lk F x = some o) : (x, o) ∈ F := by
  unfold lk at h
  cases hf : F.find? fun p => p.1 == x with
  | none => rw [hf] at h; cases h
  | some p =>
    rw [hf] at h; simp only [Option.map_some, Option.some.injEq] at h
    have h1 := List.mem_of_find?_eq_some hf
    have h2 : p.1 = x := by have := List.find?_some hf; simpa using this
    obtain ⟨a, b⟩ := p
    simp only at h h2; subst h; subst h2; exact h1
theorem lk_none {F : LH} {x : Nat} (h : ∀ p, p ∈ F → p.1 ≠ x) : lk F x = none := by
  unfold lk
  rw [List.find?_eq_none.2 (fun p hp => by simpa using h p hp)]; rfl
theorem lk_of {F : LH} {p : Nat × Obj} (hn : (F.map (·.1)).Nodup) (hp : p ∈ F) : lk F p.1 = some p.2 := by
  cases h : lk F p.1 with
  | none =>
    exfalso
    unfold lk at h
    rw [Option.map_eq_none_iff] at h
    have := List.find?_eq_none.1 h p hp
    simp at this
  | some o =>
    have hm := lk_mem h
    obtain ⟨i, hi⟩ := List.getElem?_of_mem hp
    obtain ⟨j, hj⟩ := List.getElem?_of_mem hm
    have hil := (List.getElem?_eq_some_iff.1 hi).1
    have h1 : (F.map (·.1))[i]? = some p.1 := by rw [List.getElem?_map, hi]; rfl
    have h2 : (F.map (·.1))[j]? = some p.1 := by rw [List.getElem?_map, hj]; rfl
    have hij := (List.getElem?_inj (by simpa using hil) hn).1 (h1.trans h2.symm)
    subst hij
    have he := congrArg Prod.snd (Option.some.inj (hi.symm.trans hj))
    simp only at he; rw [he]
theorem St.freezeT {G : GH} {L : LH} {w : World} (F : LH) (h : St G (F ++ L) w) : ∃ G', Le G G' ∧ (∀ p, p ∈ F → G' p.1 = some p.2) ∧ St G' L w ∧ ∀ {L' : LH} {w' : World}, St G' L' w' → St G (F ++ L') w' := by
  have hnd := h.nd
  rw [List.map_append, List.nodup_append] at hnd
  have hsepF : ∀ p, p ∈ F → G p.1 = none := fun p hp => h.sep p (List.mem_append_left _ hp)
  have hmem : ∀ p, p ∈ F → lk F p.1 = some p.2 := fun p hp => lk_of hnd.1 hp
  refine ⟨⟨fun x => match lk F x with | some o => some o | none => G x, G.os, G.out⟩, ⟨fun b o hb => ?_, rfl, rfl⟩, fun p hp => ?_, ⟨fun b o hb => ?_, fun p hp => h.loc p (List.mem_append_right _ hp), fun p hp => ?_, hnd.2.1, h.os, h.out⟩, fun {L' w'} h' => ?_⟩
  · show (match lk F b with | some o => some o | none => G b) = some o
    rw [lk_none (fun p hp e => by have := hsepF p hp; rw [e, hb] at this; cases this)]; exact hb
  · show (match lk F p.1 with | some o => some o | none => G p.1) = some p.2
    rw [hmem p hp]
  · have hb : (match lk F b with | some o => some o | none => G b) = some o := hb
    cases hl : lk F b with
    | some o' => rw [hl] at hb; simp only [Option.some.injEq] at hb; subst hb; exact h.loc _ (List.mem_append_left _ (lk_mem hl))
    | none => rw [hl] at hb; exact h.imm b o hb
  · show (match lk F p.1 with | some o => some o | none => G p.1) = none
    rw [lk_none (fun q hq e => hnd.2.2 q.1 (List.mem_map.2 ⟨q, hq, rfl⟩) p.1 (List.mem_map.2 ⟨p, hp, rfl⟩) e)]
    exact h.sep p (List.mem_append_right _ hp)
  · have hG : ∀ b o, G b = some o → (match lk F b with | some o => some o | none => G b) = some o := fun b o hb => by
      rw [lk_none (fun p hp e => by have := hsepF p hp; rw [e, hb] at this; cases this)]; exact hb
    have hFs : ∀ p, p ∈ F → (match lk F p.1 with | some o => some o | none => G p.1) = some p.2 := fun p hp => by rw [hmem p hp]
    refine ⟨fun b o hb => h'.imm b o (hG b o hb), fun p hp => ?_, fun p hp => ?_, ?_, h'.os, h'.out⟩
    · rcases List.mem_append.1 hp with hp | hp
      · exact h'.imm _ _ (hFs p hp)
      · exact h'.loc p hp
    · rcases List.mem_append.1 hp with hp | hp
      · exact hsepF p hp
      · cases hg : G p.1 with
        | none => rfl
        | some o => have h1 : (match lk F p.1 with | some o => some o | none => G p.1) = none := h'.sep p hp; have h2 := hG _ _ hg; rw [h1] at h2; cases h2
    · rw [List.map_append, List.nodup_append]
      refine ⟨hnd.1, h'.nd, fun a ha b hb e => ?_⟩
      obtain ⟨p, hp, rfl⟩ := List.mem_map.1 ha
      obtain ⟨q, hq, rfl⟩ := List.mem_map.1 hb
      have h1 : (match lk F q.1 with | some o => some o | none => G q.1) = none := h'.sep q hq
      have h2 := hFs p hp
      rw [e, h1] at h2; cases h2

/-! ### trees of one's own -/
mutual
def OwnP : Value → T → LH → Prop
  | v, .mk k n ks, F => (ks = [] ∧ F = [] ∧ ∃ A c, v = .agg #[.int .i64 k, .int .i64 n, .slice A 0 c]) ∨
      ∃ b c cs F', F = (b, .cells (List.toArray cs) 24 (0, 0)) :: F' ∧ v = .agg #[.int .i64 k, .int .i64 n, .slice (some ⟨b, 0, none⟩) ks.length c] ∧ ks.length ≤ c ∧ OwnPs cs ks F'
def OwnPs : List Value → List T → LH → Prop
  | _, [], F => F = []
  | cs, t :: ts, F => ∃ v0 v1 v2 r F1 F2, cs = v0 :: v1 :: v2 :: r ∧ F = F1 ++ F2 ∧ OwnP (.agg #[v0, v1, v2]) t F1 ∧ OwnPs r ts F2
end
theorem OwnPs.app : ∀ {ts : List T} {cs us : List Value} {F : LH}, OwnPs cs ts F → OwnPs (cs ++ us) ts F
  | [], _, _, _, h => by unfold OwnPs at h ⊢; exact h
  | t :: ts, cs, us, F, h => by
    unfold OwnPs at h ⊢
    obtain ⟨v0, v1, v2, r, F1, F2, rfl, rfl, h1, h2⟩ := h
    exact ⟨v0, v1, v2, r ++ us, F1, F2, rfl, rfl, h1, OwnPs.app h2⟩
theorem OwnPs.snoc : ∀ {ts : List T} {cs : List Value} {F F' : LH} {a b c : Value} {t : T}, OwnPs cs ts F → cs.length = ts.length * 3 → OwnP (.agg #[a, b, c]) t F' → OwnPs (cs ++ [a, b, c]) (ts ++ [t]) (F ++ F')
  | [], cs, F, F', a, b, c, t, h, hl, h2 => by
    unfold OwnPs at h; subst h
    have : cs = [] := by simpa using hl
    subst this
    show OwnPs [a, b, c] [t] F'
    unfold OwnPs
    exact ⟨a, b, c, [], F', [], rfl, by simp, h2, by unfold OwnPs; rfl⟩
  | u :: ts, cs, F, F', a, b, c, t, h, hl, h2 => by
    unfold OwnPs at h
    obtain ⟨v0, v1, v2, r, F1, F2, rfl, rfl, h3, h4⟩ := h
    show OwnPs _ (u :: (ts ++ [t])) _
    unfold OwnPs
    exact ⟨v0, v1, v2, r ++ [a, b, c], F1, F2 ++ F', rfl, by simp, h3, OwnPs.snoc h4 (by simp at hl; omega) h2⟩
mutual
theorem OwnP.poly {G : GH} : ∀ {t : T} {v : Value} {F : LH}, OwnP v t F → (∀ p, p ∈ F → G p.1 = some p.2) → IsPoly G v t
  | .mk k n ks, v, F, h, hF => by
    unfold OwnP at h
    rcases h with ⟨rfl, rfl, A, c, rfl⟩ | ⟨b, c, cs, F', rfl, rfl, hc, h⟩
    · exact IsPoly.mk (t := .mk k n []) (Nat.zero_le _) IsPolys.nil
    · have hb := hF _ (.head _)
      exact IsPoly.mk (t := .mk k n ks) hc (OwnPs.polys (off := 0) h (fun p hp => hF p (.tail _ hp)) fun i u hi => GC.of hb (by rw [Nat.zero_add]; simpa using hi))
theorem OwnPs.polys {G : GH} {b : Nat} : ∀ {ts : List T} {cs : List Value} {F : LH} {off : Nat}, OwnPs cs ts F → (∀ p, p ∈ F → G p.1 = some p.2) → (∀ i u, cs[i]? = some u → GC G ⟨b, off + i, none⟩ u) → IsPolys G (some ⟨b, off, none⟩) ts
  | [], _, _, _, _, _, _ => IsPolys.nil
  | t :: ts, cs, F, off, h, hF, hc => by
    unfold OwnPs at h
    obtain ⟨v0, v1, v2, r, F1, F2, rfl, rfl, h1, h2⟩ := h
    unfold IsPolys
    exact ⟨b, off, v0, v1, v2, rfl, hc 0 v0 rfl, hc 1 v1 rfl, hc 2 v2 rfl, OwnP.poly h1 (fun p hp => hF p (List.mem_append_left _ hp)), OwnPs.polys h2 (fun p hp => hF p (List.mem_append_right _ hp)) fun i u hi => by
      have := hc (i + 3) u (by simpa using hi)
      rwa [show off + (i + 3) = off + 3 + i by omega] at this⟩
end
theorem OwnP.shape {v : Value} {t : T} {F : LH} (h : OwnP v t F) : ∃ A c, v = .agg #[.int .i64 t.kind, .int .i64 t.num, .slice A t.kids.length c] := by
  obtain ⟨k, n, ks⟩ := t
  unfold OwnP at h
  rcases h with ⟨rfl, rfl, A, c, rfl⟩ | ⟨b, c, cs, F', rfl, rfl, hc, h⟩
  · exact ⟨A, c, rfl⟩
  · exact ⟨_, c, rfl⟩
theorem OwnP.zero {A : Option Addr} {c : Nat} : OwnP (.agg #[.int .i64 0, .int .i64 0, .slice A 0 c]) t0 [] := by unfold t0 OwnP; exact .inl ⟨rfl, rfl, A, c, rfl⟩

/-- cells that begin as the cells of types -/
def PoH (G : GH) : List Value → List T → Prop
  | _, [] => True
  | v0 :: v1 :: v2 :: r, t :: l => IsPoly G (.agg #[v0, v1, v2]) t ∧ PoH G r l
  | _, _ => False
theorem PoH.open {G : GH} {us : List Value} {t : T} {l : List T} (h : PoH G us (t :: l)) : ∃ A c r, us = .int .i64 t.kind :: .int .i64 t.num :: .slice A t.kids.length c :: r ∧ IsPoly G (.agg #[.int .i64 t.kind, .int .i64 t.num, .slice A t.kids.length c]) t ∧ PoH G r l := by
  match us, h with
  | v0 :: v1 :: v2 :: r, h =>
    unfold PoH at h
    obtain ⟨A, c, he, _, _⟩ := id h.1.open
    simp only [Value.agg.injEq] at he
    have he := congrArg Array.toList he
    simp only [List.cons.injEq, and_true] at he
    obtain ⟨rfl, rfl, rfl⟩ := he
    exact ⟨A, c, r, rfl, h.1, h.2⟩
/-- the cells of a row of types that nobody writes -/
theorem IsPolys.src {G : GH} : ∀ {ks : List T} {b off : Nat}, IsPolys G (some ⟨b, off, none⟩) ks → ∃ news : List Value, news.length = ks.length * 3 ∧ (∀ sp, PoH G (news ++ sp) ks) ∧ (∀ j u, news[j]? = some u → GC G ⟨b, off + j, none⟩ u) ∧ (news.all (·.oneCell')) = true
  | [], b, off, _ => ⟨[], rfl, fun _ => by unfold PoH; trivial, fun j u h => by simp at h, rfl⟩
  | t :: ts, b, off, h => by
    unfold IsPolys at h
    obtain ⟨b', off', v0, v1, v2, he, h0, h1, h2, hp, hr⟩ := h
    cases he
    obtain ⟨news, hl, hP, hj, ho⟩ := IsPolys.src hr
    obtain ⟨A, c, he, _, _⟩ := id hp.open
    simp only [Value.agg.injEq] at he
    have he := congrArg Array.toList he
    simp only [List.cons.injEq, and_true] at he
    obtain ⟨rfl, rfl, rfl⟩ := he
    refine ⟨_ :: _ :: _ :: news, by simp only [List.length_cons, hl]; omega, fun sp => by simp only [List.cons_append]; unfold PoH; exact ⟨hp, hP sp⟩, fun j u hu => ?_, by simp only [List.all_cons, ho]; rfl⟩
    match j, hu with
    | 0, hu => simp at hu; subst hu; exact h0
    | 1, hu => simp at hu; subst hu; exact h1
    | 2, hu => simp at hu; subst hu; exact h2
    | j + 3, hu =>
      have := hj j u (by simpa using hu)
      rwa [show off + 3 + j = off + (j + 3) by omega] at this

theorem wr3 (vs : List Value) {x0 x1 x2 a b c : Value} {r : List Value} {n : Nat} (h : vs.length = n) : wr (vs ++ x0 :: x1 :: x2 :: r) [(n, a), (n + 1, b), (n + 2, c)] = (vs ++ [a, b, c]) ++ r := by
  subst h
  simp only [wr]
  rw [List.set_append_right _ _ (Nat.le_refl _), List.set_append_right _ _ (by omega), List.set_append_right _ _ (by omega)]
  simp
section
variable {P : Program} {ops : Array Oper} {K : Env → World → Prop} {rest : List (Mv × Nat)} {S : World → Prop} {ρ : Env} {w : World} {i : Nat} {G : GH} {L : LH}
/-- an effect that only gives a value -/
theorem m_pv (x : Value) (d : Option Nat) (h : opK ops i ρ (pv P) = some (.value x, d)) (hst : St G L w) (hk : RunD P ops K rest (SS G L) (updo ρ d x) w) : RunD P ops K ((.f, i) :: rest) S ρ w :=
  m_f _ d h fun _ hx => OpE_ok (pv_ok hx w) (nx hst hk)
end
end Go.Proofs.Ytjgnhhgigickaaa.Wk

namespace Go.Proofs.Ytjgnhhgigickaaa.Wk
open Go Md
set_option maxRecDepth 20000
attribute [local irreducible] endQ

theorem opened_eq (f : Nat) (t wth : T) (n : Int) : Md.opened (f + 1) t wth n = if t.kind = 1 ∧ t.num = n then Md.opened f wth wth (-1) else (t.kids.mapM fun u => Md.opened f u wth (if t.kind = 4 ∧ n ≥ 0 then w64 (n + 1) else n)).bind fun ks' => some (.mk t.kind t.num ks') := by cases t; rfl
theorem in3 (vs r : List Value) {x0 x1 x2 a b c : Value} {n : Nat} (h : vs.length = n) : ([(n, a), (n + 1, b), (n + 2, c)].all fun (p : Nat × Value) => decide (p.1 < (vs ++ x0 :: x1 :: x2 :: r).length) && !(decide (0 ≤ p.1) && decide (p.1 < 0))) = true := by
 subst h; simp
theorem at0 (vs r : List Value) {x0 x1 x2 : Value} {n : Nat} (h : vs.length = n) : (List.toArray (vs ++ x0 :: x1 :: x2 :: r))[n]? = some x0 := by subst h; simp
theorem at1 (vs r : List Value) {x0 x1 x2 : Value} {n : Nat} (h : vs.length = n) : (List.toArray (vs ++ x0 :: x1 :: x2 :: r))[n + 1]? = some x1 := by
 subst h; simp only [List.getElem?_toArray]; rw [List.getElem?_append_right (by omega), show vs.length + 1 - vs.length = 1 by omega]; rfl
theorem at2 (vs r : List Value) {x0 x1 x2 : Value} {n : Nat} (h : vs.length = n) : (List.toArray (vs ++ x0 :: x1 :: x2 :: r))[n + 2]? = some x2 := by
 subst h; simp only [List.getElem?_toArray]; rw [List.getElem?_append_right (by omega), show vs.length + 2 - vs.length = 2 by omega]; rfl

theorem c113 {G : GH} {L : LH} {w : World} {A : Option Addr} {c : Nat} {ks : List T} (hk : IsPolys G A ks) (hl : ks.length < lim) (H : St G L w) : Cal Try.prog 113 #[.slice A ks.length c] w fun x w' => ∃ A' c' F, x = .slice A' ks.length c' ∧ ks.length ≤ c' ∧ St G (F ++ L) w' ∧
  ((ks = [] ∧ F = []) ∨ ∃ b cs, A' = some ⟨b, 0, none⟩ ∧ F = [(b, .cells (List.toArray cs) 24 (0, 0))] ∧ PoH G cs ks) := by
 have hlim : lim = 1099511627776 := rfl
 obtain _ | ⟨t, ts⟩ := ks
 ·obtain _ | a := A
  ·skip
   refine cal_of_W Try.func113 rfl (Nat.le_of_ble_eq_true e_) ?_;refine W_sr [(.p, 0)] H ?_;refine r_z [(2, .slice none 0 0)] ?_;refine W_seq ?_;refine W_sr (pL 2) H ?_;refine r_z [(3, .slice none 0 c), (4, .bool true)] ?_;refine W_cT ?_;refine W_sr [(.p, 0)] H ?_;refine r_z [(2, .slice none 0 0)] ?_;refine W_ret ?_;refine q_rt [] [] (.slice none 0 0) rc_nil H ?_
   exact ⟨_, _, [], rfl, Nat.zero_le _, H, .inl ⟨rfl, rfl⟩⟩
  refine cal_of_W Try.func113 rfl (Nat.le_of_ble_eq_true e_) ?_;refine W_sr [(.p, 0)] H ?_;refine r_z [(2, .slice none 0 0)] ?_;refine W_seq ?_;refine W_sr (pL 2) H ?_;refine r_z [(3, .slice ((some a)) 0 c), (4, .bool false)] ?_;refine W_cF ?_;refine W_skip ?_;refine W_sr [(.f, 0), (.p, 1), (.f, 2), (.p, 3)] H ?_;refine m_new (.cells #[] 24) (fun b1 => sN b1 0 0 0) (some 5) (fun b => by kernel_rfl) H (fun b1 w1 H => ?_);refine r_y [(.p, 1)] [(6, .slice ((some a)) 0 c)] ?_;refine m_pv (sN b1 0 0 0) (some 7) e_ H ?_;refine r_z [(2, sN b1 0 0 0)] ?_;refine W_ret ?_;refine q_rt [] [] (sN b1 0 0 0) rc_nil H ?_
  exact ⟨_, _, [], rfl, Nat.zero_le _, H.drop [_], .inl ⟨rfl, rfl⟩⟩
 have hstk := H
 obtain ⟨eb, eo, _, _, rfl, _⟩ := hk.elem (i := 0) (t := t) rfl
 have H := hstk; clear hstk
 obtain ⟨news, hnl, hnP, hnj, hno⟩ := hk.src;refine cal_of_W Try.func113 rfl (Nat.le_of_ble_eq_true e_) ?_;refine W_sr [(.p, 0)] H ?_;refine r_z [(2, .slice none 0 0)] ?_;refine W_seq ?_;refine W_sr (pL 2) H ?_;refine r_z [(3, sN eb eo ((t :: ts).length) c), (4, .bool false)] ?_;refine W_cF ?_;refine W_skip ?_;refine W_sr [(.f, 0), (.p, 1), (.f, 2), (.p, 3)] H ?_;refine m_new (.cells #[] 24) (fun b1 => sN b1 0 0 0) (some 5) (fun b => by kernel_rfl) H (fun b1 w1 H => ?_);refine r_y [(.p, 1)] [(6, sN eb eo ((t :: ts).length) c)] ?_;refine m_append (v := sN b1 0 0 0) (sb := eb) (so := eo) (m := (t :: ts).length) (mc := c) el22 [] (Lp := [(b1, .cells (List.toArray []) 24 (0, 0))]) (B := L) (n := 0) (cs := []) news (d := (some 7)) (show opAt _ _ _ = some (.call { callee := .builtin .append, args := #[(.tmp 5), (.tmp 6)], argTypes := #[22, 22] }, _) by kernel_rfl) e_ e_ ⟨rfl, .inr ⟨b1, 0, [], rfl, rfl, Nat.le_refl _, rfl, rfl⟩⟩ H hnl (fun j u hu => (hnj j u hu).cell H.imm) hno (Nat.succ_pos _) (by omega) (by omega) (fun v2 Lp2 w1 hos H => ?_);obtain ⟨hcl, ⟨_, h0, _⟩ | ⟨nb, nc, arr, rfl, rfl, hnc, harr, htk⟩⟩ := hos
 ·simp at h0
 refine r_z [(2, sN nb 0 (0 + (t :: ts).length) nc)] ?_;refine W_ret ?_;refine q_rt [] [] (sN nb 0 (0 + (t :: ts).length) nc) rc_nil H ?_;refine ⟨some ⟨nb, 0, none⟩, nc, _, by rw [Nat.zero_add], by omega, H, .inr ⟨nb, arr, rfl, rfl, ?_⟩⟩
 have := hnP (arr.drop ((0 + (t :: ts).length) * 3))
 rw [List.nil_append] at htk; rw [← htk, List.take_append_drop] at this; exact this

theorem c77 : ∀ (f : Nat) {G : GH} {L : LH} {w : World} {v vw : Value} {t wth r : T} {n : Int}, IsPoly G v t → IsPoly G vw wth → T.sz t < lim → T.sz wth < lim → Md.opened f t wth n = some r → St G L w → Cal Try.prog 77 #[v, vw, .int .i64 n] w fun x w' => ∃ F, OwnP x r F ∧ St G (F ++ L) w' := by
 intro f
 induction f with
 | zero => intro G L w v vw t wth r n hv hvw hz hzw h; cases h
 | succ f ih =>
 intro G L w v vw t wth r n hv hvw hz hzw h H
 have hlim : lim = 1099511627776 := rfl
 have hln := T.len_le t
 rw [opened_eq] at h;obtain ⟨tA, tc, rfl, htc, htk⟩ := id hv.open;obtain ⟨wthA, wthc, rfl, hwthc, hwthk⟩ := id hvw.open;refine cal_of_W Try.func77 rfl (Nat.le_of_ble_eq_true e_) ?_;refine W_sr [(.f, 0), (.f, 1), (.f, 2)] H ?_;refine m_nw (cT t tA tc) 3 H (fun b1 w1 H => ?_);refine m_nw (cT wth wthA wthc) 4 H (fun b2 w1 H => ?_);refine m_nw oT 6 H (fun b3 w1 H => ?_);refine r_nil ?_;refine W_seqI (fun ρ D w => ∃ (nj : Int), EqS ρ [(2, iN nj), (3, pN b1 0), (4, pN b2 0), (6, pN b3 0)] ∧ D = [] ∧ St G ((b3, oT) :: (b2, cT wth wthA wthc) :: (b1, cT t tA tc) :: L) w ∧ (nj = if t.kind = 4 ∧ n ≥ 0 then w64 (n + 1) else n) ∧ (¬ (t.kind = 1 ∧ t.num = n))) ?_ ?_
 ·skip
  refine W_block ?_;refine W_sr [(.p, 0), (.l, 1), (.p, 2), (.p, 3), (.p, 4), (.l, 5), (.p, 6), (.p, 7), (.p, 8), (.p, 9)] H ?_;refine r_s [1] [(.p, 0), (.l, 1), (.p, 2), (.p, 3)] [(10, pN b1 0), (11, iN t.kind), (12, .bool (t.kind == 1)), (13, .bool (t.kind == 1))] (rc_l 2 0 rfl rfl rc_nil) ?_
  rcases Bool.eq_false_or_eq_true (t.kind == 1) with hc4 | hc4
  ·rw [hc4]
   have hp5 := hc4
   simp only [decide_eq_true_eq, decide_eq_false_iff_not, beq_iff_eq, beq_eq_false_iff_ne, bne_iff_ne, bne_eq_false_iff_eq, Bool.not_eq_true', Bool.not_eq_false', Bool.and_eq_true, Bool.and_eq_false_iff, ne_eq] at hp5;refine r_x [1] [(14, pN b1 1), (15, iN t.num), (16, iN n), (17, .bool (t.num == n)), (18, .bool (t.num == n)), (9, .bool (t.num == n))] (rc_l 2 1 rfl rfl rc_nil) ?_;refine W_cd (b := t.num == n) (fun hc6 => ?_) (fun hc6 => ?_)
   ·skip
    have hp7 := hc6
    simp only [decide_eq_true_eq, decide_eq_false_iff_not, beq_iff_eq, beq_eq_false_iff_ne, bne_iff_ne, bne_eq_false_iff_eq, Bool.not_eq_true', Bool.not_eq_false', Bool.and_eq_true, Bool.and_eq_false_iff, ne_eq] at hp7;rw [if_pos ⟨by assumption, by assumption⟩] at h;refine W_sr [(.l, 0), (.l, 1), (.f, 2), (.f, 3)] H ?_;refine r_s [3, 3] [(.l, 0), (.l, 1)] [(19, (aT wth wthA wthc)), (20, (aT wth wthA wthc))] (rc_l 1 0 rfl rfl (rc_l 1 1 rfl rfl (rc_l 1 2 rfl rfl (rc_l 1 0 rfl rfl (rc_l 1 1 rfl rfl (rc_l 1 2 rfl rfl rc_nil)))))) ?_;refine m_cl #[(aT wth wthA wthc), (aT wth wthA wthc), iN (-1)] (some 21) (ih hvw hvw hzw hzw h H) ?_;rintro x0 w1 ⟨Fr, hxo, H⟩;have H := St.swap (A := Fr) (B := [(b3, oT), (b2, cT wth wthA wthc), (b1, cT t tA tc)]) (C := L) (by simpa [List.append_assoc] using H)
    have H : St G ((b3, oT) :: (b2, cT wth wthA wthc) :: (b1, cT t tA tc) :: (Fr ++ L)) w1 := by simpa [List.append_assoc] using H
    obtain ⟨xA, xc, rfl⟩ := hxo.shape;refine nx H ?_;refine s_0 [(0, iN r.kind), (1, iN r.num), (2, .slice xA r.kids.length xc)] [iN r.kind, iN r.num, .slice xA r.kids.length xc] none H (fun w1 H => ?_);refine r_nil ?_;refine W_ret ?_;refine q_rt [iN r.kind, iN r.num, .slice xA r.kids.length xc] [(⟨b3, 0, none⟩, iN r.kind), (⟨b3, 1, none⟩, iN r.num), (⟨b3, 2, none⟩, .slice xA r.kids.length xc)] (.agg #[iN r.kind, iN r.num, .slice xA r.kids.length xc]) (rc_L 0 rfl rfl (rc_L 0 rfl rfl (rc_L 0 rfl rfl rc_nil))) H ?_
    exact ⟨Fr, hxo, H.drop [_, _, _]⟩
   have hp8 := hc6
   simp only [decide_eq_true_eq, decide_eq_false_iff_not, beq_iff_eq, beq_eq_false_iff_ne, bne_iff_ne, bne_eq_false_iff_eq, Bool.not_eq_true', Bool.not_eq_false', Bool.and_eq_true, Bool.and_eq_false_iff, ne_eq] at hp8;refine W_sr [(.p, 0), (.l, 1), (.p, 2), (.p, 3), (.p, 4), (.p, 5), (.p, 6), (.p, 7)] H ?_;refine r_s [1] [(.p, 0), (.l, 1), (.p, 2), (.p, 3)] [(23, pN b1 0), (24, iN t.kind), (25, .bool (t.kind == 4)), (26, .bool (t.kind == 4))] (rc_l 2 0 rfl rfl rc_nil) ?_
   rcases Bool.eq_false_or_eq_true (t.kind == 4) with hc9 | hc9
   ·rw [hc9]
    have hp10 := hc9
    simp only [decide_eq_true_eq, decide_eq_false_iff_not, beq_iff_eq, beq_eq_false_iff_ne, bne_iff_ne, bne_eq_false_iff_eq, Bool.not_eq_true', Bool.not_eq_false', Bool.and_eq_true, Bool.and_eq_false_iff, ne_eq] at hp10;refine r_z [(27, iN n), (28, .bool (decide (n ≥ 0))), (29, .bool (decide (n ≥ 0))), (22, .bool (decide (n ≥ 0)))] ?_;refine W_cd (b := decide (n ≥ 0)) (fun hc11 => ?_) (fun hc11 => ?_)
    ·skip
     have hp12 := hc11
     simp only [decide_eq_true_eq, decide_eq_false_iff_not, beq_iff_eq, beq_eq_false_iff_ne, bne_iff_ne, bne_eq_false_iff_eq, Bool.not_eq_true', Bool.not_eq_false', Bool.and_eq_true, Bool.and_eq_false_iff, ne_eq] at hp12;refine W_rg (pL 3) H ?_;refine r_z [(30, iN n), (31, iN (IntKind.wrap .i64 (n + 1))), (2, iN (IntKind.wrap .i64 (n + 1)))] ?_
     exact ⟨IntKind.wrap .i64 (n + 1), ⟨e_, e_, e_, e_, trivial⟩, rfl, H, (by rw [if_pos (by omega)] <;> rfl), (by omega)⟩
    have hp13 := hc11
    simp only [decide_eq_true_eq, decide_eq_false_iff_not, beq_iff_eq, beq_eq_false_iff_ne, bne_iff_ne, bne_eq_false_iff_eq, Bool.not_eq_true', Bool.not_eq_false', Bool.and_eq_true, Bool.and_eq_false_iff, ne_eq] at hp13;refine W_skip ?_
    exact ⟨n, ⟨e_, e_, e_, e_, trivial⟩, rfl, H, (by first | rw [if_pos (by omega)] <;> rfl | rw [if_neg (by omega)]), (by omega)⟩
   rw [hc9]
   have hp14 := hc9
   simp only [decide_eq_true_eq, decide_eq_false_iff_not, beq_iff_eq, beq_eq_false_iff_ne, bne_iff_ne, bne_eq_false_iff_eq, Bool.not_eq_true', Bool.not_eq_false', Bool.and_eq_true, Bool.and_eq_false_iff, ne_eq] at hp14;refine r_z (uD 27 2 [(29, .bool false), (22, .bool false)]) ?_;refine W_cF ?_;refine W_skip ?_
   exact ⟨n, ⟨e_, e_, e_, e_, trivial⟩, rfl, H, (by first | rw [if_pos (by omega)] <;> rfl | rw [if_neg (by omega)]), (by omega)⟩
  rw [hc4]
  have hp15 := hc4
  simp only [decide_eq_true_eq, decide_eq_false_iff_not, beq_iff_eq, beq_eq_false_iff_ne, bne_iff_ne, bne_eq_false_iff_eq, Bool.not_eq_true', Bool.not_eq_false', Bool.and_eq_true, Bool.and_eq_false_iff, ne_eq] at hp15;refine r_z (uD 14 4 [(18, .bool false), (9, .bool false)]) ?_;refine W_cF ?_;refine W_sr [(.p, 0), (.l, 1), (.p, 2), (.p, 3), (.p, 4), (.p, 5), (.p, 6), (.p, 7)] H ?_;refine r_s [1] [(.p, 0), (.l, 1), (.p, 2), (.p, 3)] [(23, pN b1 0), (24, iN t.kind), (25, .bool (t.kind == 4)), (26, .bool (t.kind == 4))] (rc_l 2 0 rfl rfl rc_nil) ?_
  rcases Bool.eq_false_or_eq_true (t.kind == 4) with hc16 | hc16
  ·rw [hc16]
   have hp17 := hc16
   simp only [decide_eq_true_eq, decide_eq_false_iff_not, beq_iff_eq, beq_eq_false_iff_ne, bne_iff_ne, bne_eq_false_iff_eq, Bool.not_eq_true', Bool.not_eq_false', Bool.and_eq_true, Bool.and_eq_false_iff, ne_eq] at hp17;refine r_z [(27, iN n), (28, .bool (decide (n ≥ 0))), (29, .bool (decide (n ≥ 0))), (22, .bool (decide (n ≥ 0)))] ?_;refine W_cd (b := decide (n ≥ 0)) (fun hc18 => ?_) (fun hc18 => ?_)
   ·skip
    have hp19 := hc18
    simp only [decide_eq_true_eq, decide_eq_false_iff_not, beq_iff_eq, beq_eq_false_iff_ne, bne_iff_ne, bne_eq_false_iff_eq, Bool.not_eq_true', Bool.not_eq_false', Bool.and_eq_true, Bool.and_eq_false_iff, ne_eq] at hp19;refine W_rg (pL 3) H ?_;refine r_z [(30, iN n), (31, iN (IntKind.wrap .i64 (n + 1))), (2, iN (IntKind.wrap .i64 (n + 1)))] ?_
    exact ⟨IntKind.wrap .i64 (n + 1), ⟨e_, e_, e_, e_, trivial⟩, rfl, H, (by rw [if_pos (by omega)] <;> rfl), (by omega)⟩
   have hp20 := hc18
   simp only [decide_eq_true_eq, decide_eq_false_iff_not, beq_iff_eq, beq_eq_false_iff_ne, bne_iff_ne, bne_eq_false_iff_eq, Bool.not_eq_true', Bool.not_eq_false', Bool.and_eq_true, Bool.and_eq_false_iff, ne_eq] at hp20;refine W_skip ?_
   exact ⟨n, ⟨e_, e_, e_, e_, trivial⟩, rfl, H, (by first | rw [if_pos (by omega)] <;> rfl | rw [if_neg (by omega)]), (by omega)⟩
  rw [hc16]
  have hp21 := hc16
  simp only [decide_eq_true_eq, decide_eq_false_iff_not, beq_iff_eq, beq_eq_false_iff_ne, bne_iff_ne, bne_eq_false_iff_eq, Bool.not_eq_true', Bool.not_eq_false', Bool.and_eq_true, Bool.and_eq_false_iff, ne_eq] at hp21;refine r_z (uD 27 2 [(29, .bool false), (22, .bool false)]) ?_;refine W_cF ?_;refine W_skip ?_
  exact ⟨n, ⟨e_, e_, e_, e_, trivial⟩, rfl, H, (by first | rw [if_pos (by omega)] <;> rfl | rw [if_neg (by omega)]), (by omega)⟩
 clear H; rintro ρ D w1 ⟨nj, hE22, rfl, H, hnj, hn1⟩
 refine W_env hE22 ?_;refine W_seq ?_;rw [if_neg hn1, ← hnj] at h
 obtain ⟨us, hus, h⟩ := Option.bind_eq_some_iff.1 h; simp only [Option.some.injEq] at h; subst h
 obtain ⟨hul, hug⟩ := mapM_get hus;refine W_rg [(.p, 0), (.l, 1), (.f, 2), (.p, 3), (.f, 4)] H ?_;refine r_s [1] [(.p, 0), (.l, 1)] [(32, pN b1 2), (33, .slice tA t.kids.length tc)] (rc_l 2 2 rfl rfl rc_nil) ?_;refine m_cl #[.slice tA t.kids.length tc] (some 34) (c113 htk (by omega) H) ?_;rintro _ w1 ⟨nA, nc, F, rfl, hnc, H, ⟨hk0, rfl⟩ | ⟨cb, cs, rfl, rfl, hpc⟩⟩
 ·skip
  have H : St G ((b3, oT) :: (b2, cT wth wthA wthc) :: (b1, cT t tA tc) :: L) w1 := H
  refine nx H ?_;refine r_y [(.p, 3)] [(35, pN b1 2)] ?_;refine s_2 [(2, .slice nA t.kids.length nc)] [iN t.kind, iN t.num, .slice nA t.kids.length nc] none H (fun w1 H => ?_);refine r_nil ?_;refine W_seq ?_;refine W_sr [(.p, 0), (.l, 1), (.p, 2), (.p, 3)] H ?_;refine r_x [1] [(36, pN b1 2), (37, .slice nA t.kids.length nc), (38, nN t.kids.length), (39, iN 0)] (rc_l 2 2 rfl rfl rc_nil) ?_;refine W_block ?_;refine W_loop (fun m ρ D w => ∃ (u0 : Unit), EqS ρ [(3, pN b1 0), (4, pN b2 0), (6, pN b3 0), (37, .slice nA t.kids.length nc), (38, iN (((t.kids.length : Nat) : Int))), (39, iN 0)] ∧ D = [] ∧ St G ((b3, oT) :: (b2, cT wth wthA wthc) :: (b1, cT t nA nc) :: L) w ∧ 0 = m) (0) ⟨(), ⟨e_, e_, e_, e_, e_, e_, trivial⟩, rfl, H, rfl⟩ ?_
  clear H; rintro m23 ρ D w1 ⟨u0, hE24, rfl, H, hm25⟩
  refine W_env hE24 ?_;refine W_sr [(.p, 0)] H ?_;refine r_z [(40, .bool (decide ((0 : Int) < (((t.kids.length : Nat) : Int)))))] ?_;refine W_seq ?_
  have hd26 : (decide ((0 : Int) < (((t.kids.length : Nat) : Int)))) = false := (by rw [hk0]; rfl)
  refine W_condF (by refine Eq.trans (b := .bool (decide ((0 : Int) < (((t.kids.length : Nat) : Int))))) ?_ (congrArg Value.bool hd26); kernel_rfl) ?_;refine W_exit ?_;refine W_sr [(.l, 0), (.f, 1)] H ?_;refine r_s [3] [(.l, 0)] [(53, (aT t nA nc))] (rc_l 2 0 rfl rfl (rc_l 2 1 rfl rfl (rc_l 2 2 rfl rfl rc_nil))) ?_;refine s_0 [(0, iN t.kind), (1, iN t.num), (2, .slice nA t.kids.length nc)] [iN t.kind, iN t.num, .slice nA t.kids.length nc] none H (fun w1 H => ?_);refine r_nil ?_;refine W_ret ?_;refine q_rt [iN t.kind, iN t.num, .slice nA t.kids.length nc] [(⟨b3, 0, none⟩, iN t.kind), (⟨b3, 1, none⟩, iN t.num), (⟨b3, 2, none⟩, .slice nA t.kids.length nc)] (.agg #[iN t.kind, iN t.num, .slice nA t.kids.length nc]) (rc_L 0 rfl rfl (rc_L 0 rfl rfl (rc_L 0 rfl rfl rc_nil))) H ?_
  have hu0 : us = [] := by rw [hk0] at hul; simpa using hul
  subst hu0; refine ⟨[], ?_, H.drop [_, _, _]⟩
  unfold OwnP; exact .inl ⟨rfl, rfl, nA, nc, by rw [hk0]; rfl⟩
 have H : St G ((cb, .cells (List.toArray cs) 24 (0, 0)) :: (b3, oT) :: (b2, cT wth wthA wthc) :: (b1, cT t tA tc) :: L) w1 := H
 refine nx H ?_;refine r_y [(.p, 3)] [(35, pN b1 2)] ?_;refine m_st ((cb, .cells (List.toArray cs) 24 (0, 0)) :: (b3, oT) :: (b2, cT wth wthA wthc) :: (b1, .cells #[iN t.kind, iN t.num, sN cb 0 t.kids.length nc] 24) :: L) 3 [(2, sN cb 0 t.kids.length nc)] [iN t.kind, iN t.num, sN cb 0 t.kids.length nc] none H (fun w1 H => ?_);refine r_nil ?_;refine W_seq ?_;refine W_sr [(.p, 0), (.l, 1), (.p, 2), (.p, 3)] H ?_;refine r_x [1] [(36, pN b1 2), (37, sN cb 0 t.kids.length nc), (38, nN t.kids.length), (39, iN 0)] (rc_l 3 2 rfl rfl rc_nil) ?_;refine W_block ?_;have H := St.swap (A := [(cb, .cells (List.toArray cs) 24 (0, 0))]) (B := [(b3, oT), (b2, cT wth wthA wthc), (b1, .cells #[iN t.kind, iN t.num, sN cb 0 t.kids.length nc] 24)]) H;refine W_loop (fun m ρ D w => ∃ (k : Nat) (vs : List Value) (us2 : List Value) (Fk : LH), EqS ρ [(2, iN nj), (3, pN b1 0), (4, pN b2 0), (6, pN b3 0), (37, sN cb 0 t.kids.length nc), (38, iN (((t.kids.length : Nat) : Int))), (39, iN (((k : Nat) : Int)))] ∧ D = [] ∧ St G ((b3, oT) :: (b2, cT wth wthA wthc) :: (b1, .cells #[iN t.kind, iN t.num, sN cb 0 t.kids.length nc] 24) :: (cb, .cells (List.toArray (vs ++ us2)) 24 (0, 0)) :: (Fk ++ L)) w ∧ (vs.length = 0 + k * 3) ∧ (PoH G us2 (t.kids.drop k)) ∧ (OwnPs vs (us.take k) Fk) ∧ (k ≤ t.kids.length) ∧ t.kids.length - k = m) (t.kids.length - 0) ⟨0, [], cs, [], ⟨e_, e_, e_, e_, e_, e_, e_, trivial⟩, rfl, H, rfl, hpc, (by unfold OwnPs; rfl), Nat.zero_le _, rfl⟩ ?_
 clear H; rintro m27 ρ D w1 ⟨k, vs, us2, Fk, hE28, rfl, H, hvl, hpo, how, hkk, hm29⟩
 refine W_env hE28 ?_;refine W_sr [(.p, 0)] H ?_;refine r_z [(40, .bool (decide ((((k : Nat) : Int)) < (((t.kids.length : Nat) : Int)))))] ?_;refine W_seq ?_;refine W_cd (b := decide ((((k : Nat) : Int)) < (((t.kids.length : Nat) : Int)))) (fun hc30 => ?_) (fun hc30 => ?_)
 ·skip
  have hlt : k < t.kids.length := by have := of_decide_eq_true hc30; omega
  obtain ⟨q, hq⟩ := get_of_lt hlt
  have hqz := T.sz_kid hq
  obtain ⟨qu, hqu, hqo⟩ := hug k q hq
  have hstk := H
  rw [drop_cons hq] at hpo;obtain ⟨qA, qc, ur, rfl, hqp, hpr⟩ := hpo.open
  have H := hstk; clear hstk
  refine W_skip ?_;refine W_seq ?_;refine W_block ?_;refine W_sr [(.p, 0), (.p, 1), (.l, 2), (.f, 3), (.p, 4), (.f, 5)] H ?_;refine r_y [(.p, 0)] [(41, nN k)] ?_;refine m_idx (sz := 3) (b := cb) (off := 0) (n := t.kids.length) (c := nc) (k := k) (some 42) (show opAt _ _ _ = some (.indexAddr 22 (.tmp 37) (.tmp 39), _) by kernel_rfl) e_ e_ Try.underlying22 sz24 hlt ?_;refine r_s [3] [(.l, 2)] [(43, (aT q qA qc))] (rc_L 3 rfl (at0 vs ur hvl) (rc_L 3 rfl (at1 vs ur hvl) (rc_L 3 rfl (at2 vs ur hvl) rc_nil))) ?_;refine m_nw oT 8 H (fun b31 w1 H => ?_);refine r_y [(.p, 4)] [(7, nN k)] ?_;refine s_0 [(0, iN q.kind), (1, iN q.num), (2, .slice qA q.kids.length qc)] [iN q.kind, iN q.num, .slice qA q.kids.length qc] none H (fun w1 H => ?_);refine r_nil ?_;refine W_regd [(.p, 0), (.l, 1), (.p, 2), (.l, 3), (.l, 4), (.p, 5), (.e, 6), (.p, 7), (.f, 8)] (SS G ([(b31, cT q qA qc), (b2, cT wth wthA wthc), (b1, .cells #[iN t.kind, iN t.num, sN cb 0 t.kids.length nc] 24)])) mixed e_ e_ e_ e_ (fun w1 hw1 => ?_)
  have H := H.heap hw1; refine ⟨H.ss' (Le.refl _) (fun p hp => by simp only [List.mem_cons, List.not_mem_nil, or_false] at hp; rcases hp with rfl | rfl | rfl <;> simp), ?_⟩
  refine r_s [1, 3, 3] [(.p, 0), (.l, 1), (.p, 2), (.l, 3), (.l, 4), (.p, 5)] [(44, pN b1 2), (45, sN cb 0 t.kids.length nc), (46, nN k), (47, (aT q qA qc)), (48, (aT wth wthA wthc)), (49, iN nj)] (rc_l 2 2 rfl rfl (rc_l 0 0 rfl rfl (rc_l 0 1 rfl rfl (rc_l 0 2 rfl rfl (rc_l 1 0 rfl rfl (rc_l 1 1 rfl rfl (rc_l 1 2 rfl rfl rc_nil))))))) ?_;refine m_callE #[(aT q qA qc), (aT wth wthA wthc), iN nj] (some 50) e_ (ih (t := q) (wth := wth) hqp hvw (by omega) hzw hqo H) ?_;rintro x0 w1 ⟨Fq, hxo, H⟩;have H := St.swap (A := Fq) (B := [(b31, cT q qA qc), (b3, oT), (b2, cT wth wthA wthc), (b1, .cells #[iN t.kind, iN t.num, sN cb 0 t.kids.length nc] 24), (cb, .cells (List.toArray (vs ++ iN q.kind :: iN q.num :: .slice qA q.kids.length qc :: ur)) 24 (0, 0))]) (C := (Fk ++ L)) (by simpa [List.append_assoc] using H);have H := St.swap (A := Fq) (B := [(b31, cT q qA qc), (b3, oT), (b2, cT wth wthA wthc), (b1, .cells #[iN t.kind, iN t.num, sN cb 0 t.kids.length nc] 24), (cb, .cells (List.toArray (vs ++ iN q.kind :: iN q.num :: .slice qA q.kids.length qc :: ur)) 24 (0, 0))] ++ Fk) (C := L) (by have h2 := St.swap (A := [(b31, cT q qA qc), (b3, oT), (b2, cT wth wthA wthc), (b1, .cells #[iN t.kind, iN t.num, sN cb 0 t.kids.length nc] 24), (cb, .cells (List.toArray (vs ++ iN q.kind :: iN q.num :: .slice qA q.kids.length qc :: ur)) 24 (0, 0))]) (B := Fq) (C := Fk ++ L) H; simpa [List.append_assoc] using h2)
  have H : St G ((b31, cT q qA qc) :: (b3, oT) :: (b2, cT wth wthA wthc) :: (b1, .cells #[iN t.kind, iN t.num, sN cb 0 t.kids.length nc] 24) :: (cb, .cells (List.toArray (vs ++ iN q.kind :: iN q.num :: .slice qA q.kids.length qc :: ur)) 24 (0, 0)) :: ((Fk ++ Fq) ++ L)) w1 := by simpa [List.append_assoc] using H
  obtain ⟨xA, xc, rfl⟩ := hxo.shape;refine ⟨H.ss' (Le.refl _) (fun p hp => by simp only [List.mem_cons, List.not_mem_nil, or_false] at hp; rcases hp with rfl | rfl | rfl <;> simp), ?_⟩;refine m_idx (sz := 3) (b := cb) (off := 0) (n := t.kids.length) (c := nc) (k := k) (some 51) (show opAt _ _ _ = some (.indexAddr 22 (.tmp 45) (.tmp 46), _) by kernel_rfl) e_ e_ Try.underlying22 sz24 hlt ?_;refine m_store (L' := (b31, cT q qA qc) :: (b3, oT) :: (b2, cT wth wthA wthc) :: (b1, .cells #[iN t.kind, iN t.num, sN cb 0 t.kids.length nc] 24) :: (cb, .cells (List.toArray ((vs ++ [iN qu.kind, iN qu.num, .slice xA qu.kids.length xc]) ++ ur)) 24 (0, 0)) :: ((Fk ++ Fq) ++ L)) 4 [(0 + k * 3, iN qu.kind), (0 + k * 3 + 1, iN qu.num), (0 + k * 3 + 2, .slice xA qu.kids.length xc)] ((vs ++ [iN qu.kind, iN qu.num, .slice xA qu.kids.length xc]) ++ ur) none e_ H rfl (in3 vs ur hvl) (wr3 vs hvl) rfl (fun w1 H => ?_);refine r_nil ?_;refine W_rg (pL 2) H ?_;refine r_z [(52, iN (IntKind.wrap .i64 ((((k : Nat) : Int)) + 1))), (39, iN (IntKind.wrap .i64 ((((k : Nat) : Int)) + 1)))] ?_
  exact ⟨_, (by omega), k + 1, vs ++ [iN qu.kind, iN qu.num, .slice xA qu.kids.length xc], ur, Fk ++ Fq, ⟨e_, e_, e_, e_, e_, e_, (by rw [← wrap_succ (k := k) (by omega)]; kernel_rfl), trivial⟩, rfl, (by simpa [List.append_assoc] using H.drop [_]), (by rw [List.length_append, hvl]; simp only [List.length_cons, List.length_nil]; omega), hpr, (by rw [take_snoc hqu]; exact how.snoc (by rw [hvl, List.length_take]; omega) hxo), hlt, rfl⟩
 have hge : k = t.kids.length := by have := of_decide_eq_false hc30; omega
 refine W_exit ?_;refine W_sr [(.l, 0), (.f, 1)] H ?_;refine r_s [3] [(.l, 0)] [(53, .agg #[iN t.kind, iN t.num, sN cb 0 t.kids.length nc])] (rc_l 2 0 rfl rfl (rc_l 2 1 rfl rfl (rc_l 2 2 rfl rfl rc_nil))) ?_;refine s_0 [(0, iN t.kind), (1, iN t.num), (2, sN cb 0 t.kids.length nc)] [iN t.kind, iN t.num, sN cb 0 t.kids.length nc] none H (fun w1 H => ?_);refine r_nil ?_;refine W_ret ?_;refine q_rt [iN t.kind, iN t.num, sN cb 0 t.kids.length nc] [(⟨b3, 0, none⟩, iN t.kind), (⟨b3, 1, none⟩, iN t.num), (⟨b3, 2, none⟩, sN cb 0 t.kids.length nc)] (.agg #[iN t.kind, iN t.num, sN cb 0 t.kids.length nc]) (rc_L 0 rfl rfl (rc_L 0 rfl rfl (rc_L 0 rfl rfl rc_nil))) H ?_
 have hty2 : OwnPs vs us Fk := by have := how; rw [List.take_of_length_le (by omega)] at this; exact this
 refine ⟨(cb, .cells (List.toArray (vs ++ us2)) 24 (0, 0)) :: Fk, ?_, H.drop [_, _, _]⟩
 unfold OwnP; exact .inr ⟨cb, nc, vs ++ us2, Fk, rfl, by rw [hul], by rw [hul]; exact hnc, hty2.app⟩

theorem OwnPs.open {us : List Value} {q : T} {ts : List T} {F : LH} (h : OwnPs us (q :: ts) F) : ∃ A c ur F1 F2, us = .int .i64 q.kind :: .int .i64 q.num :: .slice A q.kids.length c :: ur ∧ F = F1 ++ F2 ∧ OwnP (.agg #[.int .i64 q.kind, .int .i64 q.num, .slice A q.kids.length c]) q F1 ∧ OwnPs ur ts F2 := by
 unfold OwnPs at h
 obtain ⟨v0, v1, v2, r, F1, F2, rfl, rfl, h1, h2⟩ := h;obtain ⟨A, c, he⟩ := id h1.shape;simp only [Value.agg.injEq] at he
 have he := congrArg Array.toList he
 simp only [List.cons.injEq, and_true] at he;obtain ⟨rfl, rfl, rfl⟩ := he
 exact ⟨A, c, r, F1, F2, rfl, rfl, h1, h2⟩

theorem c35 {f : Nat} {G : GH} {L : LH} {w : World} {va vb : Value} {a b r : T} {e : Int} (hva : IsPoly G va a) (hvb : IsPoly G vb b) (hsz : T.sz a + T.sz b + 2 < lim) (hrz : ∀ u x, a.kids[0]? = some u → Md.opened f u b 0 = some x → T.sz x + 1 < lim) (H : St G L w) (h : Md.Open f a b = some (r, e)) :
  Cal Try.prog 35 #[va, vb] w fun x w' => ∃ G' x0 F, Le G G' ∧ x = .tuple #[x0, .int .i64 e] ∧ OwnP x0 r F ∧ St G' (F ++ L) w' := by
 unfold Md.Open at h
 obtain ⟨aA, ac, rfl, hac, hak⟩ := id hva.open;obtain ⟨bA, bc, rfl, hbc, hbk⟩ := id hvb.open;refine cal_of_W Try.func35 rfl (Nat.le_of_ble_eq_true e_) ?_;refine W_sr [(.f, 0), (.f, 1), (.f, 2), (.p, 3)] H ?_;refine m_nw (cT a aA ac) 2 H (fun b1 w1 H => ?_);refine m_nw (cT b bA bc) 3 H (fun b2 w1 H => ?_);refine m_nw oT 4 H (fun b3 w1 H => ?_);refine r_z [(5, iN 0)] ?_;refine W_sr [(.l, 0), (.l, 1), (.f, 2), (.f, 3), (.p, 4)] H ?_;refine r_s [3, 3] [(.l, 0), (.l, 1)] [(9, (aT a aA ac)), (10, (aT b bA bc))] (rc_l 2 0 rfl rfl (rc_l 2 1 rfl rfl (rc_l 2 2 rfl rfl (rc_l 1 0 rfl rfl (rc_l 1 1 rfl rfl (rc_l 1 2 rfl rfl rc_nil)))))) ?_;refine m_new (.cells #[iN a.kind, iN a.num, .slice aA a.kids.length ac, iN b.kind, iN b.num, .slice bA b.kids.length bc] 24) (fun b4 => sN b4 0 2 2) (some 11) (fun b => by kernel_rfl) H (fun b4 w1 H => ?_);obtain ⟨G1, hG1, hF5, H⟩ := St.freeze [_] H
 have hfs := hF5 _ (.head _)
 have hcl56 := c56 (ts := [a, b]) (c := 2) (polys_of (cs := [.int .i64 a.kind, .int .i64 a.num, .slice aA a.kids.length ac, .int .i64 b.kind, .int .i64 b.num, .slice bA b.kids.length bc]) ⟨(hva).mono hG1, (hvb).mono hG1, trivial⟩ hfs) (Nat.le_refl _) (by rw [T.sz2]; omega) H
 refine m_cl #[sN b4 0 2 2] (some 12) (hcl56) ?_;rintro _ w1 ⟨G1', hG1', rfl, H⟩;replace hfs := hG1' _ _ hfs;refine nx H ?_;refine r_z [(6, iN (closed [a, b]))] ?_;refine W_seq ?_;refine W_block ?_;refine W_sr (pL 3) H ?_;refine r_z [(14, iN (closed [a, b])), (15, .bool ((closed [a, b]) != 0)), (13, .bool ((closed [a, b]) != 0))] ?_;refine W_cd (b := (closed [a, b]) != 0) (fun hc6 => ?_) (fun hc6 => ?_)
 ·skip
  rw [if_pos (show closed [a, b] ≠ 0 by simpa using hc6)] at h
  simp only [o_j, p_j] at h; obtain ⟨rfl, rfl⟩ := h
  refine W_sr [(.p, 0), (.p, 1), (.f, 2), (.p, 3)] H ?_;refine r_y [(.p, 0), (.p, 1)] [(16, .agg #[iN 0, iN 0, .slice none 0 0]), (17, iN (closed [a, b]))] ?_;refine s_0 [(0, iN 0), (1, iN 0), (2, .slice none 0 0)] [iN 0, iN 0, .slice none 0 0] none H (fun w1 H => ?_);refine r_z [(5, iN (closed [a, b]))] ?_;refine W_ret ?_;refine q_rt [iN 0, iN 0, .slice none 0 0] [(⟨b3, 0, none⟩, iN 0), (⟨b3, 1, none⟩, iN 0), (⟨b3, 2, none⟩, .slice none 0 0)] (.tuple #[.agg #[iN 0, iN 0, .slice none 0 0], iN (closed [a, b])]) (rc_L 0 rfl rfl (rc_L 0 rfl rfl (rc_L 0 rfl rfl rc_nil))) H ?_
  exact ⟨G1', _, [], hG1.trans hG1', rfl, OwnP.zero, H.drop [_, _, _]⟩
 rw [if_neg (show ¬ closed [a, b] ≠ 0 by simpa using hc6)] at h;refine W_sr [(.p, 0), (.l, 1), (.p, 2), (.p, 3)] H ?_;refine r_x [1] [(19, pN b1 0), (20, iN a.kind), (21, .bool (a.kind != 4)), (18, .bool (a.kind != 4))] (rc_l 2 0 rfl rfl rc_nil) ?_;refine W_cd (b := a.kind != 4) (fun hc7 => ?_) (fun hc7 => ?_)
 ·skip
  rw [if_pos (show a.kind ≠ 4 by simpa using hc7)] at h
  simp only [o_j, p_j] at h; obtain ⟨rfl, rfl⟩ := h
  refine W_sr [(.p, 0), (.f, 1), (.p, 2)] H ?_;refine r_y [(.p, 0)] [(22, .agg #[iN 0, iN 0, .slice none 0 0])] ?_;refine s_0 [(0, iN 0), (1, iN 0), (2, .slice none 0 0)] [iN 0, iN 0, .slice none 0 0] none H (fun w1 H => ?_);refine r_z [(5, iN 6)] ?_;refine W_ret ?_;refine q_rt [iN 0, iN 0, .slice none 0 0] [(⟨b3, 0, none⟩, iN 0), (⟨b3, 1, none⟩, iN 0), (⟨b3, 2, none⟩, .slice none 0 0)] (.tuple #[.agg #[iN 0, iN 0, .slice none 0 0], iN 6]) (rc_L 0 rfl rfl (rc_L 0 rfl rfl (rc_L 0 rfl rfl rc_nil))) H ?_
  exact ⟨G1', _, [], hG1.trans hG1', rfl, OwnP.zero, H.drop [_, _, _]⟩
 rw [if_neg (show ¬ a.kind ≠ 4 by simpa using hc7)] at h
 split at h
 case h_2 => cases h
 rename_i u _ hku
 obtain ⟨r0, hr0, h⟩ := Option.bind_eq_some_iff.1 h
 have hqu : a.kids[0]? = some u := by rw [hku]; rfl
 have hlt0 : 0 < a.kids.length := by rw [hku]; simp
 have huz := T.sz_kid hqu
 have hstk := H
 obtain ⟨eb1, eo1, uA, uc, rfl, hu0, hu1, hu2, hup⟩ := ((hak.mono hG1).mono hG1').elem hqu
 have H := hstk; clear hstk
 refine W_skip ?_;refine W_seq ?_;refine W_regT (.fork [(.p, 0), (.l, 1), (.p, 2), (.l, 3), (.l, 4)] 5 (.run [(.e, 6), (.f, 7)]) 6 (.run [(.e, 5), (.f, 7)])) 7 (SS G1' ([(b2, cT b bA bc), (b1, .cells #[iN a.kind, iN a.num, sN eb1 eo1 a.kids.length ac] 24)])) mixed e_ e_ e_ e_ (fun w1 hw1 => ?_)
 have H := H.heap hw1; refine ⟨H.ss' (Le.refl _) (fun p hp => by simp only [List.mem_cons, List.not_mem_nil, or_false] at hp; rcases hp with rfl | rfl <;> simp), ?_⟩
 unfold RunT
 refine r_s [1] [(.p, 0), (.l, 1)] [(23, pN b1 2), (24, sN eb1 eo1 a.kids.length ac)] (rc_l 1 2 rfl rfl rc_nil) ?_;refine m_idx (sz := 3) (b := eb1) (off := eo1) (n := a.kids.length) (c := ac) (k := 0) (some 25) (show opAt _ _ _ = some (.indexAddr 22 (.tmp 24) (.const (iN 0)), _) by kernel_rfl) e_ e_ Try.underlying22 sz24 hlt0 ?_;refine r_x [3, 3] [(26, (aT u uA uc)), (27, (aT b bA bc))] (rc_C hu0 (rc_C hu1 (rc_C hu2 (rc_l 0 0 rfl rfl (rc_l 0 1 rfl rfl (rc_l 0 2 rfl rfl rc_nil)))))) ?_;refine ⟨?_, ?_⟩
 ·skip
  refine m_callE #[(aT u uA uc), (aT b bA bc), iN 0] (some 28) e_ (c77 _ hup ((hvb.mono hG1).mono hG1') (by omega) (by omega) hr0 H) ?_;rintro x0 w1 ⟨Fr, hxo, H⟩;have H := St.swap (A := Fr) (B := [(b3, oT), (b2, cT b bA bc), (b1, .cells #[iN a.kind, iN a.num, sN eb1 eo1 a.kids.length ac] 24)]) (C := L) H
  have H : St G1' ((b3, oT) :: (b2, cT b bA bc) :: (b1, .cells #[iN a.kind, iN a.num, sN eb1 eo1 a.kids.length ac] 24) :: (Fr ++ L)) w1 := H
  obtain ⟨xA, xc, rfl⟩ := hxo.shape;refine ⟨H.ss' (Le.refl _) (fun p hp => by simp only [List.mem_cons, List.not_mem_nil, or_false] at hp; rcases hp with rfl | rfl <;> simp), ?_⟩;refine r_nil ?_
  unfold RunT
  refine m_newE oT (fun b8 => pN b8 0) (some 7) (fun b => by kernel_rfl) H (fun _ _ h => h.ss' (Le.refl _) (fun p hp => by simp only [List.mem_cons, List.not_mem_nil, or_false] at hp; rcases hp with rfl | rfl <;> simp)) (fun b8 w1 H => ?_);refine s_0 [(0, iN r0.kind), (1, iN r0.num), (2, .slice xA r0.kids.length xc)] [iN r0.kind, iN r0.num, .slice xA r0.kids.length xc] none H (fun w1 H => ?_);refine r_nil ?_;refine W_seq ?_;refine W_sr [(.l, 0), (.f, 1), (.f, 2), (.p, 3)] H ?_;refine r_s [3] [(.l, 0)] [(29, (aT r0 xA xc))] (rc_l 0 0 rfl rfl (rc_l 0 1 rfl rfl (rc_l 0 2 rfl rfl rc_nil))) ?_;refine m_new (cT r0 xA xc) (fun b9 => sN b9 0 1 1) (some 30) (fun b => by kernel_rfl) H (fun b9 w1 H => ?_);have H := St.swap (A := [(b9, cT r0 xA xc), (b8, cT r0 xA xc), (b3, oT), (b2, cT b bA bc), (b1, .cells #[iN a.kind, iN a.num, sN eb1 eo1 a.kids.length ac] 24)]) (B := Fr) (C := L) H;obtain ⟨G2, hG2, hF2, H, hthaw⟩ := St.freezeT Fr H
  have hxp := hxo.poly hF2
  obtain ⟨G3, hG3, hF3, H⟩ := St.freeze [_] H
  have hcl56 := c56 (ts := [r0]) (c := 1) (polys_of (cs := [.int .i64 r0.kind, .int .i64 r0.num, .slice xA r0.kids.length xc]) ⟨hxp.mono hG3, trivial⟩ (hF3 _ (.head _))) (Nat.le_refl _) (by rw [T.sz1]; exact hrz u r0 hqu hr0) H
  refine m_cl #[sN b9 0 1 1] (some 31) hcl56 ?_;rintro _ w1 ⟨G4, hG4, rfl, H⟩;have H := hthaw (H.weak (hG3.trans hG4));have H := St.swap (A := Fr) (B := [(b8, cT r0 xA xc), (b3, oT), (b2, cT b bA bc), (b1, .cells #[iN a.kind, iN a.num, sN eb1 eo1 a.kids.length ac] 24)]) (C := L) H
  have H : St G1' ((b8, cT r0 xA xc) :: (b3, oT) :: (b2, cT b bA bc) :: (b1, .cells #[iN a.kind, iN a.num, sN eb1 eo1 a.kids.length ac] 24) :: (Fr ++ L)) w1 := H
  refine nx H ?_;refine r_z [(8, iN (closed [r0]))] ?_;refine W_sr (pL 2) H ?_;refine r_z [(32, iN (closed [r0])), (33, .bool ((closed [r0]) != 0))] ?_;refine W_cd (b := (closed [r0]) != 0) (fun hc10 => ?_) (fun hc10 => ?_)
  ·skip
   rw [if_pos (show closed [r0] ≠ 0 by simpa using hc10)] at h; simp only [o_j, p_j] at h; obtain ⟨rfl, rfl⟩ := h
   refine W_sr [(.p, 0), (.p, 1), (.f, 2), (.p, 3)] H ?_;refine r_y [(.p, 0), (.p, 1)] [(34, .agg #[iN 0, iN 0, .slice none 0 0]), (35, iN (closed [r0]))] ?_;refine s_1 [(0, iN 0), (1, iN 0), (2, .slice none 0 0)] [iN 0, iN 0, .slice none 0 0] none H (fun w1 H => ?_);refine r_z [(5, iN (closed [r0]))] ?_;refine W_ret ?_;refine q_rt [iN 0, iN 0, .slice none 0 0] [(⟨b3, 0, none⟩, iN 0), (⟨b3, 1, none⟩, iN 0), (⟨b3, 2, none⟩, .slice none 0 0)] (.tuple #[.agg #[iN 0, iN 0, .slice none 0 0], iN (closed [r0])]) (rc_L 1 rfl rfl (rc_L 1 rfl rfl (rc_L 1 rfl rfl rc_nil))) H ?_
   exact ⟨G1', _, [], hG1.trans hG1', rfl, OwnP.zero, (H.drop [_, _, _, _]).drop Fr⟩
  rw [if_neg (show ¬ closed [r0] ≠ 0 by simpa using hc10)] at h; simp only [o_j, p_j] at h; obtain ⟨rfl, rfl⟩ := h
  refine W_skip ?_;refine W_sr [(.l, 0), (.f, 1), (.p, 2)] H ?_;refine r_s [3] [(.l, 0)] [(36, (aT r0 xA xc))] (rc_l 0 0 rfl rfl (rc_l 0 1 rfl rfl (rc_l 0 2 rfl rfl rc_nil))) ?_;refine s_1 [(0, iN r0.kind), (1, iN r0.num), (2, .slice xA r0.kids.length xc)] [iN r0.kind, iN r0.num, .slice xA r0.kids.length xc] none H (fun w1 H => ?_);refine r_z [(5, iN 0)] ?_;refine W_ret ?_;refine q_rt [iN r0.kind, iN r0.num, .slice xA r0.kids.length xc] [(⟨b3, 0, none⟩, iN r0.kind), (⟨b3, 1, none⟩, iN r0.num), (⟨b3, 2, none⟩, .slice xA r0.kids.length xc)] (.tuple #[.agg #[iN r0.kind, iN r0.num, .slice xA r0.kids.length xc], iN 0]) (rc_L 1 rfl rfl (rc_L 1 rfl rfl (rc_L 1 rfl rfl rc_nil))) H ?_
  exact ⟨G1', _, Fr, hG1.trans hG1', rfl, hxo, H.drop [_, _, _, _]⟩
 refine m_newE oT (fun b11 => pN b11 0) (some 7) (fun b => by kernel_rfl) H (fun _ _ h => h.ss' (Le.refl _) (fun p hp => by simp only [List.mem_cons, List.not_mem_nil, or_false] at hp; rcases hp with rfl | rfl <;> simp)) (fun b11 w1 H => ?_);refine r_nil ?_
 unfold RunT
 refine m_callE #[(aT u uA uc), (aT b bA bc), iN 0] (some 28) e_ (c77 _ hup ((hvb.mono hG1).mono hG1') (by omega) (by omega) hr0 H) ?_;rintro x0 w1 ⟨Fr, hxo, H⟩;have H := St.swap (A := Fr) (B := [(b11, oT), (b3, oT), (b2, cT b bA bc), (b1, .cells #[iN a.kind, iN a.num, sN eb1 eo1 a.kids.length ac] 24)]) (C := L) H
 have H : St G1' ((b11, oT) :: (b3, oT) :: (b2, cT b bA bc) :: (b1, .cells #[iN a.kind, iN a.num, sN eb1 eo1 a.kids.length ac] 24) :: (Fr ++ L)) w1 := H
 obtain ⟨xA, xc, rfl⟩ := hxo.shape;refine ⟨H.ss' (Le.refl _) (fun p hp => by simp only [List.mem_cons, List.not_mem_nil, or_false] at hp; rcases hp with rfl | rfl <;> simp), ?_⟩;refine s_0 [(0, iN r0.kind), (1, iN r0.num), (2, .slice xA r0.kids.length xc)] [iN r0.kind, iN r0.num, .slice xA r0.kids.length xc] none H (fun w1 H => ?_);refine r_nil ?_;refine W_seq ?_;refine W_sr [(.l, 0), (.f, 1), (.f, 2), (.p, 3)] H ?_;refine r_s [3] [(.l, 0)] [(29, (aT r0 xA xc))] (rc_l 0 0 rfl rfl (rc_l 0 1 rfl rfl (rc_l 0 2 rfl rfl rc_nil))) ?_;refine m_new (cT r0 xA xc) (fun b12 => sN b12 0 1 1) (some 30) (fun b => by kernel_rfl) H (fun b12 w1 H => ?_);have H := St.swap (A := [(b12, cT r0 xA xc), (b11, cT r0 xA xc), (b3, oT), (b2, cT b bA bc), (b1, .cells #[iN a.kind, iN a.num, sN eb1 eo1 a.kids.length ac] 24)]) (B := Fr) (C := L) H;obtain ⟨G2, hG2, hF2, H, hthaw⟩ := St.freezeT Fr H
 have hxp := hxo.poly hF2
 obtain ⟨G3, hG3, hF3, H⟩ := St.freeze [_] H
 have hcl56 := c56 (ts := [r0]) (c := 1) (polys_of (cs := [.int .i64 r0.kind, .int .i64 r0.num, .slice xA r0.kids.length xc]) ⟨hxp.mono hG3, trivial⟩ (hF3 _ (.head _))) (Nat.le_refl _) (by rw [T.sz1]; exact hrz u r0 hqu hr0) H
 refine m_cl #[sN b12 0 1 1] (some 31) hcl56 ?_;rintro _ w1 ⟨G4, hG4, rfl, H⟩;have H := hthaw (H.weak (hG3.trans hG4));have H := St.swap (A := Fr) (B := [(b11, cT r0 xA xc), (b3, oT), (b2, cT b bA bc), (b1, .cells #[iN a.kind, iN a.num, sN eb1 eo1 a.kids.length ac] 24)]) (C := L) H
 have H : St G1' ((b11, cT r0 xA xc) :: (b3, oT) :: (b2, cT b bA bc) :: (b1, .cells #[iN a.kind, iN a.num, sN eb1 eo1 a.kids.length ac] 24) :: (Fr ++ L)) w1 := H
 refine nx H ?_;refine r_z [(8, iN (closed [r0]))] ?_;refine W_sr (pL 2) H ?_;refine r_z [(32, iN (closed [r0])), (33, .bool ((closed [r0]) != 0))] ?_;refine W_cd (b := (closed [r0]) != 0) (fun hc13 => ?_) (fun hc13 => ?_)
 ·skip
  rw [if_pos (show closed [r0] ≠ 0 by simpa using hc13)] at h; simp only [o_j, p_j] at h; obtain ⟨rfl, rfl⟩ := h
  refine W_sr [(.p, 0), (.p, 1), (.f, 2), (.p, 3)] H ?_;refine r_y [(.p, 0), (.p, 1)] [(34, .agg #[iN 0, iN 0, .slice none 0 0]), (35, iN (closed [r0]))] ?_;refine s_1 [(0, iN 0), (1, iN 0), (2, .slice none 0 0)] [iN 0, iN 0, .slice none 0 0] none H (fun w1 H => ?_);refine r_z [(5, iN (closed [r0]))] ?_;refine W_ret ?_;refine q_rt [iN 0, iN 0, .slice none 0 0] [(⟨b3, 0, none⟩, iN 0), (⟨b3, 1, none⟩, iN 0), (⟨b3, 2, none⟩, .slice none 0 0)] (.tuple #[.agg #[iN 0, iN 0, .slice none 0 0], iN (closed [r0])]) (rc_L 1 rfl rfl (rc_L 1 rfl rfl (rc_L 1 rfl rfl rc_nil))) H ?_
  exact ⟨G1', _, [], hG1.trans hG1', rfl, OwnP.zero, (H.drop [_, _, _, _]).drop Fr⟩
 rw [if_neg (show ¬ closed [r0] ≠ 0 by simpa using hc13)] at h; simp only [o_j, p_j] at h; obtain ⟨rfl, rfl⟩ := h
 refine W_skip ?_;refine W_sr [(.l, 0), (.f, 1), (.p, 2)] H ?_;refine r_s [3] [(.l, 0)] [(36, (aT r0 xA xc))] (rc_l 0 0 rfl rfl (rc_l 0 1 rfl rfl (rc_l 0 2 rfl rfl rc_nil))) ?_;refine s_1 [(0, iN r0.kind), (1, iN r0.num), (2, .slice xA r0.kids.length xc)] [iN r0.kind, iN r0.num, .slice xA r0.kids.length xc] none H (fun w1 H => ?_);refine r_z [(5, iN 0)] ?_;refine W_ret ?_;refine q_rt [iN r0.kind, iN r0.num, .slice xA r0.kids.length xc] [(⟨b3, 0, none⟩, iN r0.kind), (⟨b3, 1, none⟩, iN r0.num), (⟨b3, 2, none⟩, .slice xA r0.kids.length xc)] (.tuple #[.agg #[iN r0.kind, iN r0.num, .slice xA r0.kids.length xc], iN 0]) (rc_L 1 rfl rfl (rc_L 1 rfl rfl (rc_L 1 rfl rfl rc_nil))) H ?_
 exact ⟨G1', _, Fr, hG1.trans hG1', rfl, hxo, H.drop [_, _, _, _]⟩

end Go.Proofs.Ytjgnhhgigickaaa.Wk

namespace Go.Proofs.Ytjgnhhgigickaaa.Wk
open Go Md
theorem both_law (a b : T) : closed [a, b] = rboth a b := by
  show (if right a 0 = 0 then closed [b] else right a 0) = _
  unfold rboth
  rw [closed_one, right_eq]
  by_cases h : rRight a 0 = 0
  · rw [if_pos h, if_neg (fun x => x h)]
  · rw [if_neg h, if_pos h]
mutual
/-- no variable leads out of so many quantifiers -/
def clo : Int → T → Prop
  | d, .mk k num ks => (k = 1 → 0 ≤ num ∧ num < d) ∧ clos (if k = 4 then d + 1 else d) ks
def clos : Int → List T → Prop
  | _, [] => True
  | d, t :: ts => clo d t ∧ clos d ts
end
mutual
theorem rt_clo : ∀ (t : T) {n ar m : Int}, 0 ≤ n → n ≤ 26 → 0 ≤ ar → ar ≤ m → m ≤ 12 → (rtWalk n ar m t).1 = 0 → clo (ar + n) t
  | .mk k num ks, n, ar, m, h0, h1, h2, h3, h4, h => by
    unfold rtWalk at h
    dsimp only at h
    split at h
    · rename_i hn
      have hr := rtNode_eq (ar := ar) (n := n) (k := k) (num := num) (len := ks.length) (wi := w64 (ar + n)) h4 rfl
      rw [hn] at hr
      have hw : w64 (ar + n) = ar + n := w64_id (by omega) (by omega)
      rw [hw] at hr
      split at hr
      · cases hr
      split at hr
      · cases hr
      split at hr
      · cases hr
      split at hr
      · cases hr
      rename_i c1 c2 c3 c4
      have hm : w64 (m + 1) = m + 1 := w64_id (by omega) (by omega)
      have ha : w64 (ar + 1) = ar + 1 := w64_id (by omega) (by omega)
      rw [hm, ha] at h
      unfold clo
      refine ⟨fun hk => by omega, ?_⟩
      have := rts_clo ks (n := n) (ar := if k = 4 then ar + 1 else ar) (m := m + 1) h0 h1 (by split <;> omega) (by split <;> omega) (by omega) h
      have e : (if k = 4 then ar + n + 1 else ar + n) = (if k = 4 then ar + 1 else ar) + n := by split <;> omega
      rw [e]; exact this
    · rename_i hn; exact absurd h hn
theorem rts_clo : ∀ (ts : List T) {n ar m : Int}, 0 ≤ n → n ≤ 26 → 0 ≤ ar → ar ≤ m → m ≤ 12 → (rtList n ar m ts).1 = 0 → clos (ar + n) ts
  | [], _, _, _, _, _, _, _, _, _ => by unfold clos; trivial
  | t :: ts, n, ar, m, h0, h1, h2, h3, h4, h => by
    unfold rtList at h
    dsimp only at h
    split at h
    · rename_i hc
      obtain ⟨_, b, c, _⟩ := (rt_eq t (n := n) (ar := ar) (m := m) (wi := w64 (ar + n)) (by omega) h4 rfl).2 hc
      have := nds_pos t
      unfold clos
      exact ⟨rt_clo t h0 h1 h2 h3 h4 hc, rts_clo ts h0 h1 h2 (by omega) c h⟩
    · rename_i hc; exact absurd h hc
end
theorem right_clo {t : T} (h : right t 0 = 0) : clo 0 t := by
  unfold right at h
  rw [if_neg (by decide)] at h
  have := rt_clo t (n := 0) (ar := 0) (m := 0) (by decide) (by decide) (by decide) (by decide) (by decide) h
  simpa using this

theorem mapM_some {α β : Type} {f : α → Option β} {g : α → β} : ∀ (l : List α), (∀ x, x ∈ l → f x = some (g x)) → l.mapM f = some (l.map g)
  | [], _ => rfl
  | x :: l, h => by
    rw [List.mapM_cons, h x (.head _)]
    have := mapM_some l (fun y hy => h y (.tail _ hy))
    simp [this]
theorem rputs_map (wth : T) (o : Int) : ∀ (ts : List T), rputs wth ts o = ts.map fun t => rput wth t o
  | [] => rfl
  | t :: ts => by simp [rputs, rputs_map wth o ts]
theorem wfs_mem : ∀ {ts : List T} {t : T}, wfs ts → t ∈ ts → wf t
  | u :: ts, t, h, hm => by
    unfold wfs at h
    rcases List.mem_cons.1 hm with rfl | hm
    · exact h.1
    · exact wfs_mem h.2 hm
theorem clos_mem : ∀ {ts : List T} {t : T} {d : Int}, clos d ts → t ∈ ts → clo d t
  | u :: ts, t, d, h, hm => by
    unfold clos at h
    rcases List.mem_cons.1 hm with rfl | hm
    · exact h.1
    · exact clos_mem h.2 hm
theorem ndss_mem : ∀ {ts : List T} {t : T}, t ∈ ts → nds t ≤ ndss ts
  | u :: ts, t, hm => by
    rw [ndss_cons]
    rcases List.mem_cons.1 hm with rfl | hm
    · omega
    · have := ndss_mem hm; omega
theorem opened_copy : ∀ (f : Nat) {t wth : T} {d : Int}, wf t → clo d t → nds t ≤ f → Md.opened f t wth (-1) = some t
  | 0, t, _, _, _, _, h => by have := nds_pos t; omega
  | f + 1, .mk k num ks, wth, d, hw, hc, hf => by
    rw [nds_mk] at hf
    unfold wf at hw
    unfold clo at hc
    rw [opened_eq]
    dsimp only [T.kind, T.num, T.kids]
    rw [if_neg (fun h => by have := hc.1 h.1; omega)]
    have hn : (if k = 4 ∧ (-1 : Int) ≥ 0 then w64 (-1 + 1) else -1) = (-1 : Int) := by rw [if_neg (by omega)]
    rw [hn, mapM_some (f := fun u => Md.opened f u wth (-1)) (g := id) ks fun u hu => opened_copy f (wfs_mem hw.2 hu) (clos_mem hc.2 hu) (by have := ndss_mem hu; omega)]
    simp
theorem opened_put : ∀ (f : Nat) {t wth : T} {n : Int}, wf t → clo (n + 1) t → 0 ≤ n → n + (nds t : Int) ≤ 1000 → wf wth → clo 0 wth → nds t + nds wth ≤ f → Md.opened f t wth n = some (rput wth t n)
  | 0, t, _, _, _, _, _, _, _, _, h => by have := nds_pos t; omega
  | f + 1, .mk k num ks, wth, n, hw, hc, h0, h1, hww, hcw, hf => by
    rw [nds_mk] at hf h1
    unfold wf at hw
    unfold clo at hc
    have hn1 : w64 (n + 1) = n + 1 := w64_id (by omega) (by omega)
    rw [opened_eq]
    unfold rput
    dsimp only [T.kind, T.num, T.kids]
    by_cases hk : k = 1
    · have hks : ks = [] := by
        have := hw.1; unfold wfn at this
        exact List.eq_nil_of_length_eq_zero (by omega)
      subst hks
      have hb := hc.1 hk
      rw [if_pos hk]
      by_cases hnum : num = n
      · rw [if_pos ⟨hk, hnum⟩, if_pos hnum]
        exact opened_copy f hww hcw (by omega)
      · rw [if_neg (fun h => hnum h.2), if_neg hnum, if_neg (show ¬ num > n by omega)]
        rfl
    · rw [if_neg (fun h => hk h.1), if_neg hk]
      have hn : (if k = 4 ∧ n ≥ 0 then w64 (n + 1) else n) = (if k = 4 then w64 (n + 1) else n) := by
        by_cases h4 : k = 4
        · rw [if_pos ⟨h4, h0⟩, if_pos h4]
        · rw [if_neg (fun h => h4 h.1), if_neg h4]
      rw [hn, rputs_map]
      rw [mapM_some (f := fun u => Md.opened f u wth (if k = 4 then w64 (n + 1) else n)) (g := fun u => rput wth u (if k = 4 then w64 (n + 1) else n)) ks fun u hu => by
        have hm := ndss_mem hu
        by_cases h4 : k = 4
        · rw [if_pos h4] at hc ⊢
          rw [hn1]
          exact opened_put f (wfs_mem hw.2 hu) (clos_mem hc.2 hu) (by omega) (by omega) hww hcw (by omega)
        · rw [if_neg h4] at hc ⊢
          exact opened_put f (wfs_mem hw.2 hu) (clos_mem hc.2 hu) h0 (by omega) hww hcw (by omega)]
      rfl
theorem open_law (a b : T) : ∃ f r e, Md.Open f a b = some (r, e) ∧ rOpen a b = (r, e) ∧ T.sz r < lim ∧ ∀ u x, a.kids[0]? = some u → Md.opened f u b 0 = some x → T.sz x + 1 < lim := by
  have hlim : lim = 1099511627776 := rfl
  unfold Md.Open rOpen
  rw [both_law]
  by_cases h1 : rboth a b ≠ 0
  · exact ⟨0, t0, rboth a b, by rw [if_pos h1], by rw [if_pos h1], by decide, fun u x _ hx => by cases hx⟩
  by_cases h2 : a.kind ≠ 4
  · exact ⟨0, t0, 6, by rw [if_neg h1, if_pos h2], by rw [if_neg h1, if_pos h2], by decide, fun u x _ hx => by cases hx⟩
  have hra : rRight a 0 = 0 ∧ rRight b 0 = 0 := by unfold rboth at h1; split at h1 <;> omega
  have ha0 : right a 0 = 0 := by rw [right_eq]; exact hra.1
  have hb0 : right b 0 = 0 := by rw [right_eq]; exact hra.2
  obtain ⟨hwa, hna⟩ := right_wf ha0
  obtain ⟨hwb, hnb⟩ := right_wf hb0
  have hca := right_clo ha0
  have hcb := right_clo hb0
  obtain ⟨k, num, ks⟩ := a
  have h4 : k = 4 := Classical.byContradiction h2
  subst h4
  unfold wf wfn at hwa
  have hl : ks.length = 1 := by omega
  match ks, hl with
  | [u], _ =>
    have hwu : wf u := wfs_mem hwa.2 (.head _)
    unfold clo at hca
    have hcu : clo 1 u := by have := clos_mem hca.2 (t := u) (.head _); simpa using this
    rw [nds_mk, ndss_cons] at hna
    have ho := opened_put (nds u + nds b) (n := 0) hwu (by simpa using hcu) (by decide) (by omega) hwb hcb (Nat.le_refl _)
    have hsz : T.sz (rput b u 0) + 1 < lim := by
      have x1 := nds_rput b u 0
      have x3 := sz_nds (rput b u 0)
      have x4 : nds u * nds b ≤ 12 * 12 := Nat.mul_le_mul (by omega) hnb
      omega
    have hx : ∀ v x, (T.mk 4 num [u]).kids[0]? = some v → Md.opened (nds u + nds b) v b 0 = some x → T.sz x + 1 < lim := by
      intro v x hv hxx
      have : u = v := by simpa using hv
      subst this
      rw [ho] at hxx; cases hxx; exact hsz
    by_cases hc : rRight (rput b u 0) 0 ≠ 0
    · refine ⟨nds u + nds b, t0, rRight (rput b u 0) 0, ?_, ?_, by decide, hx⟩
      · rw [if_neg h1, if_neg h2]; dsimp only; rw [ho]; show (if closed [rput b u 0] ≠ 0 then _ else _) = _; rw [closed_one, if_pos hc]
      · rw [if_neg h1, if_neg h2]; dsimp only; rw [if_pos hc]
    · refine ⟨nds u + nds b, rput b u 0, 0, ?_, ?_, by omega, hx⟩
      · rw [if_neg h1, if_neg h2]; dsimp only; rw [ho]; show (if closed [rput b u 0] ≠ 0 then _ else _) = _; rw [closed_one, if_neg hc]
      · rw [if_neg h1, if_neg h2]; dsimp only; rw [if_neg hc]
set_option maxRecDepth 20000
attribute [local irreducible] endQ
noncomputable def xr64 (a b : Int) : Int := match pv Try.prog (Op.intBits .xor .u64 a b) with | some (.int _ n) => n | _ => 0
/-- bytes that nobody writes -/
def ByS (G : GH) (A : Option Addr) (n : Nat) : Prop := ∀ i, i < n → ∃ b off u, A = some ⟨b, off, none⟩ ∧ GC G ⟨b, off + i, none⟩ (.int .u8 u)
theorem ByS.mono {G G' : GH} {A : Option Addr} {n : Nat} (h : ByS G A n) (hG : Le G G') : ByS G' A n := fun i hi => let ⟨b, off, u, h1, h2⟩ := h i hi; ⟨b, off, u, h1, h2.mono hG⟩
@[reducible] def StB (A : Option Addr) (n c at_ : Nat) (sd : Int) : Obj := .cells #[.slice A n c, .int .i64 ((at_ : Nat) : Int), .int .u64 sd] 96
theorem draw_nn (x : Int) : 0 ≤ IntKind.wrap .i64 (Int.fdiv (IntKind.wrap .u64 x) 1099511627776) := by
 have h1 : 0 ≤ IntKind.wrap .u64 x ∧ IntKind.wrap .u64 x < 18446744073709551616 := by
  simp only [IntKind.wrap, IntKind.bits, IntKind.signed]; simp; omega
 rw [Int.fdiv_eq_ediv_of_nonneg _ (by decide)];rw [wrap_id (by omega) (by omega)]
 omega
section
variable {ops : Array Oper} {K : Env → World → Prop} {rest : List (Mv × Nat)} {S : World → Prop} {ρ : Env} {w : World} {i : Nat}
theorem m_rem {x y : Operand} {t ty : TypeId} {a b : Int} {k : IntKind} {dd : Option Nat} (h : opAt ops i ρ = some (.binOp .rem t x y ty, dd)) (hx : ev ρ x = .int k a) (hy : ev ρ y = .int k b) (hb : b ≠ 0) (r : Int) (hr : a.tmod b = r)
  (hk : RunD Try.prog ops K rest S (updo ρ dd (.int k r)) w) : RunD Try.prog ops K ((.p, i) :: rest) S ρ w := by
 refine m_pF _ h (fun o ho w' => ?_) hk;subst hr
 have hg : (eqGuard .rem t x y (.int k a) (.int k b)).run Try.prog w' = .ok () w' := rfl
 simp [execOp, ho, hx, hy, hg, binOp, Op.intDiv, hb, Result.andThen]
end

theorem c74 {G : GH} {L : LH} {w : World} {sb n c at_ : Nat} {A : Option Addr} {sd : Int} (hB : ByS G A n) (hn : n < lim) (h1 : at_ < lim) (H : St G ((sb, StB A n c at_ sd) :: L) w) :
  Cal Try.prog 74 #[.pointer (some ⟨sb, 0, none⟩)] w fun x w' => ∃ r at2 sd2, x = .int .i64 r ∧ 0 ≤ r ∧ at2 ≤ at_ + 1 ∧ St G ((sb, StB A n c at2 sd2) :: L) w' := by
 have hlim : lim = 1099511627776 := rfl
 refine cal_of_W Try.func74 rfl (Nat.le_of_ble_eq_true e_) ?_;refine W_sr [(.p, 0)] H ?_;refine r_z [(2, iN 0)] ?_;refine W_seqI (fun ρ D w => ∃ (at2 : Nat) (sd1 : Int), EqS ρ [(0, pN sb 0)] ∧ D = [] ∧ St G ((sb, .cells #[.slice A n c, iN (((at2 : Nat) : Int)), .int .u64 sd1] 96) :: L) w ∧ (at2 ≤ at_ + 1)) ?_ ?_
 ·skip
  refine W_sr [(.p, 0), (.p, 1), (.p, 2), (.l, 3), (.p, 4), (.p, 5)] H ?_;refine r_x [1] [(3, pN sb 0), (4, pN sb 0), (5, pN sb 0), (6, .slice A n c), (7, nN n), (8, .bool (decide ((((n : Nat) : Int)) > 0)))] (rc_l 0 0 rfl rfl rc_nil) ?_;refine W_cd (b := decide ((((n : Nat) : Int)) > 0)) (fun hc1 => ?_) (fun hc1 => ?_)
  ·skip
   have hn0 : 0 < n := by have := of_decide_eq_true hc1; omega
   have hml : at_ % n < n := Nat.mod_lt _ hn0
   have hstk := H
   obtain ⟨eb, eo, u, rfl, hu⟩ := hB (at_ % n) hml
   have H := hstk; clear hstk
   have hu : GC G ⟨eb, eo + (at_ % n) * 1, none⟩ (.int .u8 u) := by rw [Nat.mul_one]; exact hu
   refine W_seq ?_;refine W_rgd [(.p, 0), (.p, 1), (.p, 2), (.l, 3), (.p, 4), (.p, 5), (.p, 6), (.l, 7), (.p, 8), (.p, 9), (.p, 10), (.l, 11), (.p, 12), (.p, 13), (.p, 14), (.l, 15), (.p, 16), (.p, 17), (.p, 18), (.l, 19), (.p, 20), (.p, 21), (.p, 22), (.p, 23), (.f, 24)] H (fun w1 H => ?_);refine r_s [1, 1, 1, 1] [(.p, 0), (.p, 1), (.p, 2), (.l, 3), (.p, 4), (.p, 5), (.p, 6), (.l, 7), (.p, 8), (.p, 9), (.p, 10), (.l, 11), (.p, 12), (.p, 13), (.p, 14), (.l, 15), (.p, 16)] [(9, pN sb 0), (10, pN sb 0), (11, pN sb 2), (12, .int .u64 sd), (13, pN sb 0), (14, pN sb 0), (15, pN sb 0), (16, sN eb eo n c), (17, pN sb 0), (18, pN sb 0), (19, pN sb 1), (20, nN at_), (21, pN sb 0), (22, pN sb 0), (23, pN sb 0), (24, sN eb eo n c), (25, nN n)] (rc_l 0 2 rfl rfl (rc_l 0 0 rfl rfl (rc_l 0 1 rfl rfl (rc_l 0 0 rfl rfl rc_nil)))) ?_;refine m_rem (k := .i64) (a := ((at_ : Nat) : Int)) (b := ((n : Nat) : Int)) (dd := (some 26)) (show opAt _ _ _ = some (.binOp .rem 3 (.tmp 20) (.tmp 25) 3, _) by kernel_rfl) e_ e_ (by omega) (((at_ % n : Nat)) : Int) (by rw [Int.tmod_eq_emod_of_nonneg (by omega)]; omega) ?_;refine m_idx (sz := 1) (b := eb) (off := eo) (n := n) (c := c) (k := (at_ % n)) (some 27) (show opAt _ _ _ = some (.indexAddr 35 (.tmp 16) (.tmp 26), _) by kernel_rfl) e_ e_ Try.underlying35 sz5 hml ?_;refine r_s [1] [(.l, 19), (.p, 20), (.p, 21), (.p, 22), (.p, 23)] [(28, .int .u8 u), (29, .int .u64 (IntKind.wrap .u64 u)), (30, .int .u64 (xr64 sd (IntKind.wrap .u64 u))), (31, pN sb 0), (32, pN sb 2)] (rc_C hu rc_nil) ?_;refine s_0 [(2, .int .u64 (xr64 sd (IntKind.wrap .u64 u)))] [sN eb eo n c, nN at_, .int .u64 (xr64 sd (IntKind.wrap .u64 u))] none H (fun w1 H => ?_);refine r_nil ?_;refine W_rg [(.p, 0), (.p, 1), (.p, 2), (.l, 3), (.p, 4), (.p, 5), (.p, 6), (.f, 7)] H ?_;refine r_s [1] [(.p, 0), (.p, 1), (.p, 2), (.l, 3), (.p, 4), (.p, 5), (.p, 6)] [(33, pN sb 0), (34, pN sb 0), (35, pN sb 1), (36, nN at_), (37, iN (IntKind.wrap .i64 ((((at_ : Nat) : Int)) + 1))), (38, pN sb 0), (39, pN sb 1)] (rc_l 0 1 rfl rfl rc_nil) ?_;refine s_0 [(1, iN (IntKind.wrap .i64 ((((at_ : Nat) : Int)) + 1)))] [sN eb eo n c, iN (IntKind.wrap .i64 ((((at_ : Nat) : Int)) + 1)), .int .u64 (xr64 sd (IntKind.wrap .u64 u))] none H (fun w1 H => ?_);refine r_nil ?_;rw [wrap_succ (by omega)] at H
   exact ⟨at_ + 1, xr64 sd (IntKind.wrap .u64 u), ⟨e_, trivial⟩, rfl, H, Nat.le_refl _⟩
  refine W_skip ?_
  exact ⟨at_, sd, ⟨e_, trivial⟩, rfl, H, Nat.le_succ _⟩
 clear H; rintro ρ D w1 ⟨at2, sd1, hE2, rfl, H, hat2⟩
 refine W_env hE2 ?_;refine W_sr [(.p, 0), (.p, 1), (.p, 2), (.p, 3), (.l, 4), (.p, 5), (.p, 6), (.p, 7), (.p, 8), (.f, 9)] H ?_;refine r_s [1] [(.p, 0), (.p, 1), (.p, 2), (.p, 3), (.l, 4), (.p, 5), (.p, 6), (.p, 7), (.p, 8)] [(40, pN sb 0), (41, pN sb 0), (42, pN sb 0), (43, pN sb 2), (44, .int .u64 sd1), (45, .int .u64 (IntKind.wrap .u64 (sd1 * 6364136223846793005))), (46, .int .u64 (IntKind.wrap .u64 ((IntKind.wrap .u64 (sd1 * 6364136223846793005)) + 1442695040888963407))), (47, pN sb 0), (48, pN sb 2)] (rc_l 0 2 rfl rfl rc_nil) ?_;refine s_0 [(2, .int .u64 (IntKind.wrap .u64 ((IntKind.wrap .u64 (sd1 * 6364136223846793005)) + 1442695040888963407)))] [.slice A n c, nN at2, .int .u64 (IntKind.wrap .u64 ((IntKind.wrap .u64 (sd1 * 6364136223846793005)) + 1442695040888963407))] none H (fun w1 H => ?_);refine r_nil ?_;refine W_sr [(.p, 0), (.p, 1), (.p, 2), (.l, 3), (.p, 4), (.p, 5), (.p, 6)] H ?_;refine r_x [1] [(49, pN sb 0), (50, pN sb 0), (51, pN sb 2), (52, .int .u64 (IntKind.wrap .u64 ((IntKind.wrap .u64 (sd1 * 6364136223846793005)) + 1442695040888963407))), (53, .int .u64 (Int.fdiv (IntKind.wrap .u64 ((IntKind.wrap .u64 (sd1 * 6364136223846793005)) + 1442695040888963407)) 1099511627776)), (54, iN (IntKind.wrap .i64 (Int.fdiv (IntKind.wrap .u64 ((IntKind.wrap .u64 (sd1 * 6364136223846793005)) + 1442695040888963407)) 1099511627776))), (2, iN (IntKind.wrap .i64 (Int.fdiv (IntKind.wrap .u64 ((IntKind.wrap .u64 (sd1 * 6364136223846793005)) + 1442695040888963407)) 1099511627776)))] (rc_l 0 2 rfl rfl rc_nil) ?_;refine W_ret ?_;refine q_rt [] [] (iN (IntKind.wrap .i64 (Int.fdiv (IntKind.wrap .u64 ((IntKind.wrap .u64 (sd1 * 6364136223846793005)) + 1442695040888963407)) 1099511627776))) rc_nil H ?_
 exact ⟨_, at2, _, rfl, draw_nn _, hat2, H⟩

theorem c32 {G : GH} {L : LH} {w : World} {sb n c at_ : Nat} {A : Option Addr} {sd k : Int} (hB : ByS G A n) (hn : n < lim) (h1 : at_ < lim) (H : St G ((sb, StB A n c at_ sd) :: L) w) :
  Cal Try.prog 32 #[.pointer (some ⟨sb, 0, none⟩), .int .i64 k] w fun x w' => ∃ r at2 sd2, x = .int .i64 r ∧ (k ≤ 0 → r = 0) ∧ (0 < k → 0 ≤ r ∧ r < k) ∧ at2 ≤ at_ + 1 ∧ St G ((sb, StB A n c at2 sd2) :: L) w' := by
 refine cal_of_W Try.func32 rfl (Nat.le_of_ble_eq_true e_) ?_;refine W_sr [(.p, 0)] H ?_;refine r_z [(4, iN 0)] ?_;refine W_seq ?_;refine W_sr (pL 2) H ?_;refine r_z [(5, iN k), (6, .bool (decide (k ≤ 0)))] ?_;refine W_cd (b := decide (k ≤ 0)) (fun hc1 => ?_) (fun hc1 => ?_)
 ·skip
  have hk : k ≤ 0 := of_decide_eq_true hc1
  refine W_sr [(.p, 0)] H ?_;refine r_z [(4, iN 0)] ?_;refine W_ret ?_;refine q_rt [] [] (iN 0) rc_nil H ?_
  exact ⟨0, at_, sd, rfl, fun _ => rfl, fun h => absurd h (by omega), Nat.le_succ _, H⟩
 have hk : ¬ k ≤ 0 := of_decide_eq_false hc1
 refine W_skip ?_;refine W_sr [(.p, 0), (.f, 1), (.p, 2), (.p, 3), (.p, 4)] H ?_;refine r_y [(.p, 0)] [(7, pN sb 0)] ?_;refine m_cl #[pN sb 0] (some 8) (c74 hB hn h1 H) ?_;rintro _ w1 ⟨r0, at2, sd2, rfl, hr0, hat2, H⟩;refine nx H ?_;refine r_y [(.p, 2)] [(9, iN k)] ?_;refine m_rem (k := .i64) (a := r0) (b := k) (dd := (some 10)) (show opAt _ _ _ = some (.binOp .rem 3 (.tmp 8) (.tmp 9) 3, _) by kernel_rfl) e_ e_ (by omega) (r0 % k) (by rw [Int.tmod_eq_emod_of_nonneg hr0]) ?_;refine r_z [(4, iN (r0 % k))] ?_;refine W_ret ?_;refine q_rt [] [] (iN (r0 % k)) rc_nil H ?_
 exact ⟨_, at2, sd2, rfl, fun h => absurd h hk, fun h => ⟨Int.emod_nonneg _ (by omega), Int.emod_lt_of_pos _ h⟩, hat2, H⟩

theorem ByS.src {G : GH} : ∀ {n b off : Nat}, ByS G (some ⟨b, off, none⟩) n → ∃ news : List Value, news.length = n ∧ (∀ (j : Nat) (u : Value), news[j]? = some u → GC G ⟨b, off + j, none⟩ u) ∧ (news.all (·.oneCell')) = true ∧ ∀ (j : Nat) (x : Value), news[j]? = some x → ∃ u, x = .int .u8 u
 | 0, _, _, _ => ⟨[], rfl, (fun j u h => by simp at h), rfl, (fun j u h => by simp at h)⟩
 | n + 1, b, off, h => by
  obtain ⟨b', off', u, he, hu⟩ := h 0 (Nat.succ_pos _);cases he
  obtain ⟨news, hl, hj, ho, hx⟩ := ByS.src (n := n) (b := b) (off := off + 1) (fun i hi => by
   obtain ⟨b', off', u, he, hu⟩ := h (i + 1) (by omega);cases he
   exact ⟨b, off + 1, u, rfl, by rw [show off + 1 + i = off + (i + 1) by omega]; exact hu⟩)
  refine ⟨.int .u8 u :: news, by simp [hl], fun j v hv => ?_, by simp only [List.all_cons, ho]; rfl, fun j v hv => ?_⟩
  ·cases j with
   | zero => simp at hv; subst hv; exact hu
   | succ j => rw [show off + (j + 1) = off + 1 + j by omega]; exact hj j v (by simpa using hv)
  cases j with
  | zero => simp at hv; exact ⟨u, hv.symm⟩
  | succ j => exact hx j v (by simpa using hv)

theorem c62 {G : GH} {L : LH} {w : World} {A : Option Addr} {n c : Nat} (hB : ByS G A n) (hl : n < lim) (H : St G L w) : Cal Try.prog 62 #[.slice A n c] w fun x w' => ∃ G' A' c', Le G G' ∧ x = .slice A' n c' ∧ ByS G' A' n ∧ St G' L w' := by
 have hlim : lim = 1099511627776 := rfl
 obtain _ | n := n
 ·obtain _ | a := A
  ·skip
   refine cal_of_W Try.func62 rfl (Nat.le_of_ble_eq_true e_) ?_;refine W_sr [(.p, 0)] H ?_;refine r_z [(2, .slice none 0 0)] ?_;refine W_seq ?_;refine W_sr (pL 2) H ?_;refine r_z [(3, .slice none 0 c), (4, .bool true)] ?_;refine W_cT ?_;refine W_sr [(.p, 0)] H ?_;refine r_z [(2, .slice none 0 0)] ?_;refine W_ret ?_;refine q_rt [] [] (.slice none 0 0) rc_nil H ?_
   exact ⟨G, _, _, Le.refl _, rfl, (fun i hi => absurd hi (Nat.not_lt_zero _)), H⟩
  refine cal_of_W Try.func62 rfl (Nat.le_of_ble_eq_true e_) ?_;refine W_sr [(.p, 0)] H ?_;refine r_z [(2, .slice none 0 0)] ?_;refine W_seq ?_;refine W_sr (pL 2) H ?_;refine r_z [(3, .slice ((some a)) 0 c), (4, .bool false)] ?_;refine W_cF ?_;refine W_skip ?_;refine W_sr [(.f, 0), (.p, 1), (.f, 2), (.p, 3)] H ?_;refine m_new (.cells #[] 5) (fun b1 => sN b1 0 0 0) (some 5) (fun b => by kernel_rfl) H (fun b1 w1 H => ?_);refine r_y [(.p, 1)] [(6, .slice ((some a)) 0 c)] ?_;refine m_pv (sN b1 0 0 0) (some 7) e_ H ?_;refine r_z [(2, sN b1 0 0 0)] ?_;refine W_ret ?_;refine q_rt [] [] (sN b1 0 0 0) rc_nil H ?_
  exact ⟨G, _, _, Le.refl _, rfl, (fun i hi => absurd hi (Nat.not_lt_zero _)), H.drop [_]⟩
 have hstk := H
 obtain ⟨eb, eo, _, rfl, _⟩ := hB 0 (Nat.succ_pos _)
 have H := hstk; clear hstk
 obtain ⟨news, hnl, hnj, hno, hnx⟩ := ByS.src hB;refine cal_of_W Try.func62 rfl (Nat.le_of_ble_eq_true e_) ?_;refine W_sr [(.p, 0)] H ?_;refine r_z [(2, .slice none 0 0)] ?_;refine W_seq ?_;refine W_sr (pL 2) H ?_;refine r_z [(3, sN eb eo ((n + 1)) c), (4, .bool false)] ?_;refine W_cF ?_;refine W_skip ?_;refine W_sr [(.f, 0), (.p, 1), (.f, 2), (.p, 3)] H ?_;refine m_new (.cells #[] 5) (fun b1 => sN b1 0 0 0) (some 5) (fun b => by kernel_rfl) H (fun b1 w1 H => ?_);refine r_y [(.p, 1)] [(6, sN eb eo ((n + 1)) c)] ?_;refine m_append (v := sN b1 0 0 0) (sb := eb) (so := eo) (m := n + 1) (mc := c) el35 [] (Lp := [(b1, .cells (List.toArray []) 5 (0, 0))]) (B := L) (n := 0) (cs := []) news (d := (some 7)) (show opAt _ _ _ = some (.call { callee := .builtin .append, args := #[(.tmp 5), (.tmp 6)], argTypes := #[35, 35] }, _) by kernel_rfl) e_ e_ ⟨rfl, .inr ⟨b1, 0, [], rfl, rfl, Nat.le_refl _, rfl, rfl⟩⟩ H (by omega) (fun j u hu => (hnj j u hu).cell H.imm) hno (Nat.succ_pos _) (by omega) (by omega) (fun v2 Lp2 w1 hos H => ?_);obtain ⟨hcl, ⟨_, h0, _⟩ | ⟨nb, nc, arr, rfl, rfl, hnc, harr, htk⟩⟩ := hos
 ·simp at h0
 refine r_z [(2, sN nb 0 (0 + (n + 1)) nc)] ?_;refine W_ret ?_;refine q_rt [] [] (sN nb 0 (0 + (n + 1)) nc) rc_nil H ?_;obtain ⟨G2, hG2, hF2, H⟩ := St.freeze [(nb, .cells (List.toArray arr) 5 (0, 0))] H
 have hf := hF2 _ (.head _)
 refine ⟨G2, some ⟨nb, 0, none⟩, nc, hG2, by rw [Nat.zero_add], fun i hi => ?_, H⟩
 have hi2 : i < news.length := by omega
 obtain ⟨x, hx⟩ := get_of_lt hi2;obtain ⟨u, rfl⟩ := hnx i x hx;refine ⟨nb, 0, u, rfl, GC.of hf ?_⟩
 rw [List.nil_append] at htk; rw [← htk, List.getElem?_take] at hx; rw [Nat.zero_add]; split at hx
 ·simpa using hx
 cases hx

theorem c20 {G : GH} {L : LH} {w : World} {A : Option Addr} {n c : Nat} (hB : ByS G A n) (hc : n ≤ c) (H : St G L w) : Cal Try.prog 20 #[.slice A n c] w fun x w' => ∃ G' sb A' n' c', Le G G' ∧ x = .pointer (some ⟨sb, 0, none⟩) ∧ ByS G' A' n' ∧ n' < lim ∧ St G' ((sb, StB A' n' c' 0 88172645463325252) :: L) w' := by
 have hlim : lim = 1099511627776 := rfl
 refine cal_of_W Try.func20 rfl (Nat.le_of_ble_eq_true e_) ?_;refine W_sr [(.p, 0)] H ?_;refine r_z [(2, .pointer none)] ?_;refine W_sr [(.p, 0), (.p, 1), (.p, 2), (.p, 3), (.p, 4), (.f, 5), (.p, 6), (.f, 7), (.p, 8)] H ?_;refine r_y [(.p, 0), (.p, 1), (.p, 2), (.p, 3)] [(3, .slice A n c), (4, .slice A n c), (5, nN n), (6, iN (if (300 : Int) < (((n : Nat) : Int)) then 300 else ((n : Nat) : Int)))] ?_
 have hmin : (if (300 : Int) < (((n : Nat) : Int)) then 300 else ((n : Nat) : Int)) = ((min n 300 : Nat) : Int) := by split <;> omega
 refine m_sliceTo (n := n) (c := c) (A := A) (hi := min n 300) (some 7) (show opAt _ _ _ = some (.slice 35 (.tmp 3) none (some (.tmp 6)) none, _) by kernel_rfl) e_ (by rw [← hmin]; kernel_rfl) Try.underlying35 e_ (by omega) ?_;refine m_cl #[.slice A ((min n 300)) c] (some 8) (c62 (n := min n 300) (fun i hi => hB i (by omega)) (by omega) H) ?_;rintro _ w1 ⟨G1, A1, c1, hG1, rfl, hB1, H⟩;refine nx H ?_;refine r_y [(.p, 6)] [(9, .agg #[.slice A1 ((min n 300)) c1, iN 0, .int .u64 88172645463325252])] ?_;refine m_nw (.cells #[.slice A1 ((min n 300)) c1, iN 0, .int .u64 88172645463325252] 96) 10 H (fun b1 w1 H => ?_);refine r_z [(2, pN b1 0)] ?_;refine W_ret ?_;refine q_rt [] [] (pN b1 0) rc_nil H ?_
 exact ⟨G1, _, A1, _, c1, hG1, rfl, hB1, by omega, H⟩

mutual
/-- a right type within so many quantifiers, of whatever size -/
def rgt : Int → T → Prop
 | d, .mk k num ks => (k = 1 ∧ (0 ≤ num ∧ num < d) ∧ ks.length = 0 ∨ k = 2 ∧ num = 0 ∧ ks.length = 0 ∨ k = 3 ∧ num = 0 ∧ ks.length = 2 ∨ k = 4 ∧ num = 0 ∧ ks.length = 1) ∧ rgts (if k = 4 then d + 1 else d) ks
def rgts : Int → List T → Prop
 | _, [] => True
 | d, t :: ts => rgt d t ∧ rgts d ts
end
theorem rgt_nt {d : Int} : rgt d nt := by unfold nt rgt; exact ⟨.inr (.inl ⟨rfl, rfl, rfl⟩), by unfold rgts; trivial⟩
theorem rgt_vr {d n : Int} (h : 0 ≤ n ∧ n < d) : rgt d (vr n) := by unfold vr rgt; exact ⟨.inl ⟨rfl, h, rfl⟩, by unfold rgts; trivial⟩
theorem rgt_fn {d : Int} {a b : T} (ha : rgt d a) (hb : rgt d b) : rgt d (fn a b) := by
 unfold fn rgt
 refine ⟨.inr (.inr (.inl ⟨rfl, rfl, rfl⟩)), ?_⟩
 rw [if_neg (by decide)]; unfold rgts; exact ⟨ha, by unfold rgts; exact ⟨hb, by unfold rgts; trivial⟩⟩
theorem rgt_al {d : Int} {a : T} (ha : rgt (d + 1) a) : rgt d (al a) := by
 unfold al rgt
 refine ⟨.inr (.inr (.inr ⟨rfl, rfl, rfl⟩)), ?_⟩
 rw [if_pos rfl]; unfold rgts; exact ⟨ha, by unfold rgts; trivial⟩
theorem nds_nt : nds nt = 1 := rfl
theorem nds_vr (n : Int) : nds (vr n) = 1 := rfl
theorem nds_fn (a b : T) : nds (fn a b) = nds a + nds b + 1 := by unfold fn; rw [nds_mk, ndss_cons, ndss_cons]; rfl
theorem nds_al (a : T) : nds (al a) = nds a + 1 := by unfold al; rw [nds_mk, ndss_cons]; rfl
theorem plain_fn (a b : T) : plain (fn a b) = (plain a && plain b) := by show (decide ((3 : Int) ≠ 4) && (plain a && (plain b && true))) = _; simp
def MD (G : GH) (L : LH) (sb lb : Nat) (A : Option Addr) (n c at_ : Nat) (wi l : Int) (pl : Bool) (x : Value) (w' : World) : Prop :=
 ∃ G' t at' sd', Le G G' ∧ IsPoly G' x t ∧ rgt wi t ∧ (nds t : Int) ≤ l ∧ (pl = true → plain t = true) ∧ at' ≤ at_ + 2 * nds t ∧ St G' ((lb, .cells #[.int .i64 (l - (nds t : Int))] 3) :: (sb, StB A n c at' sd') :: L) w'

theorem c61 : ∀ (N : Nat) {G : GH} {L : LH} {w : World} {sb lb n c at_ : Nat} {A : Option Addr} {sd wi l : Int} {pl : Bool}, l ≤ (N : Int) → 1 ≤ l → l ≤ 1000 → 0 ≤ wi → wi + l ≤ 2000 → (at_ : Int) + 2 * l ≤ 5000 → ByS G A n → n < lim → St G ((lb, .cells #[.int .i64 l] 3) :: (sb, StB A n c at_ sd) :: L) w →
  Cal Try.prog 61 #[.pointer (some ⟨sb, 0, none⟩), .pointer (some ⟨lb, 0, none⟩), .int .i64 wi, .bool pl] w (MD G L sb lb A n c at_ wi l pl) := by
 intro N
 induction N with
 | zero => intro G L w sb lb n c at_ A sd wi l pl h1 h2; omega
 | succ N ih =>
 intro G L w sb lb n c at_ A sd wi l pl hN hl1 hl2 hwi hwl hat hB hn H
 have hlim : lim = 1099511627776 := rfl
 have hm1 : IntKind.wrap .i64 (l - 1) = l - 1 := wrap_id (by omega) (by omega)
 have hm2 : IntKind.wrap .i64 (l - 1 - 1) = l - 2 := by rw [wrap_id] <;> omega
 refine cal_of_W Try.func61 rfl (Nat.le_of_ble_eq_true e_) ?_;refine W_sr [(.f, 0)] H ?_;refine m_nw oT 8 H (fun b1 w1 H => ?_);refine r_nil ?_;refine W_sr [(.p, 0), (.p, 1), (.l, 2), (.p, 3), (.p, 4), (.f, 5)] H ?_;refine r_s [1] [(.p, 0), (.p, 1), (.l, 2), (.p, 3), (.p, 4)] [(11, pN lb 0), (12, pN lb 0), (13, iN l), (14, iN (IntKind.wrap .i64 (l - 1))), (15, pN lb 0)] (rc_l 1 0 rfl rfl rc_nil) ?_;refine s_1 [(0, iN (IntKind.wrap .i64 (l - 1)))] [iN (IntKind.wrap .i64 (l - 1))] none H (fun w1 H => ?_);refine r_nil ?_;refine W_seq ?_;rw [hm1] at H;refine W_rg [(.p, 0), (.f, 1), (.p, 2)] H ?_;refine r_y [(.p, 0)] [(16, pN sb 0)] ?_;have H := St.swap (A := [(b1, oT), (lb, .cells #[iN (l - 1)] 3)]) (B := [(sb, cS A n c at_ sd)]) (C := L) H;refine m_cl #[pN sb 0, iN 6] (some 17) (c32 hB hn (by omega) H) ?_;rintro _ w1 ⟨k1, ak1, sk1, rfl, hk1a, hk1b, hk1t, H⟩;have H := St.swap (A := [(sb, cS A n c ak1 sk1)]) (B := [(b1, oT), (lb, .cells #[iN (l - 1)] 3)]) (C := L) H
 have H : St G ((b1, oT) :: (lb, .cells #[iN (l - 1)] 3) :: (sb, cS A n c ak1 sk1) :: L) w1 := H
 refine nx H ?_;refine r_z [(9, iN k1)] ?_;refine W_seq ?_;refine W_block ?_;refine W_sr [(.p, 0), (.p, 1), (.l, 2), (.p, 3), (.p, 4), (.p, 5), (.p, 6), (.p, 7), (.p, 8)] H ?_;refine r_s [1] [(.p, 0), (.p, 1), (.l, 2), (.p, 3), (.p, 4)] [(19, pN lb 0), (20, pN lb 0), (21, iN (l - 1)), (22, .bool (decide ((l - 1) ≥ 2))), (23, .bool (decide ((l - 1) ≥ 2)))] (rc_l 1 0 rfl rfl rc_nil) ?_
 rcases Bool.eq_false_or_eq_true (decide ((l - 1) ≥ 2)) with hc2 | hc2
 ·rw [hc2]
  have hp3 := hc2
  simp only [decide_eq_true_eq, decide_eq_false_iff_not, beq_iff_eq, beq_eq_false_iff_ne, bne_iff_ne, bne_eq_false_iff_eq, Bool.not_eq_true', Bool.not_eq_false', Bool.and_eq_true, Bool.and_eq_false_iff, ne_eq] at hp3;refine r_z [(24, iN k1), (25, .bool (decide (k1 < 3))), (26, .bool (decide (k1 < 3))), (18, .bool (decide (k1 < 3)))] ?_;refine W_cd (b := decide (k1 < 3)) (fun hc4 => ?_) (fun hc4 => ?_)
  ·skip
   have hp5 := hc4
   simp only [decide_eq_true_eq, decide_eq_false_iff_not, beq_iff_eq, beq_eq_false_iff_ne, bne_iff_ne, bne_eq_false_iff_eq, Bool.not_eq_true', Bool.not_eq_false', Bool.and_eq_true, Bool.and_eq_false_iff, ne_eq] at hp5;refine W_sr [(.p, 0), (.p, 1), (.l, 2), (.p, 3), (.p, 4), (.f, 5)] H ?_;refine r_s [1] [(.p, 0), (.p, 1), (.l, 2), (.p, 3), (.p, 4)] [(27, pN lb 0), (28, pN lb 0), (29, iN (l - 1)), (30, iN (IntKind.wrap .i64 ((l - 1) - 1))), (31, pN lb 0)] (rc_l 1 0 rfl rfl rc_nil) ?_;refine s_1 [(0, iN (IntKind.wrap .i64 ((l - 1) - 1)))] [iN (IntKind.wrap .i64 ((l - 1) - 1))] none H (fun w1 H => ?_);refine r_nil ?_;refine W_seqI (fun ρ D w => ∃ (GJ : GH) (ta : T) (aj : Nat) (sj : Int) (pA : Option Addr) (qA : Nat) (b10 : Nat), EqS ρ [(0, pN sb 0), (1, pN lb 0), (2, iN wi), (3, .bool pl), (8, pN b1 0), (10, pN b10 0)] ∧ D = [] ∧ St GJ ((b10, cT ta pA qA) :: (b1, oT) :: (lb, .cells #[iN (l - 2 - (nds ta : Int))] 3) :: (sb, .cells #[.slice A n c, iN (((aj : Nat) : Int)), .int .u64 sj] 96) :: L) w ∧ (Le G GJ) ∧ (IsPoly GJ (aT ta pA qA) ta) ∧ (rgt wi ta) ∧ ((nds ta : Int) ≤ l - 2) ∧ (pl = true → plain ta = true) ∧ (aj ≤ at_ + 1 + 2 * nds ta)) ?_ ?_
   ·skip
    rw [hm2] at H;refine W_rg [(.p, 0), (.p, 1), (.p, 2), (.p, 3), (.f, 4), (.f, 5), (.f, 6)] H ?_;refine r_y [(.p, 0), (.p, 1), (.p, 2), (.p, 3)] [(32, pN sb 0), (33, pN lb 0), (34, iN wi), (35, .bool pl)] ?_;have H := St.swap (A := [(b1, oT)]) (B := [(lb, .cells #[iN (l - 2)] 3), (sb, cS A n c ak1 sk1)]) (C := L) H;refine m_cl #[pN sb 0, pN lb 0, iN wi, .bool pl] (some 36) (ih (l := l - 2) (wi := wi) (by omega) (by omega) (by omega) (by omega) (by omega) (by omega) hB hn H) ?_;rintro x1 w1 ⟨G1, t1, at1, sd1, hG1, hx1, hr1, hd1, hp1, ha1, H⟩;obtain ⟨xA1, xc1, rfl, _, _⟩ := id hx1.open;have H := fr2 H;refine nx H ?_;refine m_nw oT 10 H (fun b6 w1 H => ?_);refine s_0 [(0, iN t1.kind), (1, iN t1.num), (2, .slice xA1 t1.kids.length xc1)] [iN t1.kind, iN t1.num, .slice xA1 t1.kids.length xc1] none H (fun w1 H => ?_);refine r_nil ?_
    exact ⟨G1, t1, at1, sd1, xA1, xc1, b6, ⟨e_, e_, e_, e_, e_, e_, trivial⟩, rfl, H, hG1, (hx1), hr1, hd1, hp1, by omega⟩
   clear H; rintro ρ D w1 ⟨GJ, ta, aj, sj, pA, qA, b10, hE7, rfl, H, hGJ, hta, hra, hda, hpa, haj⟩
   refine W_env hE7 ?_;refine W_sr [(.p, 0), (.p, 1), (.l, 2), (.p, 3), (.p, 4), (.f, 5)] H ?_;refine r_s [1] [(.p, 0), (.p, 1), (.l, 2), (.p, 3), (.p, 4)] [(37, pN lb 0), (38, pN lb 0), (39, iN (l - 2 - (nds ta : Int))), (40, iN (IntKind.wrap .i64 ((l - 2 - (nds ta : Int)) + 1))), (41, pN lb 0)] (rc_l 2 0 rfl rfl rc_nil) ?_;refine s_2 [(0, iN (IntKind.wrap .i64 ((l - 2 - (nds ta : Int)) + 1)))] [iN (IntKind.wrap .i64 ((l - 2 - (nds ta : Int)) + 1))] none H (fun w1 H => ?_);refine r_nil ?_;refine W_seq ?_
   have hm3 : IntKind.wrap .i64 (l - 2 - (nds ta : Int) + 1) = l - 1 - (nds ta : Int) := by rw [wrap_id] <;> omega
   rw [hm3] at H;refine W_regd [(.l, 0), (.p, 1), (.p, 2), (.p, 3), (.p, 4), (.e, 5), (.f, 6), (.f, 7)] (SS GJ ([(b10, cT ta pA qA)])) mixed e_ e_ e_ e_ (fun w1 hw1 => ?_)
   have H := H.heap hw1; refine ⟨H.ss' (Le.refl _) (fun p hp => by rw [List.mem_singleton.1 hp]; simp), ?_⟩
   refine r_s [3] [(.l, 0), (.p, 1), (.p, 2), (.p, 3), (.p, 4)] [(42, (aT ta pA qA)), (43, pN sb 0), (44, pN lb 0), (45, iN wi), (46, .bool pl)] (rc_l 0 0 rfl rfl (rc_l 0 1 rfl rfl (rc_l 0 2 rfl rfl rc_nil))) ?_;have H := St.swap (A := [(b10, cT ta pA qA), (b1, oT)]) (B := [(lb, .cells #[iN (l - 1 - (nds ta : Int))] 3), (sb, cS A n c aj sj)]) (C := L) H;refine m_callE #[pN sb 0, pN lb 0, iN wi, .bool pl] (some 47) e_ (ih (l := l - 1 - (nds ta : Int)) (wi := wi) (by omega) (by omega) (by omega) (by omega) (by omega) (by omega) (hB.mono (hGJ)) hn H) ?_;rintro x2 w1 ⟨G2, t2, at2, sd2, hG2, hx2, hr2, hd2, hp2, ha2, H⟩;obtain ⟨xA2, xc2, rfl, _, _⟩ := id hx2.open;have H := St.swap (A := [(lb, .cells #[iN (l - 1 - (nds ta : Int) - (nds t2 : Int))] 3), (sb, cS A n c at2 sd2)]) (B := [(b10, cT ta pA qA), (b1, oT)]) (C := L) H
   have H : St G2 ((b10, cT ta pA qA) :: (b1, oT) :: (lb, .cells #[iN (l - 1 - (nds ta : Int) - (nds t2 : Int))] 3) :: (sb, cS A n c at2 sd2) :: L) w1 := H
   refine ⟨H.ss' ((Le.refl _).trans hG2) (fun p hp => by rw [List.mem_singleton.1 hp]; simp), ?_⟩;refine m_cl #[(aT ta pA qA), (aT t2 xA2 xc2)] (some 48) (c26 ((hta).mono (hG2)) (hx2) H) ?_;rintro x3 w1 ⟨G3, hG3, hx3, H⟩;obtain ⟨xA3, xc3, rfl, _, _⟩ := id hx3.open;refine nx H ?_;refine s_1 [(0, iN ((fn ta t2).kind)), (1, iN ((fn ta t2).num)), (2, .slice xA3 ((fn ta t2).kids.length) xc3)] [iN ((fn ta t2).kind), iN ((fn ta t2).num), .slice xA3 ((fn ta t2).kids.length) xc3] none H (fun w1 H => ?_);refine r_nil ?_;refine W_ret ?_;refine q_rt [iN ((fn ta t2).kind), iN ((fn ta t2).num), .slice xA3 ((fn ta t2).kids.length) xc3] [(⟨b1, 0, none⟩, iN ((fn ta t2).kind)), (⟨b1, 1, none⟩, iN ((fn ta t2).num)), (⟨b1, 2, none⟩, .slice xA3 ((fn ta t2).kids.length) xc3)] (.agg #[iN ((fn ta t2).kind), iN ((fn ta t2).num), .slice xA3 ((fn ta t2).kids.length) xc3]) (rc_L 1 rfl rfl (rc_L 1 rfl rfl (rc_L 1 rfl rfl rc_nil))) H ?_
   have hnd := nds_fn ta t2
   have hlv : l - 1 - (nds ta : Int) - (nds t2 : Int) = l - (nds (fn ta t2) : Int) := by rw [hnd]; omega
   rw [hlv] at H
   exact ⟨G3, fn ta t2, at2, _, ((hGJ).trans hG2).trans hG3, (hx3), rgt_fn hra hr2, by rw [hnd]; omega, (fun h => by rw [plain_fn, hpa h, hp2 h]; rfl), by rw [hnd]; omega, H.drop [_, _]⟩
  have hp8 := hc4
  simp only [decide_eq_true_eq, decide_eq_false_iff_not, beq_iff_eq, beq_eq_false_iff_ne, bne_iff_ne, bne_eq_false_iff_eq, Bool.not_eq_true', Bool.not_eq_false', Bool.and_eq_true, Bool.and_eq_false_iff, ne_eq] at hp8;refine W_sr [(.p, 0), (.p, 1), (.l, 2), (.p, 3), (.p, 4), (.p, 5), (.p, 6), (.p, 7), (.p, 8), (.p, 9), (.p, 10), (.p, 11), (.p, 12)] H ?_;refine r_s [1] [(.p, 0), (.p, 1), (.l, 2), (.p, 3), (.p, 4)] [(50, pN lb 0), (51, pN lb 0), (52, iN (l - 1)), (53, .bool (decide ((l - 1) ≥ 1))), (54, .bool (decide ((l - 1) ≥ 1)))] (rc_l 1 0 rfl rfl rc_nil) ?_
  rcases Bool.eq_false_or_eq_true (decide ((l - 1) ≥ 1)) with hc9 | hc9
  ·rw [hc9]
   have hp10 := hc9
   simp only [decide_eq_true_eq, decide_eq_false_iff_not, beq_iff_eq, beq_eq_false_iff_ne, bne_iff_ne, bne_eq_false_iff_eq, Bool.not_eq_true', Bool.not_eq_false', Bool.and_eq_true, Bool.and_eq_false_iff, ne_eq] at hp10;refine r_y [(.p, 5), (.p, 6), (.p, 7), (.p, 8)] [(55, iN k1), (56, .bool (k1 == 3)), (57, .bool (k1 == 3)), (58, .bool (k1 == 3))] ?_
   rcases Bool.eq_false_or_eq_true (k1 == 3) with hc11 | hc11
   ·rw [hc11]
    have hp12 := hc11
    simp only [decide_eq_true_eq, decide_eq_false_iff_not, beq_iff_eq, beq_eq_false_iff_ne, bne_iff_ne, bne_eq_false_iff_eq, Bool.not_eq_true', Bool.not_eq_false', Bool.and_eq_true, Bool.and_eq_false_iff, ne_eq] at hp12;refine r_z [(59, .bool pl), (60, .bool (!pl)), (61, .bool (!pl)), (49, .bool (!pl))] ?_;refine W_cd (b := !pl) (fun hc13 => ?_) (fun hc13 => ?_)
    ·skip
     have hpl : pl = false := by simpa using hc13
     refine W_sr [(.p, 0), (.p, 1), (.p, 2), (.p, 3), (.p, 4), (.f, 5), (.f, 6), (.f, 7)] H ?_;refine r_y [(.p, 0), (.p, 1), (.p, 2), (.p, 3), (.p, 4)] [(62, pN sb 0), (63, pN lb 0), (64, iN wi), (65, iN (IntKind.wrap .i64 (wi + 1))), (66, .bool pl)] ?_;have H := St.swap (A := [(b1, oT)]) (B := [(lb, .cells #[iN (l - 1)] 3), (sb, cS A n c ak1 sk1)]) (C := L) H
     have hw1 : IntKind.wrap .i64 (wi + 1) = wi + 1 := wrap_id (by omega) (by omega)
     rw [hw1];refine m_cl #[pN sb 0, pN lb 0, iN (wi + 1), .bool pl] (some 67) (ih (l := l - 1) (wi := wi + 1) (by omega) (by omega) (by omega) (by omega) (by omega) (by omega) hB hn H) ?_;rintro x4 w1 ⟨G4, t4, at4, sd4, hG4, hx4, hr4, hd4, hp4, ha4, H⟩;obtain ⟨xA4, xc4, rfl, _, _⟩ := id hx4.open;have H := fr2 H;refine nx H ?_;refine m_cl #[(aT t4 xA4 xc4)] (some 68) (c49 (hx4) H) ?_;rintro x5 w1 ⟨G5, hG5, hx5, H⟩;obtain ⟨xA5, xc5, rfl, _, _⟩ := id hx5.open;refine nx H ?_;refine s_0 [(0, iN ((al t4).kind)), (1, iN ((al t4).num)), (2, .slice xA5 ((al t4).kids.length) xc5)] [iN ((al t4).kind), iN ((al t4).num), .slice xA5 ((al t4).kids.length) xc5] none H (fun w1 H => ?_);refine r_nil ?_;refine W_ret ?_;refine q_rt [iN ((al t4).kind), iN ((al t4).num), .slice xA5 ((al t4).kids.length) xc5] [(⟨b1, 0, none⟩, iN ((al t4).kind)), (⟨b1, 1, none⟩, iN ((al t4).num)), (⟨b1, 2, none⟩, .slice xA5 ((al t4).kids.length) xc5)] (.agg #[iN ((al t4).kind), iN ((al t4).num), .slice xA5 ((al t4).kids.length) xc5]) (rc_L 0 rfl rfl (rc_L 0 rfl rfl (rc_L 0 rfl rfl rc_nil))) H ?_
     have hnd := nds_al t4
     have hlv : l - 1 - (nds t4 : Int) = l - (nds (al t4) : Int) := by rw [hnd]; omega
     rw [hlv] at H
     exact ⟨G5, al t4, at4, _, (hG4).trans hG5, (hx5), rgt_al hr4, by rw [hnd]; omega, (fun h => by rw [hpl] at h; cases h), by rw [hnd]; omega, H.drop [_]⟩
    refine W_sr [(.p, 0), (.p, 1), (.p, 2), (.p, 3), (.p, 4), (.p, 5), (.p, 6)] H ?_;refine r_y [(.p, 0), (.p, 1), (.p, 2)] [(70, iN wi), (71, .bool (decide (wi > 0))), (72, .bool (decide (wi > 0)))] ?_
    rcases Bool.eq_false_or_eq_true (decide (wi > 0)) with hc14 | hc14
    ·rw [hc14]
     have hp15 := hc14
     simp only [decide_eq_true_eq, decide_eq_false_iff_not, beq_iff_eq, beq_eq_false_iff_ne, bne_iff_ne, bne_eq_false_iff_eq, Bool.not_eq_true', Bool.not_eq_false', Bool.and_eq_true, Bool.and_eq_false_iff, ne_eq] at hp15;refine r_z [(73, iN k1), (74, .bool (k1 != 5)), (75, .bool (k1 != 5)), (69, .bool (k1 != 5))] ?_;refine W_cd (b := k1 != 5) (fun hc16 => ?_) (fun hc16 => ?_)
     ·skip
      have hp17 := hc16
      simp only [decide_eq_true_eq, decide_eq_false_iff_not, beq_iff_eq, beq_eq_false_iff_ne, bne_iff_ne, bne_eq_false_iff_eq, Bool.not_eq_true', Bool.not_eq_false', Bool.and_eq_true, Bool.and_eq_false_iff, ne_eq] at hp17;refine W_sr [(.p, 0), (.p, 1), (.f, 2), (.f, 3), (.f, 4)] H ?_;refine r_y [(.p, 0), (.p, 1)] [(76, pN sb 0), (77, iN wi)] ?_;have H := St.swap (A := [(b1, oT), (lb, .cells #[iN (l - 1)] 3)]) (B := [(sb, cS A n c ak1 sk1)]) (C := L) H;refine m_cl #[pN sb 0, iN wi] (some 78) (c32 hB hn (by omega) H) ?_;rintro _ w1 ⟨k2, ak2, sk2, rfl, hk2a, hk2b, hk2t, H⟩;have H := St.swap (A := [(sb, cS A n c ak2 sk2)]) (B := [(b1, oT), (lb, .cells #[iN (l - 1)] 3)]) (C := L) H
      have H : St G ((b1, oT) :: (lb, .cells #[iN (l - 1)] 3) :: (sb, cS A n c ak2 sk2) :: L) w1 := H
      refine nx H ?_;refine m_cl #[iN k2] (some 79) (c50  H) ?_;rintro x6 w1 ⟨G6, hG6, hx6, H⟩;obtain ⟨xA6, xc6, rfl, _, _⟩ := id hx6.open;refine nx H ?_;refine s_0 [(0, iN ((vr k2).kind)), (1, iN ((vr k2).num)), (2, .slice xA6 ((vr k2).kids.length) xc6)] [iN ((vr k2).kind), iN ((vr k2).num), .slice xA6 ((vr k2).kids.length) xc6] none H (fun w1 H => ?_);refine r_nil ?_;refine W_ret ?_;refine q_rt [iN ((vr k2).kind), iN ((vr k2).num), .slice xA6 ((vr k2).kids.length) xc6] [(⟨b1, 0, none⟩, iN ((vr k2).kind)), (⟨b1, 1, none⟩, iN ((vr k2).num)), (⟨b1, 2, none⟩, .slice xA6 ((vr k2).kids.length) xc6)] (.agg #[iN ((vr k2).kind), iN ((vr k2).num), .slice xA6 ((vr k2).kids.length) xc6]) (rc_L 0 rfl rfl (rc_L 0 rfl rfl (rc_L 0 rfl rfl rc_nil))) H ?_
      have hnd := nds_vr k2
      have hlv : l - 1 = l - (nds (vr k2) : Int) := by rw [hnd]; omega
      rw [hlv] at H
      exact ⟨G6, vr k2, ak2, _, hG6, (hx6), rgt_vr (hk2b (by omega)), by rw [hnd]; omega, (fun _ => rfl), by rw [hnd]; omega, H.drop [_]⟩
     have hp18 := hc16
     simp only [decide_eq_true_eq, decide_eq_false_iff_not, beq_iff_eq, beq_eq_false_iff_ne, bne_iff_ne, bne_eq_false_iff_eq, Bool.not_eq_true', Bool.not_eq_false', Bool.and_eq_true, Bool.and_eq_false_iff, ne_eq] at hp18;refine W_skip ?_;refine W_sr [(.f, 0), (.f, 1)] H ?_;refine m_cl #[] (some 80) (c27  H) ?_;rintro x7 w1 ⟨G7, hG7, hx7, H⟩;obtain ⟨xA7, xc7, rfl, _, _⟩ := id hx7.open;refine nx H ?_;refine s_0 [(0, iN ((nt).kind)), (1, iN ((nt).num)), (2, .slice xA7 ((nt).kids.length) xc7)] [iN ((nt).kind), iN ((nt).num), .slice xA7 ((nt).kids.length) xc7] none H (fun w1 H => ?_);refine r_nil ?_;refine W_ret ?_;refine q_rt [iN ((nt).kind), iN ((nt).num), .slice xA7 ((nt).kids.length) xc7] [(⟨b1, 0, none⟩, iN ((nt).kind)), (⟨b1, 1, none⟩, iN ((nt).num)), (⟨b1, 2, none⟩, .slice xA7 ((nt).kids.length) xc7)] (.agg #[iN ((nt).kind), iN ((nt).num), .slice xA7 ((nt).kids.length) xc7]) (rc_L 0 rfl rfl (rc_L 0 rfl rfl (rc_L 0 rfl rfl rc_nil))) H ?_
     have hnd := nds_nt
     have hlv : l - 1 = l - (nds (nt) : Int) := by rw [hnd]; omega
     rw [hlv] at H
     exact ⟨G7, nt, ak1, _, hG7, (hx7), rgt_nt, by rw [hnd]; omega, (fun _ => rfl), by rw [hnd]; omega, H.drop [_]⟩
    rw [hc14]
    have hp19 := hc14
    simp only [decide_eq_true_eq, decide_eq_false_iff_not, beq_iff_eq, beq_eq_false_iff_ne, bne_iff_ne, bne_eq_false_iff_eq, Bool.not_eq_true', Bool.not_eq_false', Bool.and_eq_true, Bool.and_eq_false_iff, ne_eq] at hp19;refine r_z (uD 73 2 [(75, .bool false), (69, .bool false)]) ?_;refine W_cF ?_;refine W_skip ?_;refine W_sr [(.f, 0), (.f, 1)] H ?_;refine m_cl #[] (some 80) (c27  H) ?_;rintro x8 w1 ⟨G8, hG8, hx8, H⟩;obtain ⟨xA8, xc8, rfl, _, _⟩ := id hx8.open;refine nx H ?_;refine s_0 [(0, iN ((nt).kind)), (1, iN ((nt).num)), (2, .slice xA8 ((nt).kids.length) xc8)] [iN ((nt).kind), iN ((nt).num), .slice xA8 ((nt).kids.length) xc8] none H (fun w1 H => ?_);refine r_nil ?_;refine W_ret ?_;refine q_rt [iN ((nt).kind), iN ((nt).num), .slice xA8 ((nt).kids.length) xc8] [(⟨b1, 0, none⟩, iN ((nt).kind)), (⟨b1, 1, none⟩, iN ((nt).num)), (⟨b1, 2, none⟩, .slice xA8 ((nt).kids.length) xc8)] (.agg #[iN ((nt).kind), iN ((nt).num), .slice xA8 ((nt).kids.length) xc8]) (rc_L 0 rfl rfl (rc_L 0 rfl rfl (rc_L 0 rfl rfl rc_nil))) H ?_
    have hnd := nds_nt
    have hlv : l - 1 = l - (nds (nt) : Int) := by rw [hnd]; omega
    rw [hlv] at H
    exact ⟨G8, nt, ak1, _, hG8, (hx8), rgt_nt, by rw [hnd]; omega, (fun _ => rfl), by rw [hnd]; omega, H.drop [_]⟩
   rw [hc11]
   have hp20 := hc11
   simp only [decide_eq_true_eq, decide_eq_false_iff_not, beq_iff_eq, beq_eq_false_iff_ne, bne_iff_ne, bne_eq_false_iff_eq, Bool.not_eq_true', Bool.not_eq_false', Bool.and_eq_true, Bool.and_eq_false_iff, ne_eq] at hp20;refine r_z (uD 59 2 [(61, .bool false), (49, .bool false)]) ?_;refine W_cF ?_;refine W_sr [(.p, 0), (.p, 1), (.p, 2), (.p, 3), (.p, 4), (.p, 5), (.p, 6)] H ?_;refine r_y [(.p, 0), (.p, 1), (.p, 2)] [(70, iN wi), (71, .bool (decide (wi > 0))), (72, .bool (decide (wi > 0)))] ?_
   rcases Bool.eq_false_or_eq_true (decide (wi > 0)) with hc21 | hc21
   ·rw [hc21]
    have hp22 := hc21
    simp only [decide_eq_true_eq, decide_eq_false_iff_not, beq_iff_eq, beq_eq_false_iff_ne, bne_iff_ne, bne_eq_false_iff_eq, Bool.not_eq_true', Bool.not_eq_false', Bool.and_eq_true, Bool.and_eq_false_iff, ne_eq] at hp22;refine r_z [(73, iN k1), (74, .bool (k1 != 5)), (75, .bool (k1 != 5)), (69, .bool (k1 != 5))] ?_;refine W_cd (b := k1 != 5) (fun hc23 => ?_) (fun hc23 => ?_)
    ·skip
     have hp24 := hc23
     simp only [decide_eq_true_eq, decide_eq_false_iff_not, beq_iff_eq, beq_eq_false_iff_ne, bne_iff_ne, bne_eq_false_iff_eq, Bool.not_eq_true', Bool.not_eq_false', Bool.and_eq_true, Bool.and_eq_false_iff, ne_eq] at hp24;refine W_sr [(.p, 0), (.p, 1), (.f, 2), (.f, 3), (.f, 4)] H ?_;refine r_y [(.p, 0), (.p, 1)] [(76, pN sb 0), (77, iN wi)] ?_;have H := St.swap (A := [(b1, oT), (lb, .cells #[iN (l - 1)] 3)]) (B := [(sb, cS A n c ak1 sk1)]) (C := L) H;refine m_cl #[pN sb 0, iN wi] (some 78) (c32 hB hn (by omega) H) ?_;rintro _ w1 ⟨k3, ak3, sk3, rfl, hk3a, hk3b, hk3t, H⟩;have H := St.swap (A := [(sb, cS A n c ak3 sk3)]) (B := [(b1, oT), (lb, .cells #[iN (l - 1)] 3)]) (C := L) H
     have H : St G ((b1, oT) :: (lb, .cells #[iN (l - 1)] 3) :: (sb, cS A n c ak3 sk3) :: L) w1 := H
     refine nx H ?_;refine m_cl #[iN k3] (some 79) (c50  H) ?_;rintro x9 w1 ⟨G9, hG9, hx9, H⟩;obtain ⟨xA9, xc9, rfl, _, _⟩ := id hx9.open;refine nx H ?_;refine s_0 [(0, iN ((vr k3).kind)), (1, iN ((vr k3).num)), (2, .slice xA9 ((vr k3).kids.length) xc9)] [iN ((vr k3).kind), iN ((vr k3).num), .slice xA9 ((vr k3).kids.length) xc9] none H (fun w1 H => ?_);refine r_nil ?_;refine W_ret ?_;refine q_rt [iN ((vr k3).kind), iN ((vr k3).num), .slice xA9 ((vr k3).kids.length) xc9] [(⟨b1, 0, none⟩, iN ((vr k3).kind)), (⟨b1, 1, none⟩, iN ((vr k3).num)), (⟨b1, 2, none⟩, .slice xA9 ((vr k3).kids.length) xc9)] (.agg #[iN ((vr k3).kind), iN ((vr k3).num), .slice xA9 ((vr k3).kids.length) xc9]) (rc_L 0 rfl rfl (rc_L 0 rfl rfl (rc_L 0 rfl rfl rc_nil))) H ?_
     have hnd := nds_vr k3
     have hlv : l - 1 = l - (nds (vr k3) : Int) := by rw [hnd]; omega
     rw [hlv] at H
     exact ⟨G9, vr k3, ak3, _, hG9, (hx9), rgt_vr (hk3b (by omega)), by rw [hnd]; omega, (fun _ => rfl), by rw [hnd]; omega, H.drop [_]⟩
    have hp25 := hc23
    simp only [decide_eq_true_eq, decide_eq_false_iff_not, beq_iff_eq, beq_eq_false_iff_ne, bne_iff_ne, bne_eq_false_iff_eq, Bool.not_eq_true', Bool.not_eq_false', Bool.and_eq_true, Bool.and_eq_false_iff, ne_eq] at hp25;refine W_skip ?_;refine W_sr [(.f, 0), (.f, 1)] H ?_;refine m_cl #[] (some 80) (c27  H) ?_;rintro x10 w1 ⟨G10, hG10, hx10, H⟩;obtain ⟨xA10, xc10, rfl, _, _⟩ := id hx10.open;refine nx H ?_;refine s_0 [(0, iN ((nt).kind)), (1, iN ((nt).num)), (2, .slice xA10 ((nt).kids.length) xc10)] [iN ((nt).kind), iN ((nt).num), .slice xA10 ((nt).kids.length) xc10] none H (fun w1 H => ?_);refine r_nil ?_;refine W_ret ?_;refine q_rt [iN ((nt).kind), iN ((nt).num), .slice xA10 ((nt).kids.length) xc10] [(⟨b1, 0, none⟩, iN ((nt).kind)), (⟨b1, 1, none⟩, iN ((nt).num)), (⟨b1, 2, none⟩, .slice xA10 ((nt).kids.length) xc10)] (.agg #[iN ((nt).kind), iN ((nt).num), .slice xA10 ((nt).kids.length) xc10]) (rc_L 0 rfl rfl (rc_L 0 rfl rfl (rc_L 0 rfl rfl rc_nil))) H ?_
    have hnd := nds_nt
    have hlv : l - 1 = l - (nds (nt) : Int) := by rw [hnd]; omega
    rw [hlv] at H
    exact ⟨G10, nt, ak1, _, hG10, (hx10), rgt_nt, by rw [hnd]; omega, (fun _ => rfl), by rw [hnd]; omega, H.drop [_]⟩
   rw [hc21]
   have hp26 := hc21
   simp only [decide_eq_true_eq, decide_eq_false_iff_not, beq_iff_eq, beq_eq_false_iff_ne, bne_iff_ne, bne_eq_false_iff_eq, Bool.not_eq_true', Bool.not_eq_false', Bool.and_eq_true, Bool.and_eq_false_iff, ne_eq] at hp26;refine r_z (uD 73 2 [(75, .bool false), (69, .bool false)]) ?_;refine W_cF ?_;refine W_skip ?_;refine W_sr [(.f, 0), (.f, 1)] H ?_;refine m_cl #[] (some 80) (c27  H) ?_;rintro x11 w1 ⟨G11, hG11, hx11, H⟩;obtain ⟨xA11, xc11, rfl, _, _⟩ := id hx11.open;refine nx H ?_;refine s_0 [(0, iN ((nt).kind)), (1, iN ((nt).num)), (2, .slice xA11 ((nt).kids.length) xc11)] [iN ((nt).kind), iN ((nt).num), .slice xA11 ((nt).kids.length) xc11] none H (fun w1 H => ?_);refine r_nil ?_;refine W_ret ?_;refine q_rt [iN ((nt).kind), iN ((nt).num), .slice xA11 ((nt).kids.length) xc11] [(⟨b1, 0, none⟩, iN ((nt).kind)), (⟨b1, 1, none⟩, iN ((nt).num)), (⟨b1, 2, none⟩, .slice xA11 ((nt).kids.length) xc11)] (.agg #[iN ((nt).kind), iN ((nt).num), .slice xA11 ((nt).kids.length) xc11]) (rc_L 0 rfl rfl (rc_L 0 rfl rfl (rc_L 0 rfl rfl rc_nil))) H ?_
   have hnd := nds_nt
   have hlv : l - 1 = l - (nds (nt) : Int) := by rw [hnd]; omega
   rw [hlv] at H
   exact ⟨G11, nt, ak1, _, hG11, (hx11), rgt_nt, by rw [hnd]; omega, (fun _ => rfl), by rw [hnd]; omega, H.drop [_]⟩
  rw [hc9]
  have hp27 := hc9
  simp only [decide_eq_true_eq, decide_eq_false_iff_not, beq_iff_eq, beq_eq_false_iff_ne, bne_iff_ne, bne_eq_false_iff_eq, Bool.not_eq_true', Bool.not_eq_false', Bool.and_eq_true, Bool.and_eq_false_iff, ne_eq] at hp27;refine r_z (uD 55 2 [(57, .bool false), (58, .bool false), (59, undef), (60, undef), (61, .bool false), (49, .bool false)]) ?_;refine W_cF ?_;refine W_sr [(.p, 0), (.p, 1), (.p, 2), (.p, 3), (.p, 4), (.p, 5), (.p, 6)] H ?_;refine r_y [(.p, 0), (.p, 1), (.p, 2)] [(70, iN wi), (71, .bool (decide (wi > 0))), (72, .bool (decide (wi > 0)))] ?_
  rcases Bool.eq_false_or_eq_true (decide (wi > 0)) with hc28 | hc28
  ·rw [hc28]
   have hp29 := hc28
   simp only [decide_eq_true_eq, decide_eq_false_iff_not, beq_iff_eq, beq_eq_false_iff_ne, bne_iff_ne, bne_eq_false_iff_eq, Bool.not_eq_true', Bool.not_eq_false', Bool.and_eq_true, Bool.and_eq_false_iff, ne_eq] at hp29;refine r_z [(73, iN k1), (74, .bool (k1 != 5)), (75, .bool (k1 != 5)), (69, .bool (k1 != 5))] ?_;refine W_cd (b := k1 != 5) (fun hc30 => ?_) (fun hc30 => ?_)
   ·skip
    have hp31 := hc30
    simp only [decide_eq_true_eq, decide_eq_false_iff_not, beq_iff_eq, beq_eq_false_iff_ne, bne_iff_ne, bne_eq_false_iff_eq, Bool.not_eq_true', Bool.not_eq_false', Bool.and_eq_true, Bool.and_eq_false_iff, ne_eq] at hp31;refine W_sr [(.p, 0), (.p, 1), (.f, 2), (.f, 3), (.f, 4)] H ?_;refine r_y [(.p, 0), (.p, 1)] [(76, pN sb 0), (77, iN wi)] ?_;have H := St.swap (A := [(b1, oT), (lb, .cells #[iN (l - 1)] 3)]) (B := [(sb, cS A n c ak1 sk1)]) (C := L) H;refine m_cl #[pN sb 0, iN wi] (some 78) (c32 hB hn (by omega) H) ?_;rintro _ w1 ⟨k4, ak4, sk4, rfl, hk4a, hk4b, hk4t, H⟩;have H := St.swap (A := [(sb, cS A n c ak4 sk4)]) (B := [(b1, oT), (lb, .cells #[iN (l - 1)] 3)]) (C := L) H
    have H : St G ((b1, oT) :: (lb, .cells #[iN (l - 1)] 3) :: (sb, cS A n c ak4 sk4) :: L) w1 := H
    refine nx H ?_;refine m_cl #[iN k4] (some 79) (c50  H) ?_;rintro x12 w1 ⟨G12, hG12, hx12, H⟩;obtain ⟨xA12, xc12, rfl, _, _⟩ := id hx12.open;refine nx H ?_;refine s_0 [(0, iN ((vr k4).kind)), (1, iN ((vr k4).num)), (2, .slice xA12 ((vr k4).kids.length) xc12)] [iN ((vr k4).kind), iN ((vr k4).num), .slice xA12 ((vr k4).kids.length) xc12] none H (fun w1 H => ?_);refine r_nil ?_;refine W_ret ?_;refine q_rt [iN ((vr k4).kind), iN ((vr k4).num), .slice xA12 ((vr k4).kids.length) xc12] [(⟨b1, 0, none⟩, iN ((vr k4).kind)), (⟨b1, 1, none⟩, iN ((vr k4).num)), (⟨b1, 2, none⟩, .slice xA12 ((vr k4).kids.length) xc12)] (.agg #[iN ((vr k4).kind), iN ((vr k4).num), .slice xA12 ((vr k4).kids.length) xc12]) (rc_L 0 rfl rfl (rc_L 0 rfl rfl (rc_L 0 rfl rfl rc_nil))) H ?_
    have hnd := nds_vr k4
    have hlv : l - 1 = l - (nds (vr k4) : Int) := by rw [hnd]; omega
    rw [hlv] at H
    exact ⟨G12, vr k4, ak4, _, hG12, (hx12), rgt_vr (hk4b (by omega)), by rw [hnd]; omega, (fun _ => rfl), by rw [hnd]; omega, H.drop [_]⟩
   have hp32 := hc30
   simp only [decide_eq_true_eq, decide_eq_false_iff_not, beq_iff_eq, beq_eq_false_iff_ne, bne_iff_ne, bne_eq_false_iff_eq, Bool.not_eq_true', Bool.not_eq_false', Bool.and_eq_true, Bool.and_eq_false_iff, ne_eq] at hp32;refine W_skip ?_;refine W_sr [(.f, 0), (.f, 1)] H ?_;refine m_cl #[] (some 80) (c27  H) ?_;rintro x13 w1 ⟨G13, hG13, hx13, H⟩;obtain ⟨xA13, xc13, rfl, _, _⟩ := id hx13.open;refine nx H ?_;refine s_0 [(0, iN ((nt).kind)), (1, iN ((nt).num)), (2, .slice xA13 ((nt).kids.length) xc13)] [iN ((nt).kind), iN ((nt).num), .slice xA13 ((nt).kids.length) xc13] none H (fun w1 H => ?_);refine r_nil ?_;refine W_ret ?_;refine q_rt [iN ((nt).kind), iN ((nt).num), .slice xA13 ((nt).kids.length) xc13] [(⟨b1, 0, none⟩, iN ((nt).kind)), (⟨b1, 1, none⟩, iN ((nt).num)), (⟨b1, 2, none⟩, .slice xA13 ((nt).kids.length) xc13)] (.agg #[iN ((nt).kind), iN ((nt).num), .slice xA13 ((nt).kids.length) xc13]) (rc_L 0 rfl rfl (rc_L 0 rfl rfl (rc_L 0 rfl rfl rc_nil))) H ?_
   have hnd := nds_nt
   have hlv : l - 1 = l - (nds (nt) : Int) := by rw [hnd]; omega
   rw [hlv] at H
   exact ⟨G13, nt, ak1, _, hG13, (hx13), rgt_nt, by rw [hnd]; omega, (fun _ => rfl), by rw [hnd]; omega, H.drop [_]⟩
  rw [hc28]
  have hp33 := hc28
  simp only [decide_eq_true_eq, decide_eq_false_iff_not, beq_iff_eq, beq_eq_false_iff_ne, bne_iff_ne, bne_eq_false_iff_eq, Bool.not_eq_true', Bool.not_eq_false', Bool.and_eq_true, Bool.and_eq_false_iff, ne_eq] at hp33;refine r_z (uD 73 2 [(75, .bool false), (69, .bool false)]) ?_;refine W_cF ?_;refine W_skip ?_;refine W_sr [(.f, 0), (.f, 1)] H ?_;refine m_cl #[] (some 80) (c27  H) ?_;rintro x14 w1 ⟨G14, hG14, hx14, H⟩;obtain ⟨xA14, xc14, rfl, _, _⟩ := id hx14.open;refine nx H ?_;refine s_0 [(0, iN ((nt).kind)), (1, iN ((nt).num)), (2, .slice xA14 ((nt).kids.length) xc14)] [iN ((nt).kind), iN ((nt).num), .slice xA14 ((nt).kids.length) xc14] none H (fun w1 H => ?_);refine r_nil ?_;refine W_ret ?_;refine q_rt [iN ((nt).kind), iN ((nt).num), .slice xA14 ((nt).kids.length) xc14] [(⟨b1, 0, none⟩, iN ((nt).kind)), (⟨b1, 1, none⟩, iN ((nt).num)), (⟨b1, 2, none⟩, .slice xA14 ((nt).kids.length) xc14)] (.agg #[iN ((nt).kind), iN ((nt).num), .slice xA14 ((nt).kids.length) xc14]) (rc_L 0 rfl rfl (rc_L 0 rfl rfl (rc_L 0 rfl rfl rc_nil))) H ?_
  have hnd := nds_nt
  have hlv : l - 1 = l - (nds (nt) : Int) := by rw [hnd]; omega
  rw [hlv] at H
  exact ⟨G14, nt, ak1, _, hG14, (hx14), rgt_nt, by rw [hnd]; omega, (fun _ => rfl), by rw [hnd]; omega, H.drop [_]⟩
 rw [hc2]
 have hp34 := hc2
 simp only [decide_eq_true_eq, decide_eq_false_iff_not, beq_iff_eq, beq_eq_false_iff_ne, bne_iff_ne, bne_eq_false_iff_eq, Bool.not_eq_true', Bool.not_eq_false', Bool.and_eq_true, Bool.and_eq_false_iff, ne_eq] at hp34;refine r_z (uD 24 2 [(26, .bool false), (18, .bool false)]) ?_;refine W_cF ?_;refine W_sr [(.p, 0), (.p, 1), (.l, 2), (.p, 3), (.p, 4), (.p, 5), (.p, 6), (.p, 7), (.p, 8), (.p, 9), (.p, 10), (.p, 11), (.p, 12)] H ?_;refine r_s [1] [(.p, 0), (.p, 1), (.l, 2), (.p, 3), (.p, 4)] [(50, pN lb 0), (51, pN lb 0), (52, iN (l - 1)), (53, .bool (decide ((l - 1) ≥ 1))), (54, .bool (decide ((l - 1) ≥ 1)))] (rc_l 1 0 rfl rfl rc_nil) ?_
 rcases Bool.eq_false_or_eq_true (decide ((l - 1) ≥ 1)) with hc35 | hc35
 ·rw [hc35]
  have hp36 := hc35
  simp only [decide_eq_true_eq, decide_eq_false_iff_not, beq_iff_eq, beq_eq_false_iff_ne, bne_iff_ne, bne_eq_false_iff_eq, Bool.not_eq_true', Bool.not_eq_false', Bool.and_eq_true, Bool.and_eq_false_iff, ne_eq] at hp36;refine r_y [(.p, 5), (.p, 6), (.p, 7), (.p, 8)] [(55, iN k1), (56, .bool (k1 == 3)), (57, .bool (k1 == 3)), (58, .bool (k1 == 3))] ?_
  rcases Bool.eq_false_or_eq_true (k1 == 3) with hc37 | hc37
  ·rw [hc37]
   have hp38 := hc37
   simp only [decide_eq_true_eq, decide_eq_false_iff_not, beq_iff_eq, beq_eq_false_iff_ne, bne_iff_ne, bne_eq_false_iff_eq, Bool.not_eq_true', Bool.not_eq_false', Bool.and_eq_true, Bool.and_eq_false_iff, ne_eq] at hp38;refine r_z [(59, .bool pl), (60, .bool (!pl)), (61, .bool (!pl)), (49, .bool (!pl))] ?_;refine W_cd (b := !pl) (fun hc39 => ?_) (fun hc39 => ?_)
   ·skip
    have hpl : pl = false := by simpa using hc39
    refine W_sr [(.p, 0), (.p, 1), (.p, 2), (.p, 3), (.p, 4), (.f, 5), (.f, 6), (.f, 7)] H ?_;refine r_y [(.p, 0), (.p, 1), (.p, 2), (.p, 3), (.p, 4)] [(62, pN sb 0), (63, pN lb 0), (64, iN wi), (65, iN (IntKind.wrap .i64 (wi + 1))), (66, .bool pl)] ?_;have H := St.swap (A := [(b1, oT)]) (B := [(lb, .cells #[iN (l - 1)] 3), (sb, cS A n c ak1 sk1)]) (C := L) H
    have hw1 : IntKind.wrap .i64 (wi + 1) = wi + 1 := wrap_id (by omega) (by omega)
    rw [hw1];refine m_cl #[pN sb 0, pN lb 0, iN (wi + 1), .bool pl] (some 67) (ih (l := l - 1) (wi := wi + 1) (by omega) (by omega) (by omega) (by omega) (by omega) (by omega) hB hn H) ?_;rintro x15 w1 ⟨G15, t15, at15, sd15, hG15, hx15, hr15, hd15, hp15, ha15, H⟩;obtain ⟨xA15, xc15, rfl, _, _⟩ := id hx15.open;have H := fr2 H;refine nx H ?_;refine m_cl #[(aT t15 xA15 xc15)] (some 68) (c49 (hx15) H) ?_;rintro x16 w1 ⟨G16, hG16, hx16, H⟩;obtain ⟨xA16, xc16, rfl, _, _⟩ := id hx16.open;refine nx H ?_;refine s_0 [(0, iN ((al t15).kind)), (1, iN ((al t15).num)), (2, .slice xA16 ((al t15).kids.length) xc16)] [iN ((al t15).kind), iN ((al t15).num), .slice xA16 ((al t15).kids.length) xc16] none H (fun w1 H => ?_);refine r_nil ?_;refine W_ret ?_;refine q_rt [iN ((al t15).kind), iN ((al t15).num), .slice xA16 ((al t15).kids.length) xc16] [(⟨b1, 0, none⟩, iN ((al t15).kind)), (⟨b1, 1, none⟩, iN ((al t15).num)), (⟨b1, 2, none⟩, .slice xA16 ((al t15).kids.length) xc16)] (.agg #[iN ((al t15).kind), iN ((al t15).num), .slice xA16 ((al t15).kids.length) xc16]) (rc_L 0 rfl rfl (rc_L 0 rfl rfl (rc_L 0 rfl rfl rc_nil))) H ?_
    have hnd := nds_al t15
    have hlv : l - 1 - (nds t15 : Int) = l - (nds (al t15) : Int) := by rw [hnd]; omega
    rw [hlv] at H
    exact ⟨G16, al t15, at15, _, (hG15).trans hG16, (hx16), rgt_al hr15, by rw [hnd]; omega, (fun h => by rw [hpl] at h; cases h), by rw [hnd]; omega, H.drop [_]⟩
   refine W_sr [(.p, 0), (.p, 1), (.p, 2), (.p, 3), (.p, 4), (.p, 5), (.p, 6)] H ?_;refine r_y [(.p, 0), (.p, 1), (.p, 2)] [(70, iN wi), (71, .bool (decide (wi > 0))), (72, .bool (decide (wi > 0)))] ?_
   rcases Bool.eq_false_or_eq_true (decide (wi > 0)) with hc40 | hc40
   ·rw [hc40]
    have hp41 := hc40
    simp only [decide_eq_true_eq, decide_eq_false_iff_not, beq_iff_eq, beq_eq_false_iff_ne, bne_iff_ne, bne_eq_false_iff_eq, Bool.not_eq_true', Bool.not_eq_false', Bool.and_eq_true, Bool.and_eq_false_iff, ne_eq] at hp41;refine r_z [(73, iN k1), (74, .bool (k1 != 5)), (75, .bool (k1 != 5)), (69, .bool (k1 != 5))] ?_;refine W_cd (b := k1 != 5) (fun hc42 => ?_) (fun hc42 => ?_)
    ·skip
     have hp43 := hc42
     simp only [decide_eq_true_eq, decide_eq_false_iff_not, beq_iff_eq, beq_eq_false_iff_ne, bne_iff_ne, bne_eq_false_iff_eq, Bool.not_eq_true', Bool.not_eq_false', Bool.and_eq_true, Bool.and_eq_false_iff, ne_eq] at hp43;refine W_sr [(.p, 0), (.p, 1), (.f, 2), (.f, 3), (.f, 4)] H ?_;refine r_y [(.p, 0), (.p, 1)] [(76, pN sb 0), (77, iN wi)] ?_;have H := St.swap (A := [(b1, oT), (lb, .cells #[iN (l - 1)] 3)]) (B := [(sb, cS A n c ak1 sk1)]) (C := L) H;refine m_cl #[pN sb 0, iN wi] (some 78) (c32 hB hn (by omega) H) ?_;rintro _ w1 ⟨k5, ak5, sk5, rfl, hk5a, hk5b, hk5t, H⟩;have H := St.swap (A := [(sb, cS A n c ak5 sk5)]) (B := [(b1, oT), (lb, .cells #[iN (l - 1)] 3)]) (C := L) H
     have H : St G ((b1, oT) :: (lb, .cells #[iN (l - 1)] 3) :: (sb, cS A n c ak5 sk5) :: L) w1 := H
     refine nx H ?_;refine m_cl #[iN k5] (some 79) (c50  H) ?_;rintro x17 w1 ⟨G17, hG17, hx17, H⟩;obtain ⟨xA17, xc17, rfl, _, _⟩ := id hx17.open;refine nx H ?_;refine s_0 [(0, iN ((vr k5).kind)), (1, iN ((vr k5).num)), (2, .slice xA17 ((vr k5).kids.length) xc17)] [iN ((vr k5).kind), iN ((vr k5).num), .slice xA17 ((vr k5).kids.length) xc17] none H (fun w1 H => ?_);refine r_nil ?_;refine W_ret ?_;refine q_rt [iN ((vr k5).kind), iN ((vr k5).num), .slice xA17 ((vr k5).kids.length) xc17] [(⟨b1, 0, none⟩, iN ((vr k5).kind)), (⟨b1, 1, none⟩, iN ((vr k5).num)), (⟨b1, 2, none⟩, .slice xA17 ((vr k5).kids.length) xc17)] (.agg #[iN ((vr k5).kind), iN ((vr k5).num), .slice xA17 ((vr k5).kids.length) xc17]) (rc_L 0 rfl rfl (rc_L 0 rfl rfl (rc_L 0 rfl rfl rc_nil))) H ?_
     have hnd := nds_vr k5
     have hlv : l - 1 = l - (nds (vr k5) : Int) := by rw [hnd]; omega
     rw [hlv] at H
     exact ⟨G17, vr k5, ak5, _, hG17, (hx17), rgt_vr (hk5b (by omega)), by rw [hnd]; omega, (fun _ => rfl), by rw [hnd]; omega, H.drop [_]⟩
    have hp44 := hc42
    simp only [decide_eq_true_eq, decide_eq_false_iff_not, beq_iff_eq, beq_eq_false_iff_ne, bne_iff_ne, bne_eq_false_iff_eq, Bool.not_eq_true', Bool.not_eq_false', Bool.and_eq_true, Bool.and_eq_false_iff, ne_eq] at hp44;refine W_skip ?_;refine W_sr [(.f, 0), (.f, 1)] H ?_;refine m_cl #[] (some 80) (c27  H) ?_;rintro x18 w1 ⟨G18, hG18, hx18, H⟩;obtain ⟨xA18, xc18, rfl, _, _⟩ := id hx18.open;refine nx H ?_;refine s_0 [(0, iN ((nt).kind)), (1, iN ((nt).num)), (2, .slice xA18 ((nt).kids.length) xc18)] [iN ((nt).kind), iN ((nt).num), .slice xA18 ((nt).kids.length) xc18] none H (fun w1 H => ?_);refine r_nil ?_;refine W_ret ?_;refine q_rt [iN ((nt).kind), iN ((nt).num), .slice xA18 ((nt).kids.length) xc18] [(⟨b1, 0, none⟩, iN ((nt).kind)), (⟨b1, 1, none⟩, iN ((nt).num)), (⟨b1, 2, none⟩, .slice xA18 ((nt).kids.length) xc18)] (.agg #[iN ((nt).kind), iN ((nt).num), .slice xA18 ((nt).kids.length) xc18]) (rc_L 0 rfl rfl (rc_L 0 rfl rfl (rc_L 0 rfl rfl rc_nil))) H ?_
    have hnd := nds_nt
    have hlv : l - 1 = l - (nds (nt) : Int) := by rw [hnd]; omega
    rw [hlv] at H
    exact ⟨G18, nt, ak1, _, hG18, (hx18), rgt_nt, by rw [hnd]; omega, (fun _ => rfl), by rw [hnd]; omega, H.drop [_]⟩
   rw [hc40]
   have hp45 := hc40
   simp only [decide_eq_true_eq, decide_eq_false_iff_not, beq_iff_eq, beq_eq_false_iff_ne, bne_iff_ne, bne_eq_false_iff_eq, Bool.not_eq_true', Bool.not_eq_false', Bool.and_eq_true, Bool.and_eq_false_iff, ne_eq] at hp45;refine r_z (uD 73 2 [(75, .bool false), (69, .bool false)]) ?_;refine W_cF ?_;refine W_skip ?_;refine W_sr [(.f, 0), (.f, 1)] H ?_;refine m_cl #[] (some 80) (c27  H) ?_;rintro x19 w1 ⟨G19, hG19, hx19, H⟩;obtain ⟨xA19, xc19, rfl, _, _⟩ := id hx19.open;refine nx H ?_;refine s_0 [(0, iN ((nt).kind)), (1, iN ((nt).num)), (2, .slice xA19 ((nt).kids.length) xc19)] [iN ((nt).kind), iN ((nt).num), .slice xA19 ((nt).kids.length) xc19] none H (fun w1 H => ?_);refine r_nil ?_;refine W_ret ?_;refine q_rt [iN ((nt).kind), iN ((nt).num), .slice xA19 ((nt).kids.length) xc19] [(⟨b1, 0, none⟩, iN ((nt).kind)), (⟨b1, 1, none⟩, iN ((nt).num)), (⟨b1, 2, none⟩, .slice xA19 ((nt).kids.length) xc19)] (.agg #[iN ((nt).kind), iN ((nt).num), .slice xA19 ((nt).kids.length) xc19]) (rc_L 0 rfl rfl (rc_L 0 rfl rfl (rc_L 0 rfl rfl rc_nil))) H ?_
   have hnd := nds_nt
   have hlv : l - 1 = l - (nds (nt) : Int) := by rw [hnd]; omega
   rw [hlv] at H
   exact ⟨G19, nt, ak1, _, hG19, (hx19), rgt_nt, by rw [hnd]; omega, (fun _ => rfl), by rw [hnd]; omega, H.drop [_]⟩
  rw [hc37]
  have hp46 := hc37
  simp only [decide_eq_true_eq, decide_eq_false_iff_not, beq_iff_eq, beq_eq_false_iff_ne, bne_iff_ne, bne_eq_false_iff_eq, Bool.not_eq_true', Bool.not_eq_false', Bool.and_eq_true, Bool.and_eq_false_iff, ne_eq] at hp46;refine r_z (uD 59 2 [(61, .bool false), (49, .bool false)]) ?_;refine W_cF ?_;refine W_sr [(.p, 0), (.p, 1), (.p, 2), (.p, 3), (.p, 4), (.p, 5), (.p, 6)] H ?_;refine r_y [(.p, 0), (.p, 1), (.p, 2)] [(70, iN wi), (71, .bool (decide (wi > 0))), (72, .bool (decide (wi > 0)))] ?_
  rcases Bool.eq_false_or_eq_true (decide (wi > 0)) with hc47 | hc47
  ·rw [hc47]
   have hp48 := hc47
   simp only [decide_eq_true_eq, decide_eq_false_iff_not, beq_iff_eq, beq_eq_false_iff_ne, bne_iff_ne, bne_eq_false_iff_eq, Bool.not_eq_true', Bool.not_eq_false', Bool.and_eq_true, Bool.and_eq_false_iff, ne_eq] at hp48;refine r_z [(73, iN k1), (74, .bool (k1 != 5)), (75, .bool (k1 != 5)), (69, .bool (k1 != 5))] ?_;refine W_cd (b := k1 != 5) (fun hc49 => ?_) (fun hc49 => ?_)
   ·skip
    have hp50 := hc49
    simp only [decide_eq_true_eq, decide_eq_false_iff_not, beq_iff_eq, beq_eq_false_iff_ne, bne_iff_ne, bne_eq_false_iff_eq, Bool.not_eq_true', Bool.not_eq_false', Bool.and_eq_true, Bool.and_eq_false_iff, ne_eq] at hp50;refine W_sr [(.p, 0), (.p, 1), (.f, 2), (.f, 3), (.f, 4)] H ?_;refine r_y [(.p, 0), (.p, 1)] [(76, pN sb 0), (77, iN wi)] ?_;have H := St.swap (A := [(b1, oT), (lb, .cells #[iN (l - 1)] 3)]) (B := [(sb, cS A n c ak1 sk1)]) (C := L) H;refine m_cl #[pN sb 0, iN wi] (some 78) (c32 hB hn (by omega) H) ?_;rintro _ w1 ⟨k6, ak6, sk6, rfl, hk6a, hk6b, hk6t, H⟩;have H := St.swap (A := [(sb, cS A n c ak6 sk6)]) (B := [(b1, oT), (lb, .cells #[iN (l - 1)] 3)]) (C := L) H
    have H : St G ((b1, oT) :: (lb, .cells #[iN (l - 1)] 3) :: (sb, cS A n c ak6 sk6) :: L) w1 := H
    refine nx H ?_;refine m_cl #[iN k6] (some 79) (c50  H) ?_;rintro x20 w1 ⟨G20, hG20, hx20, H⟩;obtain ⟨xA20, xc20, rfl, _, _⟩ := id hx20.open;refine nx H ?_;refine s_0 [(0, iN ((vr k6).kind)), (1, iN ((vr k6).num)), (2, .slice xA20 ((vr k6).kids.length) xc20)] [iN ((vr k6).kind), iN ((vr k6).num), .slice xA20 ((vr k6).kids.length) xc20] none H (fun w1 H => ?_);refine r_nil ?_;refine W_ret ?_;refine q_rt [iN ((vr k6).kind), iN ((vr k6).num), .slice xA20 ((vr k6).kids.length) xc20] [(⟨b1, 0, none⟩, iN ((vr k6).kind)), (⟨b1, 1, none⟩, iN ((vr k6).num)), (⟨b1, 2, none⟩, .slice xA20 ((vr k6).kids.length) xc20)] (.agg #[iN ((vr k6).kind), iN ((vr k6).num), .slice xA20 ((vr k6).kids.length) xc20]) (rc_L 0 rfl rfl (rc_L 0 rfl rfl (rc_L 0 rfl rfl rc_nil))) H ?_
    have hnd := nds_vr k6
    have hlv : l - 1 = l - (nds (vr k6) : Int) := by rw [hnd]; omega
    rw [hlv] at H
    exact ⟨G20, vr k6, ak6, _, hG20, (hx20), rgt_vr (hk6b (by omega)), by rw [hnd]; omega, (fun _ => rfl), by rw [hnd]; omega, H.drop [_]⟩
   have hp51 := hc49
   simp only [decide_eq_true_eq, decide_eq_false_iff_not, beq_iff_eq, beq_eq_false_iff_ne, bne_iff_ne, bne_eq_false_iff_eq, Bool.not_eq_true', Bool.not_eq_false', Bool.and_eq_true, Bool.and_eq_false_iff, ne_eq] at hp51;refine W_skip ?_;refine W_sr [(.f, 0), (.f, 1)] H ?_;refine m_cl #[] (some 80) (c27  H) ?_;rintro x21 w1 ⟨G21, hG21, hx21, H⟩;obtain ⟨xA21, xc21, rfl, _, _⟩ := id hx21.open;refine nx H ?_;refine s_0 [(0, iN ((nt).kind)), (1, iN ((nt).num)), (2, .slice xA21 ((nt).kids.length) xc21)] [iN ((nt).kind), iN ((nt).num), .slice xA21 ((nt).kids.length) xc21] none H (fun w1 H => ?_);refine r_nil ?_;refine W_ret ?_;refine q_rt [iN ((nt).kind), iN ((nt).num), .slice xA21 ((nt).kids.length) xc21] [(⟨b1, 0, none⟩, iN ((nt).kind)), (⟨b1, 1, none⟩, iN ((nt).num)), (⟨b1, 2, none⟩, .slice xA21 ((nt).kids.length) xc21)] (.agg #[iN ((nt).kind), iN ((nt).num), .slice xA21 ((nt).kids.length) xc21]) (rc_L 0 rfl rfl (rc_L 0 rfl rfl (rc_L 0 rfl rfl rc_nil))) H ?_
   have hnd := nds_nt
   have hlv : l - 1 = l - (nds (nt) : Int) := by rw [hnd]; omega
   rw [hlv] at H
   exact ⟨G21, nt, ak1, _, hG21, (hx21), rgt_nt, by rw [hnd]; omega, (fun _ => rfl), by rw [hnd]; omega, H.drop [_]⟩
  rw [hc47]
  have hp52 := hc47
  simp only [decide_eq_true_eq, decide_eq_false_iff_not, beq_iff_eq, beq_eq_false_iff_ne, bne_iff_ne, bne_eq_false_iff_eq, Bool.not_eq_true', Bool.not_eq_false', Bool.and_eq_true, Bool.and_eq_false_iff, ne_eq] at hp52;refine r_z (uD 73 2 [(75, .bool false), (69, .bool false)]) ?_;refine W_cF ?_;refine W_skip ?_;refine W_sr [(.f, 0), (.f, 1)] H ?_;refine m_cl #[] (some 80) (c27  H) ?_;rintro x22 w1 ⟨G22, hG22, hx22, H⟩;obtain ⟨xA22, xc22, rfl, _, _⟩ := id hx22.open;refine nx H ?_;refine s_0 [(0, iN ((nt).kind)), (1, iN ((nt).num)), (2, .slice xA22 ((nt).kids.length) xc22)] [iN ((nt).kind), iN ((nt).num), .slice xA22 ((nt).kids.length) xc22] none H (fun w1 H => ?_);refine r_nil ?_;refine W_ret ?_;refine q_rt [iN ((nt).kind), iN ((nt).num), .slice xA22 ((nt).kids.length) xc22] [(⟨b1, 0, none⟩, iN ((nt).kind)), (⟨b1, 1, none⟩, iN ((nt).num)), (⟨b1, 2, none⟩, .slice xA22 ((nt).kids.length) xc22)] (.agg #[iN ((nt).kind), iN ((nt).num), .slice xA22 ((nt).kids.length) xc22]) (rc_L 0 rfl rfl (rc_L 0 rfl rfl (rc_L 0 rfl rfl rc_nil))) H ?_
  have hnd := nds_nt
  have hlv : l - 1 = l - (nds (nt) : Int) := by rw [hnd]; omega
  rw [hlv] at H
  exact ⟨G22, nt, ak1, _, hG22, (hx22), rgt_nt, by rw [hnd]; omega, (fun _ => rfl), by rw [hnd]; omega, H.drop [_]⟩
 rw [hc35]
 have hp53 := hc35
 simp only [decide_eq_true_eq, decide_eq_false_iff_not, beq_iff_eq, beq_eq_false_iff_ne, bne_iff_ne, bne_eq_false_iff_eq, Bool.not_eq_true', Bool.not_eq_false', Bool.and_eq_true, Bool.and_eq_false_iff, ne_eq] at hp53;refine r_z (uD 55 2 [(57, .bool false), (58, .bool false), (59, undef), (60, undef), (61, .bool false), (49, .bool false)]) ?_;refine W_cF ?_;refine W_sr [(.p, 0), (.p, 1), (.p, 2), (.p, 3), (.p, 4), (.p, 5), (.p, 6)] H ?_;refine r_y [(.p, 0), (.p, 1), (.p, 2)] [(70, iN wi), (71, .bool (decide (wi > 0))), (72, .bool (decide (wi > 0)))] ?_
 rcases Bool.eq_false_or_eq_true (decide (wi > 0)) with hc54 | hc54
 ·rw [hc54]
  have hp55 := hc54
  simp only [decide_eq_true_eq, decide_eq_false_iff_not, beq_iff_eq, beq_eq_false_iff_ne, bne_iff_ne, bne_eq_false_iff_eq, Bool.not_eq_true', Bool.not_eq_false', Bool.and_eq_true, Bool.and_eq_false_iff, ne_eq] at hp55;refine r_z [(73, iN k1), (74, .bool (k1 != 5)), (75, .bool (k1 != 5)), (69, .bool (k1 != 5))] ?_;refine W_cd (b := k1 != 5) (fun hc56 => ?_) (fun hc56 => ?_)
  ·skip
   have hp57 := hc56
   simp only [decide_eq_true_eq, decide_eq_false_iff_not, beq_iff_eq, beq_eq_false_iff_ne, bne_iff_ne, bne_eq_false_iff_eq, Bool.not_eq_true', Bool.not_eq_false', Bool.and_eq_true, Bool.and_eq_false_iff, ne_eq] at hp57;refine W_sr [(.p, 0), (.p, 1), (.f, 2), (.f, 3), (.f, 4)] H ?_;refine r_y [(.p, 0), (.p, 1)] [(76, pN sb 0), (77, iN wi)] ?_;have H := St.swap (A := [(b1, oT), (lb, .cells #[iN (l - 1)] 3)]) (B := [(sb, cS A n c ak1 sk1)]) (C := L) H;refine m_cl #[pN sb 0, iN wi] (some 78) (c32 hB hn (by omega) H) ?_;rintro _ w1 ⟨k7, ak7, sk7, rfl, hk7a, hk7b, hk7t, H⟩;have H := St.swap (A := [(sb, cS A n c ak7 sk7)]) (B := [(b1, oT), (lb, .cells #[iN (l - 1)] 3)]) (C := L) H
   have H : St G ((b1, oT) :: (lb, .cells #[iN (l - 1)] 3) :: (sb, cS A n c ak7 sk7) :: L) w1 := H
   refine nx H ?_;refine m_cl #[iN k7] (some 79) (c50  H) ?_;rintro x23 w1 ⟨G23, hG23, hx23, H⟩;obtain ⟨xA23, xc23, rfl, _, _⟩ := id hx23.open;refine nx H ?_;refine s_0 [(0, iN ((vr k7).kind)), (1, iN ((vr k7).num)), (2, .slice xA23 ((vr k7).kids.length) xc23)] [iN ((vr k7).kind), iN ((vr k7).num), .slice xA23 ((vr k7).kids.length) xc23] none H (fun w1 H => ?_);refine r_nil ?_;refine W_ret ?_;refine q_rt [iN ((vr k7).kind), iN ((vr k7).num), .slice xA23 ((vr k7).kids.length) xc23] [(⟨b1, 0, none⟩, iN ((vr k7).kind)), (⟨b1, 1, none⟩, iN ((vr k7).num)), (⟨b1, 2, none⟩, .slice xA23 ((vr k7).kids.length) xc23)] (.agg #[iN ((vr k7).kind), iN ((vr k7).num), .slice xA23 ((vr k7).kids.length) xc23]) (rc_L 0 rfl rfl (rc_L 0 rfl rfl (rc_L 0 rfl rfl rc_nil))) H ?_
   have hnd := nds_vr k7
   have hlv : l - 1 = l - (nds (vr k7) : Int) := by rw [hnd]; omega
   rw [hlv] at H
   exact ⟨G23, vr k7, ak7, _, hG23, (hx23), rgt_vr (hk7b (by omega)), by rw [hnd]; omega, (fun _ => rfl), by rw [hnd]; omega, H.drop [_]⟩
  have hp58 := hc56
  simp only [decide_eq_true_eq, decide_eq_false_iff_not, beq_iff_eq, beq_eq_false_iff_ne, bne_iff_ne, bne_eq_false_iff_eq, Bool.not_eq_true', Bool.not_eq_false', Bool.and_eq_true, Bool.and_eq_false_iff, ne_eq] at hp58;refine W_skip ?_;refine W_sr [(.f, 0), (.f, 1)] H ?_;refine m_cl #[] (some 80) (c27  H) ?_;rintro x24 w1 ⟨G24, hG24, hx24, H⟩;obtain ⟨xA24, xc24, rfl, _, _⟩ := id hx24.open;refine nx H ?_;refine s_0 [(0, iN ((nt).kind)), (1, iN ((nt).num)), (2, .slice xA24 ((nt).kids.length) xc24)] [iN ((nt).kind), iN ((nt).num), .slice xA24 ((nt).kids.length) xc24] none H (fun w1 H => ?_);refine r_nil ?_;refine W_ret ?_;refine q_rt [iN ((nt).kind), iN ((nt).num), .slice xA24 ((nt).kids.length) xc24] [(⟨b1, 0, none⟩, iN ((nt).kind)), (⟨b1, 1, none⟩, iN ((nt).num)), (⟨b1, 2, none⟩, .slice xA24 ((nt).kids.length) xc24)] (.agg #[iN ((nt).kind), iN ((nt).num), .slice xA24 ((nt).kids.length) xc24]) (rc_L 0 rfl rfl (rc_L 0 rfl rfl (rc_L 0 rfl rfl rc_nil))) H ?_
  have hnd := nds_nt
  have hlv : l - 1 = l - (nds (nt) : Int) := by rw [hnd]; omega
  rw [hlv] at H
  exact ⟨G24, nt, ak1, _, hG24, (hx24), rgt_nt, by rw [hnd]; omega, (fun _ => rfl), by rw [hnd]; omega, H.drop [_]⟩
 rw [hc54]
 have hp59 := hc54
 simp only [decide_eq_true_eq, decide_eq_false_iff_not, beq_iff_eq, beq_eq_false_iff_ne, bne_iff_ne, bne_eq_false_iff_eq, Bool.not_eq_true', Bool.not_eq_false', Bool.and_eq_true, Bool.and_eq_false_iff, ne_eq] at hp59;refine r_z (uD 73 2 [(75, .bool false), (69, .bool false)]) ?_;refine W_cF ?_;refine W_skip ?_;refine W_sr [(.f, 0), (.f, 1)] H ?_;refine m_cl #[] (some 80) (c27  H) ?_;rintro x25 w1 ⟨G25, hG25, hx25, H⟩;obtain ⟨xA25, xc25, rfl, _, _⟩ := id hx25.open;refine nx H ?_;refine s_0 [(0, iN ((nt).kind)), (1, iN ((nt).num)), (2, .slice xA25 ((nt).kids.length) xc25)] [iN ((nt).kind), iN ((nt).num), .slice xA25 ((nt).kids.length) xc25] none H (fun w1 H => ?_);refine r_nil ?_;refine W_ret ?_;refine q_rt [iN ((nt).kind), iN ((nt).num), .slice xA25 ((nt).kids.length) xc25] [(⟨b1, 0, none⟩, iN ((nt).kind)), (⟨b1, 1, none⟩, iN ((nt).num)), (⟨b1, 2, none⟩, .slice xA25 ((nt).kids.length) xc25)] (.agg #[iN ((nt).kind), iN ((nt).num), .slice xA25 ((nt).kids.length) xc25]) (rc_L 0 rfl rfl (rc_L 0 rfl rfl (rc_L 0 rfl rfl rc_nil))) H ?_
 have hnd := nds_nt
 have hlv : l - 1 = l - (nds (nt) : Int) := by rw [hnd]; omega
 rw [hlv] at H
 exact ⟨G25, nt, ak1, _, hG25, (hx25), rgt_nt, by rw [hnd]; omega, (fun _ => rfl), by rw [hnd]; omega, H.drop [_]⟩

theorem c19 {G : GH} {L : LH} {w : World} {sb n c at_ : Nat} {A : Option Addr} {sd l : Int} {pl : Bool} (hl1 : 1 ≤ l) (hl2 : l ≤ 1000) (hat : (at_ : Int) + 2 * l ≤ 5000) (hB : ByS G A n) (hn : n < lim) (H : St G ((sb, StB A n c at_ sd) :: L) w) :
  Cal Try.prog 19 #[.pointer (some ⟨sb, 0, none⟩), .int .i64 l, .bool pl] w fun x w' => ∃ G' t at' sd', Le G G' ∧ IsPoly G' x t ∧ rgt 0 t ∧ (nds t : Int) ≤ l ∧ (pl = true → plain t = true) ∧ at' ≤ at_ + 2 * nds t ∧ St G' ((sb, StB A n c at' sd') :: L) w' := by
 refine cal_of_W Try.func19 rfl (Nat.le_of_ble_eq_true e_) ?_;refine W_sr [(.f, 0)] H ?_;refine m_nw oT 6 H (fun b1 w1 H => ?_);refine r_nil ?_;refine W_sr [(.p, 0), (.f, 1), (.f, 2)] H ?_;refine r_y [(.p, 0)] [(8, iN l)] ?_;refine m_nw (.cells #[iN 0] 3) 7 H (fun b2 w1 H => ?_);refine s_0 [(0, iN l)] [iN l] none H (fun w1 H => ?_);refine r_nil ?_;refine W_sr [(.p, 0), (.p, 1), (.f, 2), (.f, 3)] H ?_;refine r_y [(.p, 0), (.p, 1)] [(9, pN sb 0), (10, .bool pl)] ?_;have H := St.swap (A := [(b2, .cells #[iN l] 3), (b1, oT)]) (B := [(sb, cS A n c at_ sd)]) (C := L) H;have H := St.swap (A := [(sb, cS A n c at_ sd)]) (B := [(b2, .cells #[iN l] 3)]) (C := (b1, oT) :: L) H;refine m_cl #[pN sb 0, pN b2 0, iN 0, .bool pl] (some 11) (c61 l.toNat (by omega) hl1 hl2 (Int.le_refl _) (by omega) hat hB hn H) ?_;rintro x1 w1 ⟨G1, t, at2, sd2, hG1, hx, hr, hd, hp, ha, H⟩;obtain ⟨xA, xc, rfl, _, _⟩ := id hx.open;have H := H.drop [_];have H := fr1 H;refine nx H ?_;refine s_0 [(0, iN t.kind), (1, iN t.num), (2, .slice xA t.kids.length xc)] [iN t.kind, iN t.num, .slice xA t.kids.length xc] none H (fun w1 H => ?_);refine r_nil ?_;refine W_ret ?_;refine q_rt [iN t.kind, iN t.num, .slice xA t.kids.length xc] [(⟨b1, 0, none⟩, iN t.kind), (⟨b1, 1, none⟩, iN t.num), (⟨b1, 2, none⟩, .slice xA t.kids.length xc)] (.agg #[iN t.kind, iN t.num, .slice xA t.kids.length xc]) (rc_L 0 rfl rfl (rc_L 0 rfl rfl (rc_L 0 rfl rfl rc_nil))) H ?_
 exact ⟨G1, t, at2, sd2, hG1, hx, hr, hd, hp, ha, H.drop [_]⟩

end Go.Proofs.Ytjgnhhgigickaaa.Wk
