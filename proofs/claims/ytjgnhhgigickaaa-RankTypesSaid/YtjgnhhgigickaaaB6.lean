/- The texts M5 W37 W38 W39 K18 W40 W41 M6 W42 K16 Types, joined by wip/tools/squeeze.py: contracts of the given program's functions and plain laws. Conditions: each theorem's own. -/
import Derived.Test.YtjgnhhgigickaaaB5
import Derived.Test.YtjgnhhgigickaaaRows
import Derived.ProofKit
set_option linter.all false

/- What the reference's functions on types compute: ranks, whether two are the same, what opening makes. Conditions: none. -/

namespace Go.Proofs.Ytjgnhhgigickaaa.Md
open Go Wk
def rrank : Nat → T → Option Int
  | 0, _ => none
  | f + 1, t =>
    if t.kind = 4 then
      match t.kids with
      | a :: _ => (rrank f a).bind fun r => some (max 1 r)
      | [] => none
    else if t.kind = 3 then
      match t.kids with
      | a :: b :: _ => (rrank f a).bind fun n => (rrank f b).bind fun m => some (max (if n > 0 then w64 (n + 1) else n) m)
      | _ => none
    else some 0
def rRank (f : Nat) (t : T) : Option (Int × Int) := if rRight t 0 ≠ 0 then some (0, rRight t 0) else (rrank f t).bind fun r => some (r, 0)
def rboth (a b : T) : Int := if rRight a 0 ≠ 0 then rRight a 0 else rRight b 0
def rSame (a b : T) : Bool × Int := if rboth a b ≠ 0 then (false, rboth a b) else (same a b, 0)
mutual
def rput (wth : T) : T → Int → T
  | .mk k num ks, out =>
    if k = 1 then (if num = out then wth else if num > out then .mk k (w64 (num - 1)) ks else .mk k num ks)
    else .mk k num (rputs wth ks (if k = 4 then w64 (out + 1) else out))
def rputs (wth : T) : List T → Int → List T
  | [], _ => []
  | t :: ts, out => rput wth t out :: rputs wth ts out
end
def rOpen (t wth : T) : T × Int :=
  if rboth t wth ≠ 0 then (t0, rboth t wth)
  else if t.kind ≠ 4 then (t0, 6)
  else match t.kids with
    | k :: _ => if rRight (rput wth k 0) 0 ≠ 0 then (t0, rRight (rput wth k 0) 0) else (rput wth k 0, 0)
    | [] => (t0, 0)
end Go.Proofs.Ytjgnhhgigickaaa.Md
/- Walks of the given program's functions: same, EqualFunc, Same. Printed by tools/w37.py. Conditions: none. -/

namespace Go.Proofs.Ytjgnhhgigickaaa.Wk
open Go Md
set_option maxRecDepth 20000
set_option linter.unusedVariables false
set_option linter.unusedSimpArgs false
attribute [local irreducible] endQ

def SameC (f : Nat) : Prop := ∀ {G : GH} {L : LH} {w : World} {va vb : Value} {a b : T}, T.sz a < f → IsPoly G va a → IsPoly G vb b → St G L w → Cal Try.prog 79 #[va, vb] w fun x w' => x = .bool (same a b) ∧ St G L w'
theorem sames_cons (a b : T) (xs ys : List T) : sames (a :: xs) (b :: ys) = (same a b && sames xs ys) := rfl
theorem sames_ne {xs ys : List T} (h : (((xs.length : Nat) : Int) != ((ys.length : Nat) : Int)) = true) : sames xs ys = false := by
 cases hx : sames xs ys
 ·rfl
 ·have := sames_len hx; rw [this] at h; simp at h
theorem c115 {f : Nat} (hS : SameC f) {G : GH} {L : LH} {w : World} {A B : Option Addr} {ca cb : Nat} {xs ys : List T} (hz : T.szs xs ≤ f) (hl : T.szs xs < lim) (hxk : IsPolys G A xs) (hyk : IsPolys G B ys) (hst : St G L w) :
  Cal Try.prog 115 #[.slice A xs.length ca, .slice B ys.length cb, .func (.func 79) #[] #[]] w fun x w' => x = .bool (sames xs ys) ∧ St G L w' := by
 have hlim : lim = 1099511627776 := rfl
 have hln := T.lens_le xs
 refine cal_of_W Try.func115 rfl (Nat.le_of_ble_eq_true (by kernel_rfl)) ?_
 refine W_seq ?_
 refine W_rg [(.p, 0)] hst ?_
 refine r_en [] [] [(6, .bool false)] rc_nil ?_
 refine W_seq ?_
 refine W_seq ?_
 refine W_rg [(.p, 0), (.p, 1), (.p, 2), (.p, 3), (.p, 4)] hst ?_
 refine r_en [] [] [(10, .slice A xs.length ca), (11, iN (((xs.length : Nat) : Int))), (12, .slice B ys.length cb), (13, iN (((ys.length : Nat) : Int))), (14, .bool ((((xs.length : Nat) : Int)) != (((ys.length : Nat) : Int))))] rc_nil ?_
 refine W_cd (b := (((xs.length : Nat) : Int)) != (((ys.length : Nat) : Int))) (fun hc1 => ?_) (fun hc1 => ?_)
 ·skip
  have hr := sames_ne hc1
  refine W_seq ?_
  refine W_rg [(.p, 0)] hst ?_
  refine r_en [] [] [(6, .bool false)] rc_nil ?_
  refine W_ret ?_
  refine q_rt [] [] (.bool false) rc_nil hst ?_
  exact ⟨by rw [hr], hst⟩
 ·skip
  have hsl : xs.length = ys.length := by have := hc1; simp at this; omega
  refine W_skip ?_
  refine W_seq ?_
  refine W_seq ?_
  refine W_rg [(.p, 0), (.p, 1), (.p, 2)] hst ?_
  refine r_en [] [] [(15, .slice A xs.length ca), (16, iN (((xs.length : Nat) : Int))), (17, iN 0)] rc_nil ?_
  refine W_block ?_
  refine W_loop (fun m ρ D w => ∃ (k : Nat), EqS ρ [(1, .slice B ys.length cb), (2, .func (.func 79) #[] #[]), (15, .slice A xs.length ca), (16, iN (((xs.length : Nat) : Int))), (17, iN (((k : Nat) : Int)))] ∧ D = [] ∧ St G (L) w ∧ (k ≤ xs.length) ∧ (sames xs ys = sames (xs.drop k) (ys.drop k)) ∧ xs.length - k = m) (xs.length - 0) ⟨0, ⟨by kernel_rfl, by kernel_rfl, by kernel_rfl, by kernel_rfl, by kernel_rfl, trivial⟩, rfl, hst, Nat.zero_le _, rfl, rfl⟩ ?_
  clear hst; rintro m2 ρ D w1 ⟨k, hE3, rfl, hst, hkk, hsm, hm4⟩
  refine W_env hE3 ?_
  refine W_seq ?_
  refine W_rg [(.p, 0)] hst ?_
  refine r_en [] [] [(18, .bool (decide ((((k : Nat) : Int)) < (((xs.length : Nat) : Int)))))] rc_nil ?_
  refine W_seq ?_
  refine W_cd (b := decide ((((k : Nat) : Int)) < (((xs.length : Nat) : Int)))) (fun hc5 => ?_) (fun hc5 => ?_)
  ·skip
   have hlt : k < xs.length := by have := of_decide_eq_true hc5; omega
   have hlt2 : k < ys.length := by omega
   obtain ⟨q, hq⟩ := get_of_lt hlt; obtain ⟨p, hp⟩ := get_of_lt hlt2
   have hqz := T.szs_get hq
   have hstk := hst
   obtain ⟨eb1, eo1, qA, qc, rfl, hq0, hq1, hq2, hqp⟩ := (hxk).elem hq
   have hst := hstk; clear hstk
   have hstk := hst
   obtain ⟨eb2, eo2, pA, pc, rfl, hp0, hp1, hp2, hpp⟩ := (hyk).elem hp
   have hst := hstk; clear hstk
   rw [drop_cons hq, drop_cons hp, sames_cons] at hsm
   refine W_skip ?_
   refine W_seq ?_
   refine W_block ?_
   refine W_seq ?_
   refine W_rg [(.p, 0), (.p, 1), (.l, 2), (.f, 3), (.p, 4), (.f, 5)] hst ?_
   refine r_sg [(.p, 0)] [] [] [(19, iN (((k : Nat) : Int)))] rc_nil ?_
   refine m_idx (sz := 3) (b := eb1) (off := eo1) (n := xs.length) (c := ca) (k := k) (some 20) (show opAt _ _ _ = some (.indexAddr 22 (.tmp 15) (.tmp 17), _) by kernel_rfl) (by kernel_rfl) (by kernel_rfl) Try.underlying22 sz24 hlt ?_
   refine r_sg [(.l, 2)] [[iN q.kind, iN q.num, .slice qA q.kids.length qc]] [(⟨eb1, eo1 + k * 3, none⟩, iN q.kind), (⟨eb1, eo1 + k * 3 + 1, none⟩, iN q.num), (⟨eb1, eo1 + k * 3 + 2, none⟩, .slice qA q.kids.length qc)] [(21, .agg #[iN q.kind, iN q.num, .slice qA q.kids.length qc])] (rc_C hq0 (rc_C hq1 (rc_C hq2 rc_nil))) ?_
   refine m_new (.cells #[iN 0, iN 0, .slice none 0 0] 24) (fun b6 => pN b6 0) (some 8) (fun b => by kernel_rfl) hst (fun b6 w1 hst => ?_)
   refine r_sg [(.p, 4)] [] [] [(7, iN (((k : Nat) : Int)))] rc_nil ?_
   refine m_st ((b6, .cells #[iN q.kind, iN q.num, .slice qA q.kids.length qc] 24) :: L) 0 [(0, iN q.kind), (1, iN q.num), (2, .slice qA q.kids.length qc)] [iN q.kind, iN q.num, .slice qA q.kids.length qc] none hst (fun w1 hst => ?_)
   refine r_nil ?_
   refine W_seq ?_
   refine W_rg [(.p, 0), (.p, 1), (.p, 2), (.l, 3), (.f, 4), (.f, 5)] hst ?_
   refine r_sg [(.p, 0), (.p, 1)] [] [] [(22, .slice (some ⟨eb2, eo2, none⟩) ys.length cb), (23, iN (((k : Nat) : Int)))] rc_nil ?_
   refine m_idx (sz := 3) (b := eb2) (off := eo2) (n := ys.length) (c := cb) (k := k) (some 24) (show opAt _ _ _ = some (.indexAddr 22 (.tmp 22) (.tmp 23), _) by kernel_rfl) (by kernel_rfl) (by kernel_rfl) Try.underlying22 sz24 hlt2 ?_
   refine r_sg [(.l, 3)] [[iN p.kind, iN p.num, .slice pA p.kids.length pc]] [(⟨eb2, eo2 + k * 3, none⟩, iN p.kind), (⟨eb2, eo2 + k * 3 + 1, none⟩, iN p.num), (⟨eb2, eo2 + k * 3 + 2, none⟩, .slice pA p.kids.length pc)] [(25, .agg #[iN p.kind, iN p.num, .slice pA p.kids.length pc])] (rc_C hp0 (rc_C hp1 (rc_C hp2 rc_nil))) ?_
   refine m_new (.cells #[iN 0, iN 0, .slice none 0 0] 24) (fun b7 => pN b7 0) (some 9) (fun b => by kernel_rfl) hst (fun b7 w1 hst => ?_)
   refine m_st ((b7, .cells #[iN p.kind, iN p.num, .slice pA p.kids.length pc] 24) :: (b6, .cells #[iN q.kind, iN q.num, .slice qA q.kids.length qc] 24) :: L) 0 [(0, iN p.kind), (1, iN p.num), (2, .slice pA p.kids.length pc)] [iN p.kind, iN p.num, .slice pA p.kids.length pc] none hst (fun w1 hst => ?_)
   refine r_nil ?_
   refine W_seq ?_
   refine W_rg [(.p, 0), (.l, 1), (.l, 2), (.f, 3), (.p, 4)] hst ?_
   refine r_sg [(.p, 0), (.l, 1), (.l, 2)] [[iN q.kind, iN q.num, .slice qA q.kids.length qc], [iN p.kind, iN p.num, .slice pA p.kids.length pc]] [(⟨b6, 0, none⟩, iN q.kind), (⟨b6, 1, none⟩, iN q.num), (⟨b6, 2, none⟩, .slice qA q.kids.length qc), (⟨b7, 0, none⟩, iN p.kind), (⟨b7, 1, none⟩, iN p.num), (⟨b7, 2, none⟩, .slice pA p.kids.length pc)] [(26, .func (.func 79) #[] #[]), (27, .agg #[iN q.kind, iN q.num, .slice qA q.kids.length qc]), (28, .agg #[iN p.kind, iN p.num, .slice pA p.kids.length pc])] (rc_L 1 rfl rfl (rc_L 1 rfl rfl (rc_L 1 rfl rfl (rc_L 0 rfl rfl (rc_L 0 rfl rfl (rc_L 0 rfl rfl rc_nil)))))) ?_
   refine m_cl #[.agg #[iN q.kind, iN q.num, .slice qA q.kids.length qc], .agg #[iN p.kind, iN p.num, .slice pA p.kids.length pc]] (some 29) (hS (a := q) (b := p) (by omega) hqp hpp hst) ?_
   rintro _ w1 ⟨rfl, hst⟩
   refine nx hst ?_
   refine r_en [] [] [(30, .bool (!(same q p)))] rc_nil ?_
   refine W_cd (b := !(same q p)) (fun hc8 => ?_) (fun hc8 => ?_)
   ·skip
    have hr : sames xs ys = false := by have := hc8; rw [Bool.not_eq_true'] at this; rw [hsm, this]; rfl
    refine W_seq ?_
    refine W_rg [(.p, 0)] hst ?_
    refine r_en [] [] [(6, .bool false)] rc_nil ?_
    refine W_ret ?_
    refine q_rt [] [] (.bool false) rc_nil hst ?_
    exact ⟨by rw [hr], hst.drop [_, _]⟩
   ·skip
    have hqp1 : same q p = true := by have := hc8; rw [Bool.not_eq_false'] at this; exact this
    refine W_skip ?_
    refine W_rg [(.p, 0), (.p, 1)] hst ?_
    refine r_en [] [] [(31, iN (IntKind.wrap .i64 ((((k : Nat) : Int)) + 1))), (17, iN (IntKind.wrap .i64 ((((k : Nat) : Int)) + 1)))] rc_nil ?_
    exact ⟨_, (by omega), k + 1, ⟨by kernel_rfl, by kernel_rfl, by kernel_rfl, by kernel_rfl, (by rw [← wrap_succ (k := k) (by omega)]; kernel_rfl), trivial⟩, rfl, (hst.drop [_, _]), hlt, (by rw [hsm, hqp1]; rfl), rfl⟩
  ·skip
   rw [List.drop_of_length_le (by have := of_decide_eq_false hc5; omega), List.drop_of_length_le (by have := of_decide_eq_false hc5; omega)] at hsm
   have hr : sames xs ys = true := hsm
   refine W_exit ?_
   refine W_seq ?_
   refine W_rg [(.p, 0)] hst ?_
   refine r_en [] [] [(6, .bool true)] rc_nil ?_
   refine W_ret ?_
   refine q_rt [] [] (.bool true) rc_nil hst ?_
   exact ⟨by rw [hr], hst⟩

theorem c79 : ∀ (f : Nat), f ≤ lim → SameC f := by
 intro f
 induction f with
 | zero => intro _ G L w va vb a b h; omega
 | succ f ih =>
 intro hfl G L w va vb a b hf hva hvb hst
 have hre := same_eq a b
 obtain ⟨aA, ac, rfl, hac, hak⟩ := id hva.open
 obtain ⟨bA, bc, rfl, hbc, hbk⟩ := id hvb.open
 refine cal_of_W Try.func79 rfl (Nat.le_of_ble_eq_true (by kernel_rfl)) ?_
 refine W_seq ?_
 refine W_rg [(.f, 0), (.f, 1), (.p, 2)] hst ?_
 refine m_new (.cells #[iN a.kind, iN a.num, .slice aA a.kids.length ac] 24) (fun b1 => pN b1 0) (some 2) (fun b => by kernel_rfl) hst (fun b1 w1 hst => ?_)
 refine m_new (.cells #[iN b.kind, iN b.num, .slice bA b.kids.length bc] 24) (fun b2 => pN b2 0) (some 3) (fun b => by kernel_rfl) hst (fun b2 w1 hst => ?_)
 refine r_en [] [] [(4, .bool false)] rc_nil ?_
 refine W_seq ?_
 refine W_seq ?_
 refine W_rgd [(.l, 0), (.l, 2), (.e, 1), (.f, 3), (.p, 4)] hst (fun w1 hst => ?_)
 refine r_sg [(.l, 0), (.l, 2)] [[iN a.kind, iN a.num, .slice aA a.kids.length ac], [iN b.kind, iN b.num, .slice bA b.kids.length bc]] [(⟨b1, 0, none⟩, iN a.kind), (⟨b1, 1, none⟩, iN a.num), (⟨b1, 2, none⟩, .slice aA a.kids.length ac), (⟨b2, 0, none⟩, iN b.kind), (⟨b2, 1, none⟩, iN b.num), (⟨b2, 2, none⟩, .slice bA b.kids.length bc)] [(5, .agg #[iN a.kind, iN a.num, .slice aA a.kids.length ac]), (7, .agg #[iN b.kind, iN b.num, .slice bA b.kids.length bc])] (rc_L 1 rfl rfl (rc_L 1 rfl rfl (rc_L 1 rfl rfl (rc_L 0 rfl rfl (rc_L 0 rfl rfl (rc_L 0 rfl rfl rc_nil)))))) ?_
 refine m_callE #[.agg #[iN a.kind, iN a.num, .slice aA a.kids.length ac]] (some 6) (by kernel_rfl) (c114 (t := a) hst) ?_
 rintro _ w1 ⟨rfl, hst⟩
 refine ⟨hst.ss' (Le.refl _) (fun _ hp => hp), ?_⟩
 refine m_cl #[.agg #[iN b.kind, iN b.num, .slice bA b.kids.length bc]] (some 8) (c114 (t := b) hst) ?_
 rintro _ w1 ⟨rfl, hst⟩
 refine nx hst ?_
 refine m_neq168 (a := a.kind) (b := a.num) (c := b.kind) (d := b.num) (dd := (some 9)) (show opAt _ _ _ = some (.binOp .neq 168 (.tmp 6) (.tmp 8) 168, _) by kernel_rfl) (by kernel_rfl) (by kernel_rfl) ?_
 refine r_nil ?_
 refine W_cd (b := !(a.kind == b.kind && a.num == b.num)) (fun hc3 => ?_) (fun hc3 => ?_)
 ·skip
  have hr : same a b = false := by have := hc3; rw [Bool.not_eq_true'] at this; rw [hre, this]; rfl
  refine W_seq ?_
  refine W_rg [(.p, 0)] hst ?_
  refine r_en [] [] [(4, .bool false)] rc_nil ?_
  refine W_ret ?_
  refine q_rt [] [] (.bool false) rc_nil hst ?_
  exact ⟨by rw [hr], hst.drop [_, _]⟩
 ·skip
  have hr : same a b = sames a.kids b.kids := by have := hc3; rw [Bool.not_eq_false'] at this; rw [hre, this]; rfl
  refine W_skip ?_
  refine W_seq ?_
  refine W_rg [(.p, 0), (.l, 1), (.p, 2), (.l, 3), (.f, 4), (.p, 5)] hst ?_
  refine r_sg [(.p, 0), (.l, 1), (.p, 2), (.l, 3)] [[.slice aA a.kids.length ac], [.slice bA b.kids.length bc]] [(⟨b1, 2, none⟩, .slice aA a.kids.length ac), (⟨b2, 2, none⟩, .slice bA b.kids.length bc)] [(10, pN b1 2), (11, .slice aA a.kids.length ac), (12, pN b2 2), (13, .slice bA b.kids.length bc)] (rc_L 1 rfl rfl (rc_L 0 rfl rfl rc_nil)) ?_
  refine m_cl #[.slice aA a.kids.length ac, .slice bA b.kids.length bc, .func (.func 79) #[] #[]] (some 14) (c115 (ih (by omega)) (by cases a; simp only [T.sz, T.kids] at *; omega) (by cases a; simp only [T.sz, T.kids] at *; omega) hak hbk hst) ?_
  rintro _ w1 ⟨rfl, hst⟩
  refine nx hst ?_
  refine r_en [] [] [(4, .bool (sames a.kids b.kids))] rc_nil ?_
  refine W_ret ?_
  refine q_rt [] [] (.bool (sames a.kids b.kids)) rc_nil hst ?_
  exact ⟨by rw [hr], hst.drop [_, _]⟩

theorem c37 {G : GH} {L : LH} {w : World} {va vb : Value} {a b : T} (hva : IsPoly G va a) (hvb : IsPoly G vb b) (hsz : T.sz a + T.sz b + 2 < lim) (hst : St G L w) :
  Cal Try.prog 37 #[va, vb] w fun x w' => ∃ G', Le G G' ∧ x = .tuple #[.bool (Same a b).1, .int .i64 (Same a b).2] ∧ St G' L w' := by
 unfold Md.Same
 obtain ⟨aA, ac, rfl, hac, hak⟩ := id hva.open
 obtain ⟨bA, bc, rfl, hbc, hbk⟩ := id hvb.open
 refine cal_of_W Try.func37 rfl (Nat.le_of_ble_eq_true (by kernel_rfl)) ?_
 refine W_seq ?_
 refine W_rg [(.f, 0), (.f, 1), (.p, 2), (.p, 3)] hst ?_
 refine m_new (.cells #[iN a.kind, iN a.num, .slice aA a.kids.length ac] 24) (fun b1 => pN b1 0) (some 2) (fun b => by kernel_rfl) hst (fun b1 w1 hst => ?_)
 refine m_new (.cells #[iN b.kind, iN b.num, .slice bA b.kids.length bc] 24) (fun b2 => pN b2 0) (some 3) (fun b => by kernel_rfl) hst (fun b2 w1 hst => ?_)
 refine r_en [] [] [(4, .bool false), (5, iN 0)] rc_nil ?_
 refine W_seq ?_
 refine W_seq ?_
 refine W_rg [(.l, 0), (.l, 1), (.f, 2), (.f, 3), (.p, 4)] hst ?_
 refine r_sg [(.l, 0), (.l, 1)] [[iN a.kind, iN a.num, .slice aA a.kids.length ac], [iN b.kind, iN b.num, .slice bA b.kids.length bc]] [(⟨b1, 0, none⟩, iN a.kind), (⟨b1, 1, none⟩, iN a.num), (⟨b1, 2, none⟩, .slice aA a.kids.length ac), (⟨b2, 0, none⟩, iN b.kind), (⟨b2, 1, none⟩, iN b.num), (⟨b2, 2, none⟩, .slice bA b.kids.length bc)] [(7, .agg #[iN a.kind, iN a.num, .slice aA a.kids.length ac]), (8, .agg #[iN b.kind, iN b.num, .slice bA b.kids.length bc])] (rc_L 1 rfl rfl (rc_L 1 rfl rfl (rc_L 1 rfl rfl (rc_L 0 rfl rfl (rc_L 0 rfl rfl (rc_L 0 rfl rfl rc_nil)))))) ?_
 refine m_new (.cells #[iN a.kind, iN a.num, .slice aA a.kids.length ac, iN b.kind, iN b.num, .slice bA b.kids.length bc] 24) (fun b3 => .slice (some ⟨b3, 0, none⟩) 2 2) (some 9) (fun b => by kernel_rfl) hst (fun b3 w1 hst => ?_)
 obtain ⟨G1, hG1, hF4, hst⟩ := St.freeze [_] hst
 have hfs := hF4 _ (.head _)
 have hcl56 := c56 (ts := [a, b]) (c := 2) (polys_of (cs := [.int .i64 a.kind, .int .i64 a.num, .slice aA a.kids.length ac, .int .i64 b.kind, .int .i64 b.num, .slice bA b.kids.length bc]) ⟨(hva).mono hG1, (hvb).mono hG1, trivial⟩ hfs) (Nat.le_refl _) (by rw [T.sz2]; omega) hst
 refine m_cl #[.slice (some ⟨b3, 0, none⟩) 2 2] (some 10) (hcl56) ?_
 rintro _ w1 ⟨G1', hG1', rfl, hst⟩
 replace hfs := hG1' _ _ hfs
 refine nx hst ?_
 refine r_en [] [] [(6, iN (closed [a, b]))] rc_nil ?_
 refine W_seq ?_
 refine W_rg [(.p, 0), (.p, 1)] hst ?_
 refine r_en [] [] [(11, iN (closed [a, b])), (12, .bool ((closed [a, b]) != 0))] rc_nil ?_
 refine W_cd (b := (closed [a, b]) != 0) (fun hc5 => ?_) (fun hc5 => ?_)
 ·skip
  have hcl : ¬ closed [a, b] = 0 := by simpa using hc5
  rw [if_neg hcl]
  refine W_seq ?_
  refine W_rg [(.p, 0), (.p, 1), (.p, 2)] hst ?_
  refine r_en [] [] [(13, iN (closed [a, b])), (4, .bool false), (5, iN (closed [a, b]))] rc_nil ?_
  refine W_ret ?_
  refine q_rt [] [] (.tuple #[.bool false, iN (closed [a, b])]) rc_nil hst ?_
  exact ⟨G1', hG1.trans hG1', rfl, hst.drop [_, _]⟩
 ·skip
  have hcl : closed [a, b] = 0 := by simpa using hc5
  rw [if_pos hcl]
  refine W_skip ?_
  refine W_seq ?_
  refine W_rg [(.l, 0), (.l, 1), (.f, 2), (.p, 3), (.p, 4)] hst ?_
  refine r_sg [(.l, 0), (.l, 1)] [[iN a.kind, iN a.num, .slice aA a.kids.length ac], [iN b.kind, iN b.num, .slice bA b.kids.length bc]] [(⟨b1, 0, none⟩, iN a.kind), (⟨b1, 1, none⟩, iN a.num), (⟨b1, 2, none⟩, .slice aA a.kids.length ac), (⟨b2, 0, none⟩, iN b.kind), (⟨b2, 1, none⟩, iN b.num), (⟨b2, 2, none⟩, .slice bA b.kids.length bc)] [(14, .agg #[iN a.kind, iN a.num, .slice aA a.kids.length ac]), (15, .agg #[iN b.kind, iN b.num, .slice bA b.kids.length bc])] (rc_L 1 rfl rfl (rc_L 1 rfl rfl (rc_L 1 rfl rfl (rc_L 0 rfl rfl (rc_L 0 rfl rfl (rc_L 0 rfl rfl rc_nil)))))) ?_
  refine m_cl #[.agg #[iN a.kind, iN a.num, .slice aA a.kids.length ac], .agg #[iN b.kind, iN b.num, .slice bA b.kids.length bc]] (some 16) (c79 _ (by omega) (Nat.lt_succ_self _) ((hva.mono hG1).mono hG1') ((hvb.mono hG1).mono hG1') hst) ?_
  rintro _ w1 ⟨rfl, hst⟩
  refine nx hst ?_
  refine r_en [] [] [(4, .bool (same a b)), (5, iN 0)] rc_nil ?_
  refine W_ret ?_
  refine q_rt [] [] (.tuple #[.bool (same a b), iN 0]) rc_nil hst ?_
  exact ⟨G1', hG1.trans hG1', rfl, hst.drop [_, _]⟩

end Go.Proofs.Ytjgnhhgigickaaa.Wk
/- Walks of the given program's functions: the reference: rank, Rank, both, Same. Printed by tools/w38.py. Conditions: none. -/

namespace Go.Proofs.Ytjgnhhgigickaaa.Wk
open Go Md
set_option maxRecDepth 20000
set_option linter.unusedVariables false
set_option linter.unusedSimpArgs false
attribute [local irreducible] endQ

theorem c78 : ∀ (f : Nat) {G : GH} {L : LH} {w : World} {v : Value} {t : T} {r : Int}, IsPoly G v t → rrank f t = some r → St G L w → Cal Try.prog 78 #[v] w fun x w' => x = .int .i64 r ∧ St G L w' := by
 intro f
 induction f with
 | zero => intro G L w v t r hv h; cases h
 | succ f ih =>
 intro G L w v t r hv h hst
 unfold Md.rrank at h
 obtain ⟨tA, tc, rfl, htc, htk⟩ := id hv.open
 refine cal_of_W Try.func78 rfl (Nat.le_of_ble_eq_true (by kernel_rfl)) ?_
 refine W_seq ?_
 refine W_rg [(.f, 0), (.p, 1)] hst ?_
 refine m_new (.cells #[iN t.kind, iN t.num, .slice tA t.kids.length tc] 24) (fun b1 => pN b1 0) (some 1) (fun b => by kernel_rfl) hst (fun b1 w1 hst => ?_)
 refine r_en [] [] [(2, iN 0)] rc_nil ?_
 refine W_seq ?_
 refine W_seq ?_
 refine W_rg [(.p, 0), (.l, 1)] hst ?_
 refine r_en [[iN t.kind]] [(⟨b1, 0, none⟩, iN t.kind)] [(4, pN b1 0), (5, iN t.kind)] (rc_L 0 rfl rfl rc_nil) ?_
 refine W_block ?_
 refine W_seq ?_
 refine W_rg [(.p, 0), (.p, 1)] hst ?_
 refine r_en [] [] [(7, .bool (t.kind == 4)), (6, .bool (t.kind == 4))] rc_nil ?_
 refine W_cd (b := t.kind == 4) (fun hc2 => ?_) (fun hc2 => ?_)
 ·skip
  rw [if_pos (show t.kind = 4 by simpa using hc2)] at h
  split at h
  case h_2 => cases h
  rename_i u _ hku
  obtain ⟨ru, hru, h⟩ := Option.bind_eq_some_iff.1 h; simp only [Option.some.injEq] at h; subst h
  have hqu : t.kids[0]? = some u := by rw [hku]; rfl
  have hlt0 : 0 < t.kids.length := by rw [hku]; simp
  have hstk := hst
  obtain ⟨eb1, eo1, uA, uc, rfl, hu0, hu1, hu2, hup⟩ := (htk).elem hqu
  have hst := hstk; clear hstk
  refine W_seq ?_
  refine W_rg [(.p, 0), (.l, 1), (.p, 2), (.l, 3), (.f, 4), (.p, 5), (.p, 6)] hst ?_
  refine r_sg [(.p, 0), (.l, 1)] [[.slice (some ⟨eb1, eo1, none⟩) t.kids.length tc]] [(⟨b1, 2, none⟩, .slice (some ⟨eb1, eo1, none⟩) t.kids.length tc)] [(8, pN b1 2), (9, .slice (some ⟨eb1, eo1, none⟩) t.kids.length tc)] (rc_L 0 rfl rfl rc_nil) ?_
  refine m_idx (sz := 3) (b := eb1) (off := eo1) (n := t.kids.length) (c := tc) (k := 0) (some 10) (show opAt _ _ _ = some (.indexAddr 22 (.tmp 9) (.const (iN 0)), _) by kernel_rfl) (by kernel_rfl) (by kernel_rfl) Try.underlying22 sz24 hlt0 ?_
  refine r_sg [(.l, 3)] [[iN u.kind, iN u.num, .slice uA u.kids.length uc]] [(⟨eb1, eo1 + 0 * 3, none⟩, iN u.kind), (⟨eb1, eo1 + 0 * 3 + 1, none⟩, iN u.num), (⟨eb1, eo1 + 0 * 3 + 2, none⟩, .slice uA u.kids.length uc)] [(11, .agg #[iN u.kind, iN u.num, .slice uA u.kids.length uc])] (rc_C hu0 (rc_C hu1 (rc_C hu2 rc_nil))) ?_
  refine m_cl #[.agg #[iN u.kind, iN u.num, .slice uA u.kids.length uc]] (some 12) (ih hup hru hst) ?_
  rintro _ w1 ⟨rfl, hst⟩
  refine nx hst ?_
  refine r_en [] [] [(13, iN (if ru > (1 : Int) then ru else 1)), (2, iN (if ru > (1 : Int) then ru else 1))] rc_nil ?_
  refine W_ret ?_
  refine q_rt [] [] (iN (if ru > (1 : Int) then ru else 1)) rc_nil hst ?_
  refine ⟨?_, hst.drop [_]⟩; congr 1 <;> first | rfl | omega | (rw [← hnj]; omega)
 ·skip
  rw [if_neg (show ¬t.kind = 4 by simpa using hc2)] at h
  refine W_seq ?_
  refine W_rg [(.p, 0), (.p, 1)] hst ?_
  refine r_en [] [] [(15, .bool (t.kind == 3)), (14, .bool (t.kind == 3))] rc_nil ?_
  refine W_cd (b := t.kind == 3) (fun hc3 => ?_) (fun hc3 => ?_)
  ·skip
   rw [if_pos (show t.kind = 3 by simpa using hc3)] at h
   split at h
   case h_2 => cases h
   rename_i u p _ hku
   obtain ⟨ru, hru, h⟩ := Option.bind_eq_some_iff.1 h; obtain ⟨rp, hrp, h⟩ := Option.bind_eq_some_iff.1 h; simp only [Option.some.injEq] at h; subst h
   have hqu : t.kids[0]? = some u := by rw [hku]; rfl
   have hqp : t.kids[1]? = some p := by rw [hku]; rfl
   have hlt0 : 0 < t.kids.length := by rw [hku]; simp
   have hlt1 : 1 < t.kids.length := by rw [hku]; simp
   have hstk := hst
   obtain ⟨eb1, eo1, uA, uc, rfl, hu0, hu1, hu2, hup⟩ := (htk).elem hqu
   have hst := hstk; clear hstk
   obtain ⟨_, _, pA, pc, hxp, hp0, hp1, hp2, hpp⟩ := htk.elem hqp; cases hxp
   refine W_seq ?_
   refine W_rg [(.p, 0), (.l, 1), (.p, 2), (.l, 3), (.f, 4), (.p, 5)] hst ?_
   refine r_sg [(.p, 0), (.l, 1)] [[.slice (some ⟨eb1, eo1, none⟩) t.kids.length tc]] [(⟨b1, 2, none⟩, .slice (some ⟨eb1, eo1, none⟩) t.kids.length tc)] [(16, pN b1 2), (17, .slice (some ⟨eb1, eo1, none⟩) t.kids.length tc)] (rc_L 0 rfl rfl rc_nil) ?_
   refine m_idx (sz := 3) (b := eb1) (off := eo1) (n := t.kids.length) (c := tc) (k := 0) (some 18) (show opAt _ _ _ = some (.indexAddr 22 (.tmp 17) (.const (iN 0)), _) by kernel_rfl) (by kernel_rfl) (by kernel_rfl) Try.underlying22 sz24 hlt0 ?_
   refine r_sg [(.l, 3)] [[iN u.kind, iN u.num, .slice uA u.kids.length uc]] [(⟨eb1, eo1 + 0 * 3, none⟩, iN u.kind), (⟨eb1, eo1 + 0 * 3 + 1, none⟩, iN u.num), (⟨eb1, eo1 + 0 * 3 + 2, none⟩, .slice uA u.kids.length uc)] [(19, .agg #[iN u.kind, iN u.num, .slice uA u.kids.length uc])] (rc_C hu0 (rc_C hu1 (rc_C hu2 rc_nil))) ?_
   refine m_cl #[.agg #[iN u.kind, iN u.num, .slice uA u.kids.length uc]] (some 20) (ih hup hru hst) ?_
   rintro _ w1 ⟨rfl, hst⟩
   refine nx hst ?_
   refine r_en [] [] [(3, iN ru)] rc_nil ?_
   refine W_seqI (fun ρ D w => ∃ (nj : Int), EqS ρ [(1, pN b1 0), (3, iN nj)] ∧ D = [] ∧ St G ((b1, .cells #[iN t.kind, iN t.num, .slice (some ⟨eb1, eo1, none⟩) t.kids.length tc] 24) :: L) w ∧ (nj = if ru > 0 then w64 (ru + 1) else ru)) ?_ ?_
   ·skip
    refine W_seq ?_
    refine W_rg [(.p, 0), (.p, 1)] hst ?_
    refine r_en [] [] [(21, iN ru), (22, .bool (decide (ru > 0)))] rc_nil ?_
    refine W_cd (b := decide (ru > 0)) (fun hc4 => ?_) (fun hc4 => ?_)
    ·skip
     refine W_rg [(.p, 0), (.p, 1), (.p, 2)] hst ?_
     refine r_en [] [] [(23, iN ru), (24, iN (IntKind.wrap .i64 (ru + 1))), (3, iN (IntKind.wrap .i64 (ru + 1)))] rc_nil ?_
     exact ⟨IntKind.wrap .i64 (ru + 1), ⟨by kernel_rfl, by kernel_rfl, trivial⟩, rfl, hst, (by rw [if_pos (of_decide_eq_true hc4)] <;> rfl)⟩
    ·skip
     refine W_skip ?_
     exact ⟨ru, ⟨by kernel_rfl, by kernel_rfl, trivial⟩, rfl, hst, (by rw [if_neg (of_decide_eq_false hc4)])⟩
   clear hst; rintro ρ D w1 ⟨nj, hE5, rfl, hst, hnj⟩
   refine W_env hE5 ?_
   refine W_seq ?_
   refine W_rg [(.p, 0), (.p, 1), (.l, 2), (.p, 3), (.l, 4), (.f, 5), (.p, 6), (.p, 7)] hst ?_
   refine r_sg [(.p, 0), (.p, 1), (.l, 2)] [[.slice (some ⟨eb1, eo1, none⟩) t.kids.length tc]] [(⟨b1, 2, none⟩, .slice (some ⟨eb1, eo1, none⟩) t.kids.length tc)] [(25, iN nj), (26, pN b1 2), (27, .slice (some ⟨eb1, eo1, none⟩) t.kids.length tc)] (rc_L 0 rfl rfl rc_nil) ?_
   refine m_idx (sz := 3) (b := eb1) (off := eo1) (n := t.kids.length) (c := tc) (k := 1) (some 28) (show opAt _ _ _ = some (.indexAddr 22 (.tmp 27) (.const (iN 1)), _) by kernel_rfl) (by kernel_rfl) (by kernel_rfl) Try.underlying22 sz24 hlt1 ?_
   refine r_sg [(.l, 4)] [[iN p.kind, iN p.num, .slice pA p.kids.length pc]] [(⟨eb1, eo1 + 1 * 3, none⟩, iN p.kind), (⟨eb1, eo1 + 1 * 3 + 1, none⟩, iN p.num), (⟨eb1, eo1 + 1 * 3 + 2, none⟩, .slice pA p.kids.length pc)] [(29, .agg #[iN p.kind, iN p.num, .slice pA p.kids.length pc])] (rc_C hp0 (rc_C hp1 (rc_C hp2 rc_nil))) ?_
   refine m_cl #[.agg #[iN p.kind, iN p.num, .slice pA p.kids.length pc]] (some 30) (ih hpp hrp hst) ?_
   rintro _ w1 ⟨rfl, hst⟩
   refine nx hst ?_
   refine r_en [] [] [(31, iN (if rp > nj then rp else nj)), (2, iN (if rp > nj then rp else nj))] rc_nil ?_
   refine W_ret ?_
   refine q_rt [] [] (iN (if rp > nj then rp else nj)) rc_nil hst ?_
   refine ⟨?_, hst.drop [_]⟩; congr 1 <;> first | rfl | omega | (rw [← hnj]; omega)
  ·skip
   rw [if_neg (show ¬t.kind = 3 by simpa using hc3)] at h
   simp only [Option.some.injEq] at h; subst h
   refine W_skip ?_
   refine W_seq ?_
   refine W_rg [(.p, 0)] hst ?_
   refine r_en [] [] [(2, iN 0)] rc_nil ?_
   refine W_ret ?_
   refine q_rt [] [] (iN 0) rc_nil hst ?_
   refine ⟨?_, hst.drop [_]⟩; congr 1 <;> first | rfl | omega | (rw [← hnj]; omega)

theorem c36 {f : Nat} {G : GH} {L : LH} {w : World} {v : Value} {t : T} {r e : Int} (hz : T.sz t < lim) (hv : IsPoly G v t) (hst : St G L w) (h : rRank f t = some (r, e)) :
  Cal Try.prog 36 #[v] w fun x w' => x = .tuple #[.int .i64 r, .int .i64 e] ∧ St G L w' := by
 unfold rRank at h
 obtain ⟨tA, tc, rfl, htc, htk⟩ := id hv.open
 refine cal_of_W Try.func36 rfl (Nat.le_of_ble_eq_true (by kernel_rfl)) ?_
 refine W_seq ?_
 refine W_rg [(.f, 0), (.p, 1), (.p, 2)] hst ?_
 refine m_new (.cells #[iN t.kind, iN t.num, .slice tA t.kids.length tc] 24) (fun b1 => pN b1 0) (some 1) (fun b => by kernel_rfl) hst (fun b1 w1 hst => ?_)
 refine r_en [] [] [(2, iN 0), (3, iN 0)] rc_nil ?_
 refine W_seq ?_
 refine W_seq ?_
 refine W_rg [(.l, 0), (.f, 1), (.p, 2)] hst ?_
 refine r_sg [(.l, 0)] [[iN t.kind, iN t.num, .slice tA t.kids.length tc]] [(⟨b1, 0, none⟩, iN t.kind), (⟨b1, 1, none⟩, iN t.num), (⟨b1, 2, none⟩, .slice tA t.kids.length tc)] [(5, .agg #[iN t.kind, iN t.num, .slice tA t.kids.length tc])] (rc_L 0 rfl rfl (rc_L 0 rfl rfl (rc_L 0 rfl rfl rc_nil))) ?_
 refine m_cl #[.agg #[iN t.kind, iN t.num, .slice tA t.kids.length tc], iN 0] (some 6) (c41 hz hv hst) ?_
 rintro _ w1 ⟨rfl, hst⟩
 refine nx hst ?_
 refine r_en [] [] [(4, iN (rRight t 0))] rc_nil ?_
 refine W_seq ?_
 refine W_rg [(.p, 0), (.p, 1)] hst ?_
 refine r_en [] [] [(7, iN (rRight t 0)), (8, .bool ((rRight t 0) != 0))] rc_nil ?_
 refine W_cd (b := (rRight t 0) != 0) (fun hc2 => ?_) (fun hc2 => ?_)
 ·skip
  rw [if_pos (by simpa using hc2)] at h; simp only [Option.some.injEq, Prod.mk.injEq] at h; obtain ⟨rfl, rfl⟩ := h
  refine W_seq ?_
  refine W_rg [(.p, 0), (.p, 1), (.p, 2)] hst ?_
  refine r_en [] [] [(9, iN (rRight t 0)), (2, iN 0), (3, iN (rRight t 0))] rc_nil ?_
  refine W_ret ?_
  refine q_rt [] [] (.tuple #[iN 0, iN (rRight t 0)]) rc_nil hst ?_
  exact ⟨rfl, hst.drop [_]⟩
 ·skip
  rw [if_neg (by simpa using hc2)] at h; obtain ⟨r0, hr0, h⟩ := Option.bind_eq_some_iff.1 h; simp only [Option.some.injEq, Prod.mk.injEq] at h; obtain ⟨rfl, rfl⟩ := h
  refine W_skip ?_
  refine W_seq ?_
  refine W_rg [(.l, 0), (.f, 1), (.p, 2), (.p, 3)] hst ?_
  refine r_sg [(.l, 0)] [[iN t.kind, iN t.num, .slice tA t.kids.length tc]] [(⟨b1, 0, none⟩, iN t.kind), (⟨b1, 1, none⟩, iN t.num), (⟨b1, 2, none⟩, .slice tA t.kids.length tc)] [(10, .agg #[iN t.kind, iN t.num, .slice tA t.kids.length tc])] (rc_L 0 rfl rfl (rc_L 0 rfl rfl (rc_L 0 rfl rfl rc_nil))) ?_
  refine m_cl #[.agg #[iN t.kind, iN t.num, .slice tA t.kids.length tc]] (some 11) (c78 _ hv hr0 hst) ?_
  rintro _ w1 ⟨rfl, hst⟩
  refine nx hst ?_
  refine r_en [] [] [(2, iN r0), (3, iN 0)] rc_nil ?_
  refine W_ret ?_
  refine q_rt [] [] (.tuple #[iN r0, iN 0]) rc_nil hst ?_
  exact ⟨rfl, hst.drop [_]⟩

theorem c80 {G : GH} {L : LH} {w : World} {va vb : Value} {a b : T} (hza : T.sz a < lim) (hzb : T.sz b < lim) (hva : IsPoly G va a) (hvb : IsPoly G vb b) (hst : St G L w) : Cal Try.prog 80 #[va, vb] w fun x w' => x = .int .i64 (rboth a b) ∧ St G L w' := by
 unfold rboth
 obtain ⟨aA, ac, rfl, hac, hak⟩ := id hva.open
 obtain ⟨bA, bc, rfl, hbc, hbk⟩ := id hvb.open
 refine cal_of_W Try.func80 rfl (Nat.le_of_ble_eq_true (by kernel_rfl)) ?_
 refine W_seq ?_
 refine W_rg [(.f, 0), (.f, 1), (.p, 2)] hst ?_
 refine m_new (.cells #[iN a.kind, iN a.num, .slice aA a.kids.length ac] 24) (fun b1 => pN b1 0) (some 2) (fun b => by kernel_rfl) hst (fun b1 w1 hst => ?_)
 refine m_new (.cells #[iN b.kind, iN b.num, .slice bA b.kids.length bc] 24) (fun b2 => pN b2 0) (some 3) (fun b => by kernel_rfl) hst (fun b2 w1 hst => ?_)
 refine r_en [] [] [(4, iN 0)] rc_nil ?_
 refine W_seq ?_
 refine W_seq ?_
 refine W_rg [(.l, 0), (.f, 1), (.p, 2)] hst ?_
 refine r_sg [(.l, 0)] [[iN a.kind, iN a.num, .slice aA a.kids.length ac]] [(⟨b1, 0, none⟩, iN a.kind), (⟨b1, 1, none⟩, iN a.num), (⟨b1, 2, none⟩, .slice aA a.kids.length ac)] [(6, .agg #[iN a.kind, iN a.num, .slice aA a.kids.length ac])] (rc_L 1 rfl rfl (rc_L 1 rfl rfl (rc_L 1 rfl rfl rc_nil))) ?_
 refine m_cl #[.agg #[iN a.kind, iN a.num, .slice aA a.kids.length ac], iN 0] (some 7) (c41 hza hva hst) ?_
 rintro _ w1 ⟨rfl, hst⟩
 refine nx hst ?_
 refine r_en [] [] [(5, iN (rRight a 0))] rc_nil ?_
 refine W_seq ?_
 refine W_rg [(.p, 0), (.p, 1)] hst ?_
 refine r_en [] [] [(8, iN (rRight a 0)), (9, .bool ((rRight a 0) != 0))] rc_nil ?_
 refine W_cd (b := (rRight a 0) != 0) (fun hc3 => ?_) (fun hc3 => ?_)
 ·skip
  rw [if_pos (by simpa using hc3)]
  refine W_seq ?_
  refine W_rg [(.p, 0), (.p, 1)] hst ?_
  refine r_en [] [] [(10, iN (rRight a 0)), (4, iN (rRight a 0))] rc_nil ?_
  refine W_ret ?_
  refine q_rt [] [] (iN (rRight a 0)) rc_nil hst ?_
  exact ⟨rfl, hst.drop [_, _]⟩
 ·skip
  rw [if_neg (by simpa using hc3)]
  refine W_skip ?_
  refine W_seq ?_
  refine W_rg [(.l, 0), (.f, 1), (.p, 2)] hst ?_
  refine r_sg [(.l, 0)] [[iN b.kind, iN b.num, .slice bA b.kids.length bc]] [(⟨b2, 0, none⟩, iN b.kind), (⟨b2, 1, none⟩, iN b.num), (⟨b2, 2, none⟩, .slice bA b.kids.length bc)] [(11, .agg #[iN b.kind, iN b.num, .slice bA b.kids.length bc])] (rc_L 0 rfl rfl (rc_L 0 rfl rfl (rc_L 0 rfl rfl rc_nil))) ?_
  refine m_cl #[.agg #[iN b.kind, iN b.num, .slice bA b.kids.length bc], iN 0] (some 12) (c41 hzb hvb hst) ?_
  rintro _ w1 ⟨rfl, hst⟩
  refine nx hst ?_
  refine r_en [] [] [(4, iN (rRight b 0))] rc_nil ?_
  refine W_ret ?_
  refine q_rt [] [] (iN (rRight b 0)) rc_nil hst ?_
  exact ⟨rfl, hst.drop [_, _]⟩

theorem c38 {G : GH} {L : LH} {w : World} {va vb : Value} {a b : T} (hza : T.sz a < lim) (hzb : T.sz b < lim) (hva : IsPoly G va a) (hvb : IsPoly G vb b) (hst : St G L w) :
  Cal Try.prog 38 #[va, vb] w fun x w' => x = .tuple #[.bool (rSame a b).1, .int .i64 (rSame a b).2] ∧ St G L w' := by
 unfold rSame
 obtain ⟨aA, ac, rfl, hac, hak⟩ := id hva.open
 obtain ⟨bA, bc, rfl, hbc, hbk⟩ := id hvb.open
 refine cal_of_W Try.func38 rfl (Nat.le_of_ble_eq_true (by kernel_rfl)) ?_
 refine W_seq ?_
 refine W_rg [(.f, 0), (.f, 1), (.p, 2), (.p, 3)] hst ?_
 refine m_new (.cells #[iN a.kind, iN a.num, .slice aA a.kids.length ac] 24) (fun b1 => pN b1 0) (some 2) (fun b => by kernel_rfl) hst (fun b1 w1 hst => ?_)
 refine m_new (.cells #[iN b.kind, iN b.num, .slice bA b.kids.length bc] 24) (fun b2 => pN b2 0) (some 3) (fun b => by kernel_rfl) hst (fun b2 w1 hst => ?_)
 refine r_en [] [] [(4, .bool false), (5, iN 0)] rc_nil ?_
 refine W_seq ?_
 refine W_seq ?_
 refine W_rg [(.l, 0), (.l, 1), (.f, 2), (.p, 3)] hst ?_
 refine r_sg [(.l, 0), (.l, 1)] [[iN a.kind, iN a.num, .slice aA a.kids.length ac], [iN b.kind, iN b.num, .slice bA b.kids.length bc]] [(⟨b1, 0, none⟩, iN a.kind), (⟨b1, 1, none⟩, iN a.num), (⟨b1, 2, none⟩, .slice aA a.kids.length ac), (⟨b2, 0, none⟩, iN b.kind), (⟨b2, 1, none⟩, iN b.num), (⟨b2, 2, none⟩, .slice bA b.kids.length bc)] [(7, .agg #[iN a.kind, iN a.num, .slice aA a.kids.length ac]), (8, .agg #[iN b.kind, iN b.num, .slice bA b.kids.length bc])] (rc_L 1 rfl rfl (rc_L 1 rfl rfl (rc_L 1 rfl rfl (rc_L 0 rfl rfl (rc_L 0 rfl rfl (rc_L 0 rfl rfl rc_nil)))))) ?_
 refine m_cl #[.agg #[iN a.kind, iN a.num, .slice aA a.kids.length ac], .agg #[iN b.kind, iN b.num, .slice bA b.kids.length bc]] (some 9) (c80 hza hzb hva hvb hst) ?_
 rintro _ w1 ⟨rfl, hst⟩
 refine nx hst ?_
 refine r_en [] [] [(6, iN (rboth a b))] rc_nil ?_
 refine W_seq ?_
 refine W_rg [(.p, 0), (.p, 1)] hst ?_
 refine r_en [] [] [(10, iN (rboth a b)), (11, .bool ((rboth a b) != 0))] rc_nil ?_
 refine W_cd (b := (rboth a b) != 0) (fun hc3 => ?_) (fun hc3 => ?_)
 ·skip
  rw [if_pos (show rboth a b ≠ 0 by simpa using hc3)]
  refine W_seq ?_
  refine W_rg [(.p, 0), (.p, 1), (.p, 2)] hst ?_
  refine r_en [] [] [(12, iN (rboth a b)), (4, .bool false), (5, iN (rboth a b))] rc_nil ?_
  refine W_ret ?_
  refine q_rt [] [] (.tuple #[.bool false, iN (rboth a b)]) rc_nil hst ?_
  exact ⟨rfl, hst.drop [_, _]⟩
 ·skip
  rw [if_neg (show ¬ rboth a b ≠ 0 by simpa using hc3)]
  refine W_skip ?_
  refine W_seq ?_
  refine W_rg [(.l, 0), (.l, 1), (.f, 2), (.p, 3), (.p, 4)] hst ?_
  refine r_sg [(.l, 0), (.l, 1)] [[iN a.kind, iN a.num, .slice aA a.kids.length ac], [iN b.kind, iN b.num, .slice bA b.kids.length bc]] [(⟨b1, 0, none⟩, iN a.kind), (⟨b1, 1, none⟩, iN a.num), (⟨b1, 2, none⟩, .slice aA a.kids.length ac), (⟨b2, 0, none⟩, iN b.kind), (⟨b2, 1, none⟩, iN b.num), (⟨b2, 2, none⟩, .slice bA b.kids.length bc)] [(13, .agg #[iN a.kind, iN a.num, .slice aA a.kids.length ac]), (14, .agg #[iN b.kind, iN b.num, .slice bA b.kids.length bc])] (rc_L 1 rfl rfl (rc_L 1 rfl rfl (rc_L 1 rfl rfl (rc_L 0 rfl rfl (rc_L 0 rfl rfl (rc_L 0 rfl rfl rc_nil)))))) ?_
  refine m_cl #[.agg #[iN a.kind, iN a.num, .slice aA a.kids.length ac], .agg #[iN b.kind, iN b.num, .slice bA b.kids.length bc]] (some 15) (c18 _ (Nat.lt_succ_self _) hza hva hvb hst) ?_
  rintro _ w1 ⟨rfl, hst⟩
  refine nx hst ?_
  refine r_en [] [] [(4, .bool (same a b)), (5, iN 0)] rc_nil ?_
  refine W_ret ?_
  refine q_rt [] [] (.tuple #[.bool (same a b), iN 0]) rc_nil hst ?_
  exact ⟨rfl, hst.drop [_, _]⟩

end Go.Proofs.Ytjgnhhgigickaaa.Wk
/- Walks of the given program's functions: the reference: put, Open. Printed by tools/w39.py. Conditions: none. -/

namespace Go.Proofs.Ytjgnhhgigickaaa.Wk
open Go Md
set_option maxRecDepth 20000
set_option linter.unusedVariables false
set_option linter.unusedSimpArgs false
attribute [local irreducible] endQ

theorem rput_eq (wth t : T) (out : Int) : rput wth t out = if t.kind = 1 then (if t.num = out then wth else if t.num > out then .mk t.kind (w64 (t.num - 1)) t.kids else .mk t.kind t.num t.kids) else .mk t.kind t.num (rputs wth t.kids (if t.kind = 4 then w64 (out + 1) else out)) := by
 cases t; unfold rput; rfl
theorem rputs_len (wth : T) : ∀ (ts : List T) (out : Int), (rputs wth ts out).length = ts.length
 | [], _ => rfl
 | t :: ts, out => by simp [rputs, rputs_len wth ts out]
theorem rputs_get (wth : T) : ∀ (ts : List T) (out : Int) (k : Nat) (q : T), ts[k]? = some q → (rputs wth ts out)[k]? = some (rput wth q out)
 | [], _, k, q, h => by simp at h
 | t :: ts, out, 0, q, h => by simp at h; subst h; simp [rputs]
 | t :: ts, out, k + 1, q, h => by simp at h; simpa [rputs] using rputs_get wth ts out k q h
theorem nds_mk (k n : Int) (ks : List T) : nds (.mk k n ks) = ndss ks + 1 := rfl
theorem ndss_cons (t : T) (ts : List T) : ndss (t :: ts) = nds t + ndss ts := rfl
theorem nds_pos (t : T) : 1 ≤ nds t := by cases t; unfold nds; omega
mutual
theorem nds_rput (wth : T) : ∀ (t : T) (out : Int), nds (rput wth t out) ≤ nds t * nds wth
 | .mk k num ks, out => by
  have hp := nds_pos wth
  have h1 : nds (.mk k num ks) ≤ nds (.mk k num ks) * nds wth := Nat.le_mul_of_pos_right _ hp
  have h2 : nds wth ≤ nds (.mk k num ks) * nds wth := Nat.le_mul_of_pos_left _ (nds_pos _)
  unfold rput
  split
  ·split
   ·exact h2
   ·split
    ·exact h1
    ·exact h1
  ·have h3 := nds_rputs wth ks (if k = 4 then w64 (out + 1) else out)
   rw [nds_mk, nds_mk, Nat.add_mul]; omega
theorem nds_rputs (wth : T) : ∀ (ts : List T) (out : Int), ndss (rputs wth ts out) ≤ ndss ts * nds wth
 | [], _ => Nat.zero_le _
 | t :: ts, out => by
  have h1 := nds_rput wth t out
  have h2 := nds_rputs wth ts out
  unfold rputs
  rw [ndss_cons, ndss_cons, Nat.add_mul]; omega
end
theorem nds_kid {t u : T} {i : Nat} (h : t.kids[i]? = some u) : nds u < nds t := by
 obtain ⟨k, n, ks⟩ := t
 have key : ∀ {ks : List T} {i : Nat}, ks[i]? = some u → nds u ≤ ndss ks := by
  intro ks
  induction ks with
  | nil => intro i h; simp at h
  | cons a ks ih =>
   intro i h
   cases i with
   | zero => simp at h; subst h; rw [ndss_cons]; omega
   | succ i => simp at h; have := ih h; rw [ndss_cons]; omega
 have : nds u ≤ ndss ks := key h
 rw [nds_mk]; omega
theorem wf_len {t : T} (h : wf t) : wfn t.kind t.kids.length := by cases t; unfold wf at h; exact h.1

theorem c81 : ∀ (f : Nat) {G : GH} {L : LH} {w : World} {v vw : Value} {t wth : T} {out : Int}, T.sz t < f → T.sz t < lim → IsPoly G v t → IsPoly G vw wth → St G L w → Cal Try.prog 81 #[v, .int .i64 out, vw] w fun x w' => ∃ G', Le G G' ∧ IsPoly G' x (rput wth t out) ∧ St G' L w' := by
 intro f
 induction f with
 | zero => intro G L w v vw t wth out h; omega
 | succ f ih =>
 intro G L w v vw t wth out hf hz hv hvw hst
 have hlim : lim = 1099511627776 := rfl
 have hln := T.len_le t
 have hre := rput_eq wth t out
 obtain ⟨tA, tc, rfl, htc, htk⟩ := id hv.open
 obtain ⟨wthA, wthc, rfl, hwthc, hwthk⟩ := id hvw.open
 refine cal_of_W Try.func81 rfl (Nat.le_of_ble_eq_true (by kernel_rfl)) ?_
 refine W_seq ?_
 refine W_rg [(.f, 0), (.f, 1), (.f, 2)] hst ?_
 refine m_new (.cells #[iN t.kind, iN t.num, .slice tA t.kids.length tc] 24) (fun b1 => pN b1 0) (some 3) (fun b => by kernel_rfl) hst (fun b1 w1 hst => ?_)
 refine m_new (.cells #[iN wth.kind, iN wth.num, .slice wthA wth.kids.length wthc] 24) (fun b2 => pN b2 0) (some 5) (fun b => by kernel_rfl) hst (fun b2 w1 hst => ?_)
 refine m_new (.cells #[iN 0, iN 0, .slice none 0 0] 24) (fun b3 => pN b3 0) (some 6) (fun b => by kernel_rfl) hst (fun b3 w1 hst => ?_)
 refine r_nil ?_
 refine W_seq ?_
 refine W_seq ?_
 refine W_rg [(.p, 0), (.l, 1), (.p, 2)] hst ?_
 refine r_en [[iN t.kind]] [(⟨b1, 0, none⟩, iN t.kind)] [(9, pN b1 0), (10, iN t.kind), (11, .bool (t.kind == 1))] (rc_L 2 rfl rfl rc_nil) ?_
 refine W_cd (b := t.kind == 1) (fun hc4 => ?_) (fun hc4 => ?_)
 ·skip
  rw [if_pos (by simpa using hc4)] at hre
  refine W_seq ?_
  refine W_seq ?_
  refine W_rg [(.p, 0), (.l, 1), (.p, 2), (.p, 3)] hst ?_
  refine r_en [[iN t.num]] [(⟨b1, 1, none⟩, iN t.num)] [(12, pN b1 1), (13, iN t.num), (14, iN out), (15, .bool (t.num == out))] (rc_L 2 rfl rfl rc_nil) ?_
  refine W_cd (b := t.num == out) (fun hc5 => ?_) (fun hc5 => ?_)
  ·skip
   rw [if_pos (by simpa using hc5)] at hre
   refine W_seq ?_
   refine W_rg [(.l, 0), (.f, 1)] hst ?_
   refine r_sg [(.l, 0)] [[iN wth.kind, iN wth.num, .slice wthA wth.kids.length wthc]] [(⟨b2, 0, none⟩, iN wth.kind), (⟨b2, 1, none⟩, iN wth.num), (⟨b2, 2, none⟩, .slice wthA wth.kids.length wthc)] [(16, .agg #[iN wth.kind, iN wth.num, .slice wthA wth.kids.length wthc])] (rc_L 1 rfl rfl (rc_L 1 rfl rfl (rc_L 1 rfl rfl rc_nil))) ?_
   refine m_st ((b3, .cells #[iN wth.kind, iN wth.num, .slice wthA wth.kids.length wthc] 24) :: (b2, .cells #[iN wth.kind, iN wth.num, .slice wthA wth.kids.length wthc] 24) :: (b1, .cells #[iN t.kind, iN t.num, .slice tA t.kids.length tc] 24) :: L) 0 [(0, iN wth.kind), (1, iN wth.num), (2, .slice wthA wth.kids.length wthc)] [iN wth.kind, iN wth.num, .slice wthA wth.kids.length wthc] none hst (fun w1 hst => ?_)
   refine r_nil ?_
   refine W_ret ?_
   refine q_rt [iN wth.kind, iN wth.num, .slice wthA wth.kids.length wthc] [(⟨b3, 0, none⟩, iN wth.kind), (⟨b3, 1, none⟩, iN wth.num), (⟨b3, 2, none⟩, .slice wthA wth.kids.length wthc)] (.agg #[iN wth.kind, iN wth.num, .slice wthA wth.kids.length wthc]) (rc_L 0 rfl rfl (rc_L 0 rfl rfl (rc_L 0 rfl rfl rc_nil))) hst ?_
   exact ⟨G, Le.refl _, by rw [hre]; first | exact hvw | exact IsPoly.mk (t := .mk t.kind t.num t.kids) htc htk | exact IsPoly.mk (t := .mk t.kind (w64 (t.num - 1)) t.kids) htc htk, hst.drop [_, _, _]⟩
  ·skip
   rw [if_neg (by simpa using hc5)] at hre
   refine W_skip ?_
   refine W_seq ?_
   refine W_seq ?_
   refine W_rg [(.p, 0), (.l, 1), (.p, 2), (.p, 3)] hst ?_
   refine r_en [[iN t.num]] [(⟨b1, 1, none⟩, iN t.num)] [(17, pN b1 1), (18, iN t.num), (19, iN out), (20, .bool (decide (t.num > out)))] (rc_L 2 rfl rfl rc_nil) ?_
   refine W_cd (b := decide (t.num > out)) (fun hc6 => ?_) (fun hc6 => ?_)
   ·skip
    rw [if_pos (of_decide_eq_true hc6)] at hre
    refine W_rg [(.p, 0), (.l, 1), (.p, 2), (.p, 3), (.f, 4)] hst ?_
    refine r_sg [(.p, 0), (.l, 1), (.p, 2), (.p, 3)] [[iN t.num]] [(⟨b1, 1, none⟩, iN t.num)] [(21, pN b1 1), (22, iN t.num), (23, iN (IntKind.wrap .i64 (t.num - 1))), (24, pN b1 1)] (rc_L 2 rfl rfl rc_nil) ?_
    refine m_st ((b3, .cells #[iN 0, iN 0, .slice none 0 0] 24) :: (b2, .cells #[iN wth.kind, iN wth.num, .slice wthA wth.kids.length wthc] 24) :: (b1, .cells #[iN t.kind, iN (IntKind.wrap .i64 (t.num - 1)), .slice tA t.kids.length tc] 24) :: L) 2 [(1, iN (IntKind.wrap .i64 (t.num - 1)))] [iN t.kind, iN (IntKind.wrap .i64 (t.num - 1)), .slice tA t.kids.length tc] none hst (fun w1 hst => ?_)
    refine r_nil ?_
    refine W_seq ?_
    refine W_rg [(.l, 0), (.f, 1)] hst ?_
    refine r_sg [(.l, 0)] [[iN t.kind, iN (IntKind.wrap .i64 (t.num - 1)), .slice tA t.kids.length tc]] [(⟨b1, 0, none⟩, iN t.kind), (⟨b1, 1, none⟩, iN (IntKind.wrap .i64 (t.num - 1))), (⟨b1, 2, none⟩, .slice tA t.kids.length tc)] [(25, .agg #[iN t.kind, iN (IntKind.wrap .i64 (t.num - 1)), .slice tA t.kids.length tc])] (rc_L 2 rfl rfl (rc_L 2 rfl rfl (rc_L 2 rfl rfl rc_nil))) ?_
    refine m_st ((b3, .cells #[iN t.kind, iN (IntKind.wrap .i64 (t.num - 1)), .slice tA t.kids.length tc] 24) :: (b2, .cells #[iN wth.kind, iN wth.num, .slice wthA wth.kids.length wthc] 24) :: (b1, .cells #[iN t.kind, iN (IntKind.wrap .i64 (t.num - 1)), .slice tA t.kids.length tc] 24) :: L) 0 [(0, iN t.kind), (1, iN (IntKind.wrap .i64 (t.num - 1))), (2, .slice tA t.kids.length tc)] [iN t.kind, iN (IntKind.wrap .i64 (t.num - 1)), .slice tA t.kids.length tc] none hst (fun w1 hst => ?_)
    refine r_nil ?_
    refine W_ret ?_
    refine q_rt [iN t.kind, iN (IntKind.wrap .i64 (t.num - 1)), .slice tA t.kids.length tc] [(⟨b3, 0, none⟩, iN t.kind), (⟨b3, 1, none⟩, iN (IntKind.wrap .i64 (t.num - 1))), (⟨b3, 2, none⟩, .slice tA t.kids.length tc)] (.agg #[iN t.kind, iN (IntKind.wrap .i64 (t.num - 1)), .slice tA t.kids.length tc]) (rc_L 0 rfl rfl (rc_L 0 rfl rfl (rc_L 0 rfl rfl rc_nil))) hst ?_
    exact ⟨G, Le.refl _, by rw [hre]; first | exact hvw | exact IsPoly.mk (t := .mk t.kind t.num t.kids) htc htk | exact IsPoly.mk (t := .mk t.kind (w64 (t.num - 1)) t.kids) htc htk, hst.drop [_, _, _]⟩
   ·skip
    rw [if_neg (of_decide_eq_false hc6)] at hre
    refine W_skip ?_
    refine W_seq ?_
    refine W_rg [(.l, 0), (.f, 1)] hst ?_
    refine r_sg [(.l, 0)] [[iN t.kind, iN t.num, .slice tA t.kids.length tc]] [(⟨b1, 0, none⟩, iN t.kind), (⟨b1, 1, none⟩, iN t.num), (⟨b1, 2, none⟩, .slice tA t.kids.length tc)] [(25, .agg #[iN t.kind, iN t.num, .slice tA t.kids.length tc])] (rc_L 2 rfl rfl (rc_L 2 rfl rfl (rc_L 2 rfl rfl rc_nil))) ?_
    refine m_st ((b3, .cells #[iN t.kind, iN t.num, .slice tA t.kids.length tc] 24) :: (b2, .cells #[iN wth.kind, iN wth.num, .slice wthA wth.kids.length wthc] 24) :: (b1, .cells #[iN t.kind, iN t.num, .slice tA t.kids.length tc] 24) :: L) 0 [(0, iN t.kind), (1, iN t.num), (2, .slice tA t.kids.length tc)] [iN t.kind, iN t.num, .slice tA t.kids.length tc] none hst (fun w1 hst => ?_)
    refine r_nil ?_
    refine W_ret ?_
    refine q_rt [iN t.kind, iN t.num, .slice tA t.kids.length tc] [(⟨b3, 0, none⟩, iN t.kind), (⟨b3, 1, none⟩, iN t.num), (⟨b3, 2, none⟩, .slice tA t.kids.length tc)] (.agg #[iN t.kind, iN t.num, .slice tA t.kids.length tc]) (rc_L 0 rfl rfl (rc_L 0 rfl rfl (rc_L 0 rfl rfl rc_nil))) hst ?_
    exact ⟨G, Le.refl _, by rw [hre]; first | exact hvw | exact IsPoly.mk (t := .mk t.kind t.num t.kids) htc htk | exact IsPoly.mk (t := .mk t.kind (w64 (t.num - 1)) t.kids) htc htk, hst.drop [_, _, _]⟩
 ·skip
  rw [if_neg (by simpa using hc4)] at hre
  refine W_skip ?_
  refine W_seqI (fun ρ D w => ∃ (oj : Int), EqS ρ [(1, iN oj), (3, pN b1 0), (5, pN b2 0), (6, pN b3 0)] ∧ D = [] ∧ St G ((b3, .cells #[iN 0, iN 0, .slice none 0 0] 24) :: (b2, .cells #[iN wth.kind, iN wth.num, .slice wthA wth.kids.length wthc] 24) :: (b1, .cells #[iN t.kind, iN t.num, .slice tA t.kids.length tc] 24) :: L) w ∧ (oj = if t.kind = 4 then w64 (out + 1) else out)) ?_ ?_
  ·skip
   refine W_seq ?_
   refine W_rg [(.p, 0), (.l, 1), (.p, 2)] hst ?_
   refine r_en [[iN t.kind]] [(⟨b1, 0, none⟩, iN t.kind)] [(26, pN b1 0), (27, iN t.kind), (28, .bool (t.kind == 4))] (rc_L 2 rfl rfl rc_nil) ?_
   refine W_cd (b := t.kind == 4) (fun hc7 => ?_) (fun hc7 => ?_)
   ·skip
    refine W_rg [(.p, 0), (.p, 1), (.p, 2)] hst ?_
    refine r_en [] [] [(29, iN out), (30, iN (IntKind.wrap .i64 (out + 1))), (1, iN (IntKind.wrap .i64 (out + 1)))] rc_nil ?_
    exact ⟨IntKind.wrap .i64 (out + 1), ⟨by kernel_rfl, by kernel_rfl, by kernel_rfl, by kernel_rfl, trivial⟩, rfl, hst, (by rw [if_pos (show t.kind = 4 by simpa using hc7)] <;> rfl)⟩
   ·skip
    refine W_skip ?_
    exact ⟨out, ⟨by kernel_rfl, by kernel_rfl, by kernel_rfl, by kernel_rfl, trivial⟩, rfl, hst, (by rw [if_neg (show ¬ t.kind = 4 by simpa using hc7)])⟩
  clear hst; rintro ρ D w1 ⟨oj, hE8, rfl, hst, hoj⟩
  refine W_env hE8 ?_
  refine W_seq ?_
  rw [← hoj] at hre
  obtain ⟨rs, hrs⟩ : ∃ rs, rs = rputs wth t.kids oj := ⟨_, rfl⟩
  have hrl : rs.length = t.kids.length := by rw [hrs, rputs_len]
  have hrg : ∀ (k : Nat) (q : T), t.kids[k]? = some q → rs[k]? = some (rput wth q oj) := by rw [hrs]; exact fun k q h => rputs_get wth _ _ k q h
  rw [← hrs] at hre
  refine W_rg [(.p, 0)] hst ?_
  refine r_en [] [] [(7, .slice none 0 0)] rc_nil ?_
  refine W_seq ?_
  refine W_seq ?_
  refine W_rg [(.p, 0), (.l, 1), (.p, 2), (.p, 3)] hst ?_
  refine r_en [[.slice tA t.kids.length tc]] [(⟨b1, 2, none⟩, .slice tA t.kids.length tc)] [(31, pN b1 2), (32, .slice tA t.kids.length tc), (33, iN (((t.kids.length : Nat) : Int))), (34, iN 0)] (rc_L 2 rfl rfl rc_nil) ?_
  refine W_block ?_
  refine W_loop (fun m ρ D w => ∃ (k : Nat) (G1 : GH) (kv : Value) (cs : List Value) (Lp : LH), EqS ρ [(1, iN oj), (3, pN b1 0), (5, pN b2 0), (6, pN b3 0), (7, kv), (33, iN (((t.kids.length : Nat) : Int))), (34, iN (((k : Nat) : Int)))] ∧ D = [] ∧ St G1 ((b3, .cells #[iN 0, iN 0, .slice none 0 0] 24) :: (b2, .cells #[iN wth.kind, iN wth.num, .slice wthA wth.kids.length wthc] 24) :: (b1, .cells #[iN t.kind, iN t.num, .slice tA t.kids.length tc] 24) :: Lp ++ L) w ∧ (Le G G1) ∧ (OS 24 3 kv k cs Lp) ∧ (PoL G1 cs (rs.take k)) ∧ (k ≤ t.kids.length) ∧ t.kids.length - k = m) (t.kids.length - 0) ⟨0, G, .slice none 0 0, [], [], ⟨by kernel_rfl, by kernel_rfl, by kernel_rfl, by kernel_rfl, by kernel_rfl, by kernel_rfl, by kernel_rfl, trivial⟩, rfl, hst, Le.refl _, OS.nil 24 3, (by simp [PoL]), Nat.zero_le _, rfl⟩ ?_
  clear hst; rintro m9 ρ D w1 ⟨k, G1, kv, cs, Lp, hE10, rfl, hst, hle, hos, hty, hkk, hm11⟩
  refine W_env hE10 ?_
  refine W_seq ?_
  refine W_rg [(.p, 0)] hst ?_
  refine r_en [] [] [(35, .bool (decide ((((k : Nat) : Int)) < (((t.kids.length : Nat) : Int)))))] rc_nil ?_
  refine W_seq ?_
  refine W_cd (b := decide ((((k : Nat) : Int)) < (((t.kids.length : Nat) : Int)))) (fun hc12 => ?_) (fun hc12 => ?_)
  ·skip
   have hlt : k < t.kids.length := by have := of_decide_eq_true hc12; omega
   obtain ⟨q, hq⟩ := get_of_lt hlt
   have hqz := T.sz_kid hq
   have hqu := hrg k q hq
   have hstk := hst
   obtain ⟨eb1, eo1, qA, qc, rfl, hq0, hq1, hq2, hqp⟩ := (htk.mono hle).elem hq
   have hst := hstk; clear hstk
   refine W_skip ?_
   refine W_seq ?_
   refine W_block ?_
   refine W_seq ?_
   refine W_rg [(.p, 0), (.p, 1)] hst ?_
   refine r_en [] [] [(36, iN (((k : Nat) : Int))), (8, iN (((k : Nat) : Int)))] rc_nil ?_
   refine W_rgd [(.p, 0), (.p, 1), (.l, 2), (.p, 3), (.p, 4), (.l, 5), (.p, 6), (.l, 7), (.f, 8), (.f, 9), (.f, 10), (.p, 11)] hst (fun w1 hst => ?_)
   refine r_sg [(.p, 0), (.p, 1), (.l, 2), (.p, 3)] [[.slice (some ⟨eb1, eo1, none⟩) t.kids.length tc]] [(⟨b1, 2, none⟩, .slice (some ⟨eb1, eo1, none⟩) t.kids.length tc)] [(37, kv), (38, pN b1 2), (39, .slice (some ⟨eb1, eo1, none⟩) t.kids.length tc), (40, iN (((k : Nat) : Int)))] (rc_L 2 rfl rfl rc_nil) ?_
   refine m_idx (sz := 3) (b := eb1) (off := eo1) (n := t.kids.length) (c := tc) (k := k) (some 41) (show opAt _ _ _ = some (.indexAddr 22 (.tmp 39) (.tmp 40), _) by kernel_rfl) (by kernel_rfl) (by kernel_rfl) Try.underlying22 sz24 hlt ?_
   refine r_sg [(.l, 5), (.p, 6), (.l, 7)] [[iN q.kind, iN q.num, .slice qA q.kids.length qc], [iN wth.kind, iN wth.num, .slice wthA wth.kids.length wthc]] [(⟨eb1, eo1 + k * 3, none⟩, iN q.kind), (⟨eb1, eo1 + k * 3 + 1, none⟩, iN q.num), (⟨eb1, eo1 + k * 3 + 2, none⟩, .slice qA q.kids.length qc), (⟨b2, 0, none⟩, iN wth.kind), (⟨b2, 1, none⟩, iN wth.num), (⟨b2, 2, none⟩, .slice wthA wth.kids.length wthc)] [(42, .agg #[iN q.kind, iN q.num, .slice qA q.kids.length qc]), (43, iN oj), (44, .agg #[iN wth.kind, iN wth.num, .slice wthA wth.kids.length wthc])] (rc_C hq0 (rc_C hq1 (rc_C hq2 (rc_L 1 rfl rfl (rc_L 1 rfl rfl (rc_L 1 rfl rfl rc_nil)))))) ?_
   refine m_cl #[.agg #[iN q.kind, iN q.num, .slice qA q.kids.length qc], iN oj, .agg #[iN wth.kind, iN wth.num, .slice wthA wth.kids.length wthc]] (some 45) (ih (t := q) (wth := wth) (by omega) (by omega) hqp (hvw.mono hle) hst) ?_
   rintro x0 w1 ⟨G2, hG2, hx, hst⟩
   obtain ⟨xA, xc, rfl, _, _⟩ := id hx.open
   refine nx hst ?_
   refine m_new (.cells #[iN ((rput wth q oj).kind), iN ((rput wth q oj).num), .slice xA ((rput wth q oj).kids.length) xc] 24) (fun b13 => .slice (some ⟨b13, 0, none⟩) 1 1) (some 46) (fun b => by kernel_rfl) hst (fun b13 w1 hst => ?_)
   refine m_append (v := kv) (sb := b13) (so := 0) (m := 1) (mc := 1) el22 [(b13, .cells #[iN ((rput wth q oj).kind), iN ((rput wth q oj).num), .slice xA ((rput wth q oj).kids.length) xc] 24), (b3, .cells #[iN 0, iN 0, .slice none 0 0] 24), (b2, .cells #[iN wth.kind, iN wth.num, .slice wthA wth.kids.length wthc] 24), (b1, .cells #[iN t.kind, iN t.num, .slice (some ⟨eb1, eo1, none⟩) t.kids.length tc] 24)] [iN ((rput wth q oj).kind), iN ((rput wth q oj).num), .slice xA ((rput wth q oj).kids.length) xc] (d := (some 47)) (show opAt _ _ _ = some (.call { callee := .builtin .append, args := #[(.tmp 37), (.tmp 46)], argTypes := #[22, 22] }, _) by kernel_rfl) (by kernel_rfl) (by kernel_rfl) hos hst (by first | rfl | (simp; done)) (src_L 0 hst rfl) (by kernel_rfl) (by decide) (by omega) (by omega) (fun kv2 Lp2 w1 hos2 hst => ?_)
   obtain ⟨nb, nc, rfl⟩ := hos2.shape (by omega)
   refine r_en [] [] [(7, .slice (some ⟨nb, 0, none⟩) ((k + 1)) nc)] rc_nil ?_
   refine W_rg [(.p, 0), (.p, 1)] hst ?_
   refine r_en [] [] [(48, iN (IntKind.wrap .i64 ((((k : Nat) : Int)) + 1))), (34, iN (IntKind.wrap .i64 ((((k : Nat) : Int)) + 1)))] rc_nil ?_
   exact ⟨_, (by omega), k + 1, G2, .slice (some ⟨nb, 0, none⟩) (k + 1) nc, cs ++ [iN (rput wth q oj).kind, iN (rput wth q oj).num, .slice xA (rput wth q oj).kids.length xc], Lp2, ⟨by kernel_rfl, by kernel_rfl, by kernel_rfl, by kernel_rfl, by kernel_rfl, by kernel_rfl, (by rw [← wrap_succ (k := k) (by omega)]; kernel_rfl), trivial⟩, rfl, (hst.drop [_]), (hle.trans hG2), hos2, (by rw [take_snoc hqu]; exact (hty.mono hG2).snoc hx), hlt, rfl⟩
  ·skip
   have hge : k = t.kids.length := by have := of_decide_eq_false hc12; omega
   refine W_exit ?_
   refine W_seq ?_
   have hst := St.swap (A := [(b3, .cells #[iN 0, iN 0, .slice none 0 0] 24), (b2, .cells #[iN wth.kind, iN wth.num, .slice wthA wth.kids.length wthc] 24), (b1, .cells #[iN t.kind, iN t.num, .slice tA t.kids.length tc] 24)]) (B := Lp) hst
   obtain ⟨G2, hG2, hF2, hst⟩ := hst.freeze Lp
   have hty2 : PoL G1 cs rs := by have := hty; rw [List.take_of_length_le (by omega)] at this; exact this
   obtain ⟨rA, rc, rfl, hrc, hrk⟩ := hos.polys (hty2.mono hG2) (by omega) hF2
   have hst : St G2 ((b3, .cells #[iN 0, iN 0, .slice none 0 0] 24) :: (b2, .cells #[iN wth.kind, iN wth.num, .slice wthA wth.kids.length wthc] 24) :: (b1, .cells #[iN t.kind, iN t.num, .slice tA t.kids.length tc] 24) :: L) w1 := hst
   refine W_rg [(.p, 0), (.p, 1), (.f, 2)] hst ?_
   refine r_sg [(.p, 0), (.p, 1)] [] [] [(49, .slice rA rs.length rc), (50, pN b1 2)] rc_nil ?_
   refine m_st ((b3, .cells #[iN 0, iN 0, .slice none 0 0] 24) :: (b2, .cells #[iN wth.kind, iN wth.num, .slice wthA wth.kids.length wthc] 24) :: (b1, .cells #[iN t.kind, iN t.num, .slice rA rs.length rc] 24) :: L) 2 [(2, .slice rA rs.length rc)] [iN t.kind, iN t.num, .slice rA rs.length rc] none hst (fun w1 hst => ?_)
   refine r_nil ?_
   refine W_seq ?_
   refine W_rg [(.l, 0), (.f, 1)] hst ?_
   refine r_sg [(.l, 0)] [[iN t.kind, iN t.num, .slice rA rs.length rc]] [(⟨b1, 0, none⟩, iN t.kind), (⟨b1, 1, none⟩, iN t.num), (⟨b1, 2, none⟩, .slice rA rs.length rc)] [(51, .agg #[iN t.kind, iN t.num, .slice rA rs.length rc])] (rc_L 2 rfl rfl (rc_L 2 rfl rfl (rc_L 2 rfl rfl rc_nil))) ?_
   refine m_st ((b3, .cells #[iN t.kind, iN t.num, .slice rA rs.length rc] 24) :: (b2, .cells #[iN wth.kind, iN wth.num, .slice wthA wth.kids.length wthc] 24) :: (b1, .cells #[iN t.kind, iN t.num, .slice rA rs.length rc] 24) :: L) 0 [(0, iN t.kind), (1, iN t.num), (2, .slice rA rs.length rc)] [iN t.kind, iN t.num, .slice rA rs.length rc] none hst (fun w1 hst => ?_)
   refine r_nil ?_
   refine W_ret ?_
   refine q_rt [iN t.kind, iN t.num, .slice rA rs.length rc] [(⟨b3, 0, none⟩, iN t.kind), (⟨b3, 1, none⟩, iN t.num), (⟨b3, 2, none⟩, .slice rA rs.length rc)] (.agg #[iN t.kind, iN t.num, .slice rA rs.length rc]) (rc_L 0 rfl rfl (rc_L 0 rfl rfl (rc_L 0 rfl rfl rc_nil))) hst ?_
   exact ⟨G2, hle.trans hG2, by rw [hre]; exact IsPoly.mk (t := .mk t.kind t.num rs) hrc hrk, hst.drop [_, _, _]⟩

theorem c39 {G : GH} {L : LH} {w : World} {va vb : Value} {a b : T} (hza : T.sz a < lim) (hzb : T.sz b < lim) (hva : IsPoly G va a) (hvb : IsPoly G vb b) (hst : St G L w) :
  Cal Try.prog 39 #[va, vb] w fun x w' => ∃ G' x0, Le G G' ∧ x = .tuple #[x0, .int .i64 (rOpen a b).2] ∧ IsPoly G' x0 (rOpen a b).1 ∧ St G' L w' := by
 have hlim : lim = 1099511627776 := rfl
 have hre : rOpen a b = (if rboth a b ≠ 0 then (t0, rboth a b) else if a.kind ≠ 4 then (t0, 6) else match a.kids with | k :: _ => if rRight (rput b k 0) 0 ≠ 0 then (t0, rRight (rput b k 0) 0) else (rput b k 0, 0) | [] => (t0, 0)) := rfl
 obtain ⟨aA, ac, rfl, hac, hak⟩ := id hva.open
 obtain ⟨bA, bc, rfl, hbc, hbk⟩ := id hvb.open
 refine cal_of_W Try.func39 rfl (Nat.le_of_ble_eq_true (by kernel_rfl)) ?_
 refine W_seq ?_
 refine W_rg [(.f, 0), (.f, 1), (.f, 2), (.p, 3)] hst ?_
 refine m_new (.cells #[iN a.kind, iN a.num, .slice aA a.kids.length ac] 24) (fun b1 => pN b1 0) (some 2) (fun b => by kernel_rfl) hst (fun b1 w1 hst => ?_)
 refine m_new (.cells #[iN b.kind, iN b.num, .slice bA b.kids.length bc] 24) (fun b2 => pN b2 0) (some 3) (fun b => by kernel_rfl) hst (fun b2 w1 hst => ?_)
 refine m_new (.cells #[iN 0, iN 0, .slice none 0 0] 24) (fun b3 => pN b3 0) (some 4) (fun b => by kernel_rfl) hst (fun b3 w1 hst => ?_)
 refine r_en [] [] [(5, iN 0)] rc_nil ?_
 refine W_seq ?_
 refine W_seq ?_
 refine W_rg [(.l, 0), (.l, 1), (.f, 2), (.p, 3)] hst ?_
 refine r_sg [(.l, 0), (.l, 1)] [[iN a.kind, iN a.num, .slice aA a.kids.length ac], [iN b.kind, iN b.num, .slice bA b.kids.length bc]] [(⟨b1, 0, none⟩, iN a.kind), (⟨b1, 1, none⟩, iN a.num), (⟨b1, 2, none⟩, .slice aA a.kids.length ac), (⟨b2, 0, none⟩, iN b.kind), (⟨b2, 1, none⟩, iN b.num), (⟨b2, 2, none⟩, .slice bA b.kids.length bc)] [(9, .agg #[iN a.kind, iN a.num, .slice aA a.kids.length ac]), (10, .agg #[iN b.kind, iN b.num, .slice bA b.kids.length bc])] (rc_L 2 rfl rfl (rc_L 2 rfl rfl (rc_L 2 rfl rfl (rc_L 1 rfl rfl (rc_L 1 rfl rfl (rc_L 1 rfl rfl rc_nil)))))) ?_
 refine m_cl #[.agg #[iN a.kind, iN a.num, .slice aA a.kids.length ac], .agg #[iN b.kind, iN b.num, .slice bA b.kids.length bc]] (some 11) (c80 hza hzb hva hvb hst) ?_
 rintro _ w1 ⟨rfl, hst⟩
 refine nx hst ?_
 refine r_en [] [] [(6, iN (rboth a b))] rc_nil ?_
 refine W_seq ?_
 refine W_rg [(.p, 0), (.p, 1)] hst ?_
 refine r_en [] [] [(12, iN (rboth a b)), (13, .bool ((rboth a b) != 0))] rc_nil ?_
 refine W_cd (b := (rboth a b) != 0) (fun hc4 => ?_) (fun hc4 => ?_)
 ·skip
  have hbo : rboth a b ≠ 0 := by simpa using hc4
  rw [if_pos hbo] at hre
  refine W_seq ?_
  refine W_rg [(.p, 0), (.p, 1), (.f, 2), (.p, 3)] hst ?_
  refine r_sg [(.p, 0), (.p, 1)] [] [] [(14, .agg #[iN 0, iN 0, .slice none 0 0]), (15, iN (rboth a b))] rc_nil ?_
  refine m_st ((b3, .cells #[iN 0, iN 0, .slice none 0 0] 24) :: (b2, .cells #[iN b.kind, iN b.num, .slice bA b.kids.length bc] 24) :: (b1, .cells #[iN a.kind, iN a.num, .slice aA a.kids.length ac] 24) :: L) 0 [(0, iN 0), (1, iN 0), (2, .slice none 0 0)] [iN 0, iN 0, .slice none 0 0] none hst (fun w1 hst => ?_)
  refine r_en [] [] [(5, iN (rboth a b))] rc_nil ?_
  refine W_ret ?_
  refine q_rt [iN 0, iN 0, .slice none 0 0] [(⟨b3, 0, none⟩, iN 0), (⟨b3, 1, none⟩, iN 0), (⟨b3, 2, none⟩, .slice none 0 0)] (.tuple #[.agg #[iN 0, iN 0, .slice none 0 0], iN (rboth a b)]) (rc_L 0 rfl rfl (rc_L 0 rfl rfl (rc_L 0 rfl rfl rc_nil))) hst ?_
  exact ⟨G, _, Le.refl _, by rw [hre], by rw [hre]; exact (IsPoly.mk (t := t0) (Nat.le_refl _) IsPolys.nil), hst.drop [_, _, _]⟩
 ·skip
  have hbo : ¬ rboth a b ≠ 0 := by simpa using hc4
  rw [if_neg hbo] at hre
  have hra : rRight a 0 = 0 ∧ rRight b 0 = 0 := by unfold rboth at hbo; split at hbo <;> omega
  obtain ⟨hwa, hna⟩ := right_wf (t := a) (n := 0) (by rw [right_eq]; exact hra.1); obtain ⟨hwb, hnb⟩ := right_wf (t := b) (n := 0) (by rw [right_eq]; exact hra.2)
  refine W_skip ?_
  refine W_seq ?_
  refine W_seq ?_
  refine W_rg [(.p, 0), (.l, 1), (.p, 2)] hst ?_
  refine r_en [[iN a.kind]] [(⟨b1, 0, none⟩, iN a.kind)] [(16, pN b1 0), (17, iN a.kind), (18, .bool (a.kind != 4))] (rc_L 2 rfl rfl rc_nil) ?_
  refine W_cd (b := a.kind != 4) (fun hc5 => ?_) (fun hc5 => ?_)
  ·skip
   have hk4 : a.kind ≠ 4 := by simpa using hc5
   rw [if_pos hk4] at hre
   refine W_seq ?_
   refine W_rg [(.p, 0), (.f, 1), (.p, 2)] hst ?_
   refine r_sg [(.p, 0)] [] [] [(19, .agg #[iN 0, iN 0, .slice none 0 0])] rc_nil ?_
   refine m_st ((b3, .cells #[iN 0, iN 0, .slice none 0 0] 24) :: (b2, .cells #[iN b.kind, iN b.num, .slice bA b.kids.length bc] 24) :: (b1, .cells #[iN a.kind, iN a.num, .slice aA a.kids.length ac] 24) :: L) 0 [(0, iN 0), (1, iN 0), (2, .slice none 0 0)] [iN 0, iN 0, .slice none 0 0] none hst (fun w1 hst => ?_)
   refine r_en [] [] [(5, iN 6)] rc_nil ?_
   refine W_ret ?_
   refine q_rt [iN 0, iN 0, .slice none 0 0] [(⟨b3, 0, none⟩, iN 0), (⟨b3, 1, none⟩, iN 0), (⟨b3, 2, none⟩, .slice none 0 0)] (.tuple #[.agg #[iN 0, iN 0, .slice none 0 0], iN 6]) (rc_L 0 rfl rfl (rc_L 0 rfl rfl (rc_L 0 rfl rfl rc_nil))) hst ?_
   exact ⟨G, _, Le.refl _, by rw [hre], by rw [hre]; exact (IsPoly.mk (t := t0) (Nat.le_refl _) IsPolys.nil), hst.drop [_, _, _]⟩
  ·skip
   have hk4 : ¬ a.kind ≠ 4 := by simpa using hc5
   rw [if_neg hk4] at hre
   have hwl := wf_len hwa; unfold wfn at hwl
   have hlt0 : 0 < a.kids.length := by omega
   obtain ⟨u, hqu⟩ := get_of_lt hlt0
   have hku : ∃ r, a.kids = u :: r := by cases hk : a.kids with | nil => rw [hk] at hqu; simp at hqu | cons x r => rw [hk] at hqu; simp at hqu; subst hqu; exact ⟨r, rfl⟩
   obtain ⟨ur, hku⟩ := hku; rw [hku] at hre; dsimp only at hre
   have hzx : T.sz (rput b u 0) < lim := by have h1 := nds_rput b u 0; have h2 := nds_kid hqu; have h3 := sz_nds (rput b u 0); have h4 : nds u * nds b ≤ 12 * 12 := Nat.mul_le_mul (by omega) hnb; omega
   have hstk := hst
   obtain ⟨eb1, eo1, uA, uc, rfl, hu0, hu1, hu2, hup⟩ := (hak).elem hqu
   have hst := hstk; clear hstk
   refine W_skip ?_
   refine W_seq ?_
   refine W_regT (.fork [(.p, 0), (.l, 1), (.p, 2), (.l, 3), (.l, 4)] 5 (.run [(.e, 6), (.f, 7)]) 6 (.run [(.e, 5), (.f, 7)])) 7 (SS G ((b3, .cells #[iN 0, iN 0, .slice none 0 0] 24) :: (b2, .cells #[iN b.kind, iN b.num, .slice bA b.kids.length bc] 24) :: (b1, .cells #[iN a.kind, iN a.num, .slice (some ⟨eb1, eo1, none⟩) a.kids.length ac] 24) :: L)) mixed (by kernel_rfl) (by kernel_rfl) (by kernel_rfl) (by kernel_rfl) (fun w1 hw1 => ?_)
   have hst := hst.heap hw1; refine ⟨hst.ss, ?_⟩
   unfold RunT
   refine r_sg [(.p, 0), (.l, 1)] [[.slice (some ⟨eb1, eo1, none⟩) a.kids.length ac]] [(⟨b1, 2, none⟩, .slice (some ⟨eb1, eo1, none⟩) a.kids.length ac)] [(20, pN b1 2), (21, .slice (some ⟨eb1, eo1, none⟩) a.kids.length ac)] (rc_L 2 rfl rfl rc_nil) ?_
   refine m_idx (sz := 3) (b := eb1) (off := eo1) (n := a.kids.length) (c := ac) (k := 0) (some 22) (show opAt _ _ _ = some (.indexAddr 22 (.tmp 21) (.const (iN 0)), _) by kernel_rfl) (by kernel_rfl) (by kernel_rfl) Try.underlying22 sz24 hlt0 ?_
   refine r_en [[iN u.kind, iN u.num, .slice uA u.kids.length uc], [iN b.kind, iN b.num, .slice bA b.kids.length bc]] [(⟨eb1, eo1 + 0 * 3, none⟩, iN u.kind), (⟨eb1, eo1 + 0 * 3 + 1, none⟩, iN u.num), (⟨eb1, eo1 + 0 * 3 + 2, none⟩, .slice uA u.kids.length uc), (⟨b2, 0, none⟩, iN b.kind), (⟨b2, 1, none⟩, iN b.num), (⟨b2, 2, none⟩, .slice bA b.kids.length bc)] [(23, .agg #[iN u.kind, iN u.num, .slice uA u.kids.length uc]), (24, .agg #[iN b.kind, iN b.num, .slice bA b.kids.length bc])] (rc_C hu0 (rc_C hu1 (rc_C hu2 (rc_L 1 rfl rfl (rc_L 1 rfl rfl (rc_L 1 rfl rfl rc_nil)))))) ?_
   refine ⟨?_, ?_⟩
   ·skip
    refine m_callE #[.agg #[iN u.kind, iN u.num, .slice uA u.kids.length uc], iN 0, .agg #[iN b.kind, iN b.num, .slice bA b.kids.length bc]] (some 25) (by kernel_rfl) (c81 _ (Nat.lt_succ_self _) (by have := T.sz_kid hqu; omega) hup hvb hst) ?_
    rintro x0 w1 ⟨G1, hG1, hx, hst⟩
    obtain ⟨xA, xc, rfl, _, _⟩ := id hx.open
    refine ⟨hst.ss' ((Le.refl _).trans hG1) (fun _ hp => hp), ?_⟩
    refine r_nil ?_
    unfold RunT
    refine m_newE (.cells #[iN 0, iN 0, .slice none 0 0] 24) (fun b6 => pN b6 0) (some 7) (fun b => by kernel_rfl) hst (fun _ _ h => h.ss' ((Le.refl _).trans hG1) (fun _ hp => (List.mem_cons_of_mem _ hp))) (fun b6 w1 hst => ?_)
    refine m_st ((b6, .cells #[iN ((rput b u 0).kind), iN ((rput b u 0).num), .slice xA ((rput b u 0).kids.length) xc] 24) :: (b3, .cells #[iN 0, iN 0, .slice none 0 0] 24) :: (b2, .cells #[iN b.kind, iN b.num, .slice bA b.kids.length bc] 24) :: (b1, .cells #[iN a.kind, iN a.num, .slice (some ⟨eb1, eo1, none⟩) a.kids.length ac] 24) :: L) 0 [(0, iN ((rput b u 0).kind)), (1, iN ((rput b u 0).num)), (2, .slice xA ((rput b u 0).kids.length) xc)] [iN ((rput b u 0).kind), iN ((rput b u 0).num), .slice xA ((rput b u 0).kids.length) xc] none hst (fun w1 hst => ?_)
    refine r_nil ?_
    refine W_seq ?_
    refine W_seq ?_
    refine W_rg [(.l, 0), (.f, 1), (.p, 2)] hst ?_
    refine r_sg [(.l, 0)] [[iN ((rput b u 0).kind), iN ((rput b u 0).num), .slice xA ((rput b u 0).kids.length) xc]] [(⟨b6, 0, none⟩, iN ((rput b u 0).kind)), (⟨b6, 1, none⟩, iN ((rput b u 0).num)), (⟨b6, 2, none⟩, .slice xA ((rput b u 0).kids.length) xc)] [(26, .agg #[iN ((rput b u 0).kind), iN ((rput b u 0).num), .slice xA ((rput b u 0).kids.length) xc])] (rc_L 0 rfl rfl (rc_L 0 rfl rfl (rc_L 0 rfl rfl rc_nil))) ?_
    refine m_cl #[.agg #[iN ((rput b u 0).kind), iN ((rput b u 0).num), .slice xA ((rput b u 0).kids.length) xc], iN 0] (some 27) (c41 hzx hx hst) ?_
    rintro _ w1 ⟨rfl, hst⟩
    refine nx hst ?_
    refine r_en [] [] [(8, iN (rRight (rput b u 0) 0))] rc_nil ?_
    refine W_seq ?_
    refine W_rg [(.p, 0), (.p, 1)] hst ?_
    refine r_en [] [] [(28, iN (rRight (rput b u 0) 0)), (29, .bool ((rRight (rput b u 0) 0) != 0))] rc_nil ?_
    refine W_cd (b := (rRight (rput b u 0) 0) != 0) (fun hc7 => ?_) (fun hc7 => ?_)
    ·skip
     have hro : rRight (rput b u 0) 0 ≠ 0 := by simpa using hc7
     rw [if_pos hro] at hre
     refine W_seq ?_
     refine W_rg [(.p, 0), (.p, 1), (.f, 2), (.p, 3)] hst ?_
     refine r_sg [(.p, 0), (.p, 1)] [] [] [(30, .agg #[iN 0, iN 0, .slice none 0 0]), (31, iN (rRight (rput b u 0) 0))] rc_nil ?_
     refine m_st ((b6, .cells #[iN ((rput b u 0).kind), iN ((rput b u 0).num), .slice xA ((rput b u 0).kids.length) xc] 24) :: (b3, .cells #[iN 0, iN 0, .slice none 0 0] 24) :: (b2, .cells #[iN b.kind, iN b.num, .slice bA b.kids.length bc] 24) :: (b1, .cells #[iN a.kind, iN a.num, .slice (some ⟨eb1, eo1, none⟩) a.kids.length ac] 24) :: L) 1 [(0, iN 0), (1, iN 0), (2, .slice none 0 0)] [iN 0, iN 0, .slice none 0 0] none hst (fun w1 hst => ?_)
     refine r_en [] [] [(5, iN (rRight (rput b u 0) 0))] rc_nil ?_
     refine W_ret ?_
     refine q_rt [iN 0, iN 0, .slice none 0 0] [(⟨b3, 0, none⟩, iN 0), (⟨b3, 1, none⟩, iN 0), (⟨b3, 2, none⟩, .slice none 0 0)] (.tuple #[.agg #[iN 0, iN 0, .slice none 0 0], iN (rRight (rput b u 0) 0)]) (rc_L 1 rfl rfl (rc_L 1 rfl rfl (rc_L 1 rfl rfl rc_nil))) hst ?_
     exact ⟨G1, _, hG1, by rw [hre], by rw [hre]; exact (IsPoly.mk (t := t0) (Nat.le_refl _) IsPolys.nil), hst.drop [_, _, _, _]⟩
    ·skip
     have hro : ¬ rRight (rput b u 0) 0 ≠ 0 := by simpa using hc7
     rw [if_neg hro] at hre
     refine W_skip ?_
     refine W_seq ?_
     refine W_rg [(.l, 0), (.f, 1), (.f, 2), (.p, 3)] hst ?_
     refine r_sg [(.l, 0)] [[iN ((rput b u 0).kind), iN ((rput b u 0).num), .slice xA ((rput b u 0).kids.length) xc]] [(⟨b6, 0, none⟩, iN ((rput b u 0).kind)), (⟨b6, 1, none⟩, iN ((rput b u 0).num)), (⟨b6, 2, none⟩, .slice xA ((rput b u 0).kids.length) xc)] [(32, .agg #[iN ((rput b u 0).kind), iN ((rput b u 0).num), .slice xA ((rput b u 0).kids.length) xc])] (rc_L 0 rfl rfl (rc_L 0 rfl rfl (rc_L 0 rfl rfl rc_nil))) ?_
     refine m_cl #[.agg #[iN ((rput b u 0).kind), iN ((rput b u 0).num), .slice xA ((rput b u 0).kids.length) xc]] (some 33) (c13 _ (Nat.lt_succ_self _) hzx hx hst) ?_
     rintro y0 w1 ⟨G2, hG2, hy, hst⟩
     obtain ⟨yA, yc, rfl, _, _⟩ := id hy.open
     refine nx hst ?_
     refine m_st ((b6, .cells #[iN ((rput b u 0).kind), iN ((rput b u 0).num), .slice xA ((rput b u 0).kids.length) xc] 24) :: (b3, .cells #[iN ((rput b u 0).kind), iN ((rput b u 0).num), .slice yA ((rput b u 0).kids.length) yc] 24) :: (b2, .cells #[iN b.kind, iN b.num, .slice bA b.kids.length bc] 24) :: (b1, .cells #[iN a.kind, iN a.num, .slice (some ⟨eb1, eo1, none⟩) a.kids.length ac] 24) :: L) 1 [(0, iN ((rput b u 0).kind)), (1, iN ((rput b u 0).num)), (2, .slice yA ((rput b u 0).kids.length) yc)] [iN ((rput b u 0).kind), iN ((rput b u 0).num), .slice yA ((rput b u 0).kids.length) yc] none hst (fun w1 hst => ?_)
     refine r_en [] [] [(5, iN 0)] rc_nil ?_
     refine W_ret ?_
     refine q_rt [iN ((rput b u 0).kind), iN ((rput b u 0).num), .slice yA ((rput b u 0).kids.length) yc] [(⟨b3, 0, none⟩, iN ((rput b u 0).kind)), (⟨b3, 1, none⟩, iN ((rput b u 0).num)), (⟨b3, 2, none⟩, .slice yA ((rput b u 0).kids.length) yc)] (.tuple #[.agg #[iN ((rput b u 0).kind), iN ((rput b u 0).num), .slice yA ((rput b u 0).kids.length) yc], iN 0]) (rc_L 1 rfl rfl (rc_L 1 rfl rfl (rc_L 1 rfl rfl rc_nil))) hst ?_
     exact ⟨G2, _, hG1.trans hG2, by rw [hre], by rw [hre]; exact hy, hst.drop [_, _, _, _]⟩
   ·skip
    refine m_newE (.cells #[iN 0, iN 0, .slice none 0 0] 24) (fun b8 => pN b8 0) (some 7) (fun b => by kernel_rfl) hst (fun _ _ h => h.ss' (Le.refl _) (fun _ hp => (List.mem_cons_of_mem _ hp))) (fun b8 w1 hst => ?_)
    refine r_nil ?_
    unfold RunT
    refine m_callE #[.agg #[iN u.kind, iN u.num, .slice uA u.kids.length uc], iN 0, .agg #[iN b.kind, iN b.num, .slice bA b.kids.length bc]] (some 25) (by kernel_rfl) (c81 _ (Nat.lt_succ_self _) (by have := T.sz_kid hqu; omega) hup hvb hst) ?_
    rintro x0 w1 ⟨G1, hG1, hx, hst⟩
    obtain ⟨xA, xc, rfl, _, _⟩ := id hx.open
    refine ⟨hst.ss' ((Le.refl _).trans hG1) (fun _ hp => (List.mem_cons_of_mem _ hp)), ?_⟩
    refine m_st ((b8, .cells #[iN ((rput b u 0).kind), iN ((rput b u 0).num), .slice xA ((rput b u 0).kids.length) xc] 24) :: (b3, .cells #[iN 0, iN 0, .slice none 0 0] 24) :: (b2, .cells #[iN b.kind, iN b.num, .slice bA b.kids.length bc] 24) :: (b1, .cells #[iN a.kind, iN a.num, .slice (some ⟨eb1, eo1, none⟩) a.kids.length ac] 24) :: L) 0 [(0, iN ((rput b u 0).kind)), (1, iN ((rput b u 0).num)), (2, .slice xA ((rput b u 0).kids.length) xc)] [iN ((rput b u 0).kind), iN ((rput b u 0).num), .slice xA ((rput b u 0).kids.length) xc] none hst (fun w1 hst => ?_)
    refine r_nil ?_
    refine W_seq ?_
    refine W_seq ?_
    refine W_rg [(.l, 0), (.f, 1), (.p, 2)] hst ?_
    refine r_sg [(.l, 0)] [[iN ((rput b u 0).kind), iN ((rput b u 0).num), .slice xA ((rput b u 0).kids.length) xc]] [(⟨b8, 0, none⟩, iN ((rput b u 0).kind)), (⟨b8, 1, none⟩, iN ((rput b u 0).num)), (⟨b8, 2, none⟩, .slice xA ((rput b u 0).kids.length) xc)] [(26, .agg #[iN ((rput b u 0).kind), iN ((rput b u 0).num), .slice xA ((rput b u 0).kids.length) xc])] (rc_L 0 rfl rfl (rc_L 0 rfl rfl (rc_L 0 rfl rfl rc_nil))) ?_
    refine m_cl #[.agg #[iN ((rput b u 0).kind), iN ((rput b u 0).num), .slice xA ((rput b u 0).kids.length) xc], iN 0] (some 27) (c41 hzx hx hst) ?_
    rintro _ w1 ⟨rfl, hst⟩
    refine nx hst ?_
    refine r_en [] [] [(8, iN (rRight (rput b u 0) 0))] rc_nil ?_
    refine W_seq ?_
    refine W_rg [(.p, 0), (.p, 1)] hst ?_
    refine r_en [] [] [(28, iN (rRight (rput b u 0) 0)), (29, .bool ((rRight (rput b u 0) 0) != 0))] rc_nil ?_
    refine W_cd (b := (rRight (rput b u 0) 0) != 0) (fun hc9 => ?_) (fun hc9 => ?_)
    ·skip
     have hro : rRight (rput b u 0) 0 ≠ 0 := by simpa using hc9
     rw [if_pos hro] at hre
     refine W_seq ?_
     refine W_rg [(.p, 0), (.p, 1), (.f, 2), (.p, 3)] hst ?_
     refine r_sg [(.p, 0), (.p, 1)] [] [] [(30, .agg #[iN 0, iN 0, .slice none 0 0]), (31, iN (rRight (rput b u 0) 0))] rc_nil ?_
     refine m_st ((b8, .cells #[iN ((rput b u 0).kind), iN ((rput b u 0).num), .slice xA ((rput b u 0).kids.length) xc] 24) :: (b3, .cells #[iN 0, iN 0, .slice none 0 0] 24) :: (b2, .cells #[iN b.kind, iN b.num, .slice bA b.kids.length bc] 24) :: (b1, .cells #[iN a.kind, iN a.num, .slice (some ⟨eb1, eo1, none⟩) a.kids.length ac] 24) :: L) 1 [(0, iN 0), (1, iN 0), (2, .slice none 0 0)] [iN 0, iN 0, .slice none 0 0] none hst (fun w1 hst => ?_)
     refine r_en [] [] [(5, iN (rRight (rput b u 0) 0))] rc_nil ?_
     refine W_ret ?_
     refine q_rt [iN 0, iN 0, .slice none 0 0] [(⟨b3, 0, none⟩, iN 0), (⟨b3, 1, none⟩, iN 0), (⟨b3, 2, none⟩, .slice none 0 0)] (.tuple #[.agg #[iN 0, iN 0, .slice none 0 0], iN (rRight (rput b u 0) 0)]) (rc_L 1 rfl rfl (rc_L 1 rfl rfl (rc_L 1 rfl rfl rc_nil))) hst ?_
     exact ⟨G1, _, hG1, by rw [hre], by rw [hre]; exact (IsPoly.mk (t := t0) (Nat.le_refl _) IsPolys.nil), hst.drop [_, _, _, _]⟩
    ·skip
     have hro : ¬ rRight (rput b u 0) 0 ≠ 0 := by simpa using hc9
     rw [if_neg hro] at hre
     refine W_skip ?_
     refine W_seq ?_
     refine W_rg [(.l, 0), (.f, 1), (.f, 2), (.p, 3)] hst ?_
     refine r_sg [(.l, 0)] [[iN ((rput b u 0).kind), iN ((rput b u 0).num), .slice xA ((rput b u 0).kids.length) xc]] [(⟨b8, 0, none⟩, iN ((rput b u 0).kind)), (⟨b8, 1, none⟩, iN ((rput b u 0).num)), (⟨b8, 2, none⟩, .slice xA ((rput b u 0).kids.length) xc)] [(32, .agg #[iN ((rput b u 0).kind), iN ((rput b u 0).num), .slice xA ((rput b u 0).kids.length) xc])] (rc_L 0 rfl rfl (rc_L 0 rfl rfl (rc_L 0 rfl rfl rc_nil))) ?_
     refine m_cl #[.agg #[iN ((rput b u 0).kind), iN ((rput b u 0).num), .slice xA ((rput b u 0).kids.length) xc]] (some 33) (c13 _ (Nat.lt_succ_self _) hzx hx hst) ?_
     rintro y0 w1 ⟨G2, hG2, hy, hst⟩
     obtain ⟨yA, yc, rfl, _, _⟩ := id hy.open
     refine nx hst ?_
     refine m_st ((b8, .cells #[iN ((rput b u 0).kind), iN ((rput b u 0).num), .slice xA ((rput b u 0).kids.length) xc] 24) :: (b3, .cells #[iN ((rput b u 0).kind), iN ((rput b u 0).num), .slice yA ((rput b u 0).kids.length) yc] 24) :: (b2, .cells #[iN b.kind, iN b.num, .slice bA b.kids.length bc] 24) :: (b1, .cells #[iN a.kind, iN a.num, .slice (some ⟨eb1, eo1, none⟩) a.kids.length ac] 24) :: L) 1 [(0, iN ((rput b u 0).kind)), (1, iN ((rput b u 0).num)), (2, .slice yA ((rput b u 0).kids.length) yc)] [iN ((rput b u 0).kind), iN ((rput b u 0).num), .slice yA ((rput b u 0).kids.length) yc] none hst (fun w1 hst => ?_)
     refine r_en [] [] [(5, iN 0)] rc_nil ?_
     refine W_ret ?_
     refine q_rt [iN ((rput b u 0).kind), iN ((rput b u 0).num), .slice yA ((rput b u 0).kids.length) yc] [(⟨b3, 0, none⟩, iN ((rput b u 0).kind)), (⟨b3, 1, none⟩, iN ((rput b u 0).num)), (⟨b3, 2, none⟩, .slice yA ((rput b u 0).kids.length) yc)] (.tuple #[.agg #[iN ((rput b u 0).kind), iN ((rput b u 0).num), .slice yA ((rput b u 0).kids.length) yc], iN 0]) (rc_L 1 rfl rfl (rc_L 1 rfl rfl (rc_L 1 rfl rfl rc_nil))) hst ?_
     exact ⟨G2, _, hG1.trans hG2, by rw [hre], by rw [hre]; exact hy, hst.drop [_, _, _, _]⟩

end Go.Proofs.Ytjgnhhgigickaaa.Wk
/- A tree of the walk's own: each row of Kids lies in a block that nobody else has. To freeze blocks for a while; a slice that is nil; the append of nothing. Conditions: none. -/

namespace Go.Proofs.Ytjgnhhgigickaaa.Wk
open Go Md

def lk (F : LH) (x : Nat) : Option Obj := (F.find? fun p => p.1 == x).map (·.2)
theorem lk_mem {F : LH} {x : Nat} {o : Obj} (h : lk F x = some o) : (x, o) ∈ F := by
  unfold lk at h
  cases hf : F.find? fun p => p.1 == x with
  | none => rw [hf] at h; cases h
  | some p =>
    rw [hf] at h; simp only [Option.map_some, Option.some.injEq] at h
    have h1 := List.mem_of_find?_eq_some hf
    have h2 : p.1 = x := by have := List.find?_some hf; simpa using this
    obtain ⟨a, b⟩ := p
    simp only at h h2; subst h; subst h2; exact h1
theorem lk_none {F : LH} {x : Nat} (h : ∀ p, p ∈ F → p.1 ≠ x) : lk F x = none := by
  unfold lk
  rw [List.find?_eq_none.2 (fun p hp => by simpa using h p hp)]; rfl
theorem lk_of {F : LH} {p : Nat × Obj} (hn : (F.map (·.1)).Nodup) (hp : p ∈ F) : lk F p.1 = some p.2 := by
  cases h : lk F p.1 with
  | none =>
    exfalso
    unfold lk at h
    rw [Option.map_eq_none_iff] at h
    have := List.find?_eq_none.1 h p hp
    simp at this
  | some o =>
    have hm := lk_mem h
    obtain ⟨i, hi⟩ := List.getElem?_of_mem hp
    obtain ⟨j, hj⟩ := List.getElem?_of_mem hm
    have hil := (List.getElem?_eq_some_iff.1 hi).1
    have h1 : (F.map (·.1))[i]? = some p.1 := by rw [List.getElem?_map, hi]; rfl
    have h2 : (F.map (·.1))[j]? = some p.1 := by rw [List.getElem?_map, hj]; rfl
    have hij := (List.getElem?_inj (by simpa using hil) hn).1 (h1.trans h2.symm)
    subst hij
    have he := congrArg Prod.snd (Option.some.inj (hi.symm.trans hj))
    simp only at he; rw [he]
theorem St.freezeT {G : GH} {L : LH} {w : World} (F : LH) (h : St G (F ++ L) w) : ∃ G', Le G G' ∧ (∀ p, p ∈ F → G' p.1 = some p.2) ∧ St G' L w ∧ ∀ {L' : LH} {w' : World}, St G' L' w' → St G (F ++ L') w' := by
  have hnd := h.nd
  rw [List.map_append, List.nodup_append] at hnd
  have hsepF : ∀ p, p ∈ F → G p.1 = none := fun p hp => h.sep p (List.mem_append_left _ hp)
  have hmem : ∀ p, p ∈ F → lk F p.1 = some p.2 := fun p hp => lk_of hnd.1 hp
  refine ⟨⟨fun x => match lk F x with | some o => some o | none => G x, G.os, G.out⟩, ⟨fun b o hb => ?_, rfl, rfl⟩, fun p hp => ?_, ⟨fun b o hb => ?_, fun p hp => h.loc p (List.mem_append_right _ hp), fun p hp => ?_, hnd.2.1, h.os, h.out⟩, fun {L' w'} h' => ?_⟩
  · show (match lk F b with | some o => some o | none => G b) = some o
    rw [lk_none (fun p hp e => by have := hsepF p hp; rw [e, hb] at this; cases this)]; exact hb
  · show (match lk F p.1 with | some o => some o | none => G p.1) = some p.2
    rw [hmem p hp]
  · have hb : (match lk F b with | some o => some o | none => G b) = some o := hb
    cases hl : lk F b with
    | some o' => rw [hl] at hb; simp only [Option.some.injEq] at hb; subst hb; exact h.loc _ (List.mem_append_left _ (lk_mem hl))
    | none => rw [hl] at hb; exact h.imm b o hb
  · show (match lk F p.1 with | some o => some o | none => G p.1) = none
    rw [lk_none (fun q hq e => hnd.2.2 q.1 (List.mem_map.2 ⟨q, hq, rfl⟩) p.1 (List.mem_map.2 ⟨p, hp, rfl⟩) e)]
    exact h.sep p (List.mem_append_right _ hp)
  · have hG : ∀ b o, G b = some o → (match lk F b with | some o => some o | none => G b) = some o := fun b o hb => by
      rw [lk_none (fun p hp e => by have := hsepF p hp; rw [e, hb] at this; cases this)]; exact hb
    have hFs : ∀ p, p ∈ F → (match lk F p.1 with | some o => some o | none => G p.1) = some p.2 := fun p hp => by rw [hmem p hp]
    refine ⟨fun b o hb => h'.imm b o (hG b o hb), fun p hp => ?_, fun p hp => ?_, ?_, h'.os, h'.out⟩
    · rcases List.mem_append.1 hp with hp | hp
      · exact h'.imm _ _ (hFs p hp)
      · exact h'.loc p hp
    · rcases List.mem_append.1 hp with hp | hp
      · exact hsepF p hp
      · cases hg : G p.1 with
        | none => rfl
        | some o => have h1 : (match lk F p.1 with | some o => some o | none => G p.1) = none := h'.sep p hp; have h2 := hG _ _ hg; rw [h1] at h2; cases h2
    · rw [List.map_append, List.nodup_append]
      refine ⟨hnd.1, h'.nd, fun a ha b hb e => ?_⟩
      obtain ⟨p, hp, rfl⟩ := List.mem_map.1 ha
      obtain ⟨q, hq, rfl⟩ := List.mem_map.1 hb
      have h1 : (match lk F q.1 with | some o => some o | none => G q.1) = none := h'.sep q hq
      have h2 := hFs p hp
      rw [e, h1] at h2; cases h2

/-! ### trees of one's own -/
mutual
def OwnP : Value → T → LH → Prop
  | v, .mk k n ks, F => (ks = [] ∧ F = [] ∧ ∃ A c, v = .agg #[.int .i64 k, .int .i64 n, .slice A 0 c]) ∨
      ∃ b c cs F', F = (b, .cells (List.toArray cs) 24 (0, 0)) :: F' ∧ v = .agg #[.int .i64 k, .int .i64 n, .slice (some ⟨b, 0, none⟩) ks.length c] ∧ ks.length ≤ c ∧ OwnPs cs ks F'
def OwnPs : List Value → List T → LH → Prop
  | _, [], F => F = []
  | cs, t :: ts, F => ∃ v0 v1 v2 r F1 F2, cs = v0 :: v1 :: v2 :: r ∧ F = F1 ++ F2 ∧ OwnP (.agg #[v0, v1, v2]) t F1 ∧ OwnPs r ts F2
end
theorem OwnPs.app : ∀ {ts : List T} {cs us : List Value} {F : LH}, OwnPs cs ts F → OwnPs (cs ++ us) ts F
  | [], _, _, _, h => by unfold OwnPs at h ⊢; exact h
  | t :: ts, cs, us, F, h => by
    unfold OwnPs at h ⊢
    obtain ⟨v0, v1, v2, r, F1, F2, rfl, rfl, h1, h2⟩ := h
    exact ⟨v0, v1, v2, r ++ us, F1, F2, rfl, rfl, h1, OwnPs.app h2⟩
theorem OwnPs.snoc : ∀ {ts : List T} {cs : List Value} {F F' : LH} {a b c : Value} {t : T}, OwnPs cs ts F → cs.length = ts.length * 3 → OwnP (.agg #[a, b, c]) t F' → OwnPs (cs ++ [a, b, c]) (ts ++ [t]) (F ++ F')
  | [], cs, F, F', a, b, c, t, h, hl, h2 => by
    unfold OwnPs at h; subst h
    have : cs = [] := by simpa using hl
    subst this
    show OwnPs [a, b, c] [t] F'
    unfold OwnPs
    exact ⟨a, b, c, [], F', [], rfl, by simp, h2, by unfold OwnPs; rfl⟩
  | u :: ts, cs, F, F', a, b, c, t, h, hl, h2 => by
    unfold OwnPs at h
    obtain ⟨v0, v1, v2, r, F1, F2, rfl, rfl, h3, h4⟩ := h
    show OwnPs _ (u :: (ts ++ [t])) _
    unfold OwnPs
    exact ⟨v0, v1, v2, r ++ [a, b, c], F1, F2 ++ F', rfl, by simp, h3, OwnPs.snoc h4 (by simp at hl; omega) h2⟩
mutual
theorem OwnP.poly {G : GH} : ∀ {t : T} {v : Value} {F : LH}, OwnP v t F → (∀ p, p ∈ F → G p.1 = some p.2) → IsPoly G v t
  | .mk k n ks, v, F, h, hF => by
    unfold OwnP at h
    rcases h with ⟨rfl, rfl, A, c, rfl⟩ | ⟨b, c, cs, F', rfl, rfl, hc, h⟩
    · exact IsPoly.mk (t := .mk k n []) (Nat.zero_le _) IsPolys.nil
    · have hb := hF _ (.head _)
      exact IsPoly.mk (t := .mk k n ks) hc (OwnPs.polys (off := 0) h (fun p hp => hF p (.tail _ hp)) fun i u hi => GC.of hb (by rw [Nat.zero_add]; simpa using hi))
theorem OwnPs.polys {G : GH} {b : Nat} : ∀ {ts : List T} {cs : List Value} {F : LH} {off : Nat}, OwnPs cs ts F → (∀ p, p ∈ F → G p.1 = some p.2) → (∀ i u, cs[i]? = some u → GC G ⟨b, off + i, none⟩ u) → IsPolys G (some ⟨b, off, none⟩) ts
  | [], _, _, _, _, _, _ => IsPolys.nil
  | t :: ts, cs, F, off, h, hF, hc => by
    unfold OwnPs at h
    obtain ⟨v0, v1, v2, r, F1, F2, rfl, rfl, h1, h2⟩ := h
    unfold IsPolys
    exact ⟨b, off, v0, v1, v2, rfl, hc 0 v0 rfl, hc 1 v1 rfl, hc 2 v2 rfl, OwnP.poly h1 (fun p hp => hF p (List.mem_append_left _ hp)), OwnPs.polys h2 (fun p hp => hF p (List.mem_append_right _ hp)) fun i u hi => by
      have := hc (i + 3) u (by simpa using hi)
      rwa [show off + (i + 3) = off + 3 + i by omega] at this⟩
end
theorem OwnP.shape {v : Value} {t : T} {F : LH} (h : OwnP v t F) : ∃ A c, v = .agg #[.int .i64 t.kind, .int .i64 t.num, .slice A t.kids.length c] := by
  obtain ⟨k, n, ks⟩ := t
  unfold OwnP at h
  rcases h with ⟨rfl, rfl, A, c, rfl⟩ | ⟨b, c, cs, F', rfl, rfl, hc, h⟩
  · exact ⟨A, c, rfl⟩
  · exact ⟨_, c, rfl⟩
theorem OwnP.zero {A : Option Addr} {c : Nat} : OwnP (.agg #[.int .i64 0, .int .i64 0, .slice A 0 c]) t0 [] := by unfold t0 OwnP; exact .inl ⟨rfl, rfl, A, c, rfl⟩

/-- cells that begin as the cells of types -/
def PoH (G : GH) : List Value → List T → Prop
  | _, [] => True
  | v0 :: v1 :: v2 :: r, t :: l => IsPoly G (.agg #[v0, v1, v2]) t ∧ PoH G r l
  | _, _ => False
theorem PoH.open {G : GH} {us : List Value} {t : T} {l : List T} (h : PoH G us (t :: l)) : ∃ A c r, us = .int .i64 t.kind :: .int .i64 t.num :: .slice A t.kids.length c :: r ∧ IsPoly G (.agg #[.int .i64 t.kind, .int .i64 t.num, .slice A t.kids.length c]) t ∧ PoH G r l := by
  match us, h with
  | v0 :: v1 :: v2 :: r, h =>
    unfold PoH at h
    obtain ⟨A, c, he, _, _⟩ := id h.1.open
    simp only [Value.agg.injEq] at he
    have he := congrArg Array.toList he
    simp only [List.cons.injEq, and_true] at he
    obtain ⟨rfl, rfl, rfl⟩ := he
    exact ⟨A, c, r, rfl, h.1, h.2⟩
/-- the cells of a row of types that nobody writes -/
theorem IsPolys.src {G : GH} : ∀ {ks : List T} {b off : Nat}, IsPolys G (some ⟨b, off, none⟩) ks → ∃ news : List Value, news.length = ks.length * 3 ∧ (∀ sp, PoH G (news ++ sp) ks) ∧ (∀ j u, news[j]? = some u → GC G ⟨b, off + j, none⟩ u) ∧ (news.all (·.oneCell')) = true
  | [], b, off, _ => ⟨[], rfl, fun _ => by unfold PoH; trivial, fun j u h => by simp at h, rfl⟩
  | t :: ts, b, off, h => by
    unfold IsPolys at h
    obtain ⟨b', off', v0, v1, v2, he, h0, h1, h2, hp, hr⟩ := h
    cases he
    obtain ⟨news, hl, hP, hj, ho⟩ := IsPolys.src hr
    obtain ⟨A, c, he, _, _⟩ := id hp.open
    simp only [Value.agg.injEq] at he
    have he := congrArg Array.toList he
    simp only [List.cons.injEq, and_true] at he
    obtain ⟨rfl, rfl, rfl⟩ := he
    refine ⟨_ :: _ :: _ :: news, by simp only [List.length_cons, hl]; omega, fun sp => by simp only [List.cons_append]; unfold PoH; exact ⟨hp, hP sp⟩, fun j u hu => ?_, by simp only [List.all_cons, ho]; rfl⟩
    match j, hu with
    | 0, hu => simp at hu; subst hu; exact h0
    | 1, hu => simp at hu; subst hu; exact h1
    | 2, hu => simp at hu; subst hu; exact h2
    | j + 3, hu =>
      have := hj j u (by simpa using hu)
      rwa [show off + 3 + j = off + (j + 3) by omega] at this

theorem wr3 (vs : List Value) {x0 x1 x2 a b c : Value} {r : List Value} {n : Nat} (h : vs.length = n) : wr (vs ++ x0 :: x1 :: x2 :: r) [(n, a), (n + 1, b), (n + 2, c)] = (vs ++ [a, b, c]) ++ r := by
  subst h
  simp only [wr]
  rw [List.set_append_right _ _ (Nat.le_refl _), List.set_append_right _ _ (by omega), List.set_append_right _ _ (by omega)]
  simp
section
variable {P : Program} {ops : Array Oper} {K : Env → World → Prop} {rest : List (Mv × Nat)} {S : World → Prop} {ρ : Env} {w : World} {i : Nat} {G : GH} {L : LH}
/-- an effect that only gives a value -/
theorem m_pv (x : Value) (d : Option Nat) (h : opK ops i ρ (pv P) = some (.value x, d)) (hst : St G L w) (hk : RunD P ops K rest (SS G L) (updo ρ d x) w) : RunD P ops K ((.f, i) :: rest) S ρ w :=
  m_f _ d h fun _ hx => OpE_ok (pv_ok hx w) (nx hst hk)
end
end Go.Proofs.Ytjgnhhgigickaaa.Wk
/- Walks of the given program's functions: Clone, opened. Printed by tools/w40.py. Conditions: none. -/

namespace Go.Proofs.Ytjgnhhgigickaaa.Wk
open Go Md
set_option maxRecDepth 20000
set_option linter.unusedVariables false
set_option linter.unusedSimpArgs false
attribute [local irreducible] endQ

theorem opened_eq (f : Nat) (t wth : T) (n : Int) : Md.opened (f + 1) t wth n = if t.kind = 1 ∧ t.num = n then Md.opened f wth wth (-1) else (t.kids.mapM fun u => Md.opened f u wth (if t.kind = 4 ∧ n ≥ 0 then w64 (n + 1) else n)).bind fun ks' => some (.mk t.kind t.num ks') := by cases t; rfl
theorem in3 (vs r : List Value) {x0 x1 x2 a b c : Value} {n : Nat} (h : vs.length = n) : ([(n, a), (n + 1, b), (n + 2, c)].all fun (p : Nat × Value) => decide (p.1 < (vs ++ x0 :: x1 :: x2 :: r).length) && !(decide (0 ≤ p.1) && decide (p.1 < 0))) = true := by
 subst h; simp
theorem at0 (vs r : List Value) {x0 x1 x2 : Value} {n : Nat} (h : vs.length = n) : (List.toArray (vs ++ x0 :: x1 :: x2 :: r))[n]? = some x0 := by subst h; simp
theorem at1 (vs r : List Value) {x0 x1 x2 : Value} {n : Nat} (h : vs.length = n) : (List.toArray (vs ++ x0 :: x1 :: x2 :: r))[n + 1]? = some x1 := by
 subst h; simp only [List.getElem?_toArray]; rw [List.getElem?_append_right (by omega), show vs.length + 1 - vs.length = 1 by omega]; rfl
theorem at2 (vs r : List Value) {x0 x1 x2 : Value} {n : Nat} (h : vs.length = n) : (List.toArray (vs ++ x0 :: x1 :: x2 :: r))[n + 2]? = some x2 := by
 subst h; simp only [List.getElem?_toArray]; rw [List.getElem?_append_right (by omega), show vs.length + 2 - vs.length = 2 by omega]; rfl

theorem c113 {G : GH} {L : LH} {w : World} {A : Option Addr} {c : Nat} {ks : List T} (hk : IsPolys G A ks) (hl : ks.length < lim) (hst : St G L w) : Cal Try.prog 113 #[.slice A ks.length c] w fun x w' => ∃ A' c' F, x = .slice A' ks.length c' ∧ ks.length ≤ c' ∧ St G (F ++ L) w' ∧
  ((ks = [] ∧ F = []) ∨ ∃ b cs, A' = some ⟨b, 0, none⟩ ∧ F = [(b, .cells (List.toArray cs) 24 (0, 0))] ∧ PoH G cs ks) := by
 have hlim : lim = 1099511627776 := rfl
 obtain _ | ⟨t, ts⟩ := ks
 ·obtain _ | a := A
  ·skip
   refine cal_of_W Try.func113 rfl (Nat.le_of_ble_eq_true (by kernel_rfl)) ?_
   refine W_seq ?_
   refine W_rg [(.p, 0)] hst ?_
   refine r_en [] [] [(2, .slice none 0 0)] rc_nil ?_
   refine W_seq ?_
   refine W_seq ?_
   refine W_rg [(.p, 0), (.p, 1)] hst ?_
   refine r_en [] [] [(3, .slice none 0 c), (4, .bool true)] rc_nil ?_
   refine W_cT ?_
   refine W_seq ?_
   refine W_rg [(.p, 0)] hst ?_
   refine r_en [] [] [(2, .slice none 0 0)] rc_nil ?_
   refine W_ret ?_
   refine q_rt [] [] (.slice none 0 0) rc_nil hst ?_
   exact ⟨_, _, [], rfl, Nat.zero_le _, hst, .inl ⟨rfl, rfl⟩⟩
  ·skip
   refine cal_of_W Try.func113 rfl (Nat.le_of_ble_eq_true (by kernel_rfl)) ?_
   refine W_seq ?_
   refine W_rg [(.p, 0)] hst ?_
   refine r_en [] [] [(2, .slice none 0 0)] rc_nil ?_
   refine W_seq ?_
   refine W_seq ?_
   refine W_rg [(.p, 0), (.p, 1)] hst ?_
   refine r_en [] [] [(3, .slice ((some a)) 0 c), (4, .bool false)] rc_nil ?_
   refine W_cF ?_
   refine W_skip ?_
   refine W_seq ?_
   refine W_rg [(.f, 0), (.p, 1), (.f, 2), (.p, 3)] hst ?_
   refine m_new (.cells #[] 24) (fun b1 => .slice (some ⟨b1, 0, none⟩) 0 0) (some 5) (fun b => by kernel_rfl) hst (fun b1 w1 hst => ?_)
   refine r_sg [(.p, 1)] [] [] [(6, .slice ((some a)) 0 c)] rc_nil ?_
   refine m_pv (.slice (some ⟨b1, 0, none⟩) 0 0) (some 7) (by kernel_rfl) hst ?_
   refine r_en [] [] [(2, .slice (some ⟨b1, 0, none⟩) 0 0)] rc_nil ?_
   refine W_ret ?_
   refine q_rt [] [] (.slice (some ⟨b1, 0, none⟩) 0 0) rc_nil hst ?_
   exact ⟨_, _, [], rfl, Nat.zero_le _, hst.drop [_], .inl ⟨rfl, rfl⟩⟩
 ·skip
  have hstk := hst
  obtain ⟨eb, eo, _, _, rfl, _⟩ := hk.elem (i := 0) (t := t) rfl
  have hst := hstk; clear hstk
  obtain ⟨news, hnl, hnP, hnj, hno⟩ := hk.src
  refine cal_of_W Try.func113 rfl (Nat.le_of_ble_eq_true (by kernel_rfl)) ?_
  refine W_seq ?_
  refine W_rg [(.p, 0)] hst ?_
  refine r_en [] [] [(2, .slice none 0 0)] rc_nil ?_
  refine W_seq ?_
  refine W_seq ?_
  refine W_rg [(.p, 0), (.p, 1)] hst ?_
  refine r_en [] [] [(3, .slice (some ⟨eb, eo, none⟩) ((t :: ts).length) c), (4, .bool false)] rc_nil ?_
  refine W_cF ?_
  refine W_skip ?_
  refine W_seq ?_
  refine W_rg [(.f, 0), (.p, 1), (.f, 2), (.p, 3)] hst ?_
  refine m_new (.cells #[] 24) (fun b1 => .slice (some ⟨b1, 0, none⟩) 0 0) (some 5) (fun b => by kernel_rfl) hst (fun b1 w1 hst => ?_)
  refine r_sg [(.p, 1)] [] [] [(6, .slice (some ⟨eb, eo, none⟩) ((t :: ts).length) c)] rc_nil ?_
  refine m_append (v := .slice (some ⟨b1, 0, none⟩) 0 0) (sb := eb) (so := eo) (m := (t :: ts).length) (mc := c) el22 [] (Lp := [(b1, .cells (List.toArray []) 24 (0, 0))]) (B := L) (n := 0) (cs := []) news (d := (some 7)) (show opAt _ _ _ = some (.call { callee := .builtin .append, args := #[(.tmp 5), (.tmp 6)], argTypes := #[22, 22] }, _) by kernel_rfl) (by kernel_rfl) (by kernel_rfl) ⟨rfl, .inr ⟨b1, 0, [], rfl, rfl, Nat.le_refl _, rfl, rfl⟩⟩ hst hnl (fun j u hu => (hnj j u hu).cell hst.imm) hno (Nat.succ_pos _) (by omega) (by omega) (fun v2 Lp2 w1 hos hst => ?_)
  obtain ⟨hcl, ⟨_, h0, _⟩ | ⟨nb, nc, arr, rfl, rfl, hnc, harr, htk⟩⟩ := hos
  ·simp at h0
  refine r_en [] [] [(2, .slice (some ⟨nb, 0, none⟩) (0 + (t :: ts).length) nc)] rc_nil ?_
  refine W_ret ?_
  refine q_rt [] [] (.slice (some ⟨nb, 0, none⟩) (0 + (t :: ts).length) nc) rc_nil hst ?_
  refine ⟨some ⟨nb, 0, none⟩, nc, _, by rw [Nat.zero_add], by omega, hst, .inr ⟨nb, arr, rfl, rfl, ?_⟩⟩
  have := hnP (arr.drop ((0 + (t :: ts).length) * 3))
  rw [List.nil_append] at htk; rw [← htk, List.take_append_drop] at this; exact this

theorem c77 : ∀ (f : Nat) {G : GH} {L : LH} {w : World} {v vw : Value} {t wth r : T} {n : Int}, IsPoly G v t → IsPoly G vw wth → T.sz t < lim → T.sz wth < lim → Md.opened f t wth n = some r → St G L w → Cal Try.prog 77 #[v, vw, .int .i64 n] w fun x w' => ∃ F, OwnP x r F ∧ St G (F ++ L) w' := by
 intro f
 induction f with
 | zero => intro G L w v vw t wth r n hv hvw hz hzw h; cases h
 | succ f ih =>
 intro G L w v vw t wth r n hv hvw hz hzw h hst
 have hlim : lim = 1099511627776 := rfl
 have hln := T.len_le t
 rw [opened_eq] at h
 obtain ⟨tA, tc, rfl, htc, htk⟩ := id hv.open
 obtain ⟨wthA, wthc, rfl, hwthc, hwthk⟩ := id hvw.open
 refine cal_of_W Try.func77 rfl (Nat.le_of_ble_eq_true (by kernel_rfl)) ?_
 refine W_seq ?_
 refine W_rg [(.f, 0), (.f, 1), (.f, 2)] hst ?_
 refine m_new (.cells #[iN t.kind, iN t.num, .slice tA t.kids.length tc] 24) (fun b1 => pN b1 0) (some 3) (fun b => by kernel_rfl) hst (fun b1 w1 hst => ?_)
 refine m_new (.cells #[iN wth.kind, iN wth.num, .slice wthA wth.kids.length wthc] 24) (fun b2 => pN b2 0) (some 4) (fun b => by kernel_rfl) hst (fun b2 w1 hst => ?_)
 refine m_new (.cells #[iN 0, iN 0, .slice none 0 0] 24) (fun b3 => pN b3 0) (some 6) (fun b => by kernel_rfl) hst (fun b3 w1 hst => ?_)
 refine r_nil ?_
 refine W_seqI (fun ρ D w => ∃ (nj : Int), EqS ρ [(2, iN nj), (3, pN b1 0), (4, pN b2 0), (6, pN b3 0)] ∧ D = [] ∧ St G ((b3, .cells #[iN 0, iN 0, .slice none 0 0] 24) :: (b2, .cells #[iN wth.kind, iN wth.num, .slice wthA wth.kids.length wthc] 24) :: (b1, .cells #[iN t.kind, iN t.num, .slice tA t.kids.length tc] 24) :: L) w ∧ (nj = if t.kind = 4 ∧ n ≥ 0 then w64 (n + 1) else n) ∧ (¬ (t.kind = 1 ∧ t.num = n))) ?_ ?_
 ·skip
  refine W_block ?_
  refine W_seq ?_
  refine W_rg [(.p, 0), (.l, 1), (.p, 2), (.p, 3), (.p, 4), (.l, 5), (.p, 6), (.p, 7), (.p, 8), (.p, 9)] hst ?_
  refine r_sg [(.p, 0), (.l, 1), (.p, 2), (.p, 3)] [[iN t.kind]] [(⟨b1, 0, none⟩, iN t.kind)] [(10, pN b1 0), (11, iN t.kind), (12, .bool (t.kind == 1)), (13, .bool (t.kind == 1))] (rc_L 2 rfl rfl rc_nil) ?_
  rcases Bool.eq_false_or_eq_true (t.kind == 1) with hc4 | hc4
  ·rw [hc4]
   have hp5 := hc4
   simp only [decide_eq_true_eq, decide_eq_false_iff_not, beq_iff_eq, beq_eq_false_iff_ne, bne_iff_ne, bne_eq_false_iff_eq, Bool.not_eq_true', Bool.not_eq_false', Bool.and_eq_true, Bool.and_eq_false_iff, ne_eq] at hp5
   refine r_en [[iN t.num]] [(⟨b1, 1, none⟩, iN t.num)] [(14, pN b1 1), (15, iN t.num), (16, iN n), (17, .bool (t.num == n)), (18, .bool (t.num == n)), (9, .bool (t.num == n))] (rc_L 2 rfl rfl rc_nil) ?_
   refine W_cd (b := t.num == n) (fun hc6 => ?_) (fun hc6 => ?_)
   ·skip
    have hp7 := hc6
    simp only [decide_eq_true_eq, decide_eq_false_iff_not, beq_iff_eq, beq_eq_false_iff_ne, bne_iff_ne, bne_eq_false_iff_eq, Bool.not_eq_true', Bool.not_eq_false', Bool.and_eq_true, Bool.and_eq_false_iff, ne_eq] at hp7
    rw [if_pos ⟨by assumption, by assumption⟩] at h
    refine W_seq ?_
    refine W_rg [(.l, 0), (.l, 1), (.f, 2), (.f, 3)] hst ?_
    refine r_sg [(.l, 0), (.l, 1)] [[iN wth.kind, iN wth.num, .slice wthA wth.kids.length wthc], [iN wth.kind, iN wth.num, .slice wthA wth.kids.length wthc]] [(⟨b2, 0, none⟩, iN wth.kind), (⟨b2, 1, none⟩, iN wth.num), (⟨b2, 2, none⟩, .slice wthA wth.kids.length wthc), (⟨b2, 0, none⟩, iN wth.kind), (⟨b2, 1, none⟩, iN wth.num), (⟨b2, 2, none⟩, .slice wthA wth.kids.length wthc)] [(19, .agg #[iN wth.kind, iN wth.num, .slice wthA wth.kids.length wthc]), (20, .agg #[iN wth.kind, iN wth.num, .slice wthA wth.kids.length wthc])] (rc_L 1 rfl rfl (rc_L 1 rfl rfl (rc_L 1 rfl rfl (rc_L 1 rfl rfl (rc_L 1 rfl rfl (rc_L 1 rfl rfl rc_nil)))))) ?_
    refine m_cl #[.agg #[iN wth.kind, iN wth.num, .slice wthA wth.kids.length wthc], .agg #[iN wth.kind, iN wth.num, .slice wthA wth.kids.length wthc], iN (-1)] (some 21) (ih hvw hvw hzw hzw h hst) ?_
    rintro x0 w1 ⟨Fr, hxo, hst⟩
    have hst := St.swap (A := Fr) (B := [(b3, .cells #[iN 0, iN 0, .slice none 0 0] 24), (b2, .cells #[iN wth.kind, iN wth.num, .slice wthA wth.kids.length wthc] 24), (b1, .cells #[iN t.kind, iN t.num, .slice tA t.kids.length tc] 24)]) (C := L) (by simpa [List.append_assoc] using hst)
    have hst : St G ((b3, .cells #[iN 0, iN 0, .slice none 0 0] 24) :: (b2, .cells #[iN wth.kind, iN wth.num, .slice wthA wth.kids.length wthc] 24) :: (b1, .cells #[iN t.kind, iN t.num, .slice tA t.kids.length tc] 24) :: (Fr ++ L)) w1 := by simpa [List.append_assoc] using hst
    obtain ⟨xA, xc, rfl⟩ := hxo.shape
    refine nx hst ?_
    refine m_st ((b3, .cells #[iN r.kind, iN r.num, .slice xA r.kids.length xc] 24) :: (b2, .cells #[iN wth.kind, iN wth.num, .slice wthA wth.kids.length wthc] 24) :: (b1, .cells #[iN t.kind, iN t.num, .slice tA t.kids.length tc] 24) :: (Fr ++ L)) 0 [(0, iN r.kind), (1, iN r.num), (2, .slice xA r.kids.length xc)] [iN r.kind, iN r.num, .slice xA r.kids.length xc] none hst (fun w1 hst => ?_)
    refine r_nil ?_
    refine W_ret ?_
    refine q_rt [iN r.kind, iN r.num, .slice xA r.kids.length xc] [(⟨b3, 0, none⟩, iN r.kind), (⟨b3, 1, none⟩, iN r.num), (⟨b3, 2, none⟩, .slice xA r.kids.length xc)] (.agg #[iN r.kind, iN r.num, .slice xA r.kids.length xc]) (rc_L 0 rfl rfl (rc_L 0 rfl rfl (rc_L 0 rfl rfl rc_nil))) hst ?_
    exact ⟨Fr, hxo, hst.drop [_, _, _]⟩
   ·skip
    have hp8 := hc6
    simp only [decide_eq_true_eq, decide_eq_false_iff_not, beq_iff_eq, beq_eq_false_iff_ne, bne_iff_ne, bne_eq_false_iff_eq, Bool.not_eq_true', Bool.not_eq_false', Bool.and_eq_true, Bool.and_eq_false_iff, ne_eq] at hp8
    refine W_seq ?_
    refine W_rg [(.p, 0), (.l, 1), (.p, 2), (.p, 3), (.p, 4), (.p, 5), (.p, 6), (.p, 7)] hst ?_
    refine r_sg [(.p, 0), (.l, 1), (.p, 2), (.p, 3)] [[iN t.kind]] [(⟨b1, 0, none⟩, iN t.kind)] [(23, pN b1 0), (24, iN t.kind), (25, .bool (t.kind == 4)), (26, .bool (t.kind == 4))] (rc_L 2 rfl rfl rc_nil) ?_
    rcases Bool.eq_false_or_eq_true (t.kind == 4) with hc9 | hc9
    ·rw [hc9]
     have hp10 := hc9
     simp only [decide_eq_true_eq, decide_eq_false_iff_not, beq_iff_eq, beq_eq_false_iff_ne, bne_iff_ne, bne_eq_false_iff_eq, Bool.not_eq_true', Bool.not_eq_false', Bool.and_eq_true, Bool.and_eq_false_iff, ne_eq] at hp10
     refine r_en [] [] [(27, iN n), (28, .bool (decide (n ≥ 0))), (29, .bool (decide (n ≥ 0))), (22, .bool (decide (n ≥ 0)))] rc_nil ?_
     refine W_cd (b := decide (n ≥ 0)) (fun hc11 => ?_) (fun hc11 => ?_)
     ·skip
      have hp12 := hc11
      simp only [decide_eq_true_eq, decide_eq_false_iff_not, beq_iff_eq, beq_eq_false_iff_ne, bne_iff_ne, bne_eq_false_iff_eq, Bool.not_eq_true', Bool.not_eq_false', Bool.and_eq_true, Bool.and_eq_false_iff, ne_eq] at hp12
      refine W_rg [(.p, 0), (.p, 1), (.p, 2)] hst ?_
      refine r_en [] [] [(30, iN n), (31, iN (IntKind.wrap .i64 (n + 1))), (2, iN (IntKind.wrap .i64 (n + 1)))] rc_nil ?_
      exact ⟨IntKind.wrap .i64 (n + 1), ⟨by kernel_rfl, by kernel_rfl, by kernel_rfl, by kernel_rfl, trivial⟩, rfl, hst, (by rw [if_pos (by omega)] <;> rfl), (by omega)⟩
     ·skip
      have hp13 := hc11
      simp only [decide_eq_true_eq, decide_eq_false_iff_not, beq_iff_eq, beq_eq_false_iff_ne, bne_iff_ne, bne_eq_false_iff_eq, Bool.not_eq_true', Bool.not_eq_false', Bool.and_eq_true, Bool.and_eq_false_iff, ne_eq] at hp13
      refine W_skip ?_
      exact ⟨n, ⟨by kernel_rfl, by kernel_rfl, by kernel_rfl, by kernel_rfl, trivial⟩, rfl, hst, (by first | rw [if_pos (by omega)] <;> rfl | rw [if_neg (by omega)]), (by omega)⟩
    ·rw [hc9]
     have hp14 := hc9
     simp only [decide_eq_true_eq, decide_eq_false_iff_not, beq_iff_eq, beq_eq_false_iff_ne, bne_iff_ne, bne_eq_false_iff_eq, Bool.not_eq_true', Bool.not_eq_false', Bool.and_eq_true, Bool.and_eq_false_iff, ne_eq] at hp14
     refine r_en [] [] [(27, undef), (28, undef), (29, .bool false), (22, .bool false)] rc_nil ?_
     refine W_cF ?_
     refine W_skip ?_
     exact ⟨n, ⟨by kernel_rfl, by kernel_rfl, by kernel_rfl, by kernel_rfl, trivial⟩, rfl, hst, (by first | rw [if_pos (by omega)] <;> rfl | rw [if_neg (by omega)]), (by omega)⟩
  ·rw [hc4]
   have hp15 := hc4
   simp only [decide_eq_true_eq, decide_eq_false_iff_not, beq_iff_eq, beq_eq_false_iff_ne, bne_iff_ne, bne_eq_false_iff_eq, Bool.not_eq_true', Bool.not_eq_false', Bool.and_eq_true, Bool.and_eq_false_iff, ne_eq] at hp15
   refine r_en [] [] [(14, undef), (15, undef), (16, undef), (17, undef), (18, .bool false), (9, .bool false)] rc_nil ?_
   refine W_cF ?_
   refine W_seq ?_
   refine W_rg [(.p, 0), (.l, 1), (.p, 2), (.p, 3), (.p, 4), (.p, 5), (.p, 6), (.p, 7)] hst ?_
   refine r_sg [(.p, 0), (.l, 1), (.p, 2), (.p, 3)] [[iN t.kind]] [(⟨b1, 0, none⟩, iN t.kind)] [(23, pN b1 0), (24, iN t.kind), (25, .bool (t.kind == 4)), (26, .bool (t.kind == 4))] (rc_L 2 rfl rfl rc_nil) ?_
   rcases Bool.eq_false_or_eq_true (t.kind == 4) with hc16 | hc16
   ·rw [hc16]
    have hp17 := hc16
    simp only [decide_eq_true_eq, decide_eq_false_iff_not, beq_iff_eq, beq_eq_false_iff_ne, bne_iff_ne, bne_eq_false_iff_eq, Bool.not_eq_true', Bool.not_eq_false', Bool.and_eq_true, Bool.and_eq_false_iff, ne_eq] at hp17
    refine r_en [] [] [(27, iN n), (28, .bool (decide (n ≥ 0))), (29, .bool (decide (n ≥ 0))), (22, .bool (decide (n ≥ 0)))] rc_nil ?_
    refine W_cd (b := decide (n ≥ 0)) (fun hc18 => ?_) (fun hc18 => ?_)
    ·skip
     have hp19 := hc18
     simp only [decide_eq_true_eq, decide_eq_false_iff_not, beq_iff_eq, beq_eq_false_iff_ne, bne_iff_ne, bne_eq_false_iff_eq, Bool.not_eq_true', Bool.not_eq_false', Bool.and_eq_true, Bool.and_eq_false_iff, ne_eq] at hp19
     refine W_rg [(.p, 0), (.p, 1), (.p, 2)] hst ?_
     refine r_en [] [] [(30, iN n), (31, iN (IntKind.wrap .i64 (n + 1))), (2, iN (IntKind.wrap .i64 (n + 1)))] rc_nil ?_
     exact ⟨IntKind.wrap .i64 (n + 1), ⟨by kernel_rfl, by kernel_rfl, by kernel_rfl, by kernel_rfl, trivial⟩, rfl, hst, (by rw [if_pos (by omega)] <;> rfl), (by omega)⟩
    ·skip
     have hp20 := hc18
     simp only [decide_eq_true_eq, decide_eq_false_iff_not, beq_iff_eq, beq_eq_false_iff_ne, bne_iff_ne, bne_eq_false_iff_eq, Bool.not_eq_true', Bool.not_eq_false', Bool.and_eq_true, Bool.and_eq_false_iff, ne_eq] at hp20
     refine W_skip ?_
     exact ⟨n, ⟨by kernel_rfl, by kernel_rfl, by kernel_rfl, by kernel_rfl, trivial⟩, rfl, hst, (by first | rw [if_pos (by omega)] <;> rfl | rw [if_neg (by omega)]), (by omega)⟩
   ·rw [hc16]
    have hp21 := hc16
    simp only [decide_eq_true_eq, decide_eq_false_iff_not, beq_iff_eq, beq_eq_false_iff_ne, bne_iff_ne, bne_eq_false_iff_eq, Bool.not_eq_true', Bool.not_eq_false', Bool.and_eq_true, Bool.and_eq_false_iff, ne_eq] at hp21
    refine r_en [] [] [(27, undef), (28, undef), (29, .bool false), (22, .bool false)] rc_nil ?_
    refine W_cF ?_
    refine W_skip ?_
    exact ⟨n, ⟨by kernel_rfl, by kernel_rfl, by kernel_rfl, by kernel_rfl, trivial⟩, rfl, hst, (by first | rw [if_pos (by omega)] <;> rfl | rw [if_neg (by omega)]), (by omega)⟩
 clear hst; rintro ρ D w1 ⟨nj, hE22, rfl, hst, hnj, hn1⟩
 refine W_env hE22 ?_
 refine W_seq ?_
 rw [if_neg hn1, ← hnj] at h
 obtain ⟨us, hus, h⟩ := Option.bind_eq_some_iff.1 h; simp only [Option.some.injEq] at h; subst h
 obtain ⟨hul, hug⟩ := mapM_get hus
 refine W_rg [(.p, 0), (.l, 1), (.f, 2), (.p, 3), (.f, 4)] hst ?_
 refine r_sg [(.p, 0), (.l, 1)] [[.slice tA t.kids.length tc]] [(⟨b1, 2, none⟩, .slice tA t.kids.length tc)] [(32, pN b1 2), (33, .slice tA t.kids.length tc)] (rc_L 2 rfl rfl rc_nil) ?_
 refine m_cl #[.slice tA t.kids.length tc] (some 34) (c113 htk (by omega) hst) ?_
 rintro _ w1 ⟨nA, nc, F, rfl, hnc, hst, ⟨hk0, rfl⟩ | ⟨cb, cs, rfl, rfl, hpc⟩⟩
 ·skip
  have hst : St G ((b3, .cells #[iN 0, iN 0, .slice none 0 0] 24) :: (b2, .cells #[iN wth.kind, iN wth.num, .slice wthA wth.kids.length wthc] 24) :: (b1, .cells #[iN t.kind, iN t.num, .slice tA t.kids.length tc] 24) :: L) w1 := hst
  refine nx hst ?_
  refine r_sg [(.p, 3)] [] [] [(35, pN b1 2)] rc_nil ?_
  refine m_st ((b3, .cells #[iN 0, iN 0, .slice none 0 0] 24) :: (b2, .cells #[iN wth.kind, iN wth.num, .slice wthA wth.kids.length wthc] 24) :: (b1, .cells #[iN t.kind, iN t.num, .slice nA t.kids.length nc] 24) :: L) 2 [(2, .slice nA t.kids.length nc)] [iN t.kind, iN t.num, .slice nA t.kids.length nc] none hst (fun w1 hst => ?_)
  refine r_nil ?_
  refine W_seq ?_
  refine W_seq ?_
  refine W_rg [(.p, 0), (.l, 1), (.p, 2), (.p, 3)] hst ?_
  refine r_en [[.slice nA t.kids.length nc]] [(⟨b1, 2, none⟩, .slice nA t.kids.length nc)] [(36, pN b1 2), (37, .slice nA t.kids.length nc), (38, iN (((t.kids.length : Nat) : Int))), (39, iN 0)] (rc_L 2 rfl rfl rc_nil) ?_
  refine W_block ?_
  refine W_loop (fun m ρ D w => ∃ (u0 : Unit), EqS ρ [(3, pN b1 0), (4, pN b2 0), (6, pN b3 0), (37, .slice nA t.kids.length nc), (38, iN (((t.kids.length : Nat) : Int))), (39, iN 0)] ∧ D = [] ∧ St G ((b3, .cells #[iN 0, iN 0, .slice none 0 0] 24) :: (b2, .cells #[iN wth.kind, iN wth.num, .slice wthA wth.kids.length wthc] 24) :: (b1, .cells #[iN t.kind, iN t.num, .slice nA t.kids.length nc] 24) :: L) w ∧ 0 = m) (0) ⟨(), ⟨by kernel_rfl, by kernel_rfl, by kernel_rfl, by kernel_rfl, by kernel_rfl, by kernel_rfl, trivial⟩, rfl, hst, rfl⟩ ?_
  clear hst; rintro m23 ρ D w1 ⟨u0, hE24, rfl, hst, hm25⟩
  refine W_env hE24 ?_
  refine W_seq ?_
  refine W_rg [(.p, 0)] hst ?_
  refine r_en [] [] [(40, .bool (decide ((0 : Int) < (((t.kids.length : Nat) : Int)))))] rc_nil ?_
  refine W_seq ?_
  have hd26 : (decide ((0 : Int) < (((t.kids.length : Nat) : Int)))) = false := (by rw [hk0]; rfl)
  refine W_condF (by refine Eq.trans (b := .bool (decide ((0 : Int) < (((t.kids.length : Nat) : Int))))) ?_ (congrArg Value.bool hd26); kernel_rfl) ?_
  refine W_exit ?_
  refine W_seq ?_
  refine W_rg [(.l, 0), (.f, 1)] hst ?_
  refine r_sg [(.l, 0)] [[iN t.kind, iN t.num, .slice nA t.kids.length nc]] [(⟨b1, 0, none⟩, iN t.kind), (⟨b1, 1, none⟩, iN t.num), (⟨b1, 2, none⟩, .slice nA t.kids.length nc)] [(53, .agg #[iN t.kind, iN t.num, .slice nA t.kids.length nc])] (rc_L 2 rfl rfl (rc_L 2 rfl rfl (rc_L 2 rfl rfl rc_nil))) ?_
  refine m_st ((b3, .cells #[iN t.kind, iN t.num, .slice nA t.kids.length nc] 24) :: (b2, .cells #[iN wth.kind, iN wth.num, .slice wthA wth.kids.length wthc] 24) :: (b1, .cells #[iN t.kind, iN t.num, .slice nA t.kids.length nc] 24) :: L) 0 [(0, iN t.kind), (1, iN t.num), (2, .slice nA t.kids.length nc)] [iN t.kind, iN t.num, .slice nA t.kids.length nc] none hst (fun w1 hst => ?_)
  refine r_nil ?_
  refine W_ret ?_
  refine q_rt [iN t.kind, iN t.num, .slice nA t.kids.length nc] [(⟨b3, 0, none⟩, iN t.kind), (⟨b3, 1, none⟩, iN t.num), (⟨b3, 2, none⟩, .slice nA t.kids.length nc)] (.agg #[iN t.kind, iN t.num, .slice nA t.kids.length nc]) (rc_L 0 rfl rfl (rc_L 0 rfl rfl (rc_L 0 rfl rfl rc_nil))) hst ?_
  have hu0 : us = [] := by rw [hk0] at hul; simpa using hul
  subst hu0; refine ⟨[], ?_, hst.drop [_, _, _]⟩
  unfold OwnP; exact .inl ⟨rfl, rfl, nA, nc, by rw [hk0]; rfl⟩
 ·skip
  have hst : St G ((cb, .cells (List.toArray cs) 24 (0, 0)) :: (b3, .cells #[iN 0, iN 0, .slice none 0 0] 24) :: (b2, .cells #[iN wth.kind, iN wth.num, .slice wthA wth.kids.length wthc] 24) :: (b1, .cells #[iN t.kind, iN t.num, .slice tA t.kids.length tc] 24) :: L) w1 := hst
  refine nx hst ?_
  refine r_sg [(.p, 3)] [] [] [(35, pN b1 2)] rc_nil ?_
  refine m_st ((cb, .cells (List.toArray cs) 24 (0, 0)) :: (b3, .cells #[iN 0, iN 0, .slice none 0 0] 24) :: (b2, .cells #[iN wth.kind, iN wth.num, .slice wthA wth.kids.length wthc] 24) :: (b1, .cells #[iN t.kind, iN t.num, .slice (some ⟨cb, 0, none⟩) t.kids.length nc] 24) :: L) 3 [(2, .slice (some ⟨cb, 0, none⟩) t.kids.length nc)] [iN t.kind, iN t.num, .slice (some ⟨cb, 0, none⟩) t.kids.length nc] none hst (fun w1 hst => ?_)
  refine r_nil ?_
  refine W_seq ?_
  refine W_seq ?_
  refine W_rg [(.p, 0), (.l, 1), (.p, 2), (.p, 3)] hst ?_
  refine r_en [[.slice (some ⟨cb, 0, none⟩) t.kids.length nc]] [(⟨b1, 2, none⟩, .slice (some ⟨cb, 0, none⟩) t.kids.length nc)] [(36, pN b1 2), (37, .slice (some ⟨cb, 0, none⟩) t.kids.length nc), (38, iN (((t.kids.length : Nat) : Int))), (39, iN 0)] (rc_L 3 rfl rfl rc_nil) ?_
  refine W_block ?_
  have hst := St.swap (A := [(cb, .cells (List.toArray cs) 24 (0, 0))]) (B := [(b3, .cells #[iN 0, iN 0, .slice none 0 0] 24), (b2, .cells #[iN wth.kind, iN wth.num, .slice wthA wth.kids.length wthc] 24), (b1, .cells #[iN t.kind, iN t.num, .slice (some ⟨cb, 0, none⟩) t.kids.length nc] 24)]) hst
  refine W_loop (fun m ρ D w => ∃ (k : Nat) (vs : List Value) (us2 : List Value) (Fk : LH), EqS ρ [(2, iN nj), (3, pN b1 0), (4, pN b2 0), (6, pN b3 0), (37, .slice (some ⟨cb, 0, none⟩) t.kids.length nc), (38, iN (((t.kids.length : Nat) : Int))), (39, iN (((k : Nat) : Int)))] ∧ D = [] ∧ St G ((b3, .cells #[iN 0, iN 0, .slice none 0 0] 24) :: (b2, .cells #[iN wth.kind, iN wth.num, .slice wthA wth.kids.length wthc] 24) :: (b1, .cells #[iN t.kind, iN t.num, .slice (some ⟨cb, 0, none⟩) t.kids.length nc] 24) :: (cb, .cells (List.toArray (vs ++ us2)) 24 (0, 0)) :: (Fk ++ L)) w ∧ (vs.length = 0 + k * 3) ∧ (PoH G us2 (t.kids.drop k)) ∧ (OwnPs vs (us.take k) Fk) ∧ (k ≤ t.kids.length) ∧ t.kids.length - k = m) (t.kids.length - 0) ⟨0, [], cs, [], ⟨by kernel_rfl, by kernel_rfl, by kernel_rfl, by kernel_rfl, by kernel_rfl, by kernel_rfl, by kernel_rfl, trivial⟩, rfl, hst, rfl, hpc, (by unfold OwnPs; rfl), Nat.zero_le _, rfl⟩ ?_
  clear hst; rintro m27 ρ D w1 ⟨k, vs, us2, Fk, hE28, rfl, hst, hvl, hpo, how, hkk, hm29⟩
  refine W_env hE28 ?_
  refine W_seq ?_
  refine W_rg [(.p, 0)] hst ?_
  refine r_en [] [] [(40, .bool (decide ((((k : Nat) : Int)) < (((t.kids.length : Nat) : Int)))))] rc_nil ?_
  refine W_seq ?_
  refine W_cd (b := decide ((((k : Nat) : Int)) < (((t.kids.length : Nat) : Int)))) (fun hc30 => ?_) (fun hc30 => ?_)
  ·skip
   have hlt : k < t.kids.length := by have := of_decide_eq_true hc30; omega
   obtain ⟨q, hq⟩ := get_of_lt hlt
   have hqz := T.sz_kid hq
   obtain ⟨qu, hqu, hqo⟩ := hug k q hq
   have hstk := hst
   rw [drop_cons hq] at hpo
   obtain ⟨qA, qc, ur, rfl, hqp, hpr⟩ := hpo.open
   have hst := hstk; clear hstk
   refine W_skip ?_
   refine W_seq ?_
   refine W_block ?_
   refine W_seq ?_
   refine W_rg [(.p, 0), (.p, 1), (.l, 2), (.f, 3), (.p, 4), (.f, 5)] hst ?_
   refine r_sg [(.p, 0)] [] [] [(41, iN (((k : Nat) : Int)))] rc_nil ?_
   refine m_idx (sz := 3) (b := cb) (off := 0) (n := t.kids.length) (c := nc) (k := k) (some 42) (show opAt _ _ _ = some (.indexAddr 22 (.tmp 37) (.tmp 39), _) by kernel_rfl) (by kernel_rfl) (by kernel_rfl) Try.underlying22 sz24 hlt ?_
   refine r_sg [(.l, 2)] [[iN q.kind, iN q.num, .slice qA q.kids.length qc]] [(⟨cb, 0 + k * 3, none⟩, iN q.kind), (⟨cb, 0 + k * 3 + 1, none⟩, iN q.num), (⟨cb, 0 + k * 3 + 2, none⟩, .slice qA q.kids.length qc)] [(43, .agg #[iN q.kind, iN q.num, .slice qA q.kids.length qc])] (rc_L 3 rfl (at0 vs ur hvl) (rc_L 3 rfl (at1 vs ur hvl) (rc_L 3 rfl (at2 vs ur hvl) rc_nil))) ?_
   refine m_new (.cells #[iN 0, iN 0, .slice none 0 0] 24) (fun b31 => pN b31 0) (some 8) (fun b => by kernel_rfl) hst (fun b31 w1 hst => ?_)
   refine r_sg [(.p, 4)] [] [] [(7, iN (((k : Nat) : Int)))] rc_nil ?_
   refine m_st ((b31, .cells #[iN q.kind, iN q.num, .slice qA q.kids.length qc] 24) :: (b3, .cells #[iN 0, iN 0, .slice none 0 0] 24) :: (b2, .cells #[iN wth.kind, iN wth.num, .slice wthA wth.kids.length wthc] 24) :: (b1, .cells #[iN t.kind, iN t.num, .slice (some ⟨cb, 0, none⟩) t.kids.length nc] 24) :: (cb, .cells (List.toArray (vs ++ iN q.kind :: iN q.num :: .slice qA q.kids.length qc :: ur)) 24 (0, 0)) :: (Fk ++ L)) 0 [(0, iN q.kind), (1, iN q.num), (2, .slice qA q.kids.length qc)] [iN q.kind, iN q.num, .slice qA q.kids.length qc] none hst (fun w1 hst => ?_)
   refine r_nil ?_
   refine W_regd [(.p, 0), (.l, 1), (.p, 2), (.l, 3), (.l, 4), (.p, 5), (.e, 6), (.p, 7), (.f, 8)] (SS G ([(b31, .cells #[iN q.kind, iN q.num, .slice qA q.kids.length qc] 24), (b2, .cells #[iN wth.kind, iN wth.num, .slice wthA wth.kids.length wthc] 24), (b1, .cells #[iN t.kind, iN t.num, .slice (some ⟨cb, 0, none⟩) t.kids.length nc] 24)])) mixed (by kernel_rfl) (by kernel_rfl) (by kernel_rfl) (by kernel_rfl) (fun w1 hw1 => ?_)
   have hst := hst.heap hw1; refine ⟨hst.ss' (Le.refl _) (fun p hp => by simp only [List.mem_cons, List.not_mem_nil, or_false] at hp; rcases hp with rfl | rfl | rfl <;> simp), ?_⟩
   refine r_sg [(.p, 0), (.l, 1), (.p, 2), (.l, 3), (.l, 4), (.p, 5)] [[.slice (some ⟨cb, 0, none⟩) t.kids.length nc], [iN q.kind, iN q.num, .slice qA q.kids.length qc], [iN wth.kind, iN wth.num, .slice wthA wth.kids.length wthc]] [(⟨b1, 2, none⟩, .slice (some ⟨cb, 0, none⟩) t.kids.length nc), (⟨b31, 0, none⟩, iN q.kind), (⟨b31, 1, none⟩, iN q.num), (⟨b31, 2, none⟩, .slice qA q.kids.length qc), (⟨b2, 0, none⟩, iN wth.kind), (⟨b2, 1, none⟩, iN wth.num), (⟨b2, 2, none⟩, .slice wthA wth.kids.length wthc)] [(44, pN b1 2), (45, .slice (some ⟨cb, 0, none⟩) t.kids.length nc), (46, iN (((k : Nat) : Int))), (47, .agg #[iN q.kind, iN q.num, .slice qA q.kids.length qc]), (48, .agg #[iN wth.kind, iN wth.num, .slice wthA wth.kids.length wthc]), (49, iN nj)] (rc_L 2 rfl rfl (rc_L 0 rfl rfl (rc_L 0 rfl rfl (rc_L 0 rfl rfl (rc_L 1 rfl rfl (rc_L 1 rfl rfl (rc_L 1 rfl rfl rc_nil))))))) ?_
   refine m_callE #[.agg #[iN q.kind, iN q.num, .slice qA q.kids.length qc], .agg #[iN wth.kind, iN wth.num, .slice wthA wth.kids.length wthc], iN nj] (some 50) (by kernel_rfl) (ih (t := q) (wth := wth) hqp hvw (by omega) hzw hqo hst) ?_
   rintro x0 w1 ⟨Fq, hxo, hst⟩
   have hst := St.swap (A := Fq) (B := [(b31, .cells #[iN q.kind, iN q.num, .slice qA q.kids.length qc] 24), (b3, .cells #[iN 0, iN 0, .slice none 0 0] 24), (b2, .cells #[iN wth.kind, iN wth.num, .slice wthA wth.kids.length wthc] 24), (b1, .cells #[iN t.kind, iN t.num, .slice (some ⟨cb, 0, none⟩) t.kids.length nc] 24), (cb, .cells (List.toArray (vs ++ iN q.kind :: iN q.num :: .slice qA q.kids.length qc :: ur)) 24 (0, 0))]) (C := (Fk ++ L)) (by simpa [List.append_assoc] using hst)
   have hst := St.swap (A := Fq) (B := [(b31, .cells #[iN q.kind, iN q.num, .slice qA q.kids.length qc] 24), (b3, .cells #[iN 0, iN 0, .slice none 0 0] 24), (b2, .cells #[iN wth.kind, iN wth.num, .slice wthA wth.kids.length wthc] 24), (b1, .cells #[iN t.kind, iN t.num, .slice (some ⟨cb, 0, none⟩) t.kids.length nc] 24), (cb, .cells (List.toArray (vs ++ iN q.kind :: iN q.num :: .slice qA q.kids.length qc :: ur)) 24 (0, 0))] ++ Fk) (C := L) (by have h2 := St.swap (A := [(b31, .cells #[iN q.kind, iN q.num, .slice qA q.kids.length qc] 24), (b3, .cells #[iN 0, iN 0, .slice none 0 0] 24), (b2, .cells #[iN wth.kind, iN wth.num, .slice wthA wth.kids.length wthc] 24), (b1, .cells #[iN t.kind, iN t.num, .slice (some ⟨cb, 0, none⟩) t.kids.length nc] 24), (cb, .cells (List.toArray (vs ++ iN q.kind :: iN q.num :: .slice qA q.kids.length qc :: ur)) 24 (0, 0))]) (B := Fq) (C := Fk ++ L) hst; simpa [List.append_assoc] using h2)
   have hst : St G ((b31, .cells #[iN q.kind, iN q.num, .slice qA q.kids.length qc] 24) :: (b3, .cells #[iN 0, iN 0, .slice none 0 0] 24) :: (b2, .cells #[iN wth.kind, iN wth.num, .slice wthA wth.kids.length wthc] 24) :: (b1, .cells #[iN t.kind, iN t.num, .slice (some ⟨cb, 0, none⟩) t.kids.length nc] 24) :: (cb, .cells (List.toArray (vs ++ iN q.kind :: iN q.num :: .slice qA q.kids.length qc :: ur)) 24 (0, 0)) :: ((Fk ++ Fq) ++ L)) w1 := by simpa [List.append_assoc] using hst
   obtain ⟨xA, xc, rfl⟩ := hxo.shape
   refine ⟨hst.ss' (Le.refl _) (fun p hp => by simp only [List.mem_cons, List.not_mem_nil, or_false] at hp; rcases hp with rfl | rfl | rfl <;> simp), ?_⟩
   refine m_idx (sz := 3) (b := cb) (off := 0) (n := t.kids.length) (c := nc) (k := k) (some 51) (show opAt _ _ _ = some (.indexAddr 22 (.tmp 45) (.tmp 46), _) by kernel_rfl) (by kernel_rfl) (by kernel_rfl) Try.underlying22 sz24 hlt ?_
   refine m_store (L' := (b31, .cells #[iN q.kind, iN q.num, .slice qA q.kids.length qc] 24) :: (b3, .cells #[iN 0, iN 0, .slice none 0 0] 24) :: (b2, .cells #[iN wth.kind, iN wth.num, .slice wthA wth.kids.length wthc] 24) :: (b1, .cells #[iN t.kind, iN t.num, .slice (some ⟨cb, 0, none⟩) t.kids.length nc] 24) :: (cb, .cells (List.toArray ((vs ++ [iN qu.kind, iN qu.num, .slice xA qu.kids.length xc]) ++ ur)) 24 (0, 0)) :: ((Fk ++ Fq) ++ L)) 4 [(0 + k * 3, iN qu.kind), (0 + k * 3 + 1, iN qu.num), (0 + k * 3 + 2, .slice xA qu.kids.length xc)] ((vs ++ [iN qu.kind, iN qu.num, .slice xA qu.kids.length xc]) ++ ur) none (by kernel_rfl) hst rfl (in3 vs ur hvl) (wr3 vs hvl) rfl (fun w1 hst => ?_)
   refine r_nil ?_
   refine W_rg [(.p, 0), (.p, 1)] hst ?_
   refine r_en [] [] [(52, iN (IntKind.wrap .i64 ((((k : Nat) : Int)) + 1))), (39, iN (IntKind.wrap .i64 ((((k : Nat) : Int)) + 1)))] rc_nil ?_
   exact ⟨_, (by omega), k + 1, vs ++ [iN qu.kind, iN qu.num, .slice xA qu.kids.length xc], ur, Fk ++ Fq, ⟨by kernel_rfl, by kernel_rfl, by kernel_rfl, by kernel_rfl, by kernel_rfl, by kernel_rfl, (by rw [← wrap_succ (k := k) (by omega)]; kernel_rfl), trivial⟩, rfl, (by simpa [List.append_assoc] using hst.drop [_]), (by rw [List.length_append, hvl]; simp only [List.length_cons, List.length_nil]; omega), hpr, (by rw [take_snoc hqu]; exact how.snoc (by rw [hvl, List.length_take]; omega) hxo), hlt, rfl⟩
  ·skip
   have hge : k = t.kids.length := by have := of_decide_eq_false hc30; omega
   refine W_exit ?_
   refine W_seq ?_
   refine W_rg [(.l, 0), (.f, 1)] hst ?_
   refine r_sg [(.l, 0)] [[iN t.kind, iN t.num, .slice (some ⟨cb, 0, none⟩) t.kids.length nc]] [(⟨b1, 0, none⟩, iN t.kind), (⟨b1, 1, none⟩, iN t.num), (⟨b1, 2, none⟩, .slice (some ⟨cb, 0, none⟩) t.kids.length nc)] [(53, .agg #[iN t.kind, iN t.num, .slice (some ⟨cb, 0, none⟩) t.kids.length nc])] (rc_L 2 rfl rfl (rc_L 2 rfl rfl (rc_L 2 rfl rfl rc_nil))) ?_
   refine m_st ((b3, .cells #[iN t.kind, iN t.num, .slice (some ⟨cb, 0, none⟩) t.kids.length nc] 24) :: (b2, .cells #[iN wth.kind, iN wth.num, .slice wthA wth.kids.length wthc] 24) :: (b1, .cells #[iN t.kind, iN t.num, .slice (some ⟨cb, 0, none⟩) t.kids.length nc] 24) :: (cb, .cells (List.toArray (vs ++ us2)) 24 (0, 0)) :: (Fk ++ L)) 0 [(0, iN t.kind), (1, iN t.num), (2, .slice (some ⟨cb, 0, none⟩) t.kids.length nc)] [iN t.kind, iN t.num, .slice (some ⟨cb, 0, none⟩) t.kids.length nc] none hst (fun w1 hst => ?_)
   refine r_nil ?_
   refine W_ret ?_
   refine q_rt [iN t.kind, iN t.num, .slice (some ⟨cb, 0, none⟩) t.kids.length nc] [(⟨b3, 0, none⟩, iN t.kind), (⟨b3, 1, none⟩, iN t.num), (⟨b3, 2, none⟩, .slice (some ⟨cb, 0, none⟩) t.kids.length nc)] (.agg #[iN t.kind, iN t.num, .slice (some ⟨cb, 0, none⟩) t.kids.length nc]) (rc_L 0 rfl rfl (rc_L 0 rfl rfl (rc_L 0 rfl rfl rc_nil))) hst ?_
   have hty2 : OwnPs vs us Fk := by have := how; rw [List.take_of_length_le (by omega)] at this; exact this
   refine ⟨(cb, .cells (List.toArray (vs ++ us2)) 24 (0, 0)) :: Fk, ?_, hst.drop [_, _, _]⟩
   unfold OwnP; exact .inr ⟨cb, nc, vs ++ us2, Fk, rfl, by rw [hul], by rw [hul]; exact hnc, hty2.app⟩

end Go.Proofs.Ytjgnhhgigickaaa.Wk
/- Walks of the given program's functions: spoil, Open. Printed by tools/w41.py. Conditions: none. -/

namespace Go.Proofs.Ytjgnhhgigickaaa.Wk
open Go Md
set_option maxRecDepth 20000
set_option linter.unusedVariables false
set_option linter.unusedSimpArgs false
attribute [local irreducible] endQ

theorem OwnPs.open {us : List Value} {q : T} {ts : List T} {F : LH} (h : OwnPs us (q :: ts) F) : ∃ A c ur F1 F2, us = .int .i64 q.kind :: .int .i64 q.num :: .slice A q.kids.length c :: ur ∧ F = F1 ++ F2 ∧ OwnP (.agg #[.int .i64 q.kind, .int .i64 q.num, .slice A q.kids.length c]) q F1 ∧ OwnPs ur ts F2 := by
 unfold OwnPs at h
 obtain ⟨v0, v1, v2, r, F1, F2, rfl, rfl, h1, h2⟩ := h
 obtain ⟨A, c, he⟩ := id h1.shape
 simp only [Value.agg.injEq] at he
 have he := congrArg Array.toList he
 simp only [List.cons.injEq, and_true] at he
 obtain ⟨rfl, rfl, rfl⟩ := he
 exact ⟨A, c, r, F1, F2, rfl, rfl, h1, h2⟩

theorem c42 : ∀ (f : Nat) {G : GH} {L F : LH} {w : World} {v : Value} {t : T}, T.sz t < f → T.sz t < lim → OwnP v t F → St G (F ++ L) w → Cal Try.prog 42 #[v] w fun _ w' => St G L w' := by
 intro f
 induction f with
 | zero => intro G L F w v t h; omega
 | succ f ih =>
 intro G L F w v t hf hz ho hst
 have hlim : lim = 1099511627776 := rfl
 have hln := T.len_le t
 obtain ⟨kd, nm, ks⟩ := t
 have hln : ks.length ≤ T.sz (.mk kd nm ks) := hln
 unfold OwnP at ho
 rcases ho with ⟨rfl, rfl, A, c, rfl⟩ | ⟨cb, c, cs, F', rfl, rfl, hc, ho⟩
 ·skip
  have hst : St G L w := hst
  refine cal_of_W Try.func42 rfl (Nat.le_of_ble_eq_true (by kernel_rfl)) ?_
  refine W_seq ?_
  refine W_rg [(.f, 0)] hst ?_
  refine m_new (.cells #[iN kd, iN nm, .slice A 0 c] 24) (fun b1 => pN b1 0) (some 1) (fun b => by kernel_rfl) hst (fun b1 w1 hst => ?_)
  refine r_nil ?_
  refine W_seq ?_
  refine W_rg [(.p, 0), (.l, 1), (.p, 2), (.p, 3)] hst ?_
  refine r_en [[.slice A 0 c]] [(⟨b1, 2, none⟩, .slice A 0 c)] [(3, pN b1 2), (4, .slice A 0 c), (5, iN 0), (6, iN 0)] (rc_L 0 rfl rfl rc_nil) ?_
  refine W_block ?_
  refine W_loop (fun m ρ D w => D = [] ∧ ((m = 0 ∧ EqS ρ [(1, pN b1 0), (5, iN 0), (6, iN 0)] ∧ St G ((b1, .cells #[iN kd, iN nm, .slice A 0 c] 24) :: L) w))) 0 ⟨rfl, ⟨rfl, ⟨by kernel_rfl, by kernel_rfl, by kernel_rfl, trivial⟩, hst⟩⟩ ?_
  clear hst; rintro m ρ D w1 ⟨rfl, ⟨rfl, hE, hst⟩⟩
  ·refine W_env hE ?_
   refine W_seq ?_
   refine W_rg [(.p, 0)] hst ?_
   refine r_en [] [] [(7, .bool false)] rc_nil ?_
   refine W_seq ?_
   refine W_cF ?_
   refine W_exit ?_
   refine q_end [] [] (.tuple #[]) (by kernel_rfl) rc_nil hst ?_
   exact hst.drop [_]
 ·skip
  have hst : St G ((cb, .cells (List.toArray cs) 24 (0, 0)) :: (F' ++ L)) w := hst
  refine cal_of_W Try.func42 rfl (Nat.le_of_ble_eq_true (by kernel_rfl)) ?_
  refine W_seq ?_
  refine W_rg [(.f, 0)] hst ?_
  refine m_new (.cells #[iN kd, iN nm, .slice (some ⟨cb, 0, none⟩) ks.length c] 24) (fun b1 => pN b1 0) (some 1) (fun b => by kernel_rfl) hst (fun b1 w1 hst => ?_)
  refine r_nil ?_
  refine W_seq ?_
  refine W_rg [(.p, 0), (.l, 1), (.p, 2), (.p, 3)] hst ?_
  refine r_en [[.slice (some ⟨cb, 0, none⟩) ks.length c]] [(⟨b1, 2, none⟩, .slice (some ⟨cb, 0, none⟩) ks.length c)] [(3, pN b1 2), (4, .slice (some ⟨cb, 0, none⟩) ks.length c), (5, iN (((ks.length : Nat) : Int))), (6, iN 0)] (rc_L 0 rfl rfl rc_nil) ?_
  refine W_block ?_
  refine W_loop (fun m ρ D w => ∃ (k : Nat) (vs : List Value) (us2 : List Value) (Fk : LH), EqS ρ [(1, pN b1 0), (5, iN (((ks.length : Nat) : Int))), (6, iN (((k : Nat) : Int)))] ∧ D = [] ∧ St G ((b1, .cells #[iN kd, iN nm, .slice (some ⟨cb, 0, none⟩) ks.length c] 24) :: (cb, .cells (List.toArray (vs ++ us2)) 24 (0, 0)) :: (Fk ++ L)) w ∧ (vs.length = 0 + k * 3) ∧ (OwnPs us2 (ks.drop k) Fk) ∧ (k ≤ ks.length) ∧ ks.length - k = m) (ks.length - 0) ⟨0, [], cs, F', ⟨by kernel_rfl, by kernel_rfl, by kernel_rfl, trivial⟩, rfl, hst, rfl, ho, Nat.zero_le _, rfl⟩ ?_
  clear hst; rintro m2 ρ D w1 ⟨k, vs, us2, Fk, hE3, rfl, hst, hvl, how, hkk, hm4⟩
  refine W_env hE3 ?_
  refine W_seq ?_
  refine W_rg [(.p, 0)] hst ?_
  refine r_en [] [] [(7, .bool (decide ((((k : Nat) : Int)) < (((ks.length : Nat) : Int)))))] rc_nil ?_
  refine W_seq ?_
  refine W_cd (b := decide ((((k : Nat) : Int)) < (((ks.length : Nat) : Int)))) (fun hc5 => ?_) (fun hc5 => ?_)
  ·skip
   have hlt : k < ks.length := by have := of_decide_eq_true hc5; omega
   obtain ⟨q, hq⟩ := get_of_lt hlt
   have hqz := T.sz_kid (t := .mk kd nm ks) hq
   have hstk := hst
   rw [drop_cons hq] at how
   obtain ⟨qA, qc, ur, F1, F2, rfl, rfl, hq1, hqr⟩ := how.open
   have hst := hstk; clear hstk
   refine W_skip ?_
   refine W_seq ?_
   refine W_block ?_
   refine W_seq ?_
   refine W_rg [(.p, 0), (.p, 1)] hst ?_
   refine r_en [] [] [(8, iN (((k : Nat) : Int))), (2, iN (((k : Nat) : Int)))] rc_nil ?_
   refine W_seq ?_
   refine W_rg [(.p, 0), (.l, 1), (.p, 2), (.p, 3), (.l, 4), (.f, 5)] hst ?_
   refine r_sg [(.p, 0), (.l, 1), (.p, 2)] [[.slice (some ⟨cb, 0, none⟩) ks.length c]] [(⟨b1, 2, none⟩, .slice (some ⟨cb, 0, none⟩) ks.length c)] [(9, pN b1 2), (10, .slice (some ⟨cb, 0, none⟩) ks.length c), (11, iN (((k : Nat) : Int)))] (rc_L 0 rfl rfl rc_nil) ?_
   refine m_idx (sz := 3) (b := cb) (off := 0) (n := ks.length) (c := c) (k := k) (some 12) (show opAt _ _ _ = some (.indexAddr 22 (.tmp 10) (.tmp 11), _) by kernel_rfl) (by kernel_rfl) (by kernel_rfl) Try.underlying22 sz24 hlt ?_
   refine r_sg [(.l, 4)] [[iN q.kind, iN q.num, .slice qA q.kids.length qc]] [(⟨cb, 0 + k * 3, none⟩, iN q.kind), (⟨cb, 0 + k * 3 + 1, none⟩, iN q.num), (⟨cb, 0 + k * 3 + 2, none⟩, .slice qA q.kids.length qc)] [(13, .agg #[iN q.kind, iN q.num, .slice qA q.kids.length qc])] (rc_L 1 rfl (at0 vs ur hvl) (rc_L 1 rfl (at1 vs ur hvl) (rc_L 1 rfl (at2 vs ur hvl) rc_nil))) ?_
   have hst := St.swap (A := [(b1, .cells #[iN kd, iN nm, .slice (some ⟨cb, 0, none⟩) ks.length c] 24), (cb, .cells (List.toArray (vs ++ iN q.kind :: iN q.num :: .slice qA q.kids.length qc :: ur)) 24 (0, 0))]) (B := F1) (C := F2 ++ L) (by simpa [List.append_assoc] using hst)
   refine m_cl #[.agg #[iN q.kind, iN q.num, .slice qA q.kids.length qc]] (some 14) (ih (t := q) (by omega) (by omega) hq1 hst) ?_
   rintro vx w1 hst
   have hst : St G ((b1, .cells #[iN kd, iN nm, .slice (some ⟨cb, 0, none⟩) ks.length c] 24) :: (cb, .cells (List.toArray (vs ++ iN q.kind :: iN q.num :: .slice qA q.kids.length qc :: ur)) 24 (0, 0)) :: (F2 ++ L)) w1 := hst
   refine nx hst ?_
   refine r_nil ?_
   refine W_rg [(.p, 0), (.l, 1), (.p, 2), (.p, 3), (.p, 4), (.f, 5)] hst ?_
   refine r_sg [(.p, 0), (.l, 1), (.p, 2), (.p, 3)] [[.slice (some ⟨cb, 0, none⟩) ks.length c]] [(⟨b1, 2, none⟩, .slice (some ⟨cb, 0, none⟩) ks.length c)] [(15, pN b1 2), (16, .slice (some ⟨cb, 0, none⟩) ks.length c), (17, iN (((k : Nat) : Int))), (18, .agg #[iN 9, iN 0, .slice none 0 0])] (rc_L 0 rfl rfl rc_nil) ?_
   refine m_idx (sz := 3) (b := cb) (off := 0) (n := ks.length) (c := c) (k := k) (some 19) (show opAt _ _ _ = some (.indexAddr 22 (.tmp 16) (.tmp 17), _) by kernel_rfl) (by kernel_rfl) (by kernel_rfl) Try.underlying22 sz24 hlt ?_
   refine m_store (L' := (b1, .cells #[iN kd, iN nm, .slice (some ⟨cb, 0, none⟩) ks.length c] 24) :: (cb, .cells (List.toArray ((vs ++ [iN 9, iN 0, .slice none 0 0]) ++ ur)) 24 (0, 0)) :: (F2 ++ L)) 1 [(0 + k * 3, iN 9), (0 + k * 3 + 1, iN 0), (0 + k * 3 + 2, .slice none 0 0)] ((vs ++ [iN 9, iN 0, .slice none 0 0]) ++ ur) none (by kernel_rfl) hst rfl (in3 vs ur hvl) (wr3 vs hvl) rfl (fun w1 hst => ?_)
   refine r_nil ?_
   refine W_rg [(.p, 0), (.p, 1)] hst ?_
   refine r_en [] [] [(20, iN (IntKind.wrap .i64 ((((k : Nat) : Int)) + 1))), (6, iN (IntKind.wrap .i64 ((((k : Nat) : Int)) + 1)))] rc_nil ?_
   exact ⟨_, (by omega), k + 1, vs ++ [iN 9, iN 0, .slice none 0 0], ur, F2, ⟨by kernel_rfl, by kernel_rfl, (by rw [← wrap_succ (k := k) (by omega)]; kernel_rfl), trivial⟩, rfl, hst, (by rw [List.length_append, hvl]; simp only [List.length_cons, List.length_nil]; omega), hqr, hlt, rfl⟩
  ·skip
   have hge : k = ks.length := by have := of_decide_eq_false hc5; omega
   refine W_exit ?_
   refine q_end [] [] (.tuple #[]) (by kernel_rfl) rc_nil hst ?_
   have hF0 : Fk = [] := by rw [List.drop_of_length_le (by omega)] at how; unfold OwnPs at how; exact how
   subst hF0; exact hst.drop [_, _]

theorem c35 {f : Nat} {G : GH} {L : LH} {w : World} {va vb : Value} {a b r : T} {e : Int} (hva : IsPoly G va a) (hvb : IsPoly G vb b) (hsz : T.sz a + T.sz b + 2 < lim) (hrz : ∀ u x, a.kids[0]? = some u → Md.opened f u b 0 = some x → T.sz x + 1 < lim) (hst : St G L w) (h : Md.Open f a b = some (r, e)) :
  Cal Try.prog 35 #[va, vb] w fun x w' => ∃ G' x0 F, Le G G' ∧ x = .tuple #[x0, .int .i64 e] ∧ OwnP x0 r F ∧ St G' (F ++ L) w' := by
 unfold Md.Open at h
 obtain ⟨aA, ac, rfl, hac, hak⟩ := id hva.open
 obtain ⟨bA, bc, rfl, hbc, hbk⟩ := id hvb.open
 refine cal_of_W Try.func35 rfl (Nat.le_of_ble_eq_true (by kernel_rfl)) ?_
 refine W_seq ?_
 refine W_rg [(.f, 0), (.f, 1), (.f, 2), (.p, 3)] hst ?_
 refine m_new (.cells #[iN a.kind, iN a.num, .slice aA a.kids.length ac] 24) (fun b1 => pN b1 0) (some 2) (fun b => by kernel_rfl) hst (fun b1 w1 hst => ?_)
 refine m_new (.cells #[iN b.kind, iN b.num, .slice bA b.kids.length bc] 24) (fun b2 => pN b2 0) (some 3) (fun b => by kernel_rfl) hst (fun b2 w1 hst => ?_)
 refine m_new (.cells #[iN 0, iN 0, .slice none 0 0] 24) (fun b3 => pN b3 0) (some 4) (fun b => by kernel_rfl) hst (fun b3 w1 hst => ?_)
 refine r_en [] [] [(5, iN 0)] rc_nil ?_
 refine W_seq ?_
 refine W_rg [(.l, 0), (.l, 1), (.f, 2), (.f, 3), (.p, 4)] hst ?_
 refine r_sg [(.l, 0), (.l, 1)] [[iN a.kind, iN a.num, .slice aA a.kids.length ac], [iN b.kind, iN b.num, .slice bA b.kids.length bc]] [(⟨b1, 0, none⟩, iN a.kind), (⟨b1, 1, none⟩, iN a.num), (⟨b1, 2, none⟩, .slice aA a.kids.length ac), (⟨b2, 0, none⟩, iN b.kind), (⟨b2, 1, none⟩, iN b.num), (⟨b2, 2, none⟩, .slice bA b.kids.length bc)] [(9, .agg #[iN a.kind, iN a.num, .slice aA a.kids.length ac]), (10, .agg #[iN b.kind, iN b.num, .slice bA b.kids.length bc])] (rc_L 2 rfl rfl (rc_L 2 rfl rfl (rc_L 2 rfl rfl (rc_L 1 rfl rfl (rc_L 1 rfl rfl (rc_L 1 rfl rfl rc_nil)))))) ?_
 refine m_new (.cells #[iN a.kind, iN a.num, .slice aA a.kids.length ac, iN b.kind, iN b.num, .slice bA b.kids.length bc] 24) (fun b4 => .slice (some ⟨b4, 0, none⟩) 2 2) (some 11) (fun b => by kernel_rfl) hst (fun b4 w1 hst => ?_)
 obtain ⟨G1, hG1, hF5, hst⟩ := St.freeze [_] hst
 have hfs := hF5 _ (.head _)
 have hcl56 := c56 (ts := [a, b]) (c := 2) (polys_of (cs := [.int .i64 a.kind, .int .i64 a.num, .slice aA a.kids.length ac, .int .i64 b.kind, .int .i64 b.num, .slice bA b.kids.length bc]) ⟨(hva).mono hG1, (hvb).mono hG1, trivial⟩ hfs) (Nat.le_refl _) (by rw [T.sz2]; omega) hst
 refine m_cl #[.slice (some ⟨b4, 0, none⟩) 2 2] (some 12) (hcl56) ?_
 rintro _ w1 ⟨G1', hG1', rfl, hst⟩
 replace hfs := hG1' _ _ hfs
 refine nx hst ?_
 refine r_en [] [] [(6, iN (closed [a, b]))] rc_nil ?_
 refine W_seq ?_
 refine W_block ?_
 refine W_seq ?_
 refine W_rg [(.p, 0), (.p, 1), (.p, 2)] hst ?_
 refine r_en [] [] [(14, iN (closed [a, b])), (15, .bool ((closed [a, b]) != 0)), (13, .bool ((closed [a, b]) != 0))] rc_nil ?_
 refine W_cd (b := (closed [a, b]) != 0) (fun hc6 => ?_) (fun hc6 => ?_)
 ·skip
  rw [if_pos (show closed [a, b] ≠ 0 by simpa using hc6)] at h
  simp only [Option.some.injEq, Prod.mk.injEq] at h; obtain ⟨rfl, rfl⟩ := h
  refine W_seq ?_
  refine W_rg [(.p, 0), (.p, 1), (.f, 2), (.p, 3)] hst ?_
  refine r_sg [(.p, 0), (.p, 1)] [] [] [(16, .agg #[iN 0, iN 0, .slice none 0 0]), (17, iN (closed [a, b]))] rc_nil ?_
  refine m_st ((b3, .cells #[iN 0, iN 0, .slice none 0 0] 24) :: (b2, .cells #[iN b.kind, iN b.num, .slice bA b.kids.length bc] 24) :: (b1, .cells #[iN a.kind, iN a.num, .slice aA a.kids.length ac] 24) :: L) 0 [(0, iN 0), (1, iN 0), (2, .slice none 0 0)] [iN 0, iN 0, .slice none 0 0] none hst (fun w1 hst => ?_)
  refine r_en [] [] [(5, iN (closed [a, b]))] rc_nil ?_
  refine W_ret ?_
  refine q_rt [iN 0, iN 0, .slice none 0 0] [(⟨b3, 0, none⟩, iN 0), (⟨b3, 1, none⟩, iN 0), (⟨b3, 2, none⟩, .slice none 0 0)] (.tuple #[.agg #[iN 0, iN 0, .slice none 0 0], iN (closed [a, b])]) (rc_L 0 rfl rfl (rc_L 0 rfl rfl (rc_L 0 rfl rfl rc_nil))) hst ?_
  exact ⟨G1', _, [], hG1.trans hG1', rfl, OwnP.zero, hst.drop [_, _, _]⟩
 ·skip
  rw [if_neg (show ¬ closed [a, b] ≠ 0 by simpa using hc6)] at h
  refine W_seq ?_
  refine W_rg [(.p, 0), (.l, 1), (.p, 2), (.p, 3)] hst ?_
  refine r_en [[iN a.kind]] [(⟨b1, 0, none⟩, iN a.kind)] [(19, pN b1 0), (20, iN a.kind), (21, .bool (a.kind != 4)), (18, .bool (a.kind != 4))] (rc_L 2 rfl rfl rc_nil) ?_
  refine W_cd (b := a.kind != 4) (fun hc7 => ?_) (fun hc7 => ?_)
  ·skip
   rw [if_pos (show a.kind ≠ 4 by simpa using hc7)] at h
   simp only [Option.some.injEq, Prod.mk.injEq] at h; obtain ⟨rfl, rfl⟩ := h
   refine W_seq ?_
   refine W_rg [(.p, 0), (.f, 1), (.p, 2)] hst ?_
   refine r_sg [(.p, 0)] [] [] [(22, .agg #[iN 0, iN 0, .slice none 0 0])] rc_nil ?_
   refine m_st ((b3, .cells #[iN 0, iN 0, .slice none 0 0] 24) :: (b2, .cells #[iN b.kind, iN b.num, .slice bA b.kids.length bc] 24) :: (b1, .cells #[iN a.kind, iN a.num, .slice aA a.kids.length ac] 24) :: L) 0 [(0, iN 0), (1, iN 0), (2, .slice none 0 0)] [iN 0, iN 0, .slice none 0 0] none hst (fun w1 hst => ?_)
   refine r_en [] [] [(5, iN 6)] rc_nil ?_
   refine W_ret ?_
   refine q_rt [iN 0, iN 0, .slice none 0 0] [(⟨b3, 0, none⟩, iN 0), (⟨b3, 1, none⟩, iN 0), (⟨b3, 2, none⟩, .slice none 0 0)] (.tuple #[.agg #[iN 0, iN 0, .slice none 0 0], iN 6]) (rc_L 0 rfl rfl (rc_L 0 rfl rfl (rc_L 0 rfl rfl rc_nil))) hst ?_
   exact ⟨G1', _, [], hG1.trans hG1', rfl, OwnP.zero, hst.drop [_, _, _]⟩
  ·skip
   rw [if_neg (show ¬ a.kind ≠ 4 by simpa using hc7)] at h
   split at h
   case h_2 => cases h
   rename_i u _ hku
   obtain ⟨r0, hr0, h⟩ := Option.bind_eq_some_iff.1 h
   have hqu : a.kids[0]? = some u := by rw [hku]; rfl
   have hlt0 : 0 < a.kids.length := by rw [hku]; simp
   have huz := T.sz_kid hqu
   have hstk := hst
   obtain ⟨eb1, eo1, uA, uc, rfl, hu0, hu1, hu2, hup⟩ := ((hak.mono hG1).mono hG1').elem hqu
   have hst := hstk; clear hstk
   refine W_skip ?_
   refine W_seq ?_
   refine W_regT (.fork [(.p, 0), (.l, 1), (.p, 2), (.l, 3), (.l, 4)] 5 (.run [(.e, 6), (.f, 7)]) 6 (.run [(.e, 5), (.f, 7)])) 7 (SS G1' ([(b2, .cells #[iN b.kind, iN b.num, .slice bA b.kids.length bc] 24), (b1, .cells #[iN a.kind, iN a.num, .slice (some ⟨eb1, eo1, none⟩) a.kids.length ac] 24)])) mixed (by kernel_rfl) (by kernel_rfl) (by kernel_rfl) (by kernel_rfl) (fun w1 hw1 => ?_)
   have hst := hst.heap hw1; refine ⟨hst.ss' (Le.refl _) (fun p hp => by simp only [List.mem_cons, List.not_mem_nil, or_false] at hp; rcases hp with rfl | rfl <;> simp), ?_⟩
   unfold RunT
   refine r_sg [(.p, 0), (.l, 1)] [[.slice (some ⟨eb1, eo1, none⟩) a.kids.length ac]] [(⟨b1, 2, none⟩, .slice (some ⟨eb1, eo1, none⟩) a.kids.length ac)] [(23, pN b1 2), (24, .slice (some ⟨eb1, eo1, none⟩) a.kids.length ac)] (rc_L 1 rfl rfl rc_nil) ?_
   refine m_idx (sz := 3) (b := eb1) (off := eo1) (n := a.kids.length) (c := ac) (k := 0) (some 25) (show opAt _ _ _ = some (.indexAddr 22 (.tmp 24) (.const (iN 0)), _) by kernel_rfl) (by kernel_rfl) (by kernel_rfl) Try.underlying22 sz24 hlt0 ?_
   refine r_en [[iN u.kind, iN u.num, .slice uA u.kids.length uc], [iN b.kind, iN b.num, .slice bA b.kids.length bc]] [(⟨eb1, eo1 + 0 * 3, none⟩, iN u.kind), (⟨eb1, eo1 + 0 * 3 + 1, none⟩, iN u.num), (⟨eb1, eo1 + 0 * 3 + 2, none⟩, .slice uA u.kids.length uc), (⟨b2, 0, none⟩, iN b.kind), (⟨b2, 1, none⟩, iN b.num), (⟨b2, 2, none⟩, .slice bA b.kids.length bc)] [(26, .agg #[iN u.kind, iN u.num, .slice uA u.kids.length uc]), (27, .agg #[iN b.kind, iN b.num, .slice bA b.kids.length bc])] (rc_C hu0 (rc_C hu1 (rc_C hu2 (rc_L 0 rfl rfl (rc_L 0 rfl rfl (rc_L 0 rfl rfl rc_nil)))))) ?_
   refine ⟨?_, ?_⟩
   ·skip
    refine m_callE #[.agg #[iN u.kind, iN u.num, .slice uA u.kids.length uc], .agg #[iN b.kind, iN b.num, .slice bA b.kids.length bc], iN 0] (some 28) (by kernel_rfl) (c77 _ hup ((hvb.mono hG1).mono hG1') (by omega) (by omega) hr0 hst) ?_
    rintro x0 w1 ⟨Fr, hxo, hst⟩
    have hst := St.swap (A := Fr) (B := [(b3, .cells #[iN 0, iN 0, .slice none 0 0] 24), (b2, .cells #[iN b.kind, iN b.num, .slice bA b.kids.length bc] 24), (b1, .cells #[iN a.kind, iN a.num, .slice (some ⟨eb1, eo1, none⟩) a.kids.length ac] 24)]) (C := L) hst
    have hst : St G1' ((b3, .cells #[iN 0, iN 0, .slice none 0 0] 24) :: (b2, .cells #[iN b.kind, iN b.num, .slice bA b.kids.length bc] 24) :: (b1, .cells #[iN a.kind, iN a.num, .slice (some ⟨eb1, eo1, none⟩) a.kids.length ac] 24) :: (Fr ++ L)) w1 := hst
    obtain ⟨xA, xc, rfl⟩ := hxo.shape
    refine ⟨hst.ss' (Le.refl _) (fun p hp => by simp only [List.mem_cons, List.not_mem_nil, or_false] at hp; rcases hp with rfl | rfl <;> simp), ?_⟩
    refine r_nil ?_
    unfold RunT
    refine m_newE (.cells #[iN 0, iN 0, .slice none 0 0] 24) (fun b8 => pN b8 0) (some 7) (fun b => by kernel_rfl) hst (fun _ _ h => h.ss' (Le.refl _) (fun p hp => by simp only [List.mem_cons, List.not_mem_nil, or_false] at hp; rcases hp with rfl | rfl <;> simp)) (fun b8 w1 hst => ?_)
    refine m_st ((b8, .cells #[iN r0.kind, iN r0.num, .slice xA r0.kids.length xc] 24) :: (b3, .cells #[iN 0, iN 0, .slice none 0 0] 24) :: (b2, .cells #[iN b.kind, iN b.num, .slice bA b.kids.length bc] 24) :: (b1, .cells #[iN a.kind, iN a.num, .slice (some ⟨eb1, eo1, none⟩) a.kids.length ac] 24) :: (Fr ++ L)) 0 [(0, iN r0.kind), (1, iN r0.num), (2, .slice xA r0.kids.length xc)] [iN r0.kind, iN r0.num, .slice xA r0.kids.length xc] none hst (fun w1 hst => ?_)
    refine r_nil ?_
    refine W_seq ?_
    refine W_seq ?_
    refine W_rg [(.l, 0), (.f, 1), (.f, 2), (.p, 3)] hst ?_
    refine r_sg [(.l, 0)] [[iN r0.kind, iN r0.num, .slice xA r0.kids.length xc]] [(⟨b8, 0, none⟩, iN r0.kind), (⟨b8, 1, none⟩, iN r0.num), (⟨b8, 2, none⟩, .slice xA r0.kids.length xc)] [(29, .agg #[iN r0.kind, iN r0.num, .slice xA r0.kids.length xc])] (rc_L 0 rfl rfl (rc_L 0 rfl rfl (rc_L 0 rfl rfl rc_nil))) ?_
    refine m_new (.cells #[iN r0.kind, iN r0.num, .slice xA r0.kids.length xc] 24) (fun b9 => .slice (some ⟨b9, 0, none⟩) 1 1) (some 30) (fun b => by kernel_rfl) hst (fun b9 w1 hst => ?_)
    have hst := St.swap (A := [(b9, .cells #[iN r0.kind, iN r0.num, .slice xA r0.kids.length xc] 24), (b8, .cells #[iN r0.kind, iN r0.num, .slice xA r0.kids.length xc] 24), (b3, .cells #[iN 0, iN 0, .slice none 0 0] 24), (b2, .cells #[iN b.kind, iN b.num, .slice bA b.kids.length bc] 24), (b1, .cells #[iN a.kind, iN a.num, .slice (some ⟨eb1, eo1, none⟩) a.kids.length ac] 24)]) (B := Fr) (C := L) hst
    obtain ⟨G2, hG2, hF2, hst, hthaw⟩ := St.freezeT Fr hst
    have hxp := hxo.poly hF2
    obtain ⟨G3, hG3, hF3, hst⟩ := St.freeze [_] hst
    have hcl56 := c56 (ts := [r0]) (c := 1) (polys_of (cs := [.int .i64 r0.kind, .int .i64 r0.num, .slice xA r0.kids.length xc]) ⟨hxp.mono hG3, trivial⟩ (hF3 _ (.head _))) (Nat.le_refl _) (by rw [T.sz1]; exact hrz u r0 hqu hr0) hst
    refine m_cl #[.slice (some ⟨b9, 0, none⟩) 1 1] (some 31) hcl56 ?_
    rintro _ w1 ⟨G4, hG4, rfl, hst⟩
    have hst := hthaw (hst.weak (hG3.trans hG4))
    have hst := St.swap (A := Fr) (B := [(b8, .cells #[iN r0.kind, iN r0.num, .slice xA r0.kids.length xc] 24), (b3, .cells #[iN 0, iN 0, .slice none 0 0] 24), (b2, .cells #[iN b.kind, iN b.num, .slice bA b.kids.length bc] 24), (b1, .cells #[iN a.kind, iN a.num, .slice (some ⟨eb1, eo1, none⟩) a.kids.length ac] 24)]) (C := L) hst
    have hst : St G1' ((b8, .cells #[iN r0.kind, iN r0.num, .slice xA r0.kids.length xc] 24) :: (b3, .cells #[iN 0, iN 0, .slice none 0 0] 24) :: (b2, .cells #[iN b.kind, iN b.num, .slice bA b.kids.length bc] 24) :: (b1, .cells #[iN a.kind, iN a.num, .slice (some ⟨eb1, eo1, none⟩) a.kids.length ac] 24) :: (Fr ++ L)) w1 := hst
    refine nx hst ?_
    refine r_en [] [] [(8, iN (closed [r0]))] rc_nil ?_
    refine W_seq ?_
    refine W_rg [(.p, 0), (.p, 1)] hst ?_
    refine r_en [] [] [(32, iN (closed [r0])), (33, .bool ((closed [r0]) != 0))] rc_nil ?_
    refine W_cd (b := (closed [r0]) != 0) (fun hc10 => ?_) (fun hc10 => ?_)
    ·skip
     rw [if_pos (show closed [r0] ≠ 0 by simpa using hc10)] at h; simp only [Option.some.injEq, Prod.mk.injEq] at h; obtain ⟨rfl, rfl⟩ := h
     refine W_seq ?_
     refine W_rg [(.p, 0), (.p, 1), (.f, 2), (.p, 3)] hst ?_
     refine r_sg [(.p, 0), (.p, 1)] [] [] [(34, .agg #[iN 0, iN 0, .slice none 0 0]), (35, iN (closed [r0]))] rc_nil ?_
     refine m_st ((b8, .cells #[iN r0.kind, iN r0.num, .slice xA r0.kids.length xc] 24) :: (b3, .cells #[iN 0, iN 0, .slice none 0 0] 24) :: (b2, .cells #[iN b.kind, iN b.num, .slice bA b.kids.length bc] 24) :: (b1, .cells #[iN a.kind, iN a.num, .slice (some ⟨eb1, eo1, none⟩) a.kids.length ac] 24) :: (Fr ++ L)) 1 [(0, iN 0), (1, iN 0), (2, .slice none 0 0)] [iN 0, iN 0, .slice none 0 0] none hst (fun w1 hst => ?_)
     refine r_en [] [] [(5, iN (closed [r0]))] rc_nil ?_
     refine W_ret ?_
     refine q_rt [iN 0, iN 0, .slice none 0 0] [(⟨b3, 0, none⟩, iN 0), (⟨b3, 1, none⟩, iN 0), (⟨b3, 2, none⟩, .slice none 0 0)] (.tuple #[.agg #[iN 0, iN 0, .slice none 0 0], iN (closed [r0])]) (rc_L 1 rfl rfl (rc_L 1 rfl rfl (rc_L 1 rfl rfl rc_nil))) hst ?_
     exact ⟨G1', _, [], hG1.trans hG1', rfl, OwnP.zero, (hst.drop [_, _, _, _]).drop Fr⟩
    ·skip
     rw [if_neg (show ¬ closed [r0] ≠ 0 by simpa using hc10)] at h; simp only [Option.some.injEq, Prod.mk.injEq] at h; obtain ⟨rfl, rfl⟩ := h
     refine W_skip ?_
     refine W_seq ?_
     refine W_rg [(.l, 0), (.f, 1), (.p, 2)] hst ?_
     refine r_sg [(.l, 0)] [[iN r0.kind, iN r0.num, .slice xA r0.kids.length xc]] [(⟨b8, 0, none⟩, iN r0.kind), (⟨b8, 1, none⟩, iN r0.num), (⟨b8, 2, none⟩, .slice xA r0.kids.length xc)] [(36, .agg #[iN r0.kind, iN r0.num, .slice xA r0.kids.length xc])] (rc_L 0 rfl rfl (rc_L 0 rfl rfl (rc_L 0 rfl rfl rc_nil))) ?_
     refine m_st ((b8, .cells #[iN r0.kind, iN r0.num, .slice xA r0.kids.length xc] 24) :: (b3, .cells #[iN r0.kind, iN r0.num, .slice xA r0.kids.length xc] 24) :: (b2, .cells #[iN b.kind, iN b.num, .slice bA b.kids.length bc] 24) :: (b1, .cells #[iN a.kind, iN a.num, .slice (some ⟨eb1, eo1, none⟩) a.kids.length ac] 24) :: (Fr ++ L)) 1 [(0, iN r0.kind), (1, iN r0.num), (2, .slice xA r0.kids.length xc)] [iN r0.kind, iN r0.num, .slice xA r0.kids.length xc] none hst (fun w1 hst => ?_)
     refine r_en [] [] [(5, iN 0)] rc_nil ?_
     refine W_ret ?_
     refine q_rt [iN r0.kind, iN r0.num, .slice xA r0.kids.length xc] [(⟨b3, 0, none⟩, iN r0.kind), (⟨b3, 1, none⟩, iN r0.num), (⟨b3, 2, none⟩, .slice xA r0.kids.length xc)] (.tuple #[.agg #[iN r0.kind, iN r0.num, .slice xA r0.kids.length xc], iN 0]) (rc_L 1 rfl rfl (rc_L 1 rfl rfl (rc_L 1 rfl rfl rc_nil))) hst ?_
     exact ⟨G1', _, Fr, hG1.trans hG1', rfl, hxo, hst.drop [_, _, _, _]⟩
   ·skip
    refine m_newE (.cells #[iN 0, iN 0, .slice none 0 0] 24) (fun b11 => pN b11 0) (some 7) (fun b => by kernel_rfl) hst (fun _ _ h => h.ss' (Le.refl _) (fun p hp => by simp only [List.mem_cons, List.not_mem_nil, or_false] at hp; rcases hp with rfl | rfl <;> simp)) (fun b11 w1 hst => ?_)
    refine r_nil ?_
    unfold RunT
    refine m_callE #[.agg #[iN u.kind, iN u.num, .slice uA u.kids.length uc], .agg #[iN b.kind, iN b.num, .slice bA b.kids.length bc], iN 0] (some 28) (by kernel_rfl) (c77 _ hup ((hvb.mono hG1).mono hG1') (by omega) (by omega) hr0 hst) ?_
    rintro x0 w1 ⟨Fr, hxo, hst⟩
    have hst := St.swap (A := Fr) (B := [(b11, .cells #[iN 0, iN 0, .slice none 0 0] 24), (b3, .cells #[iN 0, iN 0, .slice none 0 0] 24), (b2, .cells #[iN b.kind, iN b.num, .slice bA b.kids.length bc] 24), (b1, .cells #[iN a.kind, iN a.num, .slice (some ⟨eb1, eo1, none⟩) a.kids.length ac] 24)]) (C := L) hst
    have hst : St G1' ((b11, .cells #[iN 0, iN 0, .slice none 0 0] 24) :: (b3, .cells #[iN 0, iN 0, .slice none 0 0] 24) :: (b2, .cells #[iN b.kind, iN b.num, .slice bA b.kids.length bc] 24) :: (b1, .cells #[iN a.kind, iN a.num, .slice (some ⟨eb1, eo1, none⟩) a.kids.length ac] 24) :: (Fr ++ L)) w1 := hst
    obtain ⟨xA, xc, rfl⟩ := hxo.shape
    refine ⟨hst.ss' (Le.refl _) (fun p hp => by simp only [List.mem_cons, List.not_mem_nil, or_false] at hp; rcases hp with rfl | rfl <;> simp), ?_⟩
    refine m_st ((b11, .cells #[iN r0.kind, iN r0.num, .slice xA r0.kids.length xc] 24) :: (b3, .cells #[iN 0, iN 0, .slice none 0 0] 24) :: (b2, .cells #[iN b.kind, iN b.num, .slice bA b.kids.length bc] 24) :: (b1, .cells #[iN a.kind, iN a.num, .slice (some ⟨eb1, eo1, none⟩) a.kids.length ac] 24) :: (Fr ++ L)) 0 [(0, iN r0.kind), (1, iN r0.num), (2, .slice xA r0.kids.length xc)] [iN r0.kind, iN r0.num, .slice xA r0.kids.length xc] none hst (fun w1 hst => ?_)
    refine r_nil ?_
    refine W_seq ?_
    refine W_seq ?_
    refine W_rg [(.l, 0), (.f, 1), (.f, 2), (.p, 3)] hst ?_
    refine r_sg [(.l, 0)] [[iN r0.kind, iN r0.num, .slice xA r0.kids.length xc]] [(⟨b11, 0, none⟩, iN r0.kind), (⟨b11, 1, none⟩, iN r0.num), (⟨b11, 2, none⟩, .slice xA r0.kids.length xc)] [(29, .agg #[iN r0.kind, iN r0.num, .slice xA r0.kids.length xc])] (rc_L 0 rfl rfl (rc_L 0 rfl rfl (rc_L 0 rfl rfl rc_nil))) ?_
    refine m_new (.cells #[iN r0.kind, iN r0.num, .slice xA r0.kids.length xc] 24) (fun b12 => .slice (some ⟨b12, 0, none⟩) 1 1) (some 30) (fun b => by kernel_rfl) hst (fun b12 w1 hst => ?_)
    have hst := St.swap (A := [(b12, .cells #[iN r0.kind, iN r0.num, .slice xA r0.kids.length xc] 24), (b11, .cells #[iN r0.kind, iN r0.num, .slice xA r0.kids.length xc] 24), (b3, .cells #[iN 0, iN 0, .slice none 0 0] 24), (b2, .cells #[iN b.kind, iN b.num, .slice bA b.kids.length bc] 24), (b1, .cells #[iN a.kind, iN a.num, .slice (some ⟨eb1, eo1, none⟩) a.kids.length ac] 24)]) (B := Fr) (C := L) hst
    obtain ⟨G2, hG2, hF2, hst, hthaw⟩ := St.freezeT Fr hst
    have hxp := hxo.poly hF2
    obtain ⟨G3, hG3, hF3, hst⟩ := St.freeze [_] hst
    have hcl56 := c56 (ts := [r0]) (c := 1) (polys_of (cs := [.int .i64 r0.kind, .int .i64 r0.num, .slice xA r0.kids.length xc]) ⟨hxp.mono hG3, trivial⟩ (hF3 _ (.head _))) (Nat.le_refl _) (by rw [T.sz1]; exact hrz u r0 hqu hr0) hst
    refine m_cl #[.slice (some ⟨b12, 0, none⟩) 1 1] (some 31) hcl56 ?_
    rintro _ w1 ⟨G4, hG4, rfl, hst⟩
    have hst := hthaw (hst.weak (hG3.trans hG4))
    have hst := St.swap (A := Fr) (B := [(b11, .cells #[iN r0.kind, iN r0.num, .slice xA r0.kids.length xc] 24), (b3, .cells #[iN 0, iN 0, .slice none 0 0] 24), (b2, .cells #[iN b.kind, iN b.num, .slice bA b.kids.length bc] 24), (b1, .cells #[iN a.kind, iN a.num, .slice (some ⟨eb1, eo1, none⟩) a.kids.length ac] 24)]) (C := L) hst
    have hst : St G1' ((b11, .cells #[iN r0.kind, iN r0.num, .slice xA r0.kids.length xc] 24) :: (b3, .cells #[iN 0, iN 0, .slice none 0 0] 24) :: (b2, .cells #[iN b.kind, iN b.num, .slice bA b.kids.length bc] 24) :: (b1, .cells #[iN a.kind, iN a.num, .slice (some ⟨eb1, eo1, none⟩) a.kids.length ac] 24) :: (Fr ++ L)) w1 := hst
    refine nx hst ?_
    refine r_en [] [] [(8, iN (closed [r0]))] rc_nil ?_
    refine W_seq ?_
    refine W_rg [(.p, 0), (.p, 1)] hst ?_
    refine r_en [] [] [(32, iN (closed [r0])), (33, .bool ((closed [r0]) != 0))] rc_nil ?_
    refine W_cd (b := (closed [r0]) != 0) (fun hc13 => ?_) (fun hc13 => ?_)
    ·skip
     rw [if_pos (show closed [r0] ≠ 0 by simpa using hc13)] at h; simp only [Option.some.injEq, Prod.mk.injEq] at h; obtain ⟨rfl, rfl⟩ := h
     refine W_seq ?_
     refine W_rg [(.p, 0), (.p, 1), (.f, 2), (.p, 3)] hst ?_
     refine r_sg [(.p, 0), (.p, 1)] [] [] [(34, .agg #[iN 0, iN 0, .slice none 0 0]), (35, iN (closed [r0]))] rc_nil ?_
     refine m_st ((b11, .cells #[iN r0.kind, iN r0.num, .slice xA r0.kids.length xc] 24) :: (b3, .cells #[iN 0, iN 0, .slice none 0 0] 24) :: (b2, .cells #[iN b.kind, iN b.num, .slice bA b.kids.length bc] 24) :: (b1, .cells #[iN a.kind, iN a.num, .slice (some ⟨eb1, eo1, none⟩) a.kids.length ac] 24) :: (Fr ++ L)) 1 [(0, iN 0), (1, iN 0), (2, .slice none 0 0)] [iN 0, iN 0, .slice none 0 0] none hst (fun w1 hst => ?_)
     refine r_en [] [] [(5, iN (closed [r0]))] rc_nil ?_
     refine W_ret ?_
     refine q_rt [iN 0, iN 0, .slice none 0 0] [(⟨b3, 0, none⟩, iN 0), (⟨b3, 1, none⟩, iN 0), (⟨b3, 2, none⟩, .slice none 0 0)] (.tuple #[.agg #[iN 0, iN 0, .slice none 0 0], iN (closed [r0])]) (rc_L 1 rfl rfl (rc_L 1 rfl rfl (rc_L 1 rfl rfl rc_nil))) hst ?_
     exact ⟨G1', _, [], hG1.trans hG1', rfl, OwnP.zero, (hst.drop [_, _, _, _]).drop Fr⟩
    ·skip
     rw [if_neg (show ¬ closed [r0] ≠ 0 by simpa using hc13)] at h; simp only [Option.some.injEq, Prod.mk.injEq] at h; obtain ⟨rfl, rfl⟩ := h
     refine W_skip ?_
     refine W_seq ?_
     refine W_rg [(.l, 0), (.f, 1), (.p, 2)] hst ?_
     refine r_sg [(.l, 0)] [[iN r0.kind, iN r0.num, .slice xA r0.kids.length xc]] [(⟨b11, 0, none⟩, iN r0.kind), (⟨b11, 1, none⟩, iN r0.num), (⟨b11, 2, none⟩, .slice xA r0.kids.length xc)] [(36, .agg #[iN r0.kind, iN r0.num, .slice xA r0.kids.length xc])] (rc_L 0 rfl rfl (rc_L 0 rfl rfl (rc_L 0 rfl rfl rc_nil))) ?_
     refine m_st ((b11, .cells #[iN r0.kind, iN r0.num, .slice xA r0.kids.length xc] 24) :: (b3, .cells #[iN r0.kind, iN r0.num, .slice xA r0.kids.length xc] 24) :: (b2, .cells #[iN b.kind, iN b.num, .slice bA b.kids.length bc] 24) :: (b1, .cells #[iN a.kind, iN a.num, .slice (some ⟨eb1, eo1, none⟩) a.kids.length ac] 24) :: (Fr ++ L)) 1 [(0, iN r0.kind), (1, iN r0.num), (2, .slice xA r0.kids.length xc)] [iN r0.kind, iN r0.num, .slice xA r0.kids.length xc] none hst (fun w1 hst => ?_)
     refine r_en [] [] [(5, iN 0)] rc_nil ?_
     refine W_ret ?_
     refine q_rt [iN r0.kind, iN r0.num, .slice xA r0.kids.length xc] [(⟨b3, 0, none⟩, iN r0.kind), (⟨b3, 1, none⟩, iN r0.num), (⟨b3, 2, none⟩, .slice xA r0.kids.length xc)] (.tuple #[.agg #[iN r0.kind, iN r0.num, .slice xA r0.kids.length xc], iN 0]) (rc_L 1 rfl rfl (rc_L 1 rfl rfl (rc_L 1 rfl rfl rc_nil))) hst ?_
     exact ⟨G1', _, Fr, hG1.trans hG1', rfl, hxo, hst.drop [_, _, _, _]⟩

end Go.Proofs.Ytjgnhhgigickaaa.Wk
/- The plain laws behind RankTypes: ranks, whether two types are the same, and what opening makes, are in the program as in the reference. Conditions: none. -/

namespace Go.Proofs.Ytjgnhhgigickaaa.Wk
open Go Md

theorem rank_law0 : ∀ (f : Nat) {t : T}, wf t → nds t ≤ f → nds t ≤ 1000000 → ∃ r, Md.rank f t = some r ∧ rrank f t = some r ∧ 0 ≤ r ∧ r ≤ (nds t : Int)
  | 0, t, _, h, _ => by have := nds_pos t; omega
  | f + 1, .mk k num ks, hw, hf, hb => by
    rw [nds_mk] at hf hb ⊢
    unfold wf at hw
    obtain ⟨hk, hks⟩ := hw
    unfold Md.rank rrank
    dsimp only [T.kind, T.kids]
    rcases hk with ⟨hk | hk, hl⟩ | ⟨hk, hl⟩ | ⟨hk, hl⟩
    · subst hk; exact ⟨0, by rw [if_neg (by decide), if_neg (by decide)], by rw [if_neg (by decide), if_neg (by decide)], Int.le_refl _, by omega⟩
    · subst hk; exact ⟨0, by rw [if_neg (by decide), if_neg (by decide)], by rw [if_neg (by decide), if_neg (by decide)], Int.le_refl _, by omega⟩
    · subst hk
      match ks, hl, hks with
      | [a, b], _, hks =>
        unfold wfs wfs at hks
        rw [ndss_cons, ndss_cons] at hf hb ⊢
        obtain ⟨n, a1, a2, a3, a4⟩ := rank_law0 f hks.1 (by omega) (by omega)
        obtain ⟨m, b1, b2, b3, b4⟩ := rank_law0 f hks.2.1 (by omega) (by omega)
        rw [if_neg (by decide), if_pos (by trivial), if_neg (by decide), if_pos (by trivial)]
        dsimp only
        rw [a1, b1, a2, b2]
        have hw1 : w64 (n + 1) = n + 1 := w64_id (by omega) (by omega)
        refine ⟨if n > 0 then max m (w64 (n + 1)) else m, rfl, ?_, ?_, ?_⟩
        · show some _ = some _
          congr 1; rw [hw1]; split <;> omega
        · rw [hw1]; split <;> omega
        · rw [hw1]; split <;> omega
    · subst hk
      match ks, hl, hks with
      | [a], _, hks =>
        unfold wfs at hks
        rw [ndss_cons] at hf hb ⊢
        obtain ⟨n, a1, a2, a3, a4⟩ := rank_law0 f hks.1 (by omega) (by omega)
        rw [if_pos (by trivial), if_pos (by trivial)]
        dsimp only
        rw [a1, a2]
        exact ⟨max 1 n, rfl, rfl, by omega, by omega⟩
theorem rank_law (t : T) : ∃ f r e, Md.Rank f t = some (r, e) ∧ rRank f t = some (r, e) := by
  by_cases h : closed [t] = 0
  · have hr : right t 0 = 0 := by rw [closed_one, ← right_eq] at h; exact h
    obtain ⟨hw, hn⟩ := right_wf hr
    obtain ⟨r, p, q, _⟩ := rank_law0 (nds t) hw (Nat.le_refl _) (by omega)
    exact ⟨nds t, r, 0, by unfold Md.Rank; rw [if_pos h, p]; rfl, by unfold rRank; rw [if_neg (fun x => x (by rw [← closed_one]; exact h)), q]; rfl⟩
  · exact ⟨0, 0, closed [t], by unfold Md.Rank; rw [if_neg h], by unfold rRank; rw [if_pos (by rw [← closed_one]; exact h), closed_one]⟩
theorem both_law (a b : T) : closed [a, b] = rboth a b := by
  show (if right a 0 = 0 then closed [b] else right a 0) = _
  unfold rboth
  rw [closed_one, right_eq]
  by_cases h : rRight a 0 = 0
  · rw [if_pos h, if_neg (fun x => x h)]
  · rw [if_neg h, if_pos h]
theorem same_law (a b : T) : Same a b = rSame a b := by
  unfold Same rSame
  rw [both_law]
  by_cases h : rboth a b = 0
  · rw [if_pos h, if_neg (fun x => x h)]
  · rw [if_neg h, if_pos h]

mutual
/-- no variable leads out of so many quantifiers -/
def clo : Int → T → Prop
  | d, .mk k num ks => (k = 1 → 0 ≤ num ∧ num < d) ∧ clos (if k = 4 then d + 1 else d) ks
def clos : Int → List T → Prop
  | _, [] => True
  | d, t :: ts => clo d t ∧ clos d ts
end
mutual
theorem rt_clo : ∀ (t : T) {n ar m : Int}, 0 ≤ n → n ≤ 26 → 0 ≤ ar → ar ≤ m → m ≤ 12 → (rtWalk n ar m t).1 = 0 → clo (ar + n) t
  | .mk k num ks, n, ar, m, h0, h1, h2, h3, h4, h => by
    unfold rtWalk at h
    dsimp only at h
    split at h
    · rename_i hn
      have hr := rtNode_eq (ar := ar) (n := n) (k := k) (num := num) (len := ks.length) (wi := w64 (ar + n)) h4 rfl
      rw [hn] at hr
      have hw : w64 (ar + n) = ar + n := w64_id (by omega) (by omega)
      rw [hw] at hr
      split at hr
      · cases hr
      split at hr
      · cases hr
      split at hr
      · cases hr
      split at hr
      · cases hr
      rename_i c1 c2 c3 c4
      have hm : w64 (m + 1) = m + 1 := w64_id (by omega) (by omega)
      have ha : w64 (ar + 1) = ar + 1 := w64_id (by omega) (by omega)
      rw [hm, ha] at h
      unfold clo
      refine ⟨fun hk => by omega, ?_⟩
      have := rts_clo ks (n := n) (ar := if k = 4 then ar + 1 else ar) (m := m + 1) h0 h1 (by split <;> omega) (by split <;> omega) (by omega) h
      have e : (if k = 4 then ar + n + 1 else ar + n) = (if k = 4 then ar + 1 else ar) + n := by split <;> omega
      rw [e]; exact this
    · rename_i hn; exact absurd h hn
theorem rts_clo : ∀ (ts : List T) {n ar m : Int}, 0 ≤ n → n ≤ 26 → 0 ≤ ar → ar ≤ m → m ≤ 12 → (rtList n ar m ts).1 = 0 → clos (ar + n) ts
  | [], _, _, _, _, _, _, _, _, _ => by unfold clos; trivial
  | t :: ts, n, ar, m, h0, h1, h2, h3, h4, h => by
    unfold rtList at h
    dsimp only at h
    split at h
    · rename_i hc
      obtain ⟨_, b, c, _⟩ := (rt_eq t (n := n) (ar := ar) (m := m) (wi := w64 (ar + n)) (by omega) h4 rfl).2 hc
      have := nds_pos t
      unfold clos
      exact ⟨rt_clo t h0 h1 h2 h3 h4 hc, rts_clo ts h0 h1 h2 (by omega) c h⟩
    · rename_i hc; exact absurd h hc
end
theorem right_clo {t : T} (h : right t 0 = 0) : clo 0 t := by
  unfold right at h
  rw [if_neg (by decide)] at h
  have := rt_clo t (n := 0) (ar := 0) (m := 0) (by decide) (by decide) (by decide) (by decide) (by decide) h
  simpa using this

theorem mapM_some {α β : Type} {f : α → Option β} {g : α → β} : ∀ (l : List α), (∀ x, x ∈ l → f x = some (g x)) → l.mapM f = some (l.map g)
  | [], _ => rfl
  | x :: l, h => by
    rw [List.mapM_cons, h x (.head _)]
    have := mapM_some l (fun y hy => h y (.tail _ hy))
    simp [this]
theorem rputs_map (wth : T) (o : Int) : ∀ (ts : List T), rputs wth ts o = ts.map fun t => rput wth t o
  | [] => rfl
  | t :: ts => by simp [rputs, rputs_map wth o ts]
theorem wfs_mem : ∀ {ts : List T} {t : T}, wfs ts → t ∈ ts → wf t
  | u :: ts, t, h, hm => by
    unfold wfs at h
    rcases List.mem_cons.1 hm with rfl | hm
    · exact h.1
    · exact wfs_mem h.2 hm
theorem clos_mem : ∀ {ts : List T} {t : T} {d : Int}, clos d ts → t ∈ ts → clo d t
  | u :: ts, t, d, h, hm => by
    unfold clos at h
    rcases List.mem_cons.1 hm with rfl | hm
    · exact h.1
    · exact clos_mem h.2 hm
theorem ndss_mem : ∀ {ts : List T} {t : T}, t ∈ ts → nds t ≤ ndss ts
  | u :: ts, t, hm => by
    rw [ndss_cons]
    rcases List.mem_cons.1 hm with rfl | hm
    · omega
    · have := ndss_mem hm; omega
theorem opened_copy : ∀ (f : Nat) {t wth : T} {d : Int}, wf t → clo d t → nds t ≤ f → Md.opened f t wth (-1) = some t
  | 0, t, _, _, _, _, h => by have := nds_pos t; omega
  | f + 1, .mk k num ks, wth, d, hw, hc, hf => by
    rw [nds_mk] at hf
    unfold wf at hw
    unfold clo at hc
    rw [opened_eq]
    dsimp only [T.kind, T.num, T.kids]
    rw [if_neg (fun h => by have := hc.1 h.1; omega)]
    have hn : (if k = 4 ∧ (-1 : Int) ≥ 0 then w64 (-1 + 1) else -1) = (-1 : Int) := by rw [if_neg (by omega)]
    rw [hn, mapM_some (f := fun u => Md.opened f u wth (-1)) (g := id) ks fun u hu => opened_copy f (wfs_mem hw.2 hu) (clos_mem hc.2 hu) (by have := ndss_mem hu; omega)]
    simp
theorem opened_put : ∀ (f : Nat) {t wth : T} {n : Int}, wf t → clo (n + 1) t → 0 ≤ n → n + (nds t : Int) ≤ 1000 → wf wth → clo 0 wth → nds t + nds wth ≤ f → Md.opened f t wth n = some (rput wth t n)
  | 0, t, _, _, _, _, _, _, _, _, h => by have := nds_pos t; omega
  | f + 1, .mk k num ks, wth, n, hw, hc, h0, h1, hww, hcw, hf => by
    rw [nds_mk] at hf h1
    unfold wf at hw
    unfold clo at hc
    have hn1 : w64 (n + 1) = n + 1 := w64_id (by omega) (by omega)
    rw [opened_eq]
    unfold rput
    dsimp only [T.kind, T.num, T.kids]
    by_cases hk : k = 1
    · have hks : ks = [] := by
        have := hw.1; unfold wfn at this
        exact List.eq_nil_of_length_eq_zero (by omega)
      subst hks
      have hb := hc.1 hk
      rw [if_pos hk]
      by_cases hnum : num = n
      · rw [if_pos ⟨hk, hnum⟩, if_pos hnum]
        exact opened_copy f hww hcw (by omega)
      · rw [if_neg (fun h => hnum h.2), if_neg hnum, if_neg (show ¬ num > n by omega)]
        rfl
    · rw [if_neg (fun h => hk h.1), if_neg hk]
      have hn : (if k = 4 ∧ n ≥ 0 then w64 (n + 1) else n) = (if k = 4 then w64 (n + 1) else n) := by
        by_cases h4 : k = 4
        · rw [if_pos ⟨h4, h0⟩, if_pos h4]
        · rw [if_neg (fun h => h4 h.1), if_neg h4]
      rw [hn, rputs_map]
      rw [mapM_some (f := fun u => Md.opened f u wth (if k = 4 then w64 (n + 1) else n)) (g := fun u => rput wth u (if k = 4 then w64 (n + 1) else n)) ks fun u hu => by
        have hm := ndss_mem hu
        by_cases h4 : k = 4
        · rw [if_pos h4] at hc ⊢
          rw [hn1]
          exact opened_put f (wfs_mem hw.2 hu) (clos_mem hc.2 hu) (by omega) (by omega) hww hcw (by omega)
        · rw [if_neg h4] at hc ⊢
          exact opened_put f (wfs_mem hw.2 hu) (clos_mem hc.2 hu) h0 (by omega) hww hcw (by omega)]
      rfl
theorem open_law (a b : T) : ∃ f r e, Md.Open f a b = some (r, e) ∧ rOpen a b = (r, e) ∧ T.sz r < lim ∧ ∀ u x, a.kids[0]? = some u → Md.opened f u b 0 = some x → T.sz x + 1 < lim := by
  have hlim : lim = 1099511627776 := rfl
  unfold Md.Open rOpen
  rw [both_law]
  by_cases h1 : rboth a b ≠ 0
  · exact ⟨0, t0, rboth a b, by rw [if_pos h1], by rw [if_pos h1], by decide, fun u x _ hx => by cases hx⟩
  by_cases h2 : a.kind ≠ 4
  · exact ⟨0, t0, 6, by rw [if_neg h1, if_pos h2], by rw [if_neg h1, if_pos h2], by decide, fun u x _ hx => by cases hx⟩
  have hra : rRight a 0 = 0 ∧ rRight b 0 = 0 := by unfold rboth at h1; split at h1 <;> omega
  have ha0 : right a 0 = 0 := by rw [right_eq]; exact hra.1
  have hb0 : right b 0 = 0 := by rw [right_eq]; exact hra.2
  obtain ⟨hwa, hna⟩ := right_wf ha0
  obtain ⟨hwb, hnb⟩ := right_wf hb0
  have hca := right_clo ha0
  have hcb := right_clo hb0
  obtain ⟨k, num, ks⟩ := a
  have h4 : k = 4 := Classical.byContradiction h2
  subst h4
  unfold wf wfn at hwa
  have hl : ks.length = 1 := by omega
  match ks, hl with
  | [u], _ =>
    have hwu : wf u := wfs_mem hwa.2 (.head _)
    unfold clo at hca
    have hcu : clo 1 u := by have := clos_mem hca.2 (t := u) (.head _); simpa using this
    rw [nds_mk, ndss_cons] at hna
    have ho := opened_put (nds u + nds b) (n := 0) hwu (by simpa using hcu) (by decide) (by omega) hwb hcb (Nat.le_refl _)
    have hsz : T.sz (rput b u 0) + 1 < lim := by
      have x1 := nds_rput b u 0
      have x3 := sz_nds (rput b u 0)
      have x4 : nds u * nds b ≤ 12 * 12 := Nat.mul_le_mul (by omega) hnb
      omega
    have hx : ∀ v x, (T.mk 4 num [u]).kids[0]? = some v → Md.opened (nds u + nds b) v b 0 = some x → T.sz x + 1 < lim := by
      intro v x hv hxx
      have : u = v := by simpa using hv
      subst this
      rw [ho] at hxx; cases hxx; exact hsz
    by_cases hc : rRight (rput b u 0) 0 ≠ 0
    · refine ⟨nds u + nds b, t0, rRight (rput b u 0) 0, ?_, ?_, by decide, hx⟩
      · rw [if_neg h1, if_neg h2]; dsimp only; rw [ho]; show (if closed [rput b u 0] ≠ 0 then _ else _) = _; rw [closed_one, if_pos hc]
      · rw [if_neg h1, if_neg h2]; dsimp only; rw [if_pos hc]
    · refine ⟨nds u + nds b, rput b u 0, 0, ?_, ?_, by omega, hx⟩
      · rw [if_neg h1, if_neg h2]; dsimp only; rw [ho]; show (if closed [rput b u 0] ≠ 0 then _ else _) = _; rw [closed_one, if_neg hc]
      · rw [if_neg h1, if_neg h2]; dsimp only; rw [if_neg hc]
end Go.Proofs.Ytjgnhhgigickaaa.Wk
/- Walks of the given program's functions: RankTypes. Printed by tools/w42.py. Conditions: none. -/

namespace Go.Proofs.Ytjgnhhgigickaaa.Wk
open Go Md
set_option maxRecDepth 20000
set_option linter.unusedVariables false
set_option linter.unusedSimpArgs false
attribute [local irreducible] endQ

theorem small_of {t : T} (h : ¬ cnt t 0 0 > 40) : T.sz t ≤ 80 := by
 have a := cnt_bd t (m := 0) (d := 0) (by decide) (by decide)
 have b := sz_nds t
 omega

theorem c9 {G : GH} {L : LH} {w : World} {va vb : Value} {a b : T} {n : Int} (hva : IsPoly G va a) (hvb : IsPoly G vb b) (hst : St G L w) : Cal Try.prog 9 #[va, vb, .int .i64 n] w fun x w' => x = .bool true ∧ St G L w' := by
 have hlim : lim = 1099511627776 := rfl
 obtain ⟨aA, ac, rfl, hac, hak⟩ := id hva.open
 obtain ⟨bA, bc, rfl, hbc, hbk⟩ := id hvb.open
 refine cal_of_W Try.func9 rfl (Nat.le_of_ble_eq_true (by kernel_rfl)) ?_
 refine W_seq ?_
 refine W_rg [(.f, 0), (.f, 1), (.p, 2)] hst ?_
 refine m_new (.cells #[iN a.kind, iN a.num, .slice aA a.kids.length ac] 24) (fun b1 => pN b1 0) (some 3) (fun b => by kernel_rfl) hst (fun b1 w1 hst => ?_)
 refine m_new (.cells #[iN b.kind, iN b.num, .slice bA b.kids.length bc] 24) (fun b2 => pN b2 0) (some 4) (fun b => by kernel_rfl) hst (fun b2 w1 hst => ?_)
 refine r_en [] [] [(6, .bool false)] rc_nil ?_
 refine W_seq ?_
 refine W_seq ?_
 refine W_rg [(.l, 0), (.f, 1), (.p, 2), (.l, 3), (.f, 4), (.p, 5)] hst ?_
 refine r_sg [(.l, 0)] [[iN a.kind, iN a.num, .slice aA a.kids.length ac]] [(⟨b1, 0, none⟩, iN a.kind), (⟨b1, 1, none⟩, iN a.num), (⟨b1, 2, none⟩, .slice aA a.kids.length ac)] [(22, .agg #[iN a.kind, iN a.num, .slice aA a.kids.length ac])] (rc_L 1 rfl rfl (rc_L 1 rfl rfl (rc_L 1 rfl rfl rc_nil))) ?_
 refine m_cl #[.agg #[iN a.kind, iN a.num, .slice aA a.kids.length ac]] (some 23) (c11 hva hst) ?_
 rintro _ w1 ⟨rfl, hst⟩
 refine nx hst ?_
 refine r_sg [(.p, 2)] [] [] [(24, .bool (decide (cnt a 0 0 > 40)))] rc_nil ?_
 rcases Bool.eq_false_or_eq_true (decide (cnt a 0 0 > 40)) with hc3 | hc3
 ·rw [hc3]
  refine r_en [] [] [(25, undef), (26, undef), (27, .bool true)] rc_nil ?_
  refine W_cT ?_
  refine W_seq ?_
  refine W_rg [(.f, 0), (.p, 1)] hst ?_
  refine m_cl #[] (some 28) (c12 hst) ?_
  rintro _ w1 ⟨rfl, hst⟩
  refine nx hst ?_
  refine r_en [] [] [(6, .bool true)] rc_nil ?_
  refine W_ret ?_
  refine q_rt [] [] (.bool true) rc_nil hst ?_
  exact ⟨by first | rfl | (congr 1; simp; done), hst.drop [_, _]⟩
 ·rw [hc3]
  have hza := small_of (of_decide_eq_false hc3)
  refine r_sg [(.l, 3)] [[iN b.kind, iN b.num, .slice bA b.kids.length bc]] [(⟨b2, 0, none⟩, iN b.kind), (⟨b2, 1, none⟩, iN b.num), (⟨b2, 2, none⟩, .slice bA b.kids.length bc)] [(25, .agg #[iN b.kind, iN b.num, .slice bA b.kids.length bc])] (rc_L 0 rfl rfl (rc_L 0 rfl rfl (rc_L 0 rfl rfl rc_nil))) ?_
  refine m_cl #[.agg #[iN b.kind, iN b.num, .slice bA b.kids.length bc]] (some 26) (c11 hvb hst) ?_
  rintro _ w1 ⟨rfl, hst⟩
  refine nx hst ?_
  refine r_en [] [] [(27, .bool (decide (cnt b 0 0 > 40)))] rc_nil ?_
  refine W_cd (b := decide (cnt b 0 0 > 40)) (fun hc4 => ?_) (fun hc4 => ?_)
  ·skip
   refine W_seq ?_
   refine W_rg [(.f, 0), (.p, 1)] hst ?_
   refine m_cl #[] (some 28) (c12 hst) ?_
   rintro _ w1 ⟨rfl, hst⟩
   refine nx hst ?_
   refine r_en [] [] [(6, .bool true)] rc_nil ?_
   refine W_ret ?_
   refine q_rt [] [] (.bool true) rc_nil hst ?_
   exact ⟨by first | rfl | (congr 1; simp; done), hst.drop [_, _]⟩
  ·skip
   have hzb := small_of (of_decide_eq_false hc4)
   refine W_skip ?_
   refine W_seqI (fun ρ D w => ∃ (GJ : GH) (b7 : Nat) (b8 : Nat) (pA : Option Addr) (qA : Nat) (pB : Option Addr) (qB : Nat), EqS ρ [(2, iN n), (3, pN b1 0), (4, pN b2 0), (7, pN b7 0), (8, pN b8 0)] ∧ D = [] ∧ St GJ ((b8, .cells #[iN b.kind, iN b.num, .slice pB b.kids.length qB] 24) :: (b7, .cells #[iN a.kind, iN a.num, .slice pA a.kids.length qA] 24) :: (b2, .cells #[iN b.kind, iN b.num, .slice bA b.kids.length bc] 24) :: (b1, .cells #[iN a.kind, iN a.num, .slice aA a.kids.length ac] 24) :: L) w ∧ (Le G GJ) ∧ (IsPoly GJ (.agg #[iN a.kind, iN a.num, .slice pA a.kids.length qA]) a) ∧ (IsPoly GJ (.agg #[iN b.kind, iN b.num, .slice pB b.kids.length qB]) b)) ?_ ?_
   ·skip
    refine W_regT (.fork3 [(.l, 0), (.l, 2)] 1 (.fork3 [] 3 (.fork [] 4 (.run [(.e, 5), (.f, 6), (.f, 7)]) 5 (.run [(.e, 4), (.f, 6), (.f, 7)])) 4 (.fork [] 3 (.run [(.e, 5), (.f, 6), (.f, 7)]) 5 (.run [(.e, 3), (.f, 6), (.f, 7)])) 5 (.fork [] 3 (.run [(.e, 4), (.f, 6), (.f, 7)]) 4 (.run [(.e, 3), (.f, 6), (.f, 7)]))) 4 (.fork [] 1 (.fork [] 3 (.run [(.e, 5), (.f, 6), (.f, 7)]) 5 (.run [(.e, 3), (.f, 6), (.f, 7)])) 5 (.run [(.e, 1), (.e, 3), (.f, 6), (.f, 7)])) 5 (.fork [] 1 (.fork [] 3 (.run [(.e, 4), (.f, 6), (.f, 7)]) 4 (.run [(.e, 3), (.f, 6), (.f, 7)])) 4 (.run [(.e, 1), (.e, 3), (.f, 6), (.f, 7)]))) 6 (SS G ([(b2, .cells #[iN b.kind, iN b.num, .slice bA b.kids.length bc] 24), (b1, .cells #[iN a.kind, iN a.num, .slice aA a.kids.length ac] 24)])) mixed (by kernel_rfl) (by kernel_rfl) (by kernel_rfl) (by kernel_rfl) (fun w1 hw1 => ?_)
    have hst := hst.heap hw1; refine ⟨hst.ss' (Le.refl _) (fun p hp => by simp only [List.mem_cons, List.not_mem_nil, or_false] at hp; rcases hp with rfl | rfl <;> simp), ?_⟩
    unfold RunT
    refine r_en [[iN a.kind, iN a.num, .slice aA a.kids.length ac], [iN b.kind, iN b.num, .slice bA b.kids.length bc]] [(⟨b1, 0, none⟩, iN a.kind), (⟨b1, 1, none⟩, iN a.num), (⟨b1, 2, none⟩, .slice aA a.kids.length ac), (⟨b2, 0, none⟩, iN b.kind), (⟨b2, 1, none⟩, iN b.num), (⟨b2, 2, none⟩, .slice bA b.kids.length bc)] [(29, .agg #[iN a.kind, iN a.num, .slice aA a.kids.length ac]), (31, .agg #[iN b.kind, iN b.num, .slice bA b.kids.length bc])] (rc_L 1 rfl rfl (rc_L 1 rfl rfl (rc_L 1 rfl rfl (rc_L 0 rfl rfl (rc_L 0 rfl rfl (rc_L 0 rfl rfl rc_nil)))))) ?_
    refine ⟨?_, ?_, ?_⟩
    ·skip
     refine m_callE #[.agg #[iN a.kind, iN a.num, .slice aA a.kids.length ac]] (some 30) (by kernel_rfl) (c13 _ (Nat.lt_succ_self _) (by omega) (hva) hst) ?_
     rintro o1 w1 ⟨G1, hG1, ho1, hst⟩
     obtain ⟨oA1, oc1, rfl, _, _⟩ := id ho1.open
     refine ⟨hst.ss' ((Le.refl _).trans hG1) (fun p hp => by simp only [List.mem_cons, List.not_mem_nil, or_false] at hp; rcases hp with rfl | rfl <;> simp), ?_⟩
     refine r_nil ?_
     unfold RunT
     refine r_nil ?_
     refine ⟨?_, ?_, ?_⟩
     ·skip
      refine m_callE #[.agg #[iN b.kind, iN b.num, .slice bA b.kids.length bc]] (some 32) (by kernel_rfl) (c13 _ (Nat.lt_succ_self _) (by omega) ((hvb).mono (hG1)) hst) ?_
      rintro o2 w1 ⟨G2, hG2, ho2, hst⟩
      obtain ⟨oA2, oc2, rfl, _, _⟩ := id ho2.open
      refine ⟨hst.ss' (((Le.refl _).trans hG1).trans hG2) (fun p hp => by simp only [List.mem_cons, List.not_mem_nil, or_false] at hp; rcases hp with rfl | rfl <;> simp), ?_⟩
      refine r_nil ?_
      unfold RunT
      refine r_nil ?_
      refine ⟨?_, ?_⟩
      ·skip
       refine m_newE (.cells #[iN 0, iN 0, .slice none 0 0] 24) (fun b5 => pN b5 0) (some 7) (fun b => by kernel_rfl) hst (fun _ _ h => h.ss' (((Le.refl _).trans hG1).trans hG2) (fun p hp => by simp only [List.mem_cons, List.not_mem_nil, or_false] at hp; rcases hp with rfl | rfl <;> simp)) (fun b5 w1 hst => ?_)
       refine r_nil ?_
       unfold RunT
       refine m_newE (.cells #[iN 0, iN 0, .slice none 0 0] 24) (fun b6 => pN b6 0) (some 8) (fun b => by kernel_rfl) hst (fun _ _ h => h.ss' (((Le.refl _).trans hG1).trans hG2) (fun p hp => by simp only [List.mem_cons, List.not_mem_nil, or_false] at hp; rcases hp with rfl | rfl <;> simp)) (fun b6 w1 hst => ?_)
       refine m_st ((b6, .cells #[iN 0, iN 0, .slice none 0 0] 24) :: (b5, .cells #[iN a.kind, iN a.num, .slice oA1 a.kids.length oc1] 24) :: (b2, .cells #[iN b.kind, iN b.num, .slice bA b.kids.length bc] 24) :: (b1, .cells #[iN a.kind, iN a.num, .slice aA a.kids.length ac] 24) :: L) 1 [(0, iN a.kind), (1, iN a.num), (2, .slice oA1 a.kids.length oc1)] [iN a.kind, iN a.num, .slice oA1 a.kids.length oc1] none hst (fun w1 hst => ?_)
       refine m_st ((b6, .cells #[iN b.kind, iN b.num, .slice oA2 b.kids.length oc2] 24) :: (b5, .cells #[iN a.kind, iN a.num, .slice oA1 a.kids.length oc1] 24) :: (b2, .cells #[iN b.kind, iN b.num, .slice bA b.kids.length bc] 24) :: (b1, .cells #[iN a.kind, iN a.num, .slice aA a.kids.length ac] 24) :: L) 0 [(0, iN b.kind), (1, iN b.num), (2, .slice oA2 b.kids.length oc2)] [iN b.kind, iN b.num, .slice oA2 b.kids.length oc2] none hst (fun w1 hst => ?_)
       refine r_nil ?_
       exact ⟨G2, b5, b6, oA1, oc1, oA2, oc2, ⟨by kernel_rfl, by kernel_rfl, by kernel_rfl, by kernel_rfl, by kernel_rfl, trivial⟩, rfl, hst, (hG1).trans hG2, ((ho1).mono (hG2)), (ho2)⟩
      ·skip
       refine m_newE (.cells #[iN 0, iN 0, .slice none 0 0] 24) (fun b7 => pN b7 0) (some 8) (fun b => by kernel_rfl) hst (fun _ _ h => h.ss' (((Le.refl _).trans hG1).trans hG2) (fun p hp => by simp only [List.mem_cons, List.not_mem_nil, or_false] at hp; rcases hp with rfl | rfl <;> simp)) (fun b7 w1 hst => ?_)
       refine r_nil ?_
       unfold RunT
       refine m_newE (.cells #[iN 0, iN 0, .slice none 0 0] 24) (fun b8 => pN b8 0) (some 7) (fun b => by kernel_rfl) hst (fun _ _ h => h.ss' (((Le.refl _).trans hG1).trans hG2) (fun p hp => by simp only [List.mem_cons, List.not_mem_nil, or_false] at hp; rcases hp with rfl | rfl <;> simp)) (fun b8 w1 hst => ?_)
       refine m_st ((b8, .cells #[iN a.kind, iN a.num, .slice oA1 a.kids.length oc1] 24) :: (b7, .cells #[iN 0, iN 0, .slice none 0 0] 24) :: (b2, .cells #[iN b.kind, iN b.num, .slice bA b.kids.length bc] 24) :: (b1, .cells #[iN a.kind, iN a.num, .slice aA a.kids.length ac] 24) :: L) 0 [(0, iN a.kind), (1, iN a.num), (2, .slice oA1 a.kids.length oc1)] [iN a.kind, iN a.num, .slice oA1 a.kids.length oc1] none hst (fun w1 hst => ?_)
       refine m_st ((b8, .cells #[iN a.kind, iN a.num, .slice oA1 a.kids.length oc1] 24) :: (b7, .cells #[iN b.kind, iN b.num, .slice oA2 b.kids.length oc2] 24) :: (b2, .cells #[iN b.kind, iN b.num, .slice bA b.kids.length bc] 24) :: (b1, .cells #[iN a.kind, iN a.num, .slice aA a.kids.length ac] 24) :: L) 1 [(0, iN b.kind), (1, iN b.num), (2, .slice oA2 b.kids.length oc2)] [iN b.kind, iN b.num, .slice oA2 b.kids.length oc2] none hst (fun w1 hst => ?_)
       refine r_nil ?_
       have hst := St.swap (A := [(b8, .cells #[iN a.kind, iN a.num, .slice oA1 a.kids.length oc1] 24)]) (B := [(b7, .cells #[iN b.kind, iN b.num, .slice oA2 b.kids.length oc2] 24)]) hst
       exact ⟨G2, b8, b7, oA1, oc1, oA2, oc2, ⟨by kernel_rfl, by kernel_rfl, by kernel_rfl, by kernel_rfl, by kernel_rfl, trivial⟩, rfl, hst, (hG1).trans hG2, ((ho1).mono (hG2)), (ho2)⟩
     ·skip
      refine m_newE (.cells #[iN 0, iN 0, .slice none 0 0] 24) (fun b9 => pN b9 0) (some 7) (fun b => by kernel_rfl) hst (fun _ _ h => h.ss' ((Le.refl _).trans hG1) (fun p hp => by simp only [List.mem_cons, List.not_mem_nil, or_false] at hp; rcases hp with rfl | rfl <;> simp)) (fun b9 w1 hst => ?_)
      refine r_nil ?_
      unfold RunT
      refine r_nil ?_
      refine ⟨?_, ?_⟩
      ·skip
       refine m_callE #[.agg #[iN b.kind, iN b.num, .slice bA b.kids.length bc]] (some 32) (by kernel_rfl) (c13 _ (Nat.lt_succ_self _) (by omega) ((hvb).mono (hG1)) hst) ?_
       rintro o3 w1 ⟨G3, hG3, ho3, hst⟩
       obtain ⟨oA3, oc3, rfl, _, _⟩ := id ho3.open
       refine ⟨hst.ss' (((Le.refl _).trans hG1).trans hG3) (fun p hp => by simp only [List.mem_cons, List.not_mem_nil, or_false] at hp; rcases hp with rfl | rfl <;> simp), ?_⟩
       refine r_nil ?_
       unfold RunT
       refine m_newE (.cells #[iN 0, iN 0, .slice none 0 0] 24) (fun b10 => pN b10 0) (some 8) (fun b => by kernel_rfl) hst (fun _ _ h => h.ss' (((Le.refl _).trans hG1).trans hG3) (fun p hp => by simp only [List.mem_cons, List.not_mem_nil, or_false] at hp; rcases hp with rfl | rfl <;> simp)) (fun b10 w1 hst => ?_)
       refine m_st ((b10, .cells #[iN 0, iN 0, .slice none 0 0] 24) :: (b9, .cells #[iN a.kind, iN a.num, .slice oA1 a.kids.length oc1] 24) :: (b2, .cells #[iN b.kind, iN b.num, .slice bA b.kids.length bc] 24) :: (b1, .cells #[iN a.kind, iN a.num, .slice aA a.kids.length ac] 24) :: L) 1 [(0, iN a.kind), (1, iN a.num), (2, .slice oA1 a.kids.length oc1)] [iN a.kind, iN a.num, .slice oA1 a.kids.length oc1] none hst (fun w1 hst => ?_)
       refine m_st ((b10, .cells #[iN b.kind, iN b.num, .slice oA3 b.kids.length oc3] 24) :: (b9, .cells #[iN a.kind, iN a.num, .slice oA1 a.kids.length oc1] 24) :: (b2, .cells #[iN b.kind, iN b.num, .slice bA b.kids.length bc] 24) :: (b1, .cells #[iN a.kind, iN a.num, .slice aA a.kids.length ac] 24) :: L) 0 [(0, iN b.kind), (1, iN b.num), (2, .slice oA3 b.kids.length oc3)] [iN b.kind, iN b.num, .slice oA3 b.kids.length oc3] none hst (fun w1 hst => ?_)
       refine r_nil ?_
       exact ⟨G3, b9, b10, oA1, oc1, oA3, oc3, ⟨by kernel_rfl, by kernel_rfl, by kernel_rfl, by kernel_rfl, by kernel_rfl, trivial⟩, rfl, hst, (hG1).trans hG3, ((ho1).mono (hG3)), (ho3)⟩
      ·skip
       refine m_newE (.cells #[iN 0, iN 0, .slice none 0 0] 24) (fun b11 => pN b11 0) (some 8) (fun b => by kernel_rfl) hst (fun _ _ h => h.ss' ((Le.refl _).trans hG1) (fun p hp => by simp only [List.mem_cons, List.not_mem_nil, or_false] at hp; rcases hp with rfl | rfl <;> simp)) (fun b11 w1 hst => ?_)
       refine r_nil ?_
       unfold RunT
       refine m_callE #[.agg #[iN b.kind, iN b.num, .slice bA b.kids.length bc]] (some 32) (by kernel_rfl) (c13 _ (Nat.lt_succ_self _) (by omega) ((hvb).mono (hG1)) hst) ?_
       rintro o4 w1 ⟨G4, hG4, ho4, hst⟩
       obtain ⟨oA4, oc4, rfl, _, _⟩ := id ho4.open
       refine ⟨hst.ss' (((Le.refl _).trans hG1).trans hG4) (fun p hp => by simp only [List.mem_cons, List.not_mem_nil, or_false] at hp; rcases hp with rfl | rfl <;> simp), ?_⟩
       refine m_st ((b11, .cells #[iN 0, iN 0, .slice none 0 0] 24) :: (b9, .cells #[iN a.kind, iN a.num, .slice oA1 a.kids.length oc1] 24) :: (b2, .cells #[iN b.kind, iN b.num, .slice bA b.kids.length bc] 24) :: (b1, .cells #[iN a.kind, iN a.num, .slice aA a.kids.length ac] 24) :: L) 1 [(0, iN a.kind), (1, iN a.num), (2, .slice oA1 a.kids.length oc1)] [iN a.kind, iN a.num, .slice oA1 a.kids.length oc1] none hst (fun w1 hst => ?_)
       refine m_st ((b11, .cells #[iN b.kind, iN b.num, .slice oA4 b.kids.length oc4] 24) :: (b9, .cells #[iN a.kind, iN a.num, .slice oA1 a.kids.length oc1] 24) :: (b2, .cells #[iN b.kind, iN b.num, .slice bA b.kids.length bc] 24) :: (b1, .cells #[iN a.kind, iN a.num, .slice aA a.kids.length ac] 24) :: L) 0 [(0, iN b.kind), (1, iN b.num), (2, .slice oA4 b.kids.length oc4)] [iN b.kind, iN b.num, .slice oA4 b.kids.length oc4] none hst (fun w1 hst => ?_)
       refine r_nil ?_
       exact ⟨G4, b9, b11, oA1, oc1, oA4, oc4, ⟨by kernel_rfl, by kernel_rfl, by kernel_rfl, by kernel_rfl, by kernel_rfl, trivial⟩, rfl, hst, (hG1).trans hG4, ((ho1).mono (hG4)), (ho4)⟩
     ·skip
      refine m_newE (.cells #[iN 0, iN 0, .slice none 0 0] 24) (fun b12 => pN b12 0) (some 8) (fun b => by kernel_rfl) hst (fun _ _ h => h.ss' ((Le.refl _).trans hG1) (fun p hp => by simp only [List.mem_cons, List.not_mem_nil, or_false] at hp; rcases hp with rfl | rfl <;> simp)) (fun b12 w1 hst => ?_)
      refine r_nil ?_
      unfold RunT
      refine r_nil ?_
      refine ⟨?_, ?_⟩
      ·skip
       refine m_callE #[.agg #[iN b.kind, iN b.num, .slice bA b.kids.length bc]] (some 32) (by kernel_rfl) (c13 _ (Nat.lt_succ_self _) (by omega) ((hvb).mono (hG1)) hst) ?_
       rintro o5 w1 ⟨G5, hG5, ho5, hst⟩
       obtain ⟨oA5, oc5, rfl, _, _⟩ := id ho5.open
       refine ⟨hst.ss' (((Le.refl _).trans hG1).trans hG5) (fun p hp => by simp only [List.mem_cons, List.not_mem_nil, or_false] at hp; rcases hp with rfl | rfl <;> simp), ?_⟩
       refine r_nil ?_
       unfold RunT
       refine m_newE (.cells #[iN 0, iN 0, .slice none 0 0] 24) (fun b13 => pN b13 0) (some 7) (fun b => by kernel_rfl) hst (fun _ _ h => h.ss' (((Le.refl _).trans hG1).trans hG5) (fun p hp => by simp only [List.mem_cons, List.not_mem_nil, or_false] at hp; rcases hp with rfl | rfl <;> simp)) (fun b13 w1 hst => ?_)
       refine m_st ((b13, .cells #[iN a.kind, iN a.num, .slice oA1 a.kids.length oc1] 24) :: (b12, .cells #[iN 0, iN 0, .slice none 0 0] 24) :: (b2, .cells #[iN b.kind, iN b.num, .slice bA b.kids.length bc] 24) :: (b1, .cells #[iN a.kind, iN a.num, .slice aA a.kids.length ac] 24) :: L) 0 [(0, iN a.kind), (1, iN a.num), (2, .slice oA1 a.kids.length oc1)] [iN a.kind, iN a.num, .slice oA1 a.kids.length oc1] none hst (fun w1 hst => ?_)
       refine m_st ((b13, .cells #[iN a.kind, iN a.num, .slice oA1 a.kids.length oc1] 24) :: (b12, .cells #[iN b.kind, iN b.num, .slice oA5 b.kids.length oc5] 24) :: (b2, .cells #[iN b.kind, iN b.num, .slice bA b.kids.length bc] 24) :: (b1, .cells #[iN a.kind, iN a.num, .slice aA a.kids.length ac] 24) :: L) 1 [(0, iN b.kind), (1, iN b.num), (2, .slice oA5 b.kids.length oc5)] [iN b.kind, iN b.num, .slice oA5 b.kids.length oc5] none hst (fun w1 hst => ?_)
       refine r_nil ?_
       have hst := St.swap (A := [(b13, .cells #[iN a.kind, iN a.num, .slice oA1 a.kids.length oc1] 24)]) (B := [(b12, .cells #[iN b.kind, iN b.num, .slice oA5 b.kids.length oc5] 24)]) hst
       exact ⟨G5, b13, b12, oA1, oc1, oA5, oc5, ⟨by kernel_rfl, by kernel_rfl, by kernel_rfl, by kernel_rfl, by kernel_rfl, trivial⟩, rfl, hst, (hG1).trans hG5, ((ho1).mono (hG5)), (ho5)⟩
      ·skip
       refine m_newE (.cells #[iN 0, iN 0, .slice none 0 0] 24) (fun b14 => pN b14 0) (some 7) (fun b => by kernel_rfl) hst (fun _ _ h => h.ss' ((Le.refl _).trans hG1) (fun p hp => by simp only [List.mem_cons, List.not_mem_nil, or_false] at hp; rcases hp with rfl | rfl <;> simp)) (fun b14 w1 hst => ?_)
       refine r_nil ?_
       unfold RunT
       refine m_callE #[.agg #[iN b.kind, iN b.num, .slice bA b.kids.length bc]] (some 32) (by kernel_rfl) (c13 _ (Nat.lt_succ_self _) (by omega) ((hvb).mono (hG1)) hst) ?_
       rintro o6 w1 ⟨G6, hG6, ho6, hst⟩
       obtain ⟨oA6, oc6, rfl, _, _⟩ := id ho6.open
       refine ⟨hst.ss' (((Le.refl _).trans hG1).trans hG6) (fun p hp => by simp only [List.mem_cons, List.not_mem_nil, or_false] at hp; rcases hp with rfl | rfl <;> simp), ?_⟩
       refine m_st ((b14, .cells #[iN a.kind, iN a.num, .slice oA1 a.kids.length oc1] 24) :: (b12, .cells #[iN 0, iN 0, .slice none 0 0] 24) :: (b2, .cells #[iN b.kind, iN b.num, .slice bA b.kids.length bc] 24) :: (b1, .cells #[iN a.kind, iN a.num, .slice aA a.kids.length ac] 24) :: L) 0 [(0, iN a.kind), (1, iN a.num), (2, .slice oA1 a.kids.length oc1)] [iN a.kind, iN a.num, .slice oA1 a.kids.length oc1] none hst (fun w1 hst => ?_)
       refine m_st ((b14, .cells #[iN a.kind, iN a.num, .slice oA1 a.kids.length oc1] 24) :: (b12, .cells #[iN b.kind, iN b.num, .slice oA6 b.kids.length oc6] 24) :: (b2, .cells #[iN b.kind, iN b.num, .slice bA b.kids.length bc] 24) :: (b1, .cells #[iN a.kind, iN a.num, .slice aA a.kids.length ac] 24) :: L) 1 [(0, iN b.kind), (1, iN b.num), (2, .slice oA6 b.kids.length oc6)] [iN b.kind, iN b.num, .slice oA6 b.kids.length oc6] none hst (fun w1 hst => ?_)
       refine r_nil ?_
       have hst := St.swap (A := [(b14, .cells #[iN a.kind, iN a.num, .slice oA1 a.kids.length oc1] 24)]) (B := [(b12, .cells #[iN b.kind, iN b.num, .slice oA6 b.kids.length oc6] 24)]) hst
       exact ⟨G6, b14, b12, oA1, oc1, oA6, oc6, ⟨by kernel_rfl, by kernel_rfl, by kernel_rfl, by kernel_rfl, by kernel_rfl, trivial⟩, rfl, hst, (hG1).trans hG6, ((ho1).mono (hG6)), (ho6)⟩
    ·skip
     refine m_newE (.cells #[iN 0, iN 0, .slice none 0 0] 24) (fun b15 => pN b15 0) (some 7) (fun b => by kernel_rfl) hst (fun _ _ h => h.ss' (Le.refl _) (fun p hp => by simp only [List.mem_cons, List.not_mem_nil, or_false] at hp; rcases hp with rfl | rfl <;> simp)) (fun b15 w1 hst => ?_)
     refine r_nil ?_
     unfold RunT
     refine r_nil ?_
     refine ⟨?_, ?_⟩
     ·skip
      refine m_callE #[.agg #[iN a.kind, iN a.num, .slice aA a.kids.length ac]] (some 30) (by kernel_rfl) (c13 _ (Nat.lt_succ_self _) (by omega) (hva) hst) ?_
      rintro o7 w1 ⟨G7, hG7, ho7, hst⟩
      obtain ⟨oA7, oc7, rfl, _, _⟩ := id ho7.open
      refine ⟨hst.ss' ((Le.refl _).trans hG7) (fun p hp => by simp only [List.mem_cons, List.not_mem_nil, or_false] at hp; rcases hp with rfl | rfl <;> simp), ?_⟩
      refine r_nil ?_
      unfold RunT
      refine r_nil ?_
      refine ⟨?_, ?_⟩
      ·skip
       refine m_callE #[.agg #[iN b.kind, iN b.num, .slice bA b.kids.length bc]] (some 32) (by kernel_rfl) (c13 _ (Nat.lt_succ_self _) (by omega) ((hvb).mono (hG7)) hst) ?_
       rintro o8 w1 ⟨G8, hG8, ho8, hst⟩
       obtain ⟨oA8, oc8, rfl, _, _⟩ := id ho8.open
       refine ⟨hst.ss' (((Le.refl _).trans hG7).trans hG8) (fun p hp => by simp only [List.mem_cons, List.not_mem_nil, or_false] at hp; rcases hp with rfl | rfl <;> simp), ?_⟩
       refine r_nil ?_
       unfold RunT
       refine m_newE (.cells #[iN 0, iN 0, .slice none 0 0] 24) (fun b16 => pN b16 0) (some 8) (fun b => by kernel_rfl) hst (fun _ _ h => h.ss' (((Le.refl _).trans hG7).trans hG8) (fun p hp => by simp only [List.mem_cons, List.not_mem_nil, or_false] at hp; rcases hp with rfl | rfl <;> simp)) (fun b16 w1 hst => ?_)
       refine m_st ((b16, .cells #[iN 0, iN 0, .slice none 0 0] 24) :: (b15, .cells #[iN a.kind, iN a.num, .slice oA7 a.kids.length oc7] 24) :: (b2, .cells #[iN b.kind, iN b.num, .slice bA b.kids.length bc] 24) :: (b1, .cells #[iN a.kind, iN a.num, .slice aA a.kids.length ac] 24) :: L) 1 [(0, iN a.kind), (1, iN a.num), (2, .slice oA7 a.kids.length oc7)] [iN a.kind, iN a.num, .slice oA7 a.kids.length oc7] none hst (fun w1 hst => ?_)
       refine m_st ((b16, .cells #[iN b.kind, iN b.num, .slice oA8 b.kids.length oc8] 24) :: (b15, .cells #[iN a.kind, iN a.num, .slice oA7 a.kids.length oc7] 24) :: (b2, .cells #[iN b.kind, iN b.num, .slice bA b.kids.length bc] 24) :: (b1, .cells #[iN a.kind, iN a.num, .slice aA a.kids.length ac] 24) :: L) 0 [(0, iN b.kind), (1, iN b.num), (2, .slice oA8 b.kids.length oc8)] [iN b.kind, iN b.num, .slice oA8 b.kids.length oc8] none hst (fun w1 hst => ?_)
       refine r_nil ?_
       exact ⟨G8, b15, b16, oA7, oc7, oA8, oc8, ⟨by kernel_rfl, by kernel_rfl, by kernel_rfl, by kernel_rfl, by kernel_rfl, trivial⟩, rfl, hst, (hG7).trans hG8, ((ho7).mono (hG8)), (ho8)⟩
      ·skip
       refine m_newE (.cells #[iN 0, iN 0, .slice none 0 0] 24) (fun b17 => pN b17 0) (some 8) (fun b => by kernel_rfl) hst (fun _ _ h => h.ss' ((Le.refl _).trans hG7) (fun p hp => by simp only [List.mem_cons, List.not_mem_nil, or_false] at hp; rcases hp with rfl | rfl <;> simp)) (fun b17 w1 hst => ?_)
       refine r_nil ?_
       unfold RunT
       refine m_callE #[.agg #[iN b.kind, iN b.num, .slice bA b.kids.length bc]] (some 32) (by kernel_rfl) (c13 _ (Nat.lt_succ_self _) (by omega) ((hvb).mono (hG7)) hst) ?_
       rintro o9 w1 ⟨G9, hG9, ho9, hst⟩
       obtain ⟨oA9, oc9, rfl, _, _⟩ := id ho9.open
       refine ⟨hst.ss' (((Le.refl _).trans hG7).trans hG9) (fun p hp => by simp only [List.mem_cons, List.not_mem_nil, or_false] at hp; rcases hp with rfl | rfl <;> simp), ?_⟩
       refine m_st ((b17, .cells #[iN 0, iN 0, .slice none 0 0] 24) :: (b15, .cells #[iN a.kind, iN a.num, .slice oA7 a.kids.length oc7] 24) :: (b2, .cells #[iN b.kind, iN b.num, .slice bA b.kids.length bc] 24) :: (b1, .cells #[iN a.kind, iN a.num, .slice aA a.kids.length ac] 24) :: L) 1 [(0, iN a.kind), (1, iN a.num), (2, .slice oA7 a.kids.length oc7)] [iN a.kind, iN a.num, .slice oA7 a.kids.length oc7] none hst (fun w1 hst => ?_)
       refine m_st ((b17, .cells #[iN b.kind, iN b.num, .slice oA9 b.kids.length oc9] 24) :: (b15, .cells #[iN a.kind, iN a.num, .slice oA7 a.kids.length oc7] 24) :: (b2, .cells #[iN b.kind, iN b.num, .slice bA b.kids.length bc] 24) :: (b1, .cells #[iN a.kind, iN a.num, .slice aA a.kids.length ac] 24) :: L) 0 [(0, iN b.kind), (1, iN b.num), (2, .slice oA9 b.kids.length oc9)] [iN b.kind, iN b.num, .slice oA9 b.kids.length oc9] none hst (fun w1 hst => ?_)
       refine r_nil ?_
       exact ⟨G9, b15, b17, oA7, oc7, oA9, oc9, ⟨by kernel_rfl, by kernel_rfl, by kernel_rfl, by kernel_rfl, by kernel_rfl, trivial⟩, rfl, hst, (hG7).trans hG9, ((ho7).mono (hG9)), (ho9)⟩
     ·skip
      refine m_newE (.cells #[iN 0, iN 0, .slice none 0 0] 24) (fun b18 => pN b18 0) (some 8) (fun b => by kernel_rfl) hst (fun _ _ h => h.ss' (Le.refl _) (fun p hp => by simp only [List.mem_cons, List.not_mem_nil, or_false] at hp; rcases hp with rfl | rfl <;> simp)) (fun b18 w1 hst => ?_)
      refine r_nil ?_
      unfold RunT
      refine m_callE #[.agg #[iN a.kind, iN a.num, .slice aA a.kids.length ac]] (some 30) (by kernel_rfl) (c13 _ (Nat.lt_succ_self _) (by omega) (hva) hst) ?_
      rintro o10 w1 ⟨G10, hG10, ho10, hst⟩
      obtain ⟨oA10, oc10, rfl, _, _⟩ := id ho10.open
      refine ⟨hst.ss' ((Le.refl _).trans hG10) (fun p hp => by simp only [List.mem_cons, List.not_mem_nil, or_false] at hp; rcases hp with rfl | rfl <;> simp), ?_⟩
      refine m_callE #[.agg #[iN b.kind, iN b.num, .slice bA b.kids.length bc]] (some 32) (by kernel_rfl) (c13 _ (Nat.lt_succ_self _) (by omega) ((hvb).mono (hG10)) hst) ?_
      rintro o11 w1 ⟨G11, hG11, ho11, hst⟩
      obtain ⟨oA11, oc11, rfl, _, _⟩ := id ho11.open
      refine ⟨hst.ss' (((Le.refl _).trans hG10).trans hG11) (fun p hp => by simp only [List.mem_cons, List.not_mem_nil, or_false] at hp; rcases hp with rfl | rfl <;> simp), ?_⟩
      refine m_st ((b18, .cells #[iN 0, iN 0, .slice none 0 0] 24) :: (b15, .cells #[iN a.kind, iN a.num, .slice oA10 a.kids.length oc10] 24) :: (b2, .cells #[iN b.kind, iN b.num, .slice bA b.kids.length bc] 24) :: (b1, .cells #[iN a.kind, iN a.num, .slice aA a.kids.length ac] 24) :: L) 1 [(0, iN a.kind), (1, iN a.num), (2, .slice oA10 a.kids.length oc10)] [iN a.kind, iN a.num, .slice oA10 a.kids.length oc10] none hst (fun w1 hst => ?_)
      refine m_st ((b18, .cells #[iN b.kind, iN b.num, .slice oA11 b.kids.length oc11] 24) :: (b15, .cells #[iN a.kind, iN a.num, .slice oA10 a.kids.length oc10] 24) :: (b2, .cells #[iN b.kind, iN b.num, .slice bA b.kids.length bc] 24) :: (b1, .cells #[iN a.kind, iN a.num, .slice aA a.kids.length ac] 24) :: L) 0 [(0, iN b.kind), (1, iN b.num), (2, .slice oA11 b.kids.length oc11)] [iN b.kind, iN b.num, .slice oA11 b.kids.length oc11] none hst (fun w1 hst => ?_)
      refine r_nil ?_
      exact ⟨G11, b15, b18, oA10, oc10, oA11, oc11, ⟨by kernel_rfl, by kernel_rfl, by kernel_rfl, by kernel_rfl, by kernel_rfl, trivial⟩, rfl, hst, (hG10).trans hG11, ((ho10).mono (hG11)), (ho11)⟩
    ·skip
     refine m_newE (.cells #[iN 0, iN 0, .slice none 0 0] 24) (fun b19 => pN b19 0) (some 8) (fun b => by kernel_rfl) hst (fun _ _ h => h.ss' (Le.refl _) (fun p hp => by simp only [List.mem_cons, List.not_mem_nil, or_false] at hp; rcases hp with rfl | rfl <;> simp)) (fun b19 w1 hst => ?_)
     refine r_nil ?_
     unfold RunT
     refine r_nil ?_
     refine ⟨?_, ?_⟩
     ·skip
      refine m_callE #[.agg #[iN a.kind, iN a.num, .slice aA a.kids.length ac]] (some 30) (by kernel_rfl) (c13 _ (Nat.lt_succ_self _) (by omega) (hva) hst) ?_
      rintro o12 w1 ⟨G12, hG12, ho12, hst⟩
      obtain ⟨oA12, oc12, rfl, _, _⟩ := id ho12.open
      refine ⟨hst.ss' ((Le.refl _).trans hG12) (fun p hp => by simp only [List.mem_cons, List.not_mem_nil, or_false] at hp; rcases hp with rfl | rfl <;> simp), ?_⟩
      refine r_nil ?_
      unfold RunT
      refine r_nil ?_
      refine ⟨?_, ?_⟩
      ·skip
       refine m_callE #[.agg #[iN b.kind, iN b.num, .slice bA b.kids.length bc]] (some 32) (by kernel_rfl) (c13 _ (Nat.lt_succ_self _) (by omega) ((hvb).mono (hG12)) hst) ?_
       rintro o13 w1 ⟨G13, hG13, ho13, hst⟩
       obtain ⟨oA13, oc13, rfl, _, _⟩ := id ho13.open
       refine ⟨hst.ss' (((Le.refl _).trans hG12).trans hG13) (fun p hp => by simp only [List.mem_cons, List.not_mem_nil, or_false] at hp; rcases hp with rfl | rfl <;> simp), ?_⟩
       refine r_nil ?_
       unfold RunT
       refine m_newE (.cells #[iN 0, iN 0, .slice none 0 0] 24) (fun b20 => pN b20 0) (some 7) (fun b => by kernel_rfl) hst (fun _ _ h => h.ss' (((Le.refl _).trans hG12).trans hG13) (fun p hp => by simp only [List.mem_cons, List.not_mem_nil, or_false] at hp; rcases hp with rfl | rfl <;> simp)) (fun b20 w1 hst => ?_)
       refine m_st ((b20, .cells #[iN a.kind, iN a.num, .slice oA12 a.kids.length oc12] 24) :: (b19, .cells #[iN 0, iN 0, .slice none 0 0] 24) :: (b2, .cells #[iN b.kind, iN b.num, .slice bA b.kids.length bc] 24) :: (b1, .cells #[iN a.kind, iN a.num, .slice aA a.kids.length ac] 24) :: L) 0 [(0, iN a.kind), (1, iN a.num), (2, .slice oA12 a.kids.length oc12)] [iN a.kind, iN a.num, .slice oA12 a.kids.length oc12] none hst (fun w1 hst => ?_)
       refine m_st ((b20, .cells #[iN a.kind, iN a.num, .slice oA12 a.kids.length oc12] 24) :: (b19, .cells #[iN b.kind, iN b.num, .slice oA13 b.kids.length oc13] 24) :: (b2, .cells #[iN b.kind, iN b.num, .slice bA b.kids.length bc] 24) :: (b1, .cells #[iN a.kind, iN a.num, .slice aA a.kids.length ac] 24) :: L) 1 [(0, iN b.kind), (1, iN b.num), (2, .slice oA13 b.kids.length oc13)] [iN b.kind, iN b.num, .slice oA13 b.kids.length oc13] none hst (fun w1 hst => ?_)
       refine r_nil ?_
       have hst := St.swap (A := [(b20, .cells #[iN a.kind, iN a.num, .slice oA12 a.kids.length oc12] 24)]) (B := [(b19, .cells #[iN b.kind, iN b.num, .slice oA13 b.kids.length oc13] 24)]) hst
       exact ⟨G13, b20, b19, oA12, oc12, oA13, oc13, ⟨by kernel_rfl, by kernel_rfl, by kernel_rfl, by kernel_rfl, by kernel_rfl, trivial⟩, rfl, hst, (hG12).trans hG13, ((ho12).mono (hG13)), (ho13)⟩
      ·skip
       refine m_newE (.cells #[iN 0, iN 0, .slice none 0 0] 24) (fun b21 => pN b21 0) (some 7) (fun b => by kernel_rfl) hst (fun _ _ h => h.ss' ((Le.refl _).trans hG12) (fun p hp => by simp only [List.mem_cons, List.not_mem_nil, or_false] at hp; rcases hp with rfl | rfl <;> simp)) (fun b21 w1 hst => ?_)
       refine r_nil ?_
       unfold RunT
       refine m_callE #[.agg #[iN b.kind, iN b.num, .slice bA b.kids.length bc]] (some 32) (by kernel_rfl) (c13 _ (Nat.lt_succ_self _) (by omega) ((hvb).mono (hG12)) hst) ?_
       rintro o14 w1 ⟨G14, hG14, ho14, hst⟩
       obtain ⟨oA14, oc14, rfl, _, _⟩ := id ho14.open
       refine ⟨hst.ss' (((Le.refl _).trans hG12).trans hG14) (fun p hp => by simp only [List.mem_cons, List.not_mem_nil, or_false] at hp; rcases hp with rfl | rfl <;> simp), ?_⟩
       refine m_st ((b21, .cells #[iN a.kind, iN a.num, .slice oA12 a.kids.length oc12] 24) :: (b19, .cells #[iN 0, iN 0, .slice none 0 0] 24) :: (b2, .cells #[iN b.kind, iN b.num, .slice bA b.kids.length bc] 24) :: (b1, .cells #[iN a.kind, iN a.num, .slice aA a.kids.length ac] 24) :: L) 0 [(0, iN a.kind), (1, iN a.num), (2, .slice oA12 a.kids.length oc12)] [iN a.kind, iN a.num, .slice oA12 a.kids.length oc12] none hst (fun w1 hst => ?_)
       refine m_st ((b21, .cells #[iN a.kind, iN a.num, .slice oA12 a.kids.length oc12] 24) :: (b19, .cells #[iN b.kind, iN b.num, .slice oA14 b.kids.length oc14] 24) :: (b2, .cells #[iN b.kind, iN b.num, .slice bA b.kids.length bc] 24) :: (b1, .cells #[iN a.kind, iN a.num, .slice aA a.kids.length ac] 24) :: L) 1 [(0, iN b.kind), (1, iN b.num), (2, .slice oA14 b.kids.length oc14)] [iN b.kind, iN b.num, .slice oA14 b.kids.length oc14] none hst (fun w1 hst => ?_)
       refine r_nil ?_
       have hst := St.swap (A := [(b21, .cells #[iN a.kind, iN a.num, .slice oA12 a.kids.length oc12] 24)]) (B := [(b19, .cells #[iN b.kind, iN b.num, .slice oA14 b.kids.length oc14] 24)]) hst
       exact ⟨G14, b21, b19, oA12, oc12, oA14, oc14, ⟨by kernel_rfl, by kernel_rfl, by kernel_rfl, by kernel_rfl, by kernel_rfl, trivial⟩, rfl, hst, (hG12).trans hG14, ((ho12).mono (hG14)), (ho14)⟩
     ·skip
      refine m_newE (.cells #[iN 0, iN 0, .slice none 0 0] 24) (fun b22 => pN b22 0) (some 7) (fun b => by kernel_rfl) hst (fun _ _ h => h.ss' (Le.refl _) (fun p hp => by simp only [List.mem_cons, List.not_mem_nil, or_false] at hp; rcases hp with rfl | rfl <;> simp)) (fun b22 w1 hst => ?_)
      refine r_nil ?_
      unfold RunT
      refine m_callE #[.agg #[iN a.kind, iN a.num, .slice aA a.kids.length ac]] (some 30) (by kernel_rfl) (c13 _ (Nat.lt_succ_self _) (by omega) (hva) hst) ?_
      rintro o15 w1 ⟨G15, hG15, ho15, hst⟩
      obtain ⟨oA15, oc15, rfl, _, _⟩ := id ho15.open
      refine ⟨hst.ss' ((Le.refl _).trans hG15) (fun p hp => by simp only [List.mem_cons, List.not_mem_nil, or_false] at hp; rcases hp with rfl | rfl <;> simp), ?_⟩
      refine m_callE #[.agg #[iN b.kind, iN b.num, .slice bA b.kids.length bc]] (some 32) (by kernel_rfl) (c13 _ (Nat.lt_succ_self _) (by omega) ((hvb).mono (hG15)) hst) ?_
      rintro o16 w1 ⟨G16, hG16, ho16, hst⟩
      obtain ⟨oA16, oc16, rfl, _, _⟩ := id ho16.open
      refine ⟨hst.ss' (((Le.refl _).trans hG15).trans hG16) (fun p hp => by simp only [List.mem_cons, List.not_mem_nil, or_false] at hp; rcases hp with rfl | rfl <;> simp), ?_⟩
      refine m_st ((b22, .cells #[iN a.kind, iN a.num, .slice oA15 a.kids.length oc15] 24) :: (b19, .cells #[iN 0, iN 0, .slice none 0 0] 24) :: (b2, .cells #[iN b.kind, iN b.num, .slice bA b.kids.length bc] 24) :: (b1, .cells #[iN a.kind, iN a.num, .slice aA a.kids.length ac] 24) :: L) 0 [(0, iN a.kind), (1, iN a.num), (2, .slice oA15 a.kids.length oc15)] [iN a.kind, iN a.num, .slice oA15 a.kids.length oc15] none hst (fun w1 hst => ?_)
      refine m_st ((b22, .cells #[iN a.kind, iN a.num, .slice oA15 a.kids.length oc15] 24) :: (b19, .cells #[iN b.kind, iN b.num, .slice oA16 b.kids.length oc16] 24) :: (b2, .cells #[iN b.kind, iN b.num, .slice bA b.kids.length bc] 24) :: (b1, .cells #[iN a.kind, iN a.num, .slice aA a.kids.length ac] 24) :: L) 1 [(0, iN b.kind), (1, iN b.num), (2, .slice oA16 b.kids.length oc16)] [iN b.kind, iN b.num, .slice oA16 b.kids.length oc16] none hst (fun w1 hst => ?_)
      refine r_nil ?_
      have hst := St.swap (A := [(b22, .cells #[iN a.kind, iN a.num, .slice oA15 a.kids.length oc15] 24)]) (B := [(b19, .cells #[iN b.kind, iN b.num, .slice oA16 b.kids.length oc16] 24)]) hst
      exact ⟨G16, b22, b19, oA15, oc15, oA16, oc16, ⟨by kernel_rfl, by kernel_rfl, by kernel_rfl, by kernel_rfl, by kernel_rfl, trivial⟩, rfl, hst, (hG15).trans hG16, ((ho15).mono (hG16)), (ho16)⟩
   clear hst; rintro ρ D w1 ⟨GJ, b7, b8, pA, qA, pB, qB, hE23, rfl, hst, hGJ, hown, hoth⟩
   refine W_env hE23 ?_
   refine W_seq ?_
   refine W_rg [(.l, 0), (.f, 1), (.p, 2), (.p, 3), (.p, 4), (.p, 5), (.p, 6)] hst ?_
   refine r_sg [(.l, 0)] [[iN a.kind, iN a.num, .slice pA a.kids.length qA]] [(⟨b7, 0, none⟩, iN a.kind), (⟨b7, 1, none⟩, iN a.num), (⟨b7, 2, none⟩, .slice pA a.kids.length qA)] [(34, .agg #[iN a.kind, iN a.num, .slice pA a.kids.length qA])] (rc_L 1 rfl rfl (rc_L 1 rfl rfl (rc_L 1 rfl rfl rc_nil))) ?_
   obtain ⟨fr, rr, re, hr1, hr2⟩ := rank_law a
   refine m_cl #[.agg #[iN a.kind, iN a.num, .slice pA a.kids.length qA]] (some 35) (c25 (hown) (by omega) hst hr1) ?_
   rintro _ w1 ⟨G17, hG17, rfl, hst⟩
   refine nx hst ?_
   refine r_en [] [] [(33, .tuple #[iN rr, iN re]), (36, iN rr), (37, iN re), (9, iN rr), (10, iN re)] rc_nil ?_
   refine W_seq ?_
   refine W_rg [(.l, 0), (.f, 1), (.p, 2), (.p, 3), (.p, 4), (.p, 5), (.p, 6)] hst ?_
   refine r_sg [(.l, 0)] [[iN a.kind, iN a.num, .slice aA a.kids.length ac]] [(⟨b1, 0, none⟩, iN a.kind), (⟨b1, 1, none⟩, iN a.num), (⟨b1, 2, none⟩, .slice aA a.kids.length ac)] [(39, .agg #[iN a.kind, iN a.num, .slice aA a.kids.length ac])] (rc_L 3 rfl rfl (rc_L 3 rfl rfl (rc_L 3 rfl rfl rc_nil))) ?_
   refine m_cl #[.agg #[iN a.kind, iN a.num, .slice aA a.kids.length ac]] (some 40) (c36 (by omega) ((hva).mono ((hGJ).trans hG17)) hst hr2) ?_
   rintro _ w1 ⟨rfl, hst⟩
   refine nx hst ?_
   refine r_en [] [] [(38, .tuple #[iN rr, iN re]), (41, iN rr), (42, iN re), (11, iN rr), (12, iN re)] rc_nil ?_
   refine W_seq ?_
   refine W_rg [(.l, 0), (.l, 1), (.f, 2), (.p, 3), (.p, 4), (.p, 5), (.p, 6), (.p, 7)] hst ?_
   refine r_sg [(.l, 0), (.l, 1)] [[iN a.kind, iN a.num, .slice pA a.kids.length qA], [iN b.kind, iN b.num, .slice pB b.kids.length qB]] [(⟨b7, 0, none⟩, iN a.kind), (⟨b7, 1, none⟩, iN a.num), (⟨b7, 2, none⟩, .slice pA a.kids.length qA), (⟨b8, 0, none⟩, iN b.kind), (⟨b8, 1, none⟩, iN b.num), (⟨b8, 2, none⟩, .slice pB b.kids.length qB)] [(44, .agg #[iN a.kind, iN a.num, .slice pA a.kids.length qA]), (45, .agg #[iN b.kind, iN b.num, .slice pB b.kids.length qB])] (rc_L 1 rfl rfl (rc_L 1 rfl rfl (rc_L 1 rfl rfl (rc_L 0 rfl rfl (rc_L 0 rfl rfl (rc_L 0 rfl rfl rc_nil)))))) ?_
   refine m_cl #[.agg #[iN a.kind, iN a.num, .slice pA a.kids.length qA], .agg #[iN b.kind, iN b.num, .slice pB b.kids.length qB]] (some 46) (c37 ((hown).mono (hG17)) ((hoth).mono (hG17)) (by omega) hst) ?_
   rintro _ w1 ⟨G18, hG18, rfl, hst⟩
   refine nx hst ?_
   refine r_en [] [] [(43, .tuple #[.bool ((Same a b).1), iN ((Same a b).2)]), (47, .bool ((Same a b).1)), (48, iN ((Same a b).2)), (13, .bool ((Same a b).1)), (14, iN ((Same a b).2))] rc_nil ?_
   refine W_seq ?_
   refine W_rg [(.l, 0), (.l, 1), (.f, 2), (.p, 3), (.p, 4), (.p, 5), (.p, 6), (.p, 7)] hst ?_
   refine r_sg [(.l, 0), (.l, 1)] [[iN a.kind, iN a.num, .slice aA a.kids.length ac], [iN b.kind, iN b.num, .slice bA b.kids.length bc]] [(⟨b1, 0, none⟩, iN a.kind), (⟨b1, 1, none⟩, iN a.num), (⟨b1, 2, none⟩, .slice aA a.kids.length ac), (⟨b2, 0, none⟩, iN b.kind), (⟨b2, 1, none⟩, iN b.num), (⟨b2, 2, none⟩, .slice bA b.kids.length bc)] [(50, .agg #[iN a.kind, iN a.num, .slice aA a.kids.length ac]), (51, .agg #[iN b.kind, iN b.num, .slice bA b.kids.length bc])] (rc_L 3 rfl rfl (rc_L 3 rfl rfl (rc_L 3 rfl rfl (rc_L 2 rfl rfl (rc_L 2 rfl rfl (rc_L 2 rfl rfl rc_nil)))))) ?_
   refine m_cl #[.agg #[iN a.kind, iN a.num, .slice aA a.kids.length ac], .agg #[iN b.kind, iN b.num, .slice bA b.kids.length bc]] (some 52) (c38 (by omega) (by omega) ((hva).mono (((hGJ).trans hG17).trans hG18)) ((hvb).mono (((hGJ).trans hG17).trans hG18)) hst) ?_
   rintro _ w1 ⟨rfl, hst⟩
   refine nx hst ?_
   refine r_en [] [] [(49, .tuple #[.bool ((rSame a b).1), iN ((rSame a b).2)]), (53, .bool ((rSame a b).1)), (54, iN ((rSame a b).2)), (15, .bool ((rSame a b).1)), (16, iN ((rSame a b).2))] rc_nil ?_
   refine W_seq ?_
   refine W_rg [(.l, 0), (.l, 1), (.f, 2), (.p, 3), (.p, 4), (.p, 5), (.f, 6), (.f, 7), (.p, 8)] hst ?_
   refine r_sg [(.l, 0), (.l, 1)] [[iN a.kind, iN a.num, .slice pA a.kids.length qA], [iN b.kind, iN b.num, .slice pB b.kids.length qB]] [(⟨b7, 0, none⟩, iN a.kind), (⟨b7, 1, none⟩, iN a.num), (⟨b7, 2, none⟩, .slice pA a.kids.length qA), (⟨b8, 0, none⟩, iN b.kind), (⟨b8, 1, none⟩, iN b.num), (⟨b8, 2, none⟩, .slice pB b.kids.length qB)] [(56, .agg #[iN a.kind, iN a.num, .slice pA a.kids.length qA]), (57, .agg #[iN b.kind, iN b.num, .slice pB b.kids.length qB])] (rc_L 1 rfl rfl (rc_L 1 rfl rfl (rc_L 1 rfl rfl (rc_L 0 rfl rfl (rc_L 0 rfl rfl (rc_L 0 rfl rfl rc_nil)))))) ?_
   obtain ⟨fo, ro, eo, hop1, hop2, hroz, hrz⟩ := open_law a b
   refine m_cl #[.agg #[iN a.kind, iN a.num, .slice pA a.kids.length qA], .agg #[iN b.kind, iN b.num, .slice pB b.kids.length qB]] (some 58) (c35 ((hown).mono ((hG17).trans hG18)) ((hoth).mono ((hG17).trans hG18)) (by omega) hrz hst hop1) ?_
   rintro _ w1 ⟨G19, x0, Fo, hG19, rfl, hxo, hst⟩
   have hst := St.swap (A := Fo) (B := [(b8, .cells #[iN b.kind, iN b.num, .slice pB b.kids.length qB] 24), (b7, .cells #[iN a.kind, iN a.num, .slice pA a.kids.length qA] 24), (b2, .cells #[iN b.kind, iN b.num, .slice bA b.kids.length bc] 24), (b1, .cells #[iN a.kind, iN a.num, .slice aA a.kids.length ac] 24)]) (C := L) hst
   have hst : St G19 ((b8, .cells #[iN b.kind, iN b.num, .slice pB b.kids.length qB] 24) :: (b7, .cells #[iN a.kind, iN a.num, .slice pA a.kids.length qA] 24) :: (b2, .cells #[iN b.kind, iN b.num, .slice bA b.kids.length bc] 24) :: (b1, .cells #[iN a.kind, iN a.num, .slice aA a.kids.length ac] 24) :: (Fo ++ L)) w1 := hst
   obtain ⟨xA, xc, rfl⟩ := hxo.shape
   refine nx hst ?_
   refine r_sg [(.p, 3), (.p, 4), (.p, 5)] [] [] [(55, .tuple #[.agg #[iN ro.kind, iN ro.num, .slice xA ro.kids.length xc], iN eo]), (59, .agg #[iN ro.kind, iN ro.num, .slice xA ro.kids.length xc]), (60, iN eo)] rc_nil ?_
   refine m_new (.cells #[iN 0, iN 0, .slice none 0 0] 24) (fun b24 => pN b24 0) (some 17) (fun b => by kernel_rfl) hst (fun b24 w1 hst => ?_)
   refine m_st ((b24, .cells #[iN ro.kind, iN ro.num, .slice xA ro.kids.length xc] 24) :: (b8, .cells #[iN b.kind, iN b.num, .slice pB b.kids.length qB] 24) :: (b7, .cells #[iN a.kind, iN a.num, .slice pA a.kids.length qA] 24) :: (b2, .cells #[iN b.kind, iN b.num, .slice bA b.kids.length bc] 24) :: (b1, .cells #[iN a.kind, iN a.num, .slice aA a.kids.length ac] 24) :: (Fo ++ L)) 0 [(0, iN ro.kind), (1, iN ro.num), (2, .slice xA ro.kids.length xc)] [iN ro.kind, iN ro.num, .slice xA ro.kids.length xc] none hst (fun w1 hst => ?_)
   refine r_en [] [] [(18, iN eo)] rc_nil ?_
   refine W_seq ?_
   refine W_rg [(.l, 0), (.l, 1), (.f, 2), (.p, 3), (.p, 4), (.p, 5), (.f, 6), (.f, 7), (.p, 8)] hst ?_
   refine r_sg [(.l, 0), (.l, 1)] [[iN a.kind, iN a.num, .slice aA a.kids.length ac], [iN b.kind, iN b.num, .slice bA b.kids.length bc]] [(⟨b1, 0, none⟩, iN a.kind), (⟨b1, 1, none⟩, iN a.num), (⟨b1, 2, none⟩, .slice aA a.kids.length ac), (⟨b2, 0, none⟩, iN b.kind), (⟨b2, 1, none⟩, iN b.num), (⟨b2, 2, none⟩, .slice bA b.kids.length bc)] [(62, .agg #[iN a.kind, iN a.num, .slice aA a.kids.length ac]), (63, .agg #[iN b.kind, iN b.num, .slice bA b.kids.length bc])] (rc_L 4 rfl rfl (rc_L 4 rfl rfl (rc_L 4 rfl rfl (rc_L 3 rfl rfl (rc_L 3 rfl rfl (rc_L 3 rfl rfl rc_nil)))))) ?_
   refine m_cl #[.agg #[iN a.kind, iN a.num, .slice aA a.kids.length ac], .agg #[iN b.kind, iN b.num, .slice bA b.kids.length bc]] (some 64) (c39 (by omega) (by omega) ((hva).mono ((((hGJ).trans hG17).trans hG18).trans hG19)) ((hvb).mono ((((hGJ).trans hG17).trans hG18).trans hG19)) hst) ?_
   rintro _ w1 ⟨G20, _, hG20, rfl, hy20, hst⟩
   refine nx hst ?_
   rw [hop2] at hy20; obtain ⟨yA, yc, rfl, _, _⟩ := id hy20.open
   refine r_sg [(.p, 3), (.p, 4), (.p, 5)] [] [] [(61, .tuple #[.agg #[iN ro.kind, iN ro.num, .slice yA ro.kids.length yc], iN ((rOpen a b).2)]), (65, .agg #[iN ro.kind, iN ro.num, .slice yA ro.kids.length yc]), (66, iN ((rOpen a b).2))] rc_nil ?_
   refine m_new (.cells #[iN 0, iN 0, .slice none 0 0] 24) (fun b25 => pN b25 0) (some 19) (fun b => by kernel_rfl) hst (fun b25 w1 hst => ?_)
   refine m_st ((b25, .cells #[iN ro.kind, iN ro.num, .slice yA ro.kids.length yc] 24) :: (b24, .cells #[iN ro.kind, iN ro.num, .slice xA ro.kids.length xc] 24) :: (b8, .cells #[iN b.kind, iN b.num, .slice pB b.kids.length qB] 24) :: (b7, .cells #[iN a.kind, iN a.num, .slice pA a.kids.length qA] 24) :: (b2, .cells #[iN b.kind, iN b.num, .slice bA b.kids.length bc] 24) :: (b1, .cells #[iN a.kind, iN a.num, .slice aA a.kids.length ac] 24) :: (Fo ++ L)) 0 [(0, iN ro.kind), (1, iN ro.num), (2, .slice yA ro.kids.length yc)] [iN ro.kind, iN ro.num, .slice yA ro.kids.length yc] none hst (fun w1 hst => ?_)
   refine r_en [] [] [(20, iN ((rOpen a b).2))] rc_nil ?_
   refine W_seq ?_
   refine W_rgd [(.l, 0), (.p, 1), (.l, 3), (.p, 4), (.e, 2), (.f, 5), (.p, 6), (.p, 7), (.p, 8), (.p, 9), (.p, 10), (.p, 11), (.p, 12), (.p, 13), (.p, 14), (.p, 15), (.p, 16), (.p, 17), (.p, 18), (.p, 19), (.p, 20), (.p, 21), (.p, 22), (.p, 23), (.p, 24), (.p, 25), (.p, 26), (.p, 27), (.l, 28), (.l, 29), (.f, 30), (.p, 31), (.p, 32), (.p, 33), (.p, 34), (.p, 35), (.p, 36), (.p, 37)] hst (fun w1 hst => ?_)
   refine r_sg [(.l, 0), (.p, 1), (.l, 3), (.p, 4)] [[iN a.kind, iN a.num, .slice pA a.kids.length qA], [iN a.kind, iN a.num, .slice aA a.kids.length ac]] [(⟨b7, 0, none⟩, iN a.kind), (⟨b7, 1, none⟩, iN a.num), (⟨b7, 2, none⟩, .slice pA a.kids.length qA), (⟨b1, 0, none⟩, iN a.kind), (⟨b1, 1, none⟩, iN a.num), (⟨b1, 2, none⟩, .slice aA a.kids.length ac)] [(67, .agg #[iN a.kind, iN a.num, .slice pA a.kids.length qA]), (68, iN n), (70, .agg #[iN a.kind, iN a.num, .slice aA a.kids.length ac]), (71, iN n)] (rc_L 3 rfl rfl (rc_L 3 rfl rfl (rc_L 3 rfl rfl (rc_L 5 rfl rfl (rc_L 5 rfl rfl (rc_L 5 rfl rfl rc_nil)))))) ?_
   refine m_callE #[.agg #[iN a.kind, iN a.num, .slice pA a.kids.length qA], iN n] (some 69) (by kernel_rfl) (c40 (n := n) ((hown).mono ((((hG17).trans hG18).trans hG19).trans hG20)) (by omega) hst) ?_
   rintro _ w1 ⟨G21, hG21, rfl, hst⟩
   refine ⟨hst.ss' ((Le.refl _).trans hG21) (fun _ hp => hp), ?_⟩
   refine m_cl #[.agg #[iN a.kind, iN a.num, .slice aA a.kids.length ac], iN n] (some 72) (c41 (n := n) (by omega) ((hva).mono ((((((hGJ).trans hG17).trans hG18).trans hG19).trans hG20).trans hG21)) hst) ?_
   rintro _ w1 ⟨rfl, hst⟩
   refine nx hst ?_
   refine r_sg [(.p, 6), (.p, 7)] [] [] [(73, .bool ((right a n) == (rRight a n))), (74, .bool ((right a n) == (rRight a n)))] rc_nil ?_
   have hd26 : ((right a n) == (rRight a n)) = true := by first | (simp; done) | (rw [right_eq]; simp; done) | (rw [same_law]; simp; done) | (rw [hop2]; simp; done)
   rw [hd26]
   refine r_sg [(.p, 8), (.p, 9), (.p, 10), (.p, 11), (.p, 12)] [] [] [(75, iN rr), (76, iN rr), (77, .bool (rr == rr)), (78, .bool (rr == rr)), (79, .bool (rr == rr))] rc_nil ?_
   have hd27 : (rr == rr) = true := by first | (simp; done) | (rw [right_eq]; simp; done) | (rw [same_law]; simp; done) | (rw [hop2]; simp; done)
   rw [hd27]
   refine r_sg [(.p, 13), (.p, 14), (.p, 15), (.p, 16), (.p, 17)] [] [] [(80, iN re), (81, iN re), (82, .bool (re == re)), (83, .bool (re == re)), (84, .bool (re == re))] rc_nil ?_
   have hd28 : (re == re) = true := by first | (simp; done) | (rw [right_eq]; simp; done) | (rw [same_law]; simp; done) | (rw [hop2]; simp; done)
   rw [hd28]
   refine r_sg [(.p, 18), (.p, 19), (.p, 20), (.p, 21), (.p, 22)] [] [] [(85, .bool ((Same a b).1)), (86, .bool ((rSame a b).1)), (87, .bool (((Same a b).1) == ((rSame a b).1))), (88, .bool (((Same a b).1) == ((rSame a b).1))), (89, .bool (((Same a b).1) == ((rSame a b).1)))] rc_nil ?_
   have hd29 : (((Same a b).1) == ((rSame a b).1)) = true := by first | (simp; done) | (rw [right_eq]; simp; done) | (rw [same_law]; simp; done) | (rw [hop2]; simp; done)
   rw [hd29]
   refine r_sg [(.p, 23), (.p, 24), (.p, 25), (.p, 26), (.p, 27)] [] [] [(90, iN ((Same a b).2)), (91, iN ((rSame a b).2)), (92, .bool (((Same a b).2) == ((rSame a b).2))), (93, .bool (((Same a b).2) == ((rSame a b).2))), (94, .bool (((Same a b).2) == ((rSame a b).2)))] rc_nil ?_
   have hd30 : (((Same a b).2) == ((rSame a b).2)) = true := by first | (simp; done) | (rw [right_eq]; simp; done) | (rw [same_law]; simp; done) | (rw [hop2]; simp; done)
   rw [hd30]
   refine r_sg [(.l, 28), (.l, 29)] [[iN ro.kind, iN ro.num, .slice xA ro.kids.length xc], [iN ro.kind, iN ro.num, .slice yA ro.kids.length yc]] [(⟨b24, 0, none⟩, iN ro.kind), (⟨b24, 1, none⟩, iN ro.num), (⟨b24, 2, none⟩, .slice xA ro.kids.length xc), (⟨b25, 0, none⟩, iN ro.kind), (⟨b25, 1, none⟩, iN ro.num), (⟨b25, 2, none⟩, .slice yA ro.kids.length yc)] [(95, .agg #[iN ro.kind, iN ro.num, .slice xA ro.kids.length xc]), (96, .agg #[iN ro.kind, iN ro.num, .slice yA ro.kids.length yc])] (rc_L 1 rfl rfl (rc_L 1 rfl rfl (rc_L 1 rfl rfl (rc_L 0 rfl rfl (rc_L 0 rfl rfl (rc_L 0 rfl rfl rc_nil)))))) ?_
   have hst := St.swap (A := [(b25, .cells #[iN ro.kind, iN ro.num, .slice yA ro.kids.length yc] 24), (b24, .cells #[iN ro.kind, iN ro.num, .slice xA ro.kids.length xc] 24), (b8, .cells #[iN b.kind, iN b.num, .slice pB b.kids.length qB] 24), (b7, .cells #[iN a.kind, iN a.num, .slice pA a.kids.length qA] 24), (b2, .cells #[iN b.kind, iN b.num, .slice bA b.kids.length bc] 24), (b1, .cells #[iN a.kind, iN a.num, .slice aA a.kids.length ac] 24)]) (B := Fo) (C := L) hst
   obtain ⟨GT, hGT, hFT, hst, hthaw⟩ := St.freezeT Fo hst
   refine m_cl #[.agg #[iN ro.kind, iN ro.num, .slice xA ro.kids.length xc], .agg #[iN ro.kind, iN ro.num, .slice yA ro.kids.length yc]] (some 97) (c18t (a := ro) (b := ro) hroz (hxo.poly hFT) (((hy20).mono (hG21)).mono hGT) (same_refl _) hst) ?_
   rintro _ w1 ⟨rfl, hst⟩
   have hst := St.swap (A := Fo) (B := [(b25, .cells #[iN ro.kind, iN ro.num, .slice yA ro.kids.length yc] 24), (b24, .cells #[iN ro.kind, iN ro.num, .slice xA ro.kids.length xc] 24), (b8, .cells #[iN b.kind, iN b.num, .slice pB b.kids.length qB] 24), (b7, .cells #[iN a.kind, iN a.num, .slice pA a.kids.length qA] 24), (b2, .cells #[iN b.kind, iN b.num, .slice bA b.kids.length bc] 24), (b1, .cells #[iN a.kind, iN a.num, .slice aA a.kids.length ac] 24)]) (C := L) (hthaw hst)
   have hst : St G21 ((b25, .cells #[iN ro.kind, iN ro.num, .slice yA ro.kids.length yc] 24) :: (b24, .cells #[iN ro.kind, iN ro.num, .slice xA ro.kids.length xc] 24) :: (b8, .cells #[iN b.kind, iN b.num, .slice pB b.kids.length qB] 24) :: (b7, .cells #[iN a.kind, iN a.num, .slice pA a.kids.length qA] 24) :: (b2, .cells #[iN b.kind, iN b.num, .slice bA b.kids.length bc] 24) :: (b1, .cells #[iN a.kind, iN a.num, .slice aA a.kids.length ac] 24) :: (Fo ++ L)) w1 := hst
   refine nx hst ?_
   refine r_en [] [] [(98, .bool true), (99, .bool true), (100, iN eo), (101, iN ((rOpen a b).2)), (102, .bool (eo == ((rOpen a b).2))), (103, .bool (eo == ((rOpen a b).2))), (21, .bool (eo == ((rOpen a b).2)))] rc_nil ?_
   refine W_seq ?_
   refine W_rg [(.l, 0), (.f, 1)] hst ?_
   refine r_sg [(.l, 0)] [[iN ro.kind, iN ro.num, .slice xA ro.kids.length xc]] [(⟨b24, 0, none⟩, iN ro.kind), (⟨b24, 1, none⟩, iN ro.num), (⟨b24, 2, none⟩, .slice xA ro.kids.length xc)] [(104, .agg #[iN ro.kind, iN ro.num, .slice xA ro.kids.length xc])] (rc_L 1 rfl rfl (rc_L 1 rfl rfl (rc_L 1 rfl rfl rc_nil))) ?_
   have hst := St.swap (A := [(b25, .cells #[iN ro.kind, iN ro.num, .slice yA ro.kids.length yc] 24), (b24, .cells #[iN ro.kind, iN ro.num, .slice xA ro.kids.length xc] 24), (b8, .cells #[iN b.kind, iN b.num, .slice pB b.kids.length qB] 24), (b7, .cells #[iN a.kind, iN a.num, .slice pA a.kids.length qA] 24), (b2, .cells #[iN b.kind, iN b.num, .slice bA b.kids.length bc] 24), (b1, .cells #[iN a.kind, iN a.num, .slice aA a.kids.length ac] 24)]) (B := Fo) (C := L) hst
   refine m_cl #[.agg #[iN ro.kind, iN ro.num, .slice xA ro.kids.length xc]] (some 105) (c42 _ (Nat.lt_succ_self _) hroz hxo hst) ?_
   rintro vx w1 hst
   have hst : St G21 ((b25, .cells #[iN ro.kind, iN ro.num, .slice yA ro.kids.length yc] 24) :: (b24, .cells #[iN ro.kind, iN ro.num, .slice xA ro.kids.length xc] 24) :: (b8, .cells #[iN b.kind, iN b.num, .slice pB b.kids.length qB] 24) :: (b7, .cells #[iN a.kind, iN a.num, .slice pA a.kids.length qA] 24) :: (b2, .cells #[iN b.kind, iN b.num, .slice bA b.kids.length bc] 24) :: (b1, .cells #[iN a.kind, iN a.num, .slice aA a.kids.length ac] 24) :: L) w1 := hst
   refine nx hst ?_
   refine r_nil ?_
   refine W_seq ?_
   refine W_rg [(.p, 0), (.p, 1), (.l, 2), (.l, 3), (.f, 4), (.p, 5), (.p, 6), (.l, 7), (.l, 8), (.f, 9), (.p, 10), (.p, 11), (.f, 12), (.p, 13), (.p, 14)] hst ?_
   refine r_sg [(.p, 0), (.p, 1)] [] [] [(106, .bool (eo == ((rOpen a b).2))), (107, .bool (eo == ((rOpen a b).2)))] rc_nil ?_
   have hd31 : (eo == ((rOpen a b).2)) = true := by first | (simp; done) | (rw [right_eq]; simp; done) | (rw [same_law]; simp; done) | (rw [hop2]; simp; done)
   rw [hd31]
   refine r_sg [(.l, 2), (.l, 3)] [[iN a.kind, iN a.num, .slice pA a.kids.length qA], [iN a.kind, iN a.num, .slice aA a.kids.length ac]] [(⟨b7, 0, none⟩, iN a.kind), (⟨b7, 1, none⟩, iN a.num), (⟨b7, 2, none⟩, .slice pA a.kids.length qA), (⟨b1, 0, none⟩, iN a.kind), (⟨b1, 1, none⟩, iN a.num), (⟨b1, 2, none⟩, .slice aA a.kids.length ac)] [(108, .agg #[iN a.kind, iN a.num, .slice pA a.kids.length qA]), (109, .agg #[iN a.kind, iN a.num, .slice aA a.kids.length ac])] (rc_L 3 rfl rfl (rc_L 3 rfl rfl (rc_L 3 rfl rfl (rc_L 5 rfl rfl (rc_L 5 rfl rfl (rc_L 5 rfl rfl rc_nil)))))) ?_
   refine m_cl #[.agg #[iN a.kind, iN a.num, .slice pA a.kids.length qA], .agg #[iN a.kind, iN a.num, .slice aA a.kids.length ac]] (some 110) (c18t (a := a) (b := a) (by omega) ((hown).mono (((((hG17).trans hG18).trans hG19).trans hG20).trans hG21)) ((hva).mono ((((((hGJ).trans hG17).trans hG18).trans hG19).trans hG20).trans hG21)) (same_refl _) hst) ?_
   rintro _ w1 ⟨rfl, hst⟩
   refine nx hst ?_
   refine r_sg [(.p, 5), (.p, 6), (.l, 7), (.l, 8)] [[iN b.kind, iN b.num, .slice pB b.kids.length qB], [iN b.kind, iN b.num, .slice bA b.kids.length bc]] [(⟨b8, 0, none⟩, iN b.kind), (⟨b8, 1, none⟩, iN b.num), (⟨b8, 2, none⟩, .slice pB b.kids.length qB), (⟨b2, 0, none⟩, iN b.kind), (⟨b2, 1, none⟩, iN b.num), (⟨b2, 2, none⟩, .slice bA b.kids.length bc)] [(111, .bool true), (112, .bool true), (113, .agg #[iN b.kind, iN b.num, .slice pB b.kids.length qB]), (114, .agg #[iN b.kind, iN b.num, .slice bA b.kids.length bc])] (rc_L 2 rfl rfl (rc_L 2 rfl rfl (rc_L 2 rfl rfl (rc_L 4 rfl rfl (rc_L 4 rfl rfl (rc_L 4 rfl rfl rc_nil)))))) ?_
   refine m_cl #[.agg #[iN b.kind, iN b.num, .slice pB b.kids.length qB], .agg #[iN b.kind, iN b.num, .slice bA b.kids.length bc]] (some 115) (c18t (a := b) (b := b) (by omega) ((hoth).mono (((((hG17).trans hG18).trans hG19).trans hG20).trans hG21)) ((hvb).mono ((((((hGJ).trans hG17).trans hG18).trans hG19).trans hG20).trans hG21)) (same_refl _) hst) ?_
   rintro _ w1 ⟨rfl, hst⟩
   refine nx hst ?_
   refine r_sg [(.p, 10), (.p, 11)] [] [] [(116, .bool true), (117, .bool true)] rc_nil ?_
   refine m_cl #[] (some 118) (c12 hst) ?_
   rintro _ w1 ⟨rfl, hst⟩
   refine nx hst ?_
   refine r_en [] [] [(119, .bool true), (6, .bool true)] rc_nil ?_
   refine W_ret ?_
   refine q_rt [] [] (.bool true) rc_nil hst ?_
   replace hst := hst.weak ((((((hGJ).trans hG17).trans hG18).trans hG19).trans hG20).trans hG21)
   exact ⟨by first | rfl | (congr 1; simp; done), hst.drop [_, _, _, _, _, _]⟩

end Go.Proofs.Ytjgnhhgigickaaa.Wk
/- From a reading of an argument to the walk's words: a type read as data is a tree in memory; and back: behind a call that leaves all old blocks alone the arguments read as before. Conditions: none. -/

namespace Go.Proofs.Ytjgnhhgigickaaa.Wk
open Go Md Go.ChangeShapes Go.WideShapes Go.ChangeAt Go.RowKit

/-- all that is there -/
def WG (w : World) : GH := ⟨fun b => w.heap[b]?, w.os, w.output⟩
theorem WG.st (w : World) : St (WG w) [] w := ⟨fun _ _ h => h, (fun p hp => by cases hp), (fun p hp => by cases hp), List.nodup_nil, rfl, rfl⟩

theorem cells3 {w : World} {a : Addr} {cs : List Value} (h : w.cells? 0 a 3 = some cs) : ∃ v0 v1 v2, cs = [v0, v1, v2] ∧ a.spot = none ∧ GC (WG w) ⟨a.block, a.off, none⟩ v0 ∧ GC (WG w) ⟨a.block, a.off + 1, none⟩ v1 ∧ GC (WG w) ⟨a.block, a.off + 2, none⟩ v2 := by
  unfold World.cells? at h
  rw [if_pos (Nat.zero_le _)] at h
  have e : List.range 3 = [0, 1, 2] := by decide
  rw [e] at h
  simp only [List.mapM_cons, List.mapM_nil, Option.bind_eq_bind, Option.pure_def] at h
  obtain ⟨v0, h0, h⟩ := Option.bind_eq_some_iff.1 h
  obtain ⟨l1, h1, h⟩ := Option.bind_eq_some_iff.1 h
  obtain ⟨v1, g1, h2⟩ := Option.bind_eq_some_iff.1 h1
  obtain ⟨l2, h3, h4⟩ := Option.bind_eq_some_iff.1 h2
  obtain ⟨v2, g2, h5⟩ := Option.bind_eq_some_iff.1 h3
  simp only [Option.bind_some, Option.some.injEq] at h h4 h5
  subst h5; subst h4; subst h
  have key : ∀ {x : Addr} {v : Value}, w.cell? x = some v → x.spot = none ∧ GC (WG w) ⟨x.block, x.off, none⟩ v := by
    intro x v hx
    unfold World.cell? at hx
    split at hx
    · rename_i c T fz hb
      split at hx
      · cases hx
      · rename_i hs
        exact ⟨by cases hh : x.spot with | none => rfl | some y => rw [hh] at hs; simp at hs, c, T, fz, hb, rfl, hx⟩
    · cases hx
  have k0 := key h0
  have k1 := key g1
  have k2 := key g2
  exact ⟨v0, v1, v2, rfl, k0.1, k0.2, k1.2, k2.2⟩

theorem polys_cells {G : GH} : ∀ {n : Nat} {b off : Nat} (h : ∀ i, i < n → ∃ v0 v1 v2 t, GC G ⟨b, off + i * 3, none⟩ v0 ∧ GC G ⟨b, off + i * 3 + 1, none⟩ v1 ∧ GC G ⟨b, off + i * 3 + 2, none⟩ v2 ∧ IsPoly G (.agg #[v0, v1, v2]) t), ∃ ts, ts.length = n ∧ IsPolys G (some ⟨b, off, none⟩) ts
  | 0, b, off, _ => ⟨[], rfl, IsPolys.nil⟩
  | n + 1, b, off, h => by
    obtain ⟨v0, v1, v2, t, h0, h1, h2, ht⟩ := h 0 (Nat.succ_pos _)
    obtain ⟨ts, hl, hts⟩ := polys_cells (n := n) (b := b) (off := off + 3) (fun i hi => by
      obtain ⟨v0, v1, v2, t, h0, h1, h2, ht⟩ := h (i + 1) (by omega)
      have e : off + (i + 1) * 3 = off + 3 + i * 3 := by omega
      rw [e] at h0 h1 h2
      exact ⟨v0, v1, v2, t, h0, h1, h2, ht⟩)
    refine ⟨t :: ts, by simp [hl], ?_⟩
    unfold IsPolys
    exact ⟨b, off, v0, v1, v2, rfl, by simpa using h0, by simpa using h1, by simpa using h2, ht, hts⟩

set_option maxRecDepth 100000 in
theorem trod_poly {H : Type} {enc : TypeId × Value → H} {w : World} {sp : Nat → Bool} {held : Bool} : ∀ (f : Nat) {cs : List Value} {x : DataW H × List MemPlace}, DataW.trod enc Try.prog w 0 sp held f 24 cs = some x → ∃ v0 v1 v2 t, cs = [v0, v1, v2] ∧ IsPoly (WG w) (.agg #[v0, v1, v2]) t := by
  intro f
  induction f using Nat.strongRecOn with
  | _ f ih =>
  intro cs x h
  obtain ⟨xs, n, rfl, _, hl, hlen, hf⟩ := DataW.trod_struct Try.underlying24 h
  have c24 : Try.prog.cellsOf 24 = 3 := by kernel_rfl
  have c3 : Try.prog.cellsOf 3 = 1 := by kernel_rfl
  have c22 : Try.prog.cellsOf 22 = 1 := by kernel_rfl
  rw [c24] at hl
  match cs, hl with
  | [v0, v1, v2], _ =>
    match xs, hlen with
    | [y0, y1, y2], _ =>
      have f0 : DataW.trod enc Try.prog w 0 sp held n 3 (([v0, v1, v2].drop 0).take (Try.prog.cellsOf 3)) = [y0, y1, y2][0]? := hf 0 _ rfl
      have f1 : DataW.trod enc Try.prog w 0 sp held n 3 (([v0, v1, v2].drop 1).take (Try.prog.cellsOf 3)) = [y0, y1, y2][1]? := hf 1 _ rfl
      have f2 : DataW.trod enc Try.prog w 0 sp held n 22 (([v0, v1, v2].drop 2).take (Try.prog.cellsOf 22)) = [y0, y1, y2][2]? := hf 2 _ rfl
      rw [c3] at f0 f1
      rw [c22] at f2
      have f0 : DataW.trod enc Try.prog w 0 sp held n 3 [v0] = some y0 := by simpa using f0
      have f1 : DataW.trod enc Try.prog w 0 sp held n 3 [v1] = some y1 := by simpa using f1
      have f2 : DataW.trod enc Try.prog w 0 sp held n 22 [v2] = some y2 := by simpa using f2
      obtain ⟨k, hk, _, _⟩ := DataW.trod_int Try.underlying3 f0
      obtain ⟨m, hm, _, _⟩ := DataW.trod_int Try.underlying3 f1
      simp only [List.cons.injEq, and_true] at hk hm
      subst hk; subst hm
      rcases DataW.trod_slice Try.underlying22 f2 with ⟨hs, _⟩ | ⟨a, len, cap, elems, rest, n', rfl, hs, _, _, hcap, _, hel, he, _⟩
      · cases hs
        exact ⟨_, _, _, .mk k m [], rfl, IsPoly.mk (t := .mk k m []) (Nat.le_refl _) IsPolys.nil⟩
      · cases hs
        rw [c24] at he
        have hel2 : ∀ i, i < len → ∃ v0 v1 v2 t, (a.add (i * 3)).spot = none ∧ GC (WG w) ⟨(a.add (i * 3)).block, (a.add (i * 3)).off, none⟩ v0 ∧ GC (WG w) ⟨(a.add (i * 3)).block, (a.add (i * 3)).off + 1, none⟩ v1 ∧ GC (WG w) ⟨(a.add (i * 3)).block, (a.add (i * 3)).off + 2, none⟩ v2 ∧ IsPoly (WG w) (.agg #[v0, v1, v2]) t := by
          intro i hi
          have h1 := he i hi
          have h2 : ∃ y, elems[i]? = some y := ⟨elems[i]'(by omega), List.getElem?_eq_getElem (by omega)⟩
          obtain ⟨y, hy⟩ := h2
          rw [hy] at h1
          obtain ⟨cs, hc, ht⟩ := Option.bind_eq_some_iff.1 h1
          obtain ⟨u0, u1, u2, rfl, hsp, g0, g1, g2⟩ := cells3 hc
          obtain ⟨v0, v1, v2, t, hcs, hp⟩ := ih n' (by omega) ht
          simp only [List.cons.injEq, and_true] at hcs
          obtain ⟨rfl, rfl, rfl⟩ := hcs
          exact ⟨u0, u1, u2, t, hsp, g0, g1, g2, hp⟩
        have hab : ∀ i, (a.add i).block = a.block := fun i => by unfold Addr.add; split <;> rfl
        have hao : ∀ i, (a.add i).off = a.off + i := fun i => by unfold Addr.add; split <;> simp_all
        cases len with
        | zero => exact ⟨_, _, _, .mk k m [], rfl, IsPoly.mk (t := .mk k m []) (Nat.zero_le _) IsPolys.nil⟩
        | succ len =>
          have hsp : a.spot = none := by
            obtain ⟨_, _, _, _, h, _⟩ := hel2 0 (Nat.succ_pos _)
            simpa [Addr.add] using h
          obtain ⟨ts, htl, hts⟩ := polys_cells (G := WG w) (n := len + 1) (b := a.block) (off := a.off) (fun i hi => by
            obtain ⟨v0, v1, v2, t, _, g0, g1, g2, hp⟩ := hel2 i hi
            rw [hab, hao] at g0 g1 g2
            exact ⟨v0, v1, v2, t, g0, g1, g2, hp⟩)
          have ha : a = ⟨a.block, a.off, none⟩ := by cases a; simp only at hsp; subst hsp; rfl
          refine ⟨_, _, _, .mk k m ts, rfl, ?_⟩
          rw [ha, ← htl]
          exact IsPoly.mk (t := .mk k m ts) (by show ts.length ≤ cap; omega) hts
theorem read_poly {H : Type} {enc : TypeId × Value → H} {w : World} {sp : Nat → Bool} {held : Bool} {v : Value} {d : DataW H} {ps : List MemPlace} (h : DataW.Trod enc Try.prog w 0 sp held 24 v d ps) : ∃ t, IsPoly (WG w) v t := by
  obtain ⟨f, hf⟩ := h
  obtain ⟨v0, v1, v2, t, hc, hp⟩ := trod_poly f hf
  refine ⟨t, ?_⟩
  have : v = .agg #[v0, v1, v2] := by
    cases v with
    | agg cs => simp only [Value.cells] at hc; congr 1; exact Array.toList_inj.1 hc
    | _ => simp [Value.cells] at hc
  rw [this]; exact hp
set_option maxRecDepth 100000 in
theorem read_string {H : Type} {enc : TypeId × Value → H} {w : World} {sp : Nat → Bool} {held : Bool} {v : Value} {d : DataW H} {ps : List MemPlace} {b0 : Nat} (hok : Value.okWide Try.prog w .any b0 9 v) (h : DataW.Trod enc Try.prog w 0 sp held 9 v d ps) : ∃ l, v = .string (bs l) := by
  obtain ⟨s, rfl, _⟩ := Go.ChangeMaps.open_string Try.underlying9 hok h
  exact ⟨s.data.toList, by rw [← bs_of]⟩

/-- behind the call: what was there is there -/
theorem kept_of {w w' : World} (h : St (WG w) [] w') (may : MemPlace → Prop) : w.keptBut w' may := by
  refine ⟨h.os, h.out, fun i hi => ?_⟩
  have hx : w.heap[i]? = some (w.heap[i]'hi) := Array.getElem?_eq_getElem hi
  have := h.imm i _ hx
  rw [this, hx]
  cases w.heap[i]'hi with
  | cells c t fz => exact ⟨rfl, rfl, rfl, fun _ _ => rfl⟩
  | map es ck => exact .inr ⟨rfl, rfl⟩
  | _ => rfl
theorem same_of {w w' : World} (h : St (WG w) [] w') {x : MemPlace} (hx : x.block < w.heap.size) : w.sameAt w' x := by
  have h0 : w.heap[x.block]? = some (w.heap[x.block]'hx) := Array.getElem?_eq_getElem hx
  have h1 := h.imm _ _ h0
  cases x with
  | cell b off => show (match w'.heap[b]? with | some (.cells c _ _) => _ | _ => none) = (match w.heap[b]? with | some (.cells c _ _) => _ | _ => none); rw [show w'.heap[b]? = w.heap[b]? from h1.trans h0.symm]
  | map b => exact h1.trans h0.symm
theorem Try.laidOut : laidOutB Try.prog = true := by kernel_rfl
theorem trod_kept {H : Type} {enc : TypeId × Value → H} {t : TypeId} (hr : Try.prog.readableRec t = true) (hrow : t < Try.prog.types.size) {w w' : World} {v : Value} {d : DataW H} {ps : List MemPlace}
    (h : DataW.Trod enc Try.prog w 0 (fun _ => true) true t v d ps) (hs : St (WG w) [] w') (hlt : ∀ x ∈ ps, x.block < w.heap.size) :
    DataW.Trod enc Try.prog w' 0 (fun b => decide (b < w.heap.size)) true t v d ps :=
  WideElems.Trod_stays Try.laidOut hr hrow h (fun x hx => same_of hs (hlt x hx)) (fun x hx => by simpa using hlt x hx)
/-- the row's word of a call that answers true and leaves all alone -/
theorem post_true {H : Type} {enc : TypeId × Value → H} {f : Func} {s : ChangeSpec} {apart fresh handsOn : Bool} {w w' : World} {args : Array Value} {ds : List (DataW H)} {before : List MemPlace}
    (hW : DataW.Whole enc Try.prog f.params.toList s.vars apart w args.toList ds [] before) (hv : s.vars = []) (hrt : f.resultTypes = #[4]) (hres : (s.fn H (ds ++ [])).results = [.lit (.bool true)]) (hra : (s.fn H (ds ++ [])).args = ds) (hrv : (s.fn H (ds ++ [])).vars = [])
    (hargs : DataW.TrodAll enc Try.prog w' 0 (fun b => decide (b < w.heap.size)) true f.params.toList args.toList ds before) (hs : St (WG w) [] w') :
    s.post enc Try.prog f apart fresh handsOn false w args (.bool true) w' := by
  refine ⟨ds, [], before, [], before, [], hW, ?_, by rw [hra]; exact hargs, by rw [hrv, hv]; rfl, kept_of hs _, fun h => by cases h⟩
  rw [hrt, hres]
  exact trodAll_mk1 (shut_bool Try.underlying4 true)
end Go.Proofs.Ytjgnhhgigickaaa.Wk
/- RankTypes holds: the law returns true for every two types and every number, and they read afterwards as they read before. Conditions: none but those that the given row itself bears. -/

namespace Go.Proofs.Ytjgnhhgigickaaa
open Go.ChangeShapes Go.WideShapes Go.ChangeAt Go.RowKit

theorem ownK : ownKnob Try.prog.godebug = none := by kernel_rfl

set_option maxRecDepth 100000 in
theorem types_lifted (os : Os) (started : os.Started) (H : Type) (enc : TypeId × Value → H) :
    ReturnsInHanded {} Try.checked os 9 .any (Rows.rankTypesSpec.pre6 enc Try.prog Try.f9 Rows.rankTypesRow.domain false) (Rows.rankTypesSpec.post enc Try.prog Try.f9 false true false false) := by
  refine returnsInHanded_of_change (C := Try.checked) ownK started (by kernel_rfl) Try.func9
    (ChangeSpec.witness6 (enc := enc) (C := Try.checked) false ⟨#[], #[.agg #[.int .i64 0, .int .i64 0, .slice none 0 0], .agg #[.int .i64 0, .int .i64 0, .slice none 0 0], .int .i64 0], []⟩ 8 (by kernel_rfl) (by kernel_rfl) (by kernel_rfl) (by kernel_rfl)) ?_
  intro W base args ds gs before hval0 hW _ _
  have hval : ∀ (j : Nat) t v, Try.f9.params[j]? = some t → args[j]? = some v → Value.okWide Try.prog W .any base t v := hval0
  have hW' := hW
  obtain ⟨p, q, hA0, hV, rfl, _, _⟩ := hW
  have hA : DataW.TrodAll enc Try.prog W 0 (fun _ => true) true Try.f9.params.toList args.toList ds p := hA0
  rw [Try.params9] at hA hval
  obtain ⟨v0, v1, v2, d0, d1, d2, p0, p1, p2, rfl, rfl, rfl, h0, h1, h2⟩ := trodAll_three hA
  obtain ⟨rfl, rfl⟩ := trodVars_none hV
  obtain ⟨a, ha⟩ := Wk.read_poly h0
  obtain ⟨b, hb⟩ := Wk.read_poly h1
  have h2k := h2
  obtain ⟨n, rfl, rfl, rfl, _⟩ := open_int Try.underlying3 (hval 2 3 v2 rfl rfl) h2
  have hlt : ∀ x ∈ (p0 ++ (p1 ++ [])), x.block < W.heap.size := fun x hx => by simpa using hW'.lt x (by simpa using hx)
  refine (Wk.c9 ha hb (Wk.WG.st W)).mono fun v W' ⟨hv, hs⟩ => ?_
  subst hv
  simp only [List.append_nil] at hW'
  refine Wk.post_true hW' rfl rfl rfl rfl rfl ?_ hs
  have := trodAll_mk3 (Wk.trod_kept (by kernel_rfl) (of_decide_eq_true (by kernel_rfl)) h0 hs fun x hx => hlt x (by simp [hx])) (Wk.trod_kept (by kernel_rfl) (of_decide_eq_true (by kernel_rfl)) h1 hs fun x hx => hlt x (by simp [hx]))
    (Wk.trod_kept (by kernel_rfl) (of_decide_eq_true (by kernel_rfl)) h2k hs fun x hx => by cases hx)
  simpa using this

theorem types_holds : Rows.RankTypesSaid :=
  OpenClaim.holds_of_wide 9 Try.f9 rfl rfl rfl rfl rfl rfl rfl ⟨rfl, rfl, rfl, rfl, rfl⟩ rfl rfl rfl rfl rfl (by kernel_rfl) Try.func9 (by kernel_rfl)
    (of_decide_eq_true (by kernel_rfl)) (by unfold Func.isWrapper; first | (rw [if_pos (by decide +kernel)]; kernel_rfl) | (rw [if_neg (by decide +kernel)]; exact ⟨rfl, rfl⟩))
    (fun os started H enc _ => types_lifted os started H enc)
#print axioms types_holds
end Go.Proofs.Ytjgnhhgigickaaa
