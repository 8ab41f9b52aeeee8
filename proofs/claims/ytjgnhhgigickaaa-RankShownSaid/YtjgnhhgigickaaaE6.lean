/- The texts M5 W37 W38 W39 K18 W43 W44 W45 M4 W40 W41 M6 M8 K19 W46 K16 K20, joined by wip/tools/squeeze.py: contracts of the given program's functions and plain laws. Conditions: each theorem's own. -/
import Derived.Test.YtjgnhhgigickaaaE5
import Derived.Laws.Cells
import Derived.Test.YtjgnhhgigickaaaRows
import Derived.ProofKit
set_option linter.all false

/- What the reference's functions on types compute: ranks, whether two are the same, what opening makes. Conditions: none. -/

namespace Go.Proofs.Ytjgnhhgigickaaa.Md
open Go Wk
def rrank : Nat → T → Option Int
  | 0, _ => none
  | f + 1, t =>
    if t.kind = 4 then
      match t.kids with
      | a :: _ => (rrank f a).bind fun r => some (max 1 r)
      | [] => none
    else if t.kind = 3 then
      match t.kids with
      | a :: b :: _ => (rrank f a).bind fun n => (rrank f b).bind fun m => some (max (if n > 0 then w64 (n + 1) else n) m)
      | _ => none
    else some 0
def rRank (f : Nat) (t : T) : Option (Int × Int) := if rRight t 0 ≠ 0 then some (0, rRight t 0) else (rrank f t).bind fun r => some (r, 0)
def rboth (a b : T) : Int := if rRight a 0 ≠ 0 then rRight a 0 else rRight b 0
def rSame (a b : T) : Bool × Int := if rboth a b ≠ 0 then (false, rboth a b) else (same a b, 0)
mutual
def rput (wth : T) : T → Int → T
  | .mk k num ks, out =>
    if k = 1 then (if num = out then wth else if num > out then .mk k (w64 (num - 1)) ks else .mk k num ks)
    else .mk k num (rputs wth ks (if k = 4 then w64 (out + 1) else out))
def rputs (wth : T) : List T → Int → List T
  | [], _ => []
  | t :: ts, out => rput wth t out :: rputs wth ts out
end
def rOpen (t wth : T) : T × Int :=
  if rboth t wth ≠ 0 then (t0, rboth t wth)
  else if t.kind ≠ 4 then (t0, 6)
  else match t.kids with
    | k :: _ => if rRight (rput wth k 0) 0 ≠ 0 then (t0, rRight (rput wth k 0) 0) else (rput wth k 0, 0)
    | [] => (t0, 0)
end Go.Proofs.Ytjgnhhgigickaaa.Md
/- Walks of the given program's functions: same, EqualFunc, Same. Printed by tools/w37.py. Conditions: none. -/

namespace Go.Proofs.Ytjgnhhgigickaaa.Wk
open Go Md
set_option maxRecDepth 20000
set_option linter.unusedVariables false
set_option linter.unusedSimpArgs false
attribute [local irreducible] endQ

def SameC (f : Nat) : Prop := ∀ {G : GH} {L : LH} {w : World} {va vb : Value} {a b : T}, T.sz a < f → IsPoly G va a → IsPoly G vb b → St G L w → Cal Try.prog 79 #[va, vb] w fun x w' => x = .bool (same a b) ∧ St G L w'
end Go.Proofs.Ytjgnhhgigickaaa.Wk
/- Walks of the given program's functions: the reference: rank, Rank, both, Same. Printed by tools/w38.py. Conditions: none. -/

namespace Go.Proofs.Ytjgnhhgigickaaa.Wk
open Go Md
set_option maxRecDepth 20000
set_option linter.unusedVariables false
set_option linter.unusedSimpArgs false
attribute [local irreducible] endQ
end Go.Proofs.Ytjgnhhgigickaaa.Wk
/- Walks of the given program's functions: the reference: put, Open. Printed by tools/w39.py. Conditions: none. -/

namespace Go.Proofs.Ytjgnhhgigickaaa.Wk
open Go Md
set_option maxRecDepth 20000
set_option linter.unusedVariables false
set_option linter.unusedSimpArgs false
attribute [local irreducible] endQ

theorem rput_eq (wth t : T) (out : Int) : rput wth t out = if t.kind = 1 then (if t.num = out then wth else if t.num > out then .mk t.kind (w64 (t.num - 1)) t.kids else .mk t.kind t.num t.kids) else .mk t.kind t.num (rputs wth t.kids (if t.kind = 4 then w64 (out + 1) else out)) := by
 cases t; unfold rput; rfl
theorem nds_mk (k n : Int) (ks : List T) : nds (.mk k n ks) = ndss ks + 1 := rfl
theorem ndss_cons (t : T) (ts : List T) : ndss (t :: ts) = nds t + ndss ts := rfl
theorem nds_pos (t : T) : 1 ≤ nds t := by cases t; unfold nds; omega
mutual
theorem nds_rput (wth : T) : ∀ (t : T) (out : Int), nds (rput wth t out) ≤ nds t * nds wth
 | .mk k num ks, out => by
  have hp := nds_pos wth
  have h1 : nds (.mk k num ks) ≤ nds (.mk k num ks) * nds wth := Nat.le_mul_of_pos_right _ hp
  have h2 : nds wth ≤ nds (.mk k num ks) * nds wth := Nat.le_mul_of_pos_left _ (nds_pos _)
  unfold rput
  split
  ·split
   ·exact h2
   split
   ·exact h1
   ·exact h1
  have h3 := nds_rputs wth ks (if k = 4 then w64 (out + 1) else out)
  rw [nds_mk, nds_mk, Nat.add_mul]; omega
theorem nds_rputs (wth : T) : ∀ (ts : List T) (out : Int), ndss (rputs wth ts out) ≤ ndss ts * nds wth
 | [], _ => Nat.zero_le _
 | t :: ts, out => by
  have h1 := nds_rput wth t out
  have h2 := nds_rputs wth ts out
  unfold rputs
  rw [ndss_cons, ndss_cons, Nat.add_mul]; omega
end
theorem nds_kid {t u : T} {i : Nat} (h : t.kids[i]? = some u) : nds u < nds t := by
 obtain ⟨k, n, ks⟩ := t
 have key : ∀ {ks : List T} {i : Nat}, ks[i]? = some u → nds u ≤ ndss ks := by
  intro ks
  induction ks with
  | nil => intro i h; simp at h
  | cons a ks ih =>
   intro i h
   cases i with
   | zero => simp at h; subst h; rw [ndss_cons]; omega
   | succ i => simp at h; have := ih h; rw [ndss_cons]; omega
 have : nds u ≤ ndss ks := key h
 rw [nds_mk]; omega
end Go.Proofs.Ytjgnhhgigickaaa.Wk
/- A tree of the walk's own: each row of Kids lies in a block that nobody else has. To freeze blocks for a while; a slice that is nil; the append of nothing. Conditions: none. -/

namespace Go.Proofs.Ytjgnhhgigickaaa.Wk
open Go Md

def lk (F : LH) (x : Nat) : Option Obj := (F.find? fun p => p.1 == x).map (·.2)
theorem lk_mem {F : LH} {x : Nat} {o : Obj} (h : lk F x = some o) : (x, o) ∈ F := by
  unfold lk at h
  cases hf : F.find? fun p => p.1 == x with
  | none => rw [hf] at h; cases h
  | some p =>
    rw [hf] at h; simp only [Option.map_some, Option.some.injEq] at h
    have h1 := List.mem_of_find?_eq_some hf
    have h2 : p.1 = x := by have := List.find?_some hf; simpa using this
    obtain ⟨a, b⟩ := p
    simp only at h h2; subst h; subst h2; exact h1
theorem lk_none {F : LH} {x : Nat} (h : ∀ p, p ∈ F → p.1 ≠ x) : lk F x = none := by
  unfold lk
  rw [List.find?_eq_none.2 (fun p hp => by simpa using h p hp)]; rfl
theorem lk_of {F : LH} {p : Nat × Obj} (hn : (F.map (·.1)).Nodup) (hp : p ∈ F) : lk F p.1 = some p.2 := by
  cases h : lk F p.1 with
  | none =>
    exfalso
    unfold lk at h
    rw [Option.map_eq_none_iff] at h
    have := List.find?_eq_none.1 h p hp
    simp at this
  | some o =>
    have hm := lk_mem h
    obtain ⟨i, hi⟩ := List.getElem?_of_mem hp
    obtain ⟨j, hj⟩ := List.getElem?_of_mem hm
    have hil := (List.getElem?_eq_some_iff.1 hi).1
    have h1 : (F.map (·.1))[i]? = some p.1 := by rw [List.getElem?_map, hi]; rfl
    have h2 : (F.map (·.1))[j]? = some p.1 := by rw [List.getElem?_map, hj]; rfl
    have hij := (List.getElem?_inj (by simpa using hil) hn).1 (h1.trans h2.symm)
    subst hij
    have he := congrArg Prod.snd (Option.some.inj (hi.symm.trans hj))
    simp only at he; rw [he]
theorem St.freezeT {G : GH} {L : LH} {w : World} (F : LH) (h : St G (F ++ L) w) : ∃ G', Le G G' ∧ (∀ p, p ∈ F → G' p.1 = some p.2) ∧ St G' L w ∧ ∀ {L' : LH} {w' : World}, St G' L' w' → St G (F ++ L') w' := by
  have hnd := h.nd
  rw [List.map_append, List.nodup_append] at hnd
  have hsepF : ∀ p, p ∈ F → G p.1 = none := fun p hp => h.sep p (List.mem_append_left _ hp)
  have hmem : ∀ p, p ∈ F → lk F p.1 = some p.2 := fun p hp => lk_of hnd.1 hp
  refine ⟨⟨fun x => match lk F x with | some o => some o | none => G x, G.os, G.out⟩, ⟨fun b o hb => ?_, rfl, rfl⟩, fun p hp => ?_, ⟨fun b o hb => ?_, fun p hp => h.loc p (List.mem_append_right _ hp), fun p hp => ?_, hnd.2.1, h.os, h.out⟩, fun {L' w'} h' => ?_⟩
  · show (match lk F b with | some o => some o | none => G b) = some o
    rw [lk_none (fun p hp e => by have := hsepF p hp; rw [e, hb] at this; cases this)]; exact hb
  · show (match lk F p.1 with | some o => some o | none => G p.1) = some p.2
    rw [hmem p hp]
  · have hb : (match lk F b with | some o => some o | none => G b) = some o := hb
    cases hl : lk F b with
    | some o' => rw [hl] at hb; simp only [Option.some.injEq] at hb; subst hb; exact h.loc _ (List.mem_append_left _ (lk_mem hl))
    | none => rw [hl] at hb; exact h.imm b o hb
  · show (match lk F p.1 with | some o => some o | none => G p.1) = none
    rw [lk_none (fun q hq e => hnd.2.2 q.1 (List.mem_map.2 ⟨q, hq, rfl⟩) p.1 (List.mem_map.2 ⟨p, hp, rfl⟩) e)]
    exact h.sep p (List.mem_append_right _ hp)
  · have hG : ∀ b o, G b = some o → (match lk F b with | some o => some o | none => G b) = some o := fun b o hb => by
      rw [lk_none (fun p hp e => by have := hsepF p hp; rw [e, hb] at this; cases this)]; exact hb
    have hFs : ∀ p, p ∈ F → (match lk F p.1 with | some o => some o | none => G p.1) = some p.2 := fun p hp => by rw [hmem p hp]
    refine ⟨fun b o hb => h'.imm b o (hG b o hb), fun p hp => ?_, fun p hp => ?_, ?_, h'.os, h'.out⟩
    · rcases List.mem_append.1 hp with hp | hp
      · exact h'.imm _ _ (hFs p hp)
      · exact h'.loc p hp
    · rcases List.mem_append.1 hp with hp | hp
      · exact hsepF p hp
      · cases hg : G p.1 with
        | none => rfl
        | some o => have h1 : (match lk F p.1 with | some o => some o | none => G p.1) = none := h'.sep p hp; have h2 := hG _ _ hg; rw [h1] at h2; cases h2
    · rw [List.map_append, List.nodup_append]
      refine ⟨hnd.1, h'.nd, fun a ha b hb e => ?_⟩
      obtain ⟨p, hp, rfl⟩ := List.mem_map.1 ha
      obtain ⟨q, hq, rfl⟩ := List.mem_map.1 hb
      have h1 : (match lk F q.1 with | some o => some o | none => G q.1) = none := h'.sep q hq
      have h2 := hFs p hp
      rw [e, h1] at h2; cases h2

/-! ### trees of one's own -/
mutual
def OwnP : Value → T → LH → Prop
  | v, .mk k n ks, F => (ks = [] ∧ F = [] ∧ ∃ A c, v = .agg #[.int .i64 k, .int .i64 n, .slice A 0 c]) ∨
      ∃ b c cs F', F = (b, .cells (List.toArray cs) 24 (0, 0)) :: F' ∧ v = .agg #[.int .i64 k, .int .i64 n, .slice (some ⟨b, 0, none⟩) ks.length c] ∧ ks.length ≤ c ∧ OwnPs cs ks F'
def OwnPs : List Value → List T → LH → Prop
  | _, [], F => F = []
  | cs, t :: ts, F => ∃ v0 v1 v2 r F1 F2, cs = v0 :: v1 :: v2 :: r ∧ F = F1 ++ F2 ∧ OwnP (.agg #[v0, v1, v2]) t F1 ∧ OwnPs r ts F2
end
theorem OwnPs.app : ∀ {ts : List T} {cs us : List Value} {F : LH}, OwnPs cs ts F → OwnPs (cs ++ us) ts F
  | [], _, _, _, h => by unfold OwnPs at h ⊢; exact h
  | t :: ts, cs, us, F, h => by
    unfold OwnPs at h ⊢
    obtain ⟨v0, v1, v2, r, F1, F2, rfl, rfl, h1, h2⟩ := h
    exact ⟨v0, v1, v2, r ++ us, F1, F2, rfl, rfl, h1, OwnPs.app h2⟩
theorem OwnPs.snoc : ∀ {ts : List T} {cs : List Value} {F F' : LH} {a b c : Value} {t : T}, OwnPs cs ts F → cs.length = ts.length * 3 → OwnP (.agg #[a, b, c]) t F' → OwnPs (cs ++ [a, b, c]) (ts ++ [t]) (F ++ F')
  | [], cs, F, F', a, b, c, t, h, hl, h2 => by
    unfold OwnPs at h; subst h
    have : cs = [] := by simpa using hl
    subst this
    show OwnPs [a, b, c] [t] F'
    unfold OwnPs
    exact ⟨a, b, c, [], F', [], rfl, by simp, h2, by unfold OwnPs; rfl⟩
  | u :: ts, cs, F, F', a, b, c, t, h, hl, h2 => by
    unfold OwnPs at h
    obtain ⟨v0, v1, v2, r, F1, F2, rfl, rfl, h3, h4⟩ := h
    show OwnPs _ (u :: (ts ++ [t])) _
    unfold OwnPs
    exact ⟨v0, v1, v2, r ++ [a, b, c], F1, F2 ++ F', rfl, by simp, h3, OwnPs.snoc h4 (by simp at hl; omega) h2⟩
mutual
theorem OwnP.poly {G : GH} : ∀ {t : T} {v : Value} {F : LH}, OwnP v t F → (∀ p, p ∈ F → G p.1 = some p.2) → IsPoly G v t
  | .mk k n ks, v, F, h, hF => by
    unfold OwnP at h
    rcases h with ⟨rfl, rfl, A, c, rfl⟩ | ⟨b, c, cs, F', rfl, rfl, hc, h⟩
    · exact IsPoly.mk (t := .mk k n []) (Nat.zero_le _) IsPolys.nil
    · have hb := hF _ (.head _)
      exact IsPoly.mk (t := .mk k n ks) hc (OwnPs.polys (off := 0) h (fun p hp => hF p (.tail _ hp)) fun i u hi => GC.of hb (by rw [Nat.zero_add]; simpa using hi))
theorem OwnPs.polys {G : GH} {b : Nat} : ∀ {ts : List T} {cs : List Value} {F : LH} {off : Nat}, OwnPs cs ts F → (∀ p, p ∈ F → G p.1 = some p.2) → (∀ i u, cs[i]? = some u → GC G ⟨b, off + i, none⟩ u) → IsPolys G (some ⟨b, off, none⟩) ts
  | [], _, _, _, _, _, _ => IsPolys.nil
  | t :: ts, cs, F, off, h, hF, hc => by
    unfold OwnPs at h
    obtain ⟨v0, v1, v2, r, F1, F2, rfl, rfl, h1, h2⟩ := h
    unfold IsPolys
    exact ⟨b, off, v0, v1, v2, rfl, hc 0 v0 rfl, hc 1 v1 rfl, hc 2 v2 rfl, OwnP.poly h1 (fun p hp => hF p (List.mem_append_left _ hp)), OwnPs.polys h2 (fun p hp => hF p (List.mem_append_right _ hp)) fun i u hi => by
      have := hc (i + 3) u (by simpa using hi)
      rwa [show off + (i + 3) = off + 3 + i by omega] at this⟩
end
theorem OwnP.shape {v : Value} {t : T} {F : LH} (h : OwnP v t F) : ∃ A c, v = .agg #[.int .i64 t.kind, .int .i64 t.num, .slice A t.kids.length c] := by
  obtain ⟨k, n, ks⟩ := t
  unfold OwnP at h
  rcases h with ⟨rfl, rfl, A, c, rfl⟩ | ⟨b, c, cs, F', rfl, rfl, hc, h⟩
  · exact ⟨A, c, rfl⟩
  · exact ⟨_, c, rfl⟩
theorem OwnP.zero {A : Option Addr} {c : Nat} : OwnP (.agg #[.int .i64 0, .int .i64 0, .slice A 0 c]) t0 [] := by unfold t0 OwnP; exact .inl ⟨rfl, rfl, A, c, rfl⟩

/-- cells that begin as the cells of types -/
def PoH (G : GH) : List Value → List T → Prop
  | _, [] => True
  | v0 :: v1 :: v2 :: r, t :: l => IsPoly G (.agg #[v0, v1, v2]) t ∧ PoH G r l
  | _, _ => False
theorem PoH.open {G : GH} {us : List Value} {t : T} {l : List T} (h : PoH G us (t :: l)) : ∃ A c r, us = .int .i64 t.kind :: .int .i64 t.num :: .slice A t.kids.length c :: r ∧ IsPoly G (.agg #[.int .i64 t.kind, .int .i64 t.num, .slice A t.kids.length c]) t ∧ PoH G r l := by
  match us, h with
  | v0 :: v1 :: v2 :: r, h =>
    unfold PoH at h
    obtain ⟨A, c, he, _, _⟩ := id h.1.open
    simp only [Value.agg.injEq] at he
    have he := congrArg Array.toList he
    simp only [List.cons.injEq, and_true] at he
    obtain ⟨rfl, rfl, rfl⟩ := he
    exact ⟨A, c, r, rfl, h.1, h.2⟩
/-- the cells of a row of types that nobody writes -/
theorem IsPolys.src {G : GH} : ∀ {ks : List T} {b off : Nat}, IsPolys G (some ⟨b, off, none⟩) ks → ∃ news : List Value, news.length = ks.length * 3 ∧ (∀ sp, PoH G (news ++ sp) ks) ∧ (∀ j u, news[j]? = some u → GC G ⟨b, off + j, none⟩ u) ∧ (news.all (·.oneCell')) = true
  | [], b, off, _ => ⟨[], rfl, fun _ => by unfold PoH; trivial, fun j u h => by simp at h, rfl⟩
  | t :: ts, b, off, h => by
    unfold IsPolys at h
    obtain ⟨b', off', v0, v1, v2, he, h0, h1, h2, hp, hr⟩ := h
    cases he
    obtain ⟨news, hl, hP, hj, ho⟩ := IsPolys.src hr
    obtain ⟨A, c, he, _, _⟩ := id hp.open
    simp only [Value.agg.injEq] at he
    have he := congrArg Array.toList he
    simp only [List.cons.injEq, and_true] at he
    obtain ⟨rfl, rfl, rfl⟩ := he
    refine ⟨_ :: _ :: _ :: news, by simp only [List.length_cons, hl]; omega, fun sp => by simp only [List.cons_append]; unfold PoH; exact ⟨hp, hP sp⟩, fun j u hu => ?_, by simp only [List.all_cons, ho]; rfl⟩
    match j, hu with
    | 0, hu => simp at hu; subst hu; exact h0
    | 1, hu => simp at hu; subst hu; exact h1
    | 2, hu => simp at hu; subst hu; exact h2
    | j + 3, hu =>
      have := hj j u (by simpa using hu)
      rwa [show off + 3 + j = off + (j + 3) by omega] at this

theorem wr3 (vs : List Value) {x0 x1 x2 a b c : Value} {r : List Value} {n : Nat} (h : vs.length = n) : wr (vs ++ x0 :: x1 :: x2 :: r) [(n, a), (n + 1, b), (n + 2, c)] = (vs ++ [a, b, c]) ++ r := by
  subst h
  simp only [wr]
  rw [List.set_append_right _ _ (Nat.le_refl _), List.set_append_right _ _ (by omega), List.set_append_right _ _ (by omega)]
  simp
section
variable {P : Program} {ops : Array Oper} {K : Env → World → Prop} {rest : List (Mv × Nat)} {S : World → Prop} {ρ : Env} {w : World} {i : Nat} {G : GH} {L : LH}
/-- an effect that only gives a value -/
theorem m_pv (x : Value) (d : Option Nat) (h : opK ops i ρ (pv P) = some (.value x, d)) (hst : St G L w) (hk : RunD P ops K rest (SS G L) (updo ρ d x) w) : RunD P ops K ((.f, i) :: rest) S ρ w :=
  m_f _ d h fun _ hx => OpE_ok (pv_ok hx w) (nx hst hk)
end
end Go.Proofs.Ytjgnhhgigickaaa.Wk
/- Walks of the given program's functions: draw, Less. Printed by tools/w43.py. Conditions: none. -/

namespace Go.Proofs.Ytjgnhhgigickaaa.Wk
open Go Md
set_option maxRecDepth 20000
set_option linter.unusedVariables false
set_option linter.unusedSimpArgs false
attribute [local irreducible] endQ

noncomputable def xr64 (a b : Int) : Int := match pv Try.prog (Op.intBits .xor .u64 a b) with | some (.int _ n) => n | _ => 0
/-- bytes that nobody writes -/
def ByS (G : GH) (A : Option Addr) (n : Nat) : Prop := ∀ i, i < n → ∃ b off u, A = some ⟨b, off, none⟩ ∧ GC G ⟨b, off + i, none⟩ (.int .u8 u)
theorem ByS.mono {G G' : GH} {A : Option Addr} {n : Nat} (h : ByS G A n) (hG : Le G G') : ByS G' A n := fun i hi => let ⟨b, off, u, h1, h2⟩ := h i hi; ⟨b, off, u, h1, h2.mono hG⟩
@[reducible] def StB (A : Option Addr) (n c at_ : Nat) (sd : Int) : Obj := .cells #[.slice A n c, .int .i64 ((at_ : Nat) : Int), .int .u64 sd] 96
theorem draw_nn (x : Int) : 0 ≤ IntKind.wrap .i64 (Int.fdiv (IntKind.wrap .u64 x) 1099511627776) := by
 have h1 : 0 ≤ IntKind.wrap .u64 x ∧ IntKind.wrap .u64 x < 18446744073709551616 := by
  simp only [IntKind.wrap, IntKind.bits, IntKind.signed]; simp; omega
 rw [Int.fdiv_eq_ediv_of_nonneg _ (by decide)]
 rw [wrap_id (by omega) (by omega)]
 omega
section
variable {ops : Array Oper} {K : Env → World → Prop} {rest : List (Mv × Nat)} {S : World → Prop} {ρ : Env} {w : World} {i : Nat}
theorem m_rem {x y : Operand} {t ty : TypeId} {a b : Int} {k : IntKind} {dd : Option Nat} (h : opAt ops i ρ = some (.binOp .rem t x y ty, dd)) (hx : ev ρ x = .int k a) (hy : ev ρ y = .int k b) (hb : b ≠ 0) (r : Int) (hr : a.tmod b = r)
  (hk : RunD Try.prog ops K rest S (updo ρ dd (.int k r)) w) : RunD Try.prog ops K ((.p, i) :: rest) S ρ w := by
 refine m_pF _ h (fun o ho w' => ?_) hk
 subst hr
 have hg : (eqGuard .rem t x y (.int k a) (.int k b)).run Try.prog w' = .ok () w' := rfl
 simp [execOp, ho, hx, hy, hg, binOp, Op.intDiv, hb, Result.andThen]
end

theorem c74 {G : GH} {L : LH} {w : World} {sb n c at_ : Nat} {A : Option Addr} {sd : Int} (hB : ByS G A n) (hn : n < lim) (h1 : at_ < lim) (hst : St G ((sb, StB A n c at_ sd) :: L) w) :
  Cal Try.prog 74 #[.pointer (some ⟨sb, 0, none⟩)] w fun x w' => ∃ r at2 sd2, x = .int .i64 r ∧ 0 ≤ r ∧ at2 ≤ at_ + 1 ∧ St G ((sb, StB A n c at2 sd2) :: L) w' := by
 have hlim : lim = 1099511627776 := rfl
 refine cal_of_W Try.func74 rfl (Nat.le_of_ble_eq_true (by kernel_rfl)) ?_
 refine W_sr [(.p, 0)] hst ?_
 refine r_z [(2, iN 0)] ?_
 refine W_seqI (fun ρ D w => ∃ (at2 : Nat) (sd1 : Int), EqS ρ [(0, pN sb 0)] ∧ D = [] ∧ St G ((sb, .cells #[.slice A n c, iN (((at2 : Nat) : Int)), .int .u64 sd1] 96) :: L) w ∧ (at2 ≤ at_ + 1)) ?_ ?_
 ·skip
  refine W_sr [(.p, 0), (.p, 1), (.p, 2), (.l, 3), (.p, 4), (.p, 5)] hst ?_
  refine r_x [1] [(3, pN sb 0), (4, pN sb 0), (5, pN sb 0), (6, .slice A n c), (7, nN n), (8, .bool (decide ((((n : Nat) : Int)) > 0)))] (rc_l 0 0 rfl rfl rc_nil) ?_
  refine W_cd (b := decide ((((n : Nat) : Int)) > 0)) (fun hc1 => ?_) (fun hc1 => ?_)
  ·skip
   have hn0 : 0 < n := by have := of_decide_eq_true hc1; omega
   have hml : at_ % n < n := Nat.mod_lt _ hn0
   have hstk := hst
   obtain ⟨eb, eo, u, rfl, hu⟩ := hB (at_ % n) hml
   have hst := hstk; clear hstk
   have hu : GC G ⟨eb, eo + (at_ % n) * 1, none⟩ (.int .u8 u) := by rw [Nat.mul_one]; exact hu
   refine W_seq ?_
   refine W_rgd [(.p, 0), (.p, 1), (.p, 2), (.l, 3), (.p, 4), (.p, 5), (.p, 6), (.l, 7), (.p, 8), (.p, 9), (.p, 10), (.l, 11), (.p, 12), (.p, 13), (.p, 14), (.l, 15), (.p, 16), (.p, 17), (.p, 18), (.l, 19), (.p, 20), (.p, 21), (.p, 22), (.p, 23), (.f, 24)] hst (fun w1 hst => ?_)
   refine r_s [1, 1, 1, 1] [(.p, 0), (.p, 1), (.p, 2), (.l, 3), (.p, 4), (.p, 5), (.p, 6), (.l, 7), (.p, 8), (.p, 9), (.p, 10), (.l, 11), (.p, 12), (.p, 13), (.p, 14), (.l, 15), (.p, 16)] [(9, pN sb 0), (10, pN sb 0), (11, pN sb 2), (12, .int .u64 sd), (13, pN sb 0), (14, pN sb 0), (15, pN sb 0), (16, .slice (some ⟨eb, eo, none⟩) n c), (17, pN sb 0), (18, pN sb 0), (19, pN sb 1), (20, nN at_), (21, pN sb 0), (22, pN sb 0), (23, pN sb 0), (24, .slice (some ⟨eb, eo, none⟩) n c), (25, nN n)] (rc_l 0 2 rfl rfl (rc_l 0 0 rfl rfl (rc_l 0 1 rfl rfl (rc_l 0 0 rfl rfl rc_nil)))) ?_
   refine m_rem (k := .i64) (a := ((at_ : Nat) : Int)) (b := ((n : Nat) : Int)) (dd := (some 26)) (show opAt _ _ _ = some (.binOp .rem 3 (.tmp 20) (.tmp 25) 3, _) by kernel_rfl) (by kernel_rfl) (by kernel_rfl) (by omega) (((at_ % n : Nat)) : Int) (by rw [Int.tmod_eq_emod_of_nonneg (by omega)]; omega) ?_
   refine m_idx (sz := 1) (b := eb) (off := eo) (n := n) (c := c) (k := (at_ % n)) (some 27) (show opAt _ _ _ = some (.indexAddr 35 (.tmp 16) (.tmp 26), _) by kernel_rfl) (by kernel_rfl) (by kernel_rfl) Try.underlying35 sz5 hml ?_
   refine r_s [1] [(.l, 19), (.p, 20), (.p, 21), (.p, 22), (.p, 23)] [(28, .int .u8 u), (29, .int .u64 (IntKind.wrap .u64 u)), (30, .int .u64 (xr64 sd (IntKind.wrap .u64 u))), (31, pN sb 0), (32, pN sb 2)] (rc_C hu rc_nil) ?_
   refine s_0 [(2, .int .u64 (xr64 sd (IntKind.wrap .u64 u)))] [.slice (some ⟨eb, eo, none⟩) n c, nN at_, .int .u64 (xr64 sd (IntKind.wrap .u64 u))] none hst (fun w1 hst => ?_)
   refine r_nil ?_
   refine W_rg [(.p, 0), (.p, 1), (.p, 2), (.l, 3), (.p, 4), (.p, 5), (.p, 6), (.f, 7)] hst ?_
   refine r_s [1] [(.p, 0), (.p, 1), (.p, 2), (.l, 3), (.p, 4), (.p, 5), (.p, 6)] [(33, pN sb 0), (34, pN sb 0), (35, pN sb 1), (36, nN at_), (37, iN (IntKind.wrap .i64 ((((at_ : Nat) : Int)) + 1))), (38, pN sb 0), (39, pN sb 1)] (rc_l 0 1 rfl rfl rc_nil) ?_
   refine s_0 [(1, iN (IntKind.wrap .i64 ((((at_ : Nat) : Int)) + 1)))] [.slice (some ⟨eb, eo, none⟩) n c, iN (IntKind.wrap .i64 ((((at_ : Nat) : Int)) + 1)), .int .u64 (xr64 sd (IntKind.wrap .u64 u))] none hst (fun w1 hst => ?_)
   refine r_nil ?_
   rw [wrap_succ (by omega)] at hst
   exact ⟨at_ + 1, xr64 sd (IntKind.wrap .u64 u), ⟨by kernel_rfl, trivial⟩, rfl, hst, Nat.le_refl _⟩
  refine W_skip ?_
  exact ⟨at_, sd, ⟨by kernel_rfl, trivial⟩, rfl, hst, Nat.le_succ _⟩
 clear hst; rintro ρ D w1 ⟨at2, sd1, hE2, rfl, hst, hat2⟩
 refine W_env hE2 ?_
 refine W_sr [(.p, 0), (.p, 1), (.p, 2), (.p, 3), (.l, 4), (.p, 5), (.p, 6), (.p, 7), (.p, 8), (.f, 9)] hst ?_
 refine r_s [1] [(.p, 0), (.p, 1), (.p, 2), (.p, 3), (.l, 4), (.p, 5), (.p, 6), (.p, 7), (.p, 8)] [(40, pN sb 0), (41, pN sb 0), (42, pN sb 0), (43, pN sb 2), (44, .int .u64 sd1), (45, .int .u64 (IntKind.wrap .u64 (sd1 * 6364136223846793005))), (46, .int .u64 (IntKind.wrap .u64 ((IntKind.wrap .u64 (sd1 * 6364136223846793005)) + 1442695040888963407))), (47, pN sb 0), (48, pN sb 2)] (rc_l 0 2 rfl rfl rc_nil) ?_
 refine s_0 [(2, .int .u64 (IntKind.wrap .u64 ((IntKind.wrap .u64 (sd1 * 6364136223846793005)) + 1442695040888963407)))] [.slice A n c, nN at2, .int .u64 (IntKind.wrap .u64 ((IntKind.wrap .u64 (sd1 * 6364136223846793005)) + 1442695040888963407))] none hst (fun w1 hst => ?_)
 refine r_nil ?_
 refine W_sr [(.p, 0), (.p, 1), (.p, 2), (.l, 3), (.p, 4), (.p, 5), (.p, 6)] hst ?_
 refine r_x [1] [(49, pN sb 0), (50, pN sb 0), (51, pN sb 2), (52, .int .u64 (IntKind.wrap .u64 ((IntKind.wrap .u64 (sd1 * 6364136223846793005)) + 1442695040888963407))), (53, .int .u64 (Int.fdiv (IntKind.wrap .u64 ((IntKind.wrap .u64 (sd1 * 6364136223846793005)) + 1442695040888963407)) 1099511627776)), (54, iN (IntKind.wrap .i64 (Int.fdiv (IntKind.wrap .u64 ((IntKind.wrap .u64 (sd1 * 6364136223846793005)) + 1442695040888963407)) 1099511627776))), (2, iN (IntKind.wrap .i64 (Int.fdiv (IntKind.wrap .u64 ((IntKind.wrap .u64 (sd1 * 6364136223846793005)) + 1442695040888963407)) 1099511627776)))] (rc_l 0 2 rfl rfl rc_nil) ?_
 refine W_ret ?_
 refine q_rt [] [] (iN (IntKind.wrap .i64 (Int.fdiv (IntKind.wrap .u64 ((IntKind.wrap .u64 (sd1 * 6364136223846793005)) + 1442695040888963407)) 1099511627776))) rc_nil hst ?_
 exact ⟨_, at2, _, rfl, draw_nn _, hat2, hst⟩

theorem c32 {G : GH} {L : LH} {w : World} {sb n c at_ : Nat} {A : Option Addr} {sd k : Int} (hB : ByS G A n) (hn : n < lim) (h1 : at_ < lim) (hst : St G ((sb, StB A n c at_ sd) :: L) w) :
  Cal Try.prog 32 #[.pointer (some ⟨sb, 0, none⟩), .int .i64 k] w fun x w' => ∃ r at2 sd2, x = .int .i64 r ∧ (k ≤ 0 → r = 0) ∧ (0 < k → 0 ≤ r ∧ r < k) ∧ at2 ≤ at_ + 1 ∧ St G ((sb, StB A n c at2 sd2) :: L) w' := by
 refine cal_of_W Try.func32 rfl (Nat.le_of_ble_eq_true (by kernel_rfl)) ?_
 refine W_sr [(.p, 0)] hst ?_
 refine r_z [(4, iN 0)] ?_
 refine W_seq ?_
 refine W_sr [(.p, 0), (.p, 1)] hst ?_
 refine r_z [(5, iN k), (6, .bool (decide (k ≤ 0)))] ?_
 refine W_cd (b := decide (k ≤ 0)) (fun hc1 => ?_) (fun hc1 => ?_)
 ·skip
  have hk : k ≤ 0 := of_decide_eq_true hc1
  refine W_sr [(.p, 0)] hst ?_
  refine r_z [(4, iN 0)] ?_
  refine W_ret ?_
  refine q_rt [] [] (iN 0) rc_nil hst ?_
  exact ⟨0, at_, sd, rfl, fun _ => rfl, fun h => absurd h (by omega), Nat.le_succ _, hst⟩
 have hk : ¬ k ≤ 0 := of_decide_eq_false hc1
 refine W_skip ?_
 refine W_sr [(.p, 0), (.f, 1), (.p, 2), (.p, 3), (.p, 4)] hst ?_
 refine r_y [(.p, 0)] [(7, pN sb 0)] ?_
 refine m_cl #[pN sb 0] (some 8) (c74 hB hn h1 hst) ?_
 rintro _ w1 ⟨r0, at2, sd2, rfl, hr0, hat2, hst⟩
 refine nx hst ?_
 refine r_y [(.p, 2)] [(9, iN k)] ?_
 refine m_rem (k := .i64) (a := r0) (b := k) (dd := (some 10)) (show opAt _ _ _ = some (.binOp .rem 3 (.tmp 8) (.tmp 9) 3, _) by kernel_rfl) (by kernel_rfl) (by kernel_rfl) (by omega) (r0 % k) (by rw [Int.tmod_eq_emod_of_nonneg hr0]) ?_
 refine r_z [(4, iN (r0 % k))] ?_
 refine W_ret ?_
 refine q_rt [] [] (iN (r0 % k)) rc_nil hst ?_
 exact ⟨_, at2, sd2, rfl, fun h => absurd h hk, fun h => ⟨Int.emod_nonneg _ (by omega), Int.emod_lt_of_pos _ h⟩, hat2, hst⟩

end Go.Proofs.Ytjgnhhgigickaaa.Wk
/- Walks of the given program's functions: Clone of bytes, Of. Printed by tools/w44.py. Conditions: none. -/

namespace Go.Proofs.Ytjgnhhgigickaaa.Wk
open Go Md
set_option maxRecDepth 20000
set_option linter.unusedVariables false
set_option linter.unusedSimpArgs false
attribute [local irreducible] endQ

theorem ByS.src {G : GH} : ∀ {n b off : Nat}, ByS G (some ⟨b, off, none⟩) n → ∃ news : List Value, news.length = n ∧ (∀ (j : Nat) (u : Value), news[j]? = some u → GC G ⟨b, off + j, none⟩ u) ∧ (news.all (·.oneCell')) = true ∧ ∀ (j : Nat) (x : Value), news[j]? = some x → ∃ u, x = .int .u8 u
 | 0, _, _, _ => ⟨[], rfl, (fun j u h => by simp at h), rfl, (fun j u h => by simp at h)⟩
 | n + 1, b, off, h => by
  obtain ⟨b', off', u, he, hu⟩ := h 0 (Nat.succ_pos _)
  cases he
  obtain ⟨news, hl, hj, ho, hx⟩ := ByS.src (n := n) (b := b) (off := off + 1) (fun i hi => by
   obtain ⟨b', off', u, he, hu⟩ := h (i + 1) (by omega)
   cases he
   exact ⟨b, off + 1, u, rfl, by rw [show off + 1 + i = off + (i + 1) by omega]; exact hu⟩)
  refine ⟨.int .u8 u :: news, by simp [hl], fun j v hv => ?_, by simp only [List.all_cons, ho]; rfl, fun j v hv => ?_⟩
  ·cases j with
   | zero => simp at hv; subst hv; exact hu
   | succ j => rw [show off + (j + 1) = off + 1 + j by omega]; exact hj j v (by simpa using hv)
  cases j with
  | zero => simp at hv; exact ⟨u, hv.symm⟩
  | succ j => exact hx j v (by simpa using hv)

theorem c62 {G : GH} {L : LH} {w : World} {A : Option Addr} {n c : Nat} (hB : ByS G A n) (hl : n < lim) (hst : St G L w) : Cal Try.prog 62 #[.slice A n c] w fun x w' => ∃ G' A' c', Le G G' ∧ x = .slice A' n c' ∧ ByS G' A' n ∧ St G' L w' := by
 have hlim : lim = 1099511627776 := rfl
 obtain _ | n := n
 ·obtain _ | a := A
  ·skip
   refine cal_of_W Try.func62 rfl (Nat.le_of_ble_eq_true (by kernel_rfl)) ?_
   refine W_sr [(.p, 0)] hst ?_
   refine r_z [(2, .slice none 0 0)] ?_
   refine W_seq ?_
   refine W_sr [(.p, 0), (.p, 1)] hst ?_
   refine r_z [(3, .slice none 0 c), (4, .bool true)] ?_
   refine W_cT ?_
   refine W_sr [(.p, 0)] hst ?_
   refine r_z [(2, .slice none 0 0)] ?_
   refine W_ret ?_
   refine q_rt [] [] (.slice none 0 0) rc_nil hst ?_
   exact ⟨G, _, _, Le.refl _, rfl, (fun i hi => absurd hi (Nat.not_lt_zero _)), hst⟩
  refine cal_of_W Try.func62 rfl (Nat.le_of_ble_eq_true (by kernel_rfl)) ?_
  refine W_sr [(.p, 0)] hst ?_
  refine r_z [(2, .slice none 0 0)] ?_
  refine W_seq ?_
  refine W_sr [(.p, 0), (.p, 1)] hst ?_
  refine r_z [(3, .slice ((some a)) 0 c), (4, .bool false)] ?_
  refine W_cF ?_
  refine W_skip ?_
  refine W_sr [(.f, 0), (.p, 1), (.f, 2), (.p, 3)] hst ?_
  refine m_new (.cells #[] 5) (fun b1 => .slice (some ⟨b1, 0, none⟩) 0 0) (some 5) (fun b => by kernel_rfl) hst (fun b1 w1 hst => ?_)
  refine r_y [(.p, 1)] [(6, .slice ((some a)) 0 c)] ?_
  refine m_pv (.slice (some ⟨b1, 0, none⟩) 0 0) (some 7) (by kernel_rfl) hst ?_
  refine r_z [(2, .slice (some ⟨b1, 0, none⟩) 0 0)] ?_
  refine W_ret ?_
  refine q_rt [] [] (.slice (some ⟨b1, 0, none⟩) 0 0) rc_nil hst ?_
  exact ⟨G, _, _, Le.refl _, rfl, (fun i hi => absurd hi (Nat.not_lt_zero _)), hst.drop [_]⟩
 have hstk := hst
 obtain ⟨eb, eo, _, rfl, _⟩ := hB 0 (Nat.succ_pos _)
 have hst := hstk; clear hstk
 obtain ⟨news, hnl, hnj, hno, hnx⟩ := ByS.src hB
 refine cal_of_W Try.func62 rfl (Nat.le_of_ble_eq_true (by kernel_rfl)) ?_
 refine W_sr [(.p, 0)] hst ?_
 refine r_z [(2, .slice none 0 0)] ?_
 refine W_seq ?_
 refine W_sr [(.p, 0), (.p, 1)] hst ?_
 refine r_z [(3, .slice (some ⟨eb, eo, none⟩) ((n + 1)) c), (4, .bool false)] ?_
 refine W_cF ?_
 refine W_skip ?_
 refine W_sr [(.f, 0), (.p, 1), (.f, 2), (.p, 3)] hst ?_
 refine m_new (.cells #[] 5) (fun b1 => .slice (some ⟨b1, 0, none⟩) 0 0) (some 5) (fun b => by kernel_rfl) hst (fun b1 w1 hst => ?_)
 refine r_y [(.p, 1)] [(6, .slice (some ⟨eb, eo, none⟩) ((n + 1)) c)] ?_
 refine m_append (v := .slice (some ⟨b1, 0, none⟩) 0 0) (sb := eb) (so := eo) (m := n + 1) (mc := c) el35 [] (Lp := [(b1, .cells (List.toArray []) 5 (0, 0))]) (B := L) (n := 0) (cs := []) news (d := (some 7)) (show opAt _ _ _ = some (.call { callee := .builtin .append, args := #[(.tmp 5), (.tmp 6)], argTypes := #[35, 35] }, _) by kernel_rfl) (by kernel_rfl) (by kernel_rfl) ⟨rfl, .inr ⟨b1, 0, [], rfl, rfl, Nat.le_refl _, rfl, rfl⟩⟩ hst (by omega) (fun j u hu => (hnj j u hu).cell hst.imm) hno (Nat.succ_pos _) (by omega) (by omega) (fun v2 Lp2 w1 hos hst => ?_)
 obtain ⟨hcl, ⟨_, h0, _⟩ | ⟨nb, nc, arr, rfl, rfl, hnc, harr, htk⟩⟩ := hos
 ·simp at h0
 refine r_z [(2, .slice (some ⟨nb, 0, none⟩) (0 + (n + 1)) nc)] ?_
 refine W_ret ?_
 refine q_rt [] [] (.slice (some ⟨nb, 0, none⟩) (0 + (n + 1)) nc) rc_nil hst ?_
 obtain ⟨G2, hG2, hF2, hst⟩ := St.freeze [(nb, .cells (List.toArray arr) 5 (0, 0))] hst
 have hf := hF2 _ (.head _)
 refine ⟨G2, some ⟨nb, 0, none⟩, nc, hG2, by rw [Nat.zero_add], fun i hi => ?_, hst⟩
 have hi2 : i < news.length := by omega
 obtain ⟨x, hx⟩ := get_of_lt hi2
 obtain ⟨u, rfl⟩ := hnx i x hx
 refine ⟨nb, 0, u, rfl, GC.of hf ?_⟩
 rw [List.nil_append] at htk; rw [← htk, List.getElem?_take] at hx; rw [Nat.zero_add]; split at hx
 ·simpa using hx
 cases hx

theorem c20 {G : GH} {L : LH} {w : World} {A : Option Addr} {n c : Nat} (hB : ByS G A n) (hc : n ≤ c) (hst : St G L w) : Cal Try.prog 20 #[.slice A n c] w fun x w' => ∃ G' sb A' n' c', Le G G' ∧ x = .pointer (some ⟨sb, 0, none⟩) ∧ ByS G' A' n' ∧ n' < lim ∧ St G' ((sb, StB A' n' c' 0 88172645463325252) :: L) w' := by
 have hlim : lim = 1099511627776 := rfl
 refine cal_of_W Try.func20 rfl (Nat.le_of_ble_eq_true (by kernel_rfl)) ?_
 refine W_sr [(.p, 0)] hst ?_
 refine r_z [(2, .pointer none)] ?_
 refine W_sr [(.p, 0), (.p, 1), (.p, 2), (.p, 3), (.p, 4), (.f, 5), (.p, 6), (.f, 7), (.p, 8)] hst ?_
 refine r_y [(.p, 0), (.p, 1), (.p, 2), (.p, 3)] [(3, .slice A n c), (4, .slice A n c), (5, nN n), (6, iN (if (300 : Int) < (((n : Nat) : Int)) then 300 else ((n : Nat) : Int)))] ?_
 have hmin : (if (300 : Int) < (((n : Nat) : Int)) then 300 else ((n : Nat) : Int)) = ((min n 300 : Nat) : Int) := by split <;> omega
 refine m_sliceTo (n := n) (c := c) (A := A) (hi := min n 300) (some 7) (show opAt _ _ _ = some (.slice 35 (.tmp 3) none (some (.tmp 6)) none, _) by kernel_rfl) (by kernel_rfl) (by rw [← hmin]; kernel_rfl) Try.underlying35 (by kernel_rfl) (by omega) ?_
 refine m_cl #[.slice A ((min n 300)) c] (some 8) (c62 (n := min n 300) (fun i hi => hB i (by omega)) (by omega) hst) ?_
 rintro _ w1 ⟨G1, A1, c1, hG1, rfl, hB1, hst⟩
 refine nx hst ?_
 refine r_y [(.p, 6)] [(9, .agg #[.slice A1 ((min n 300)) c1, iN 0, .int .u64 88172645463325252])] ?_
 refine m_new (.cells #[.slice A1 ((min n 300)) c1, iN 0, .int .u64 88172645463325252] 96) (fun b1 => pN b1 0) (some 10) (fun b => by kernel_rfl) hst (fun b1 w1 hst => ?_)
 refine r_z [(2, pN b1 0)] ?_
 refine W_ret ?_
 refine q_rt [] [] (pN b1 0) rc_nil hst ?_
 exact ⟨G1, _, A1, _, c1, hG1, rfl, hB1, by omega, hst⟩

end Go.Proofs.Ytjgnhhgigickaaa.Wk
/- Walks of the given program's functions: made, Made. Printed by tools/w45.py. Conditions: none. -/

namespace Go.Proofs.Ytjgnhhgigickaaa.Wk
open Go Md
set_option maxRecDepth 20000
set_option linter.unusedVariables false
set_option linter.unusedSimpArgs false
attribute [local irreducible] endQ

mutual
/-- a right type within so many quantifiers, of whatever size -/
def rgt : Int → T → Prop
 | d, .mk k num ks => (k = 1 ∧ (0 ≤ num ∧ num < d) ∧ ks.length = 0 ∨ k = 2 ∧ num = 0 ∧ ks.length = 0 ∨ k = 3 ∧ num = 0 ∧ ks.length = 2 ∨ k = 4 ∧ num = 0 ∧ ks.length = 1) ∧ rgts (if k = 4 then d + 1 else d) ks
def rgts : Int → List T → Prop
 | _, [] => True
 | d, t :: ts => rgt d t ∧ rgts d ts
end
theorem rgt_nt {d : Int} : rgt d nt := by unfold nt rgt; exact ⟨.inr (.inl ⟨rfl, rfl, rfl⟩), by unfold rgts; trivial⟩
theorem rgt_vr {d n : Int} (h : 0 ≤ n ∧ n < d) : rgt d (vr n) := by unfold vr rgt; exact ⟨.inl ⟨rfl, h, rfl⟩, by unfold rgts; trivial⟩
theorem rgt_fn {d : Int} {a b : T} (ha : rgt d a) (hb : rgt d b) : rgt d (fn a b) := by
 unfold fn rgt
 refine ⟨.inr (.inr (.inl ⟨rfl, rfl, rfl⟩)), ?_⟩
 rw [if_neg (by decide)]; unfold rgts; exact ⟨ha, by unfold rgts; exact ⟨hb, by unfold rgts; trivial⟩⟩
theorem rgt_al {d : Int} {a : T} (ha : rgt (d + 1) a) : rgt d (al a) := by
 unfold al rgt
 refine ⟨.inr (.inr (.inr ⟨rfl, rfl, rfl⟩)), ?_⟩
 rw [if_pos rfl]; unfold rgts; exact ⟨ha, by unfold rgts; trivial⟩
theorem nds_nt : nds nt = 1 := rfl
theorem nds_vr (n : Int) : nds (vr n) = 1 := rfl
theorem nds_fn (a b : T) : nds (fn a b) = nds a + nds b + 1 := by unfold fn; rw [nds_mk, ndss_cons, ndss_cons]; rfl
theorem nds_al (a : T) : nds (al a) = nds a + 1 := by unfold al; rw [nds_mk, ndss_cons]; rfl
theorem plain_fn (a b : T) : plain (fn a b) = (plain a && plain b) := by show (decide ((3 : Int) ≠ 4) && (plain a && (plain b && true))) = _; simp
def MD (G : GH) (L : LH) (sb lb : Nat) (A : Option Addr) (n c at_ : Nat) (wi l : Int) (pl : Bool) (x : Value) (w' : World) : Prop :=
 ∃ G' t at' sd', Le G G' ∧ IsPoly G' x t ∧ rgt wi t ∧ (nds t : Int) ≤ l ∧ (pl = true → plain t = true) ∧ at' ≤ at_ + 2 * nds t ∧ St G' ((lb, .cells #[.int .i64 (l - (nds t : Int))] 3) :: (sb, StB A n c at' sd') :: L) w'

theorem c61 : ∀ (N : Nat) {G : GH} {L : LH} {w : World} {sb lb n c at_ : Nat} {A : Option Addr} {sd wi l : Int} {pl : Bool}, l ≤ (N : Int) → 1 ≤ l → l ≤ 1000 → 0 ≤ wi → wi + l ≤ 2000 → (at_ : Int) + 2 * l ≤ 5000 → ByS G A n → n < lim → St G ((lb, .cells #[.int .i64 l] 3) :: (sb, StB A n c at_ sd) :: L) w →
  Cal Try.prog 61 #[.pointer (some ⟨sb, 0, none⟩), .pointer (some ⟨lb, 0, none⟩), .int .i64 wi, .bool pl] w (MD G L sb lb A n c at_ wi l pl) := by
 intro N
 induction N with
 | zero => intro G L w sb lb n c at_ A sd wi l pl h1 h2; omega
 | succ N ih =>
 intro G L w sb lb n c at_ A sd wi l pl hN hl1 hl2 hwi hwl hat hB hn hst
 have hlim : lim = 1099511627776 := rfl
 have hm1 : IntKind.wrap .i64 (l - 1) = l - 1 := wrap_id (by omega) (by omega)
 have hm2 : IntKind.wrap .i64 (l - 1 - 1) = l - 2 := by rw [wrap_id] <;> omega
 refine cal_of_W Try.func61 rfl (Nat.le_of_ble_eq_true (by kernel_rfl)) ?_
 refine W_sr [(.f, 0)] hst ?_
 refine m_new (.cells #[iN 0, iN 0, .slice none 0 0] 24) (fun b1 => pN b1 0) (some 8) (fun b => by kernel_rfl) hst (fun b1 w1 hst => ?_)
 refine r_nil ?_
 refine W_sr [(.p, 0), (.p, 1), (.l, 2), (.p, 3), (.p, 4), (.f, 5)] hst ?_
 refine r_s [1] [(.p, 0), (.p, 1), (.l, 2), (.p, 3), (.p, 4)] [(11, pN lb 0), (12, pN lb 0), (13, iN l), (14, iN (IntKind.wrap .i64 (l - 1))), (15, pN lb 0)] (rc_l 1 0 rfl rfl rc_nil) ?_
 refine s_1 [(0, iN (IntKind.wrap .i64 (l - 1)))] [iN (IntKind.wrap .i64 (l - 1))] none hst (fun w1 hst => ?_)
 refine r_nil ?_
 refine W_seq ?_
 rw [hm1] at hst
 refine W_rg [(.p, 0), (.f, 1), (.p, 2)] hst ?_
 refine r_y [(.p, 0)] [(16, pN sb 0)] ?_
 have hst := St.swap (A := [(b1, .cells #[iN 0, iN 0, .slice none 0 0] 24), (lb, .cells #[iN (l - 1)] 3)]) (B := [(sb, .cells #[.slice A n c, nN at_, .int .u64 sd] 96)]) (C := L) hst
 refine m_cl #[pN sb 0, iN 6] (some 17) (c32 hB hn (by omega) hst) ?_
 rintro _ w1 ⟨k1, ak1, sk1, rfl, hk1a, hk1b, hk1t, hst⟩
 have hst := St.swap (A := [(sb, .cells #[.slice A n c, nN ak1, .int .u64 sk1] 96)]) (B := [(b1, .cells #[iN 0, iN 0, .slice none 0 0] 24), (lb, .cells #[iN (l - 1)] 3)]) (C := L) hst
 have hst : St G ((b1, .cells #[iN 0, iN 0, .slice none 0 0] 24) :: (lb, .cells #[iN (l - 1)] 3) :: (sb, .cells #[.slice A n c, nN ak1, .int .u64 sk1] 96) :: L) w1 := hst
 refine nx hst ?_
 refine r_z [(9, iN k1)] ?_
 refine W_seq ?_
 refine W_block ?_
 refine W_sr [(.p, 0), (.p, 1), (.l, 2), (.p, 3), (.p, 4), (.p, 5), (.p, 6), (.p, 7), (.p, 8)] hst ?_
 refine r_s [1] [(.p, 0), (.p, 1), (.l, 2), (.p, 3), (.p, 4)] [(19, pN lb 0), (20, pN lb 0), (21, iN (l - 1)), (22, .bool (decide ((l - 1) ≥ 2))), (23, .bool (decide ((l - 1) ≥ 2)))] (rc_l 1 0 rfl rfl rc_nil) ?_
 rcases Bool.eq_false_or_eq_true (decide ((l - 1) ≥ 2)) with hc2 | hc2
 ·rw [hc2]
  have hp3 := hc2
  simp only [decide_eq_true_eq, decide_eq_false_iff_not, beq_iff_eq, beq_eq_false_iff_ne, bne_iff_ne, bne_eq_false_iff_eq, Bool.not_eq_true', Bool.not_eq_false', Bool.and_eq_true, Bool.and_eq_false_iff, ne_eq] at hp3
  refine r_z [(24, iN k1), (25, .bool (decide (k1 < 3))), (26, .bool (decide (k1 < 3))), (18, .bool (decide (k1 < 3)))] ?_
  refine W_cd (b := decide (k1 < 3)) (fun hc4 => ?_) (fun hc4 => ?_)
  ·skip
   have hp5 := hc4
   simp only [decide_eq_true_eq, decide_eq_false_iff_not, beq_iff_eq, beq_eq_false_iff_ne, bne_iff_ne, bne_eq_false_iff_eq, Bool.not_eq_true', Bool.not_eq_false', Bool.and_eq_true, Bool.and_eq_false_iff, ne_eq] at hp5
   refine W_sr [(.p, 0), (.p, 1), (.l, 2), (.p, 3), (.p, 4), (.f, 5)] hst ?_
   refine r_s [1] [(.p, 0), (.p, 1), (.l, 2), (.p, 3), (.p, 4)] [(27, pN lb 0), (28, pN lb 0), (29, iN (l - 1)), (30, iN (IntKind.wrap .i64 ((l - 1) - 1))), (31, pN lb 0)] (rc_l 1 0 rfl rfl rc_nil) ?_
   refine s_1 [(0, iN (IntKind.wrap .i64 ((l - 1) - 1)))] [iN (IntKind.wrap .i64 ((l - 1) - 1))] none hst (fun w1 hst => ?_)
   refine r_nil ?_
   refine W_seqI (fun ρ D w => ∃ (GJ : GH) (ta : T) (aj : Nat) (sj : Int) (pA : Option Addr) (qA : Nat) (b10 : Nat), EqS ρ [(0, pN sb 0), (1, pN lb 0), (2, iN wi), (3, .bool pl), (8, pN b1 0), (10, pN b10 0)] ∧ D = [] ∧ St GJ ((b10, cT ta pA qA) :: (b1, .cells #[iN 0, iN 0, .slice none 0 0] 24) :: (lb, .cells #[iN (l - 2 - (nds ta : Int))] 3) :: (sb, .cells #[.slice A n c, iN (((aj : Nat) : Int)), .int .u64 sj] 96) :: L) w ∧ (Le G GJ) ∧ (IsPoly GJ (aT ta pA qA) ta) ∧ (rgt wi ta) ∧ ((nds ta : Int) ≤ l - 2) ∧ (pl = true → plain ta = true) ∧ (aj ≤ at_ + 1 + 2 * nds ta)) ?_ ?_
   ·skip
    rw [hm2] at hst
    refine W_rg [(.p, 0), (.p, 1), (.p, 2), (.p, 3), (.f, 4), (.f, 5), (.f, 6)] hst ?_
    refine r_y [(.p, 0), (.p, 1), (.p, 2), (.p, 3)] [(32, pN sb 0), (33, pN lb 0), (34, iN wi), (35, .bool pl)] ?_
    have hst := St.swap (A := [(b1, .cells #[iN 0, iN 0, .slice none 0 0] 24)]) (B := [(lb, .cells #[iN (l - 2)] 3), (sb, .cells #[.slice A n c, nN ak1, .int .u64 sk1] 96)]) (C := L) hst
    refine m_cl #[pN sb 0, pN lb 0, iN wi, .bool pl] (some 36) (ih (l := l - 2) (wi := wi) (by omega) (by omega) (by omega) (by omega) (by omega) (by omega) hB hn hst) ?_
    rintro x1 w1 ⟨G1, t1, at1, sd1, hG1, hx1, hr1, hd1, hp1, ha1, hst⟩
    obtain ⟨xA1, xc1, rfl, _, _⟩ := id hx1.open
    have hst := St.swap (A := [(lb, .cells #[iN (l - 2 - (nds t1 : Int))] 3), (sb, .cells #[.slice A n c, nN at1, .int .u64 sd1] 96)]) (B := [(b1, .cells #[iN 0, iN 0, .slice none 0 0] 24)]) (C := L) hst
    have hst : St G1 ((b1, .cells #[iN 0, iN 0, .slice none 0 0] 24) :: (lb, .cells #[iN (l - 2 - (nds t1 : Int))] 3) :: (sb, .cells #[.slice A n c, nN at1, .int .u64 sd1] 96) :: L) w1 := hst
    refine nx hst ?_
    refine m_new (.cells #[iN 0, iN 0, .slice none 0 0] 24) (fun b6 => pN b6 0) (some 10) (fun b => by kernel_rfl) hst (fun b6 w1 hst => ?_)
    refine s_0 [(0, iN t1.kind), (1, iN t1.num), (2, .slice xA1 t1.kids.length xc1)] [iN t1.kind, iN t1.num, .slice xA1 t1.kids.length xc1] none hst (fun w1 hst => ?_)
    refine r_nil ?_
    exact ⟨G1, t1, at1, sd1, xA1, xc1, b6, ⟨by kernel_rfl, by kernel_rfl, by kernel_rfl, by kernel_rfl, by kernel_rfl, by kernel_rfl, trivial⟩, rfl, hst, hG1, (hx1), hr1, hd1, hp1, by omega⟩
   clear hst; rintro ρ D w1 ⟨GJ, ta, aj, sj, pA, qA, b10, hE7, rfl, hst, hGJ, hta, hra, hda, hpa, haj⟩
   refine W_env hE7 ?_
   refine W_sr [(.p, 0), (.p, 1), (.l, 2), (.p, 3), (.p, 4), (.f, 5)] hst ?_
   refine r_s [1] [(.p, 0), (.p, 1), (.l, 2), (.p, 3), (.p, 4)] [(37, pN lb 0), (38, pN lb 0), (39, iN (l - 2 - (nds ta : Int))), (40, iN (IntKind.wrap .i64 ((l - 2 - (nds ta : Int)) + 1))), (41, pN lb 0)] (rc_l 2 0 rfl rfl rc_nil) ?_
   refine s_2 [(0, iN (IntKind.wrap .i64 ((l - 2 - (nds ta : Int)) + 1)))] [iN (IntKind.wrap .i64 ((l - 2 - (nds ta : Int)) + 1))] none hst (fun w1 hst => ?_)
   refine r_nil ?_
   refine W_seq ?_
   have hm3 : IntKind.wrap .i64 (l - 2 - (nds ta : Int) + 1) = l - 1 - (nds ta : Int) := by rw [wrap_id] <;> omega
   rw [hm3] at hst
   refine W_regd [(.l, 0), (.p, 1), (.p, 2), (.p, 3), (.p, 4), (.e, 5), (.f, 6), (.f, 7)] (SS GJ ([(b10, cT ta pA qA)])) mixed (by kernel_rfl) (by kernel_rfl) (by kernel_rfl) (by kernel_rfl) (fun w1 hw1 => ?_)
   have hst := hst.heap hw1; refine ⟨hst.ss' (Le.refl _) (fun p hp => by rw [List.mem_singleton.1 hp]; simp), ?_⟩
   refine r_s [3] [(.l, 0), (.p, 1), (.p, 2), (.p, 3), (.p, 4)] [(42, (aT ta pA qA)), (43, pN sb 0), (44, pN lb 0), (45, iN wi), (46, .bool pl)] (rc_l 0 0 rfl rfl (rc_l 0 1 rfl rfl (rc_l 0 2 rfl rfl rc_nil))) ?_
   have hst := St.swap (A := [(b10, cT ta pA qA), (b1, .cells #[iN 0, iN 0, .slice none 0 0] 24)]) (B := [(lb, .cells #[iN (l - 1 - (nds ta : Int))] 3), (sb, .cells #[.slice A n c, nN aj, .int .u64 sj] 96)]) (C := L) hst
   refine m_callE #[pN sb 0, pN lb 0, iN wi, .bool pl] (some 47) (by kernel_rfl) (ih (l := l - 1 - (nds ta : Int)) (wi := wi) (by omega) (by omega) (by omega) (by omega) (by omega) (by omega) (hB.mono (hGJ)) hn hst) ?_
   rintro x2 w1 ⟨G2, t2, at2, sd2, hG2, hx2, hr2, hd2, hp2, ha2, hst⟩
   obtain ⟨xA2, xc2, rfl, _, _⟩ := id hx2.open
   have hst := St.swap (A := [(lb, .cells #[iN (l - 1 - (nds ta : Int) - (nds t2 : Int))] 3), (sb, .cells #[.slice A n c, nN at2, .int .u64 sd2] 96)]) (B := [(b10, cT ta pA qA), (b1, .cells #[iN 0, iN 0, .slice none 0 0] 24)]) (C := L) hst
   have hst : St G2 ((b10, cT ta pA qA) :: (b1, .cells #[iN 0, iN 0, .slice none 0 0] 24) :: (lb, .cells #[iN (l - 1 - (nds ta : Int) - (nds t2 : Int))] 3) :: (sb, .cells #[.slice A n c, nN at2, .int .u64 sd2] 96) :: L) w1 := hst
   refine ⟨hst.ss' ((Le.refl _).trans hG2) (fun p hp => by rw [List.mem_singleton.1 hp]; simp), ?_⟩
   refine m_cl #[(aT ta pA qA), (aT t2 xA2 xc2)] (some 48) (c26 ((hta).mono (hG2)) (hx2) hst) ?_
   rintro x3 w1 ⟨G3, hG3, hx3, hst⟩
   obtain ⟨xA3, xc3, rfl, _, _⟩ := id hx3.open
   refine nx hst ?_
   refine s_1 [(0, iN ((fn ta t2).kind)), (1, iN ((fn ta t2).num)), (2, .slice xA3 ((fn ta t2).kids.length) xc3)] [iN ((fn ta t2).kind), iN ((fn ta t2).num), .slice xA3 ((fn ta t2).kids.length) xc3] none hst (fun w1 hst => ?_)
   refine r_nil ?_
   refine W_ret ?_
   refine q_rt [iN ((fn ta t2).kind), iN ((fn ta t2).num), .slice xA3 ((fn ta t2).kids.length) xc3] [(⟨b1, 0, none⟩, iN ((fn ta t2).kind)), (⟨b1, 1, none⟩, iN ((fn ta t2).num)), (⟨b1, 2, none⟩, .slice xA3 ((fn ta t2).kids.length) xc3)] (.agg #[iN ((fn ta t2).kind), iN ((fn ta t2).num), .slice xA3 ((fn ta t2).kids.length) xc3]) (rc_L 1 rfl rfl (rc_L 1 rfl rfl (rc_L 1 rfl rfl rc_nil))) hst ?_
   have hnd := nds_fn ta t2
   have hlv : l - 1 - (nds ta : Int) - (nds t2 : Int) = l - (nds (fn ta t2) : Int) := by rw [hnd]; omega
   rw [hlv] at hst
   exact ⟨G3, fn ta t2, at2, _, ((hGJ).trans hG2).trans hG3, (hx3), rgt_fn hra hr2, by rw [hnd]; omega, (fun h => by rw [plain_fn, hpa h, hp2 h]; rfl), by rw [hnd]; omega, hst.drop [_, _]⟩
  have hp8 := hc4
  simp only [decide_eq_true_eq, decide_eq_false_iff_not, beq_iff_eq, beq_eq_false_iff_ne, bne_iff_ne, bne_eq_false_iff_eq, Bool.not_eq_true', Bool.not_eq_false', Bool.and_eq_true, Bool.and_eq_false_iff, ne_eq] at hp8
  refine W_sr [(.p, 0), (.p, 1), (.l, 2), (.p, 3), (.p, 4), (.p, 5), (.p, 6), (.p, 7), (.p, 8), (.p, 9), (.p, 10), (.p, 11), (.p, 12)] hst ?_
  refine r_s [1] [(.p, 0), (.p, 1), (.l, 2), (.p, 3), (.p, 4)] [(50, pN lb 0), (51, pN lb 0), (52, iN (l - 1)), (53, .bool (decide ((l - 1) ≥ 1))), (54, .bool (decide ((l - 1) ≥ 1)))] (rc_l 1 0 rfl rfl rc_nil) ?_
  rcases Bool.eq_false_or_eq_true (decide ((l - 1) ≥ 1)) with hc9 | hc9
  ·rw [hc9]
   have hp10 := hc9
   simp only [decide_eq_true_eq, decide_eq_false_iff_not, beq_iff_eq, beq_eq_false_iff_ne, bne_iff_ne, bne_eq_false_iff_eq, Bool.not_eq_true', Bool.not_eq_false', Bool.and_eq_true, Bool.and_eq_false_iff, ne_eq] at hp10
   refine r_y [(.p, 5), (.p, 6), (.p, 7), (.p, 8)] [(55, iN k1), (56, .bool (k1 == 3)), (57, .bool (k1 == 3)), (58, .bool (k1 == 3))] ?_
   rcases Bool.eq_false_or_eq_true (k1 == 3) with hc11 | hc11
   ·rw [hc11]
    have hp12 := hc11
    simp only [decide_eq_true_eq, decide_eq_false_iff_not, beq_iff_eq, beq_eq_false_iff_ne, bne_iff_ne, bne_eq_false_iff_eq, Bool.not_eq_true', Bool.not_eq_false', Bool.and_eq_true, Bool.and_eq_false_iff, ne_eq] at hp12
    refine r_z [(59, .bool pl), (60, .bool (!pl)), (61, .bool (!pl)), (49, .bool (!pl))] ?_
    refine W_cd (b := !pl) (fun hc13 => ?_) (fun hc13 => ?_)
    ·skip
     have hpl : pl = false := by simpa using hc13
     refine W_sr [(.p, 0), (.p, 1), (.p, 2), (.p, 3), (.p, 4), (.f, 5), (.f, 6), (.f, 7)] hst ?_
     refine r_y [(.p, 0), (.p, 1), (.p, 2), (.p, 3), (.p, 4)] [(62, pN sb 0), (63, pN lb 0), (64, iN wi), (65, iN (IntKind.wrap .i64 (wi + 1))), (66, .bool pl)] ?_
     have hst := St.swap (A := [(b1, .cells #[iN 0, iN 0, .slice none 0 0] 24)]) (B := [(lb, .cells #[iN (l - 1)] 3), (sb, .cells #[.slice A n c, nN ak1, .int .u64 sk1] 96)]) (C := L) hst
     have hw1 : IntKind.wrap .i64 (wi + 1) = wi + 1 := wrap_id (by omega) (by omega)
     rw [hw1]
     refine m_cl #[pN sb 0, pN lb 0, iN (wi + 1), .bool pl] (some 67) (ih (l := l - 1) (wi := wi + 1) (by omega) (by omega) (by omega) (by omega) (by omega) (by omega) hB hn hst) ?_
     rintro x4 w1 ⟨G4, t4, at4, sd4, hG4, hx4, hr4, hd4, hp4, ha4, hst⟩
     obtain ⟨xA4, xc4, rfl, _, _⟩ := id hx4.open
     have hst := St.swap (A := [(lb, .cells #[iN (l - 1 - (nds t4 : Int))] 3), (sb, .cells #[.slice A n c, nN at4, .int .u64 sd4] 96)]) (B := [(b1, .cells #[iN 0, iN 0, .slice none 0 0] 24)]) (C := L) hst
     have hst : St G4 ((b1, .cells #[iN 0, iN 0, .slice none 0 0] 24) :: (lb, .cells #[iN (l - 1 - (nds t4 : Int))] 3) :: (sb, .cells #[.slice A n c, nN at4, .int .u64 sd4] 96) :: L) w1 := hst
     refine nx hst ?_
     refine m_cl #[(aT t4 xA4 xc4)] (some 68) (c49 (hx4) hst) ?_
     rintro x5 w1 ⟨G5, hG5, hx5, hst⟩
     obtain ⟨xA5, xc5, rfl, _, _⟩ := id hx5.open
     refine nx hst ?_
     refine s_0 [(0, iN ((al t4).kind)), (1, iN ((al t4).num)), (2, .slice xA5 ((al t4).kids.length) xc5)] [iN ((al t4).kind), iN ((al t4).num), .slice xA5 ((al t4).kids.length) xc5] none hst (fun w1 hst => ?_)
     refine r_nil ?_
     refine W_ret ?_
     refine q_rt [iN ((al t4).kind), iN ((al t4).num), .slice xA5 ((al t4).kids.length) xc5] [(⟨b1, 0, none⟩, iN ((al t4).kind)), (⟨b1, 1, none⟩, iN ((al t4).num)), (⟨b1, 2, none⟩, .slice xA5 ((al t4).kids.length) xc5)] (.agg #[iN ((al t4).kind), iN ((al t4).num), .slice xA5 ((al t4).kids.length) xc5]) (rc_L 0 rfl rfl (rc_L 0 rfl rfl (rc_L 0 rfl rfl rc_nil))) hst ?_
     have hnd := nds_al t4
     have hlv : l - 1 - (nds t4 : Int) = l - (nds (al t4) : Int) := by rw [hnd]; omega
     rw [hlv] at hst
     exact ⟨G5, al t4, at4, _, (hG4).trans hG5, (hx5), rgt_al hr4, by rw [hnd]; omega, (fun h => by rw [hpl] at h; cases h), by rw [hnd]; omega, hst.drop [_]⟩
    refine W_sr [(.p, 0), (.p, 1), (.p, 2), (.p, 3), (.p, 4), (.p, 5), (.p, 6)] hst ?_
    refine r_y [(.p, 0), (.p, 1), (.p, 2)] [(70, iN wi), (71, .bool (decide (wi > 0))), (72, .bool (decide (wi > 0)))] ?_
    rcases Bool.eq_false_or_eq_true (decide (wi > 0)) with hc14 | hc14
    ·rw [hc14]
     have hp15 := hc14
     simp only [decide_eq_true_eq, decide_eq_false_iff_not, beq_iff_eq, beq_eq_false_iff_ne, bne_iff_ne, bne_eq_false_iff_eq, Bool.not_eq_true', Bool.not_eq_false', Bool.and_eq_true, Bool.and_eq_false_iff, ne_eq] at hp15
     refine r_z [(73, iN k1), (74, .bool (k1 != 5)), (75, .bool (k1 != 5)), (69, .bool (k1 != 5))] ?_
     refine W_cd (b := k1 != 5) (fun hc16 => ?_) (fun hc16 => ?_)
     ·skip
      have hp17 := hc16
      simp only [decide_eq_true_eq, decide_eq_false_iff_not, beq_iff_eq, beq_eq_false_iff_ne, bne_iff_ne, bne_eq_false_iff_eq, Bool.not_eq_true', Bool.not_eq_false', Bool.and_eq_true, Bool.and_eq_false_iff, ne_eq] at hp17
      refine W_sr [(.p, 0), (.p, 1), (.f, 2), (.f, 3), (.f, 4)] hst ?_
      refine r_y [(.p, 0), (.p, 1)] [(76, pN sb 0), (77, iN wi)] ?_
      have hst := St.swap (A := [(b1, .cells #[iN 0, iN 0, .slice none 0 0] 24), (lb, .cells #[iN (l - 1)] 3)]) (B := [(sb, .cells #[.slice A n c, nN ak1, .int .u64 sk1] 96)]) (C := L) hst
      refine m_cl #[pN sb 0, iN wi] (some 78) (c32 hB hn (by omega) hst) ?_
      rintro _ w1 ⟨k2, ak2, sk2, rfl, hk2a, hk2b, hk2t, hst⟩
      have hst := St.swap (A := [(sb, .cells #[.slice A n c, nN ak2, .int .u64 sk2] 96)]) (B := [(b1, .cells #[iN 0, iN 0, .slice none 0 0] 24), (lb, .cells #[iN (l - 1)] 3)]) (C := L) hst
      have hst : St G ((b1, .cells #[iN 0, iN 0, .slice none 0 0] 24) :: (lb, .cells #[iN (l - 1)] 3) :: (sb, .cells #[.slice A n c, nN ak2, .int .u64 sk2] 96) :: L) w1 := hst
      refine nx hst ?_
      refine m_cl #[iN k2] (some 79) (c50  hst) ?_
      rintro x6 w1 ⟨G6, hG6, hx6, hst⟩
      obtain ⟨xA6, xc6, rfl, _, _⟩ := id hx6.open
      refine nx hst ?_
      refine s_0 [(0, iN ((vr k2).kind)), (1, iN ((vr k2).num)), (2, .slice xA6 ((vr k2).kids.length) xc6)] [iN ((vr k2).kind), iN ((vr k2).num), .slice xA6 ((vr k2).kids.length) xc6] none hst (fun w1 hst => ?_)
      refine r_nil ?_
      refine W_ret ?_
      refine q_rt [iN ((vr k2).kind), iN ((vr k2).num), .slice xA6 ((vr k2).kids.length) xc6] [(⟨b1, 0, none⟩, iN ((vr k2).kind)), (⟨b1, 1, none⟩, iN ((vr k2).num)), (⟨b1, 2, none⟩, .slice xA6 ((vr k2).kids.length) xc6)] (.agg #[iN ((vr k2).kind), iN ((vr k2).num), .slice xA6 ((vr k2).kids.length) xc6]) (rc_L 0 rfl rfl (rc_L 0 rfl rfl (rc_L 0 rfl rfl rc_nil))) hst ?_
      have hnd := nds_vr k2
      have hlv : l - 1 = l - (nds (vr k2) : Int) := by rw [hnd]; omega
      rw [hlv] at hst
      exact ⟨G6, vr k2, ak2, _, hG6, (hx6), rgt_vr (hk2b (by omega)), by rw [hnd]; omega, (fun _ => rfl), by rw [hnd]; omega, hst.drop [_]⟩
     have hp18 := hc16
     simp only [decide_eq_true_eq, decide_eq_false_iff_not, beq_iff_eq, beq_eq_false_iff_ne, bne_iff_ne, bne_eq_false_iff_eq, Bool.not_eq_true', Bool.not_eq_false', Bool.and_eq_true, Bool.and_eq_false_iff, ne_eq] at hp18
     refine W_skip ?_
     refine W_sr [(.f, 0), (.f, 1)] hst ?_
     refine m_cl #[] (some 80) (c27  hst) ?_
     rintro x7 w1 ⟨G7, hG7, hx7, hst⟩
     obtain ⟨xA7, xc7, rfl, _, _⟩ := id hx7.open
     refine nx hst ?_
     refine s_0 [(0, iN ((nt).kind)), (1, iN ((nt).num)), (2, .slice xA7 ((nt).kids.length) xc7)] [iN ((nt).kind), iN ((nt).num), .slice xA7 ((nt).kids.length) xc7] none hst (fun w1 hst => ?_)
     refine r_nil ?_
     refine W_ret ?_
     refine q_rt [iN ((nt).kind), iN ((nt).num), .slice xA7 ((nt).kids.length) xc7] [(⟨b1, 0, none⟩, iN ((nt).kind)), (⟨b1, 1, none⟩, iN ((nt).num)), (⟨b1, 2, none⟩, .slice xA7 ((nt).kids.length) xc7)] (.agg #[iN ((nt).kind), iN ((nt).num), .slice xA7 ((nt).kids.length) xc7]) (rc_L 0 rfl rfl (rc_L 0 rfl rfl (rc_L 0 rfl rfl rc_nil))) hst ?_
     have hnd := nds_nt
     have hlv : l - 1 = l - (nds (nt) : Int) := by rw [hnd]; omega
     rw [hlv] at hst
     exact ⟨G7, nt, ak1, _, hG7, (hx7), rgt_nt, by rw [hnd]; omega, (fun _ => rfl), by rw [hnd]; omega, hst.drop [_]⟩
    rw [hc14]
    have hp19 := hc14
    simp only [decide_eq_true_eq, decide_eq_false_iff_not, beq_iff_eq, beq_eq_false_iff_ne, bne_iff_ne, bne_eq_false_iff_eq, Bool.not_eq_true', Bool.not_eq_false', Bool.and_eq_true, Bool.and_eq_false_iff, ne_eq] at hp19
    refine r_z [(73, undef), (74, undef), (75, .bool false), (69, .bool false)] ?_
    refine W_cF ?_
    refine W_skip ?_
    refine W_sr [(.f, 0), (.f, 1)] hst ?_
    refine m_cl #[] (some 80) (c27  hst) ?_
    rintro x8 w1 ⟨G8, hG8, hx8, hst⟩
    obtain ⟨xA8, xc8, rfl, _, _⟩ := id hx8.open
    refine nx hst ?_
    refine s_0 [(0, iN ((nt).kind)), (1, iN ((nt).num)), (2, .slice xA8 ((nt).kids.length) xc8)] [iN ((nt).kind), iN ((nt).num), .slice xA8 ((nt).kids.length) xc8] none hst (fun w1 hst => ?_)
    refine r_nil ?_
    refine W_ret ?_
    refine q_rt [iN ((nt).kind), iN ((nt).num), .slice xA8 ((nt).kids.length) xc8] [(⟨b1, 0, none⟩, iN ((nt).kind)), (⟨b1, 1, none⟩, iN ((nt).num)), (⟨b1, 2, none⟩, .slice xA8 ((nt).kids.length) xc8)] (.agg #[iN ((nt).kind), iN ((nt).num), .slice xA8 ((nt).kids.length) xc8]) (rc_L 0 rfl rfl (rc_L 0 rfl rfl (rc_L 0 rfl rfl rc_nil))) hst ?_
    have hnd := nds_nt
    have hlv : l - 1 = l - (nds (nt) : Int) := by rw [hnd]; omega
    rw [hlv] at hst
    exact ⟨G8, nt, ak1, _, hG8, (hx8), rgt_nt, by rw [hnd]; omega, (fun _ => rfl), by rw [hnd]; omega, hst.drop [_]⟩
   rw [hc11]
   have hp20 := hc11
   simp only [decide_eq_true_eq, decide_eq_false_iff_not, beq_iff_eq, beq_eq_false_iff_ne, bne_iff_ne, bne_eq_false_iff_eq, Bool.not_eq_true', Bool.not_eq_false', Bool.and_eq_true, Bool.and_eq_false_iff, ne_eq] at hp20
   refine r_z [(59, undef), (60, undef), (61, .bool false), (49, .bool false)] ?_
   refine W_cF ?_
   refine W_sr [(.p, 0), (.p, 1), (.p, 2), (.p, 3), (.p, 4), (.p, 5), (.p, 6)] hst ?_
   refine r_y [(.p, 0), (.p, 1), (.p, 2)] [(70, iN wi), (71, .bool (decide (wi > 0))), (72, .bool (decide (wi > 0)))] ?_
   rcases Bool.eq_false_or_eq_true (decide (wi > 0)) with hc21 | hc21
   ·rw [hc21]
    have hp22 := hc21
    simp only [decide_eq_true_eq, decide_eq_false_iff_not, beq_iff_eq, beq_eq_false_iff_ne, bne_iff_ne, bne_eq_false_iff_eq, Bool.not_eq_true', Bool.not_eq_false', Bool.and_eq_true, Bool.and_eq_false_iff, ne_eq] at hp22
    refine r_z [(73, iN k1), (74, .bool (k1 != 5)), (75, .bool (k1 != 5)), (69, .bool (k1 != 5))] ?_
    refine W_cd (b := k1 != 5) (fun hc23 => ?_) (fun hc23 => ?_)
    ·skip
     have hp24 := hc23
     simp only [decide_eq_true_eq, decide_eq_false_iff_not, beq_iff_eq, beq_eq_false_iff_ne, bne_iff_ne, bne_eq_false_iff_eq, Bool.not_eq_true', Bool.not_eq_false', Bool.and_eq_true, Bool.and_eq_false_iff, ne_eq] at hp24
     refine W_sr [(.p, 0), (.p, 1), (.f, 2), (.f, 3), (.f, 4)] hst ?_
     refine r_y [(.p, 0), (.p, 1)] [(76, pN sb 0), (77, iN wi)] ?_
     have hst := St.swap (A := [(b1, .cells #[iN 0, iN 0, .slice none 0 0] 24), (lb, .cells #[iN (l - 1)] 3)]) (B := [(sb, .cells #[.slice A n c, nN ak1, .int .u64 sk1] 96)]) (C := L) hst
     refine m_cl #[pN sb 0, iN wi] (some 78) (c32 hB hn (by omega) hst) ?_
     rintro _ w1 ⟨k3, ak3, sk3, rfl, hk3a, hk3b, hk3t, hst⟩
     have hst := St.swap (A := [(sb, .cells #[.slice A n c, nN ak3, .int .u64 sk3] 96)]) (B := [(b1, .cells #[iN 0, iN 0, .slice none 0 0] 24), (lb, .cells #[iN (l - 1)] 3)]) (C := L) hst
     have hst : St G ((b1, .cells #[iN 0, iN 0, .slice none 0 0] 24) :: (lb, .cells #[iN (l - 1)] 3) :: (sb, .cells #[.slice A n c, nN ak3, .int .u64 sk3] 96) :: L) w1 := hst
     refine nx hst ?_
     refine m_cl #[iN k3] (some 79) (c50  hst) ?_
     rintro x9 w1 ⟨G9, hG9, hx9, hst⟩
     obtain ⟨xA9, xc9, rfl, _, _⟩ := id hx9.open
     refine nx hst ?_
     refine s_0 [(0, iN ((vr k3).kind)), (1, iN ((vr k3).num)), (2, .slice xA9 ((vr k3).kids.length) xc9)] [iN ((vr k3).kind), iN ((vr k3).num), .slice xA9 ((vr k3).kids.length) xc9] none hst (fun w1 hst => ?_)
     refine r_nil ?_
     refine W_ret ?_
     refine q_rt [iN ((vr k3).kind), iN ((vr k3).num), .slice xA9 ((vr k3).kids.length) xc9] [(⟨b1, 0, none⟩, iN ((vr k3).kind)), (⟨b1, 1, none⟩, iN ((vr k3).num)), (⟨b1, 2, none⟩, .slice xA9 ((vr k3).kids.length) xc9)] (.agg #[iN ((vr k3).kind), iN ((vr k3).num), .slice xA9 ((vr k3).kids.length) xc9]) (rc_L 0 rfl rfl (rc_L 0 rfl rfl (rc_L 0 rfl rfl rc_nil))) hst ?_
     have hnd := nds_vr k3
     have hlv : l - 1 = l - (nds (vr k3) : Int) := by rw [hnd]; omega
     rw [hlv] at hst
     exact ⟨G9, vr k3, ak3, _, hG9, (hx9), rgt_vr (hk3b (by omega)), by rw [hnd]; omega, (fun _ => rfl), by rw [hnd]; omega, hst.drop [_]⟩
    have hp25 := hc23
    simp only [decide_eq_true_eq, decide_eq_false_iff_not, beq_iff_eq, beq_eq_false_iff_ne, bne_iff_ne, bne_eq_false_iff_eq, Bool.not_eq_true', Bool.not_eq_false', Bool.and_eq_true, Bool.and_eq_false_iff, ne_eq] at hp25
    refine W_skip ?_
    refine W_sr [(.f, 0), (.f, 1)] hst ?_
    refine m_cl #[] (some 80) (c27  hst) ?_
    rintro x10 w1 ⟨G10, hG10, hx10, hst⟩
    obtain ⟨xA10, xc10, rfl, _, _⟩ := id hx10.open
    refine nx hst ?_
    refine s_0 [(0, iN ((nt).kind)), (1, iN ((nt).num)), (2, .slice xA10 ((nt).kids.length) xc10)] [iN ((nt).kind), iN ((nt).num), .slice xA10 ((nt).kids.length) xc10] none hst (fun w1 hst => ?_)
    refine r_nil ?_
    refine W_ret ?_
    refine q_rt [iN ((nt).kind), iN ((nt).num), .slice xA10 ((nt).kids.length) xc10] [(⟨b1, 0, none⟩, iN ((nt).kind)), (⟨b1, 1, none⟩, iN ((nt).num)), (⟨b1, 2, none⟩, .slice xA10 ((nt).kids.length) xc10)] (.agg #[iN ((nt).kind), iN ((nt).num), .slice xA10 ((nt).kids.length) xc10]) (rc_L 0 rfl rfl (rc_L 0 rfl rfl (rc_L 0 rfl rfl rc_nil))) hst ?_
    have hnd := nds_nt
    have hlv : l - 1 = l - (nds (nt) : Int) := by rw [hnd]; omega
    rw [hlv] at hst
    exact ⟨G10, nt, ak1, _, hG10, (hx10), rgt_nt, by rw [hnd]; omega, (fun _ => rfl), by rw [hnd]; omega, hst.drop [_]⟩
   rw [hc21]
   have hp26 := hc21
   simp only [decide_eq_true_eq, decide_eq_false_iff_not, beq_iff_eq, beq_eq_false_iff_ne, bne_iff_ne, bne_eq_false_iff_eq, Bool.not_eq_true', Bool.not_eq_false', Bool.and_eq_true, Bool.and_eq_false_iff, ne_eq] at hp26
   refine r_z [(73, undef), (74, undef), (75, .bool false), (69, .bool false)] ?_
   refine W_cF ?_
   refine W_skip ?_
   refine W_sr [(.f, 0), (.f, 1)] hst ?_
   refine m_cl #[] (some 80) (c27  hst) ?_
   rintro x11 w1 ⟨G11, hG11, hx11, hst⟩
   obtain ⟨xA11, xc11, rfl, _, _⟩ := id hx11.open
   refine nx hst ?_
   refine s_0 [(0, iN ((nt).kind)), (1, iN ((nt).num)), (2, .slice xA11 ((nt).kids.length) xc11)] [iN ((nt).kind), iN ((nt).num), .slice xA11 ((nt).kids.length) xc11] none hst (fun w1 hst => ?_)
   refine r_nil ?_
   refine W_ret ?_
   refine q_rt [iN ((nt).kind), iN ((nt).num), .slice xA11 ((nt).kids.length) xc11] [(⟨b1, 0, none⟩, iN ((nt).kind)), (⟨b1, 1, none⟩, iN ((nt).num)), (⟨b1, 2, none⟩, .slice xA11 ((nt).kids.length) xc11)] (.agg #[iN ((nt).kind), iN ((nt).num), .slice xA11 ((nt).kids.length) xc11]) (rc_L 0 rfl rfl (rc_L 0 rfl rfl (rc_L 0 rfl rfl rc_nil))) hst ?_
   have hnd := nds_nt
   have hlv : l - 1 = l - (nds (nt) : Int) := by rw [hnd]; omega
   rw [hlv] at hst
   exact ⟨G11, nt, ak1, _, hG11, (hx11), rgt_nt, by rw [hnd]; omega, (fun _ => rfl), by rw [hnd]; omega, hst.drop [_]⟩
  rw [hc9]
  have hp27 := hc9
  simp only [decide_eq_true_eq, decide_eq_false_iff_not, beq_iff_eq, beq_eq_false_iff_ne, bne_iff_ne, bne_eq_false_iff_eq, Bool.not_eq_true', Bool.not_eq_false', Bool.and_eq_true, Bool.and_eq_false_iff, ne_eq] at hp27
  refine r_z [(55, undef), (56, undef), (57, .bool false), (58, .bool false), (59, undef), (60, undef), (61, .bool false), (49, .bool false)] ?_
  refine W_cF ?_
  refine W_sr [(.p, 0), (.p, 1), (.p, 2), (.p, 3), (.p, 4), (.p, 5), (.p, 6)] hst ?_
  refine r_y [(.p, 0), (.p, 1), (.p, 2)] [(70, iN wi), (71, .bool (decide (wi > 0))), (72, .bool (decide (wi > 0)))] ?_
  rcases Bool.eq_false_or_eq_true (decide (wi > 0)) with hc28 | hc28
  ·rw [hc28]
   have hp29 := hc28
   simp only [decide_eq_true_eq, decide_eq_false_iff_not, beq_iff_eq, beq_eq_false_iff_ne, bne_iff_ne, bne_eq_false_iff_eq, Bool.not_eq_true', Bool.not_eq_false', Bool.and_eq_true, Bool.and_eq_false_iff, ne_eq] at hp29
   refine r_z [(73, iN k1), (74, .bool (k1 != 5)), (75, .bool (k1 != 5)), (69, .bool (k1 != 5))] ?_
   refine W_cd (b := k1 != 5) (fun hc30 => ?_) (fun hc30 => ?_)
   ·skip
    have hp31 := hc30
    simp only [decide_eq_true_eq, decide_eq_false_iff_not, beq_iff_eq, beq_eq_false_iff_ne, bne_iff_ne, bne_eq_false_iff_eq, Bool.not_eq_true', Bool.not_eq_false', Bool.and_eq_true, Bool.and_eq_false_iff, ne_eq] at hp31
    refine W_sr [(.p, 0), (.p, 1), (.f, 2), (.f, 3), (.f, 4)] hst ?_
    refine r_y [(.p, 0), (.p, 1)] [(76, pN sb 0), (77, iN wi)] ?_
    have hst := St.swap (A := [(b1, .cells #[iN 0, iN 0, .slice none 0 0] 24), (lb, .cells #[iN (l - 1)] 3)]) (B := [(sb, .cells #[.slice A n c, nN ak1, .int .u64 sk1] 96)]) (C := L) hst
    refine m_cl #[pN sb 0, iN wi] (some 78) (c32 hB hn (by omega) hst) ?_
    rintro _ w1 ⟨k4, ak4, sk4, rfl, hk4a, hk4b, hk4t, hst⟩
    have hst := St.swap (A := [(sb, .cells #[.slice A n c, nN ak4, .int .u64 sk4] 96)]) (B := [(b1, .cells #[iN 0, iN 0, .slice none 0 0] 24), (lb, .cells #[iN (l - 1)] 3)]) (C := L) hst
    have hst : St G ((b1, .cells #[iN 0, iN 0, .slice none 0 0] 24) :: (lb, .cells #[iN (l - 1)] 3) :: (sb, .cells #[.slice A n c, nN ak4, .int .u64 sk4] 96) :: L) w1 := hst
    refine nx hst ?_
    refine m_cl #[iN k4] (some 79) (c50  hst) ?_
    rintro x12 w1 ⟨G12, hG12, hx12, hst⟩
    obtain ⟨xA12, xc12, rfl, _, _⟩ := id hx12.open
    refine nx hst ?_
    refine s_0 [(0, iN ((vr k4).kind)), (1, iN ((vr k4).num)), (2, .slice xA12 ((vr k4).kids.length) xc12)] [iN ((vr k4).kind), iN ((vr k4).num), .slice xA12 ((vr k4).kids.length) xc12] none hst (fun w1 hst => ?_)
    refine r_nil ?_
    refine W_ret ?_
    refine q_rt [iN ((vr k4).kind), iN ((vr k4).num), .slice xA12 ((vr k4).kids.length) xc12] [(⟨b1, 0, none⟩, iN ((vr k4).kind)), (⟨b1, 1, none⟩, iN ((vr k4).num)), (⟨b1, 2, none⟩, .slice xA12 ((vr k4).kids.length) xc12)] (.agg #[iN ((vr k4).kind), iN ((vr k4).num), .slice xA12 ((vr k4).kids.length) xc12]) (rc_L 0 rfl rfl (rc_L 0 rfl rfl (rc_L 0 rfl rfl rc_nil))) hst ?_
    have hnd := nds_vr k4
    have hlv : l - 1 = l - (nds (vr k4) : Int) := by rw [hnd]; omega
    rw [hlv] at hst
    exact ⟨G12, vr k4, ak4, _, hG12, (hx12), rgt_vr (hk4b (by omega)), by rw [hnd]; omega, (fun _ => rfl), by rw [hnd]; omega, hst.drop [_]⟩
   have hp32 := hc30
   simp only [decide_eq_true_eq, decide_eq_false_iff_not, beq_iff_eq, beq_eq_false_iff_ne, bne_iff_ne, bne_eq_false_iff_eq, Bool.not_eq_true', Bool.not_eq_false', Bool.and_eq_true, Bool.and_eq_false_iff, ne_eq] at hp32
   refine W_skip ?_
   refine W_sr [(.f, 0), (.f, 1)] hst ?_
   refine m_cl #[] (some 80) (c27  hst) ?_
   rintro x13 w1 ⟨G13, hG13, hx13, hst⟩
   obtain ⟨xA13, xc13, rfl, _, _⟩ := id hx13.open
   refine nx hst ?_
   refine s_0 [(0, iN ((nt).kind)), (1, iN ((nt).num)), (2, .slice xA13 ((nt).kids.length) xc13)] [iN ((nt).kind), iN ((nt).num), .slice xA13 ((nt).kids.length) xc13] none hst (fun w1 hst => ?_)
   refine r_nil ?_
   refine W_ret ?_
   refine q_rt [iN ((nt).kind), iN ((nt).num), .slice xA13 ((nt).kids.length) xc13] [(⟨b1, 0, none⟩, iN ((nt).kind)), (⟨b1, 1, none⟩, iN ((nt).num)), (⟨b1, 2, none⟩, .slice xA13 ((nt).kids.length) xc13)] (.agg #[iN ((nt).kind), iN ((nt).num), .slice xA13 ((nt).kids.length) xc13]) (rc_L 0 rfl rfl (rc_L 0 rfl rfl (rc_L 0 rfl rfl rc_nil))) hst ?_
   have hnd := nds_nt
   have hlv : l - 1 = l - (nds (nt) : Int) := by rw [hnd]; omega
   rw [hlv] at hst
   exact ⟨G13, nt, ak1, _, hG13, (hx13), rgt_nt, by rw [hnd]; omega, (fun _ => rfl), by rw [hnd]; omega, hst.drop [_]⟩
  rw [hc28]
  have hp33 := hc28
  simp only [decide_eq_true_eq, decide_eq_false_iff_not, beq_iff_eq, beq_eq_false_iff_ne, bne_iff_ne, bne_eq_false_iff_eq, Bool.not_eq_true', Bool.not_eq_false', Bool.and_eq_true, Bool.and_eq_false_iff, ne_eq] at hp33
  refine r_z [(73, undef), (74, undef), (75, .bool false), (69, .bool false)] ?_
  refine W_cF ?_
  refine W_skip ?_
  refine W_sr [(.f, 0), (.f, 1)] hst ?_
  refine m_cl #[] (some 80) (c27  hst) ?_
  rintro x14 w1 ⟨G14, hG14, hx14, hst⟩
  obtain ⟨xA14, xc14, rfl, _, _⟩ := id hx14.open
  refine nx hst ?_
  refine s_0 [(0, iN ((nt).kind)), (1, iN ((nt).num)), (2, .slice xA14 ((nt).kids.length) xc14)] [iN ((nt).kind), iN ((nt).num), .slice xA14 ((nt).kids.length) xc14] none hst (fun w1 hst => ?_)
  refine r_nil ?_
  refine W_ret ?_
  refine q_rt [iN ((nt).kind), iN ((nt).num), .slice xA14 ((nt).kids.length) xc14] [(⟨b1, 0, none⟩, iN ((nt).kind)), (⟨b1, 1, none⟩, iN ((nt).num)), (⟨b1, 2, none⟩, .slice xA14 ((nt).kids.length) xc14)] (.agg #[iN ((nt).kind), iN ((nt).num), .slice xA14 ((nt).kids.length) xc14]) (rc_L 0 rfl rfl (rc_L 0 rfl rfl (rc_L 0 rfl rfl rc_nil))) hst ?_
  have hnd := nds_nt
  have hlv : l - 1 = l - (nds (nt) : Int) := by rw [hnd]; omega
  rw [hlv] at hst
  exact ⟨G14, nt, ak1, _, hG14, (hx14), rgt_nt, by rw [hnd]; omega, (fun _ => rfl), by rw [hnd]; omega, hst.drop [_]⟩
 rw [hc2]
 have hp34 := hc2
 simp only [decide_eq_true_eq, decide_eq_false_iff_not, beq_iff_eq, beq_eq_false_iff_ne, bne_iff_ne, bne_eq_false_iff_eq, Bool.not_eq_true', Bool.not_eq_false', Bool.and_eq_true, Bool.and_eq_false_iff, ne_eq] at hp34
 refine r_z [(24, undef), (25, undef), (26, .bool false), (18, .bool false)] ?_
 refine W_cF ?_
 refine W_sr [(.p, 0), (.p, 1), (.l, 2), (.p, 3), (.p, 4), (.p, 5), (.p, 6), (.p, 7), (.p, 8), (.p, 9), (.p, 10), (.p, 11), (.p, 12)] hst ?_
 refine r_s [1] [(.p, 0), (.p, 1), (.l, 2), (.p, 3), (.p, 4)] [(50, pN lb 0), (51, pN lb 0), (52, iN (l - 1)), (53, .bool (decide ((l - 1) ≥ 1))), (54, .bool (decide ((l - 1) ≥ 1)))] (rc_l 1 0 rfl rfl rc_nil) ?_
 rcases Bool.eq_false_or_eq_true (decide ((l - 1) ≥ 1)) with hc35 | hc35
 ·rw [hc35]
  have hp36 := hc35
  simp only [decide_eq_true_eq, decide_eq_false_iff_not, beq_iff_eq, beq_eq_false_iff_ne, bne_iff_ne, bne_eq_false_iff_eq, Bool.not_eq_true', Bool.not_eq_false', Bool.and_eq_true, Bool.and_eq_false_iff, ne_eq] at hp36
  refine r_y [(.p, 5), (.p, 6), (.p, 7), (.p, 8)] [(55, iN k1), (56, .bool (k1 == 3)), (57, .bool (k1 == 3)), (58, .bool (k1 == 3))] ?_
  rcases Bool.eq_false_or_eq_true (k1 == 3) with hc37 | hc37
  ·rw [hc37]
   have hp38 := hc37
   simp only [decide_eq_true_eq, decide_eq_false_iff_not, beq_iff_eq, beq_eq_false_iff_ne, bne_iff_ne, bne_eq_false_iff_eq, Bool.not_eq_true', Bool.not_eq_false', Bool.and_eq_true, Bool.and_eq_false_iff, ne_eq] at hp38
   refine r_z [(59, .bool pl), (60, .bool (!pl)), (61, .bool (!pl)), (49, .bool (!pl))] ?_
   refine W_cd (b := !pl) (fun hc39 => ?_) (fun hc39 => ?_)
   ·skip
    have hpl : pl = false := by simpa using hc39
    refine W_sr [(.p, 0), (.p, 1), (.p, 2), (.p, 3), (.p, 4), (.f, 5), (.f, 6), (.f, 7)] hst ?_
    refine r_y [(.p, 0), (.p, 1), (.p, 2), (.p, 3), (.p, 4)] [(62, pN sb 0), (63, pN lb 0), (64, iN wi), (65, iN (IntKind.wrap .i64 (wi + 1))), (66, .bool pl)] ?_
    have hst := St.swap (A := [(b1, .cells #[iN 0, iN 0, .slice none 0 0] 24)]) (B := [(lb, .cells #[iN (l - 1)] 3), (sb, .cells #[.slice A n c, nN ak1, .int .u64 sk1] 96)]) (C := L) hst
    have hw1 : IntKind.wrap .i64 (wi + 1) = wi + 1 := wrap_id (by omega) (by omega)
    rw [hw1]
    refine m_cl #[pN sb 0, pN lb 0, iN (wi + 1), .bool pl] (some 67) (ih (l := l - 1) (wi := wi + 1) (by omega) (by omega) (by omega) (by omega) (by omega) (by omega) hB hn hst) ?_
    rintro x15 w1 ⟨G15, t15, at15, sd15, hG15, hx15, hr15, hd15, hp15, ha15, hst⟩
    obtain ⟨xA15, xc15, rfl, _, _⟩ := id hx15.open
    have hst := St.swap (A := [(lb, .cells #[iN (l - 1 - (nds t15 : Int))] 3), (sb, .cells #[.slice A n c, nN at15, .int .u64 sd15] 96)]) (B := [(b1, .cells #[iN 0, iN 0, .slice none 0 0] 24)]) (C := L) hst
    have hst : St G15 ((b1, .cells #[iN 0, iN 0, .slice none 0 0] 24) :: (lb, .cells #[iN (l - 1 - (nds t15 : Int))] 3) :: (sb, .cells #[.slice A n c, nN at15, .int .u64 sd15] 96) :: L) w1 := hst
    refine nx hst ?_
    refine m_cl #[(aT t15 xA15 xc15)] (some 68) (c49 (hx15) hst) ?_
    rintro x16 w1 ⟨G16, hG16, hx16, hst⟩
    obtain ⟨xA16, xc16, rfl, _, _⟩ := id hx16.open
    refine nx hst ?_
    refine s_0 [(0, iN ((al t15).kind)), (1, iN ((al t15).num)), (2, .slice xA16 ((al t15).kids.length) xc16)] [iN ((al t15).kind), iN ((al t15).num), .slice xA16 ((al t15).kids.length) xc16] none hst (fun w1 hst => ?_)
    refine r_nil ?_
    refine W_ret ?_
    refine q_rt [iN ((al t15).kind), iN ((al t15).num), .slice xA16 ((al t15).kids.length) xc16] [(⟨b1, 0, none⟩, iN ((al t15).kind)), (⟨b1, 1, none⟩, iN ((al t15).num)), (⟨b1, 2, none⟩, .slice xA16 ((al t15).kids.length) xc16)] (.agg #[iN ((al t15).kind), iN ((al t15).num), .slice xA16 ((al t15).kids.length) xc16]) (rc_L 0 rfl rfl (rc_L 0 rfl rfl (rc_L 0 rfl rfl rc_nil))) hst ?_
    have hnd := nds_al t15
    have hlv : l - 1 - (nds t15 : Int) = l - (nds (al t15) : Int) := by rw [hnd]; omega
    rw [hlv] at hst
    exact ⟨G16, al t15, at15, _, (hG15).trans hG16, (hx16), rgt_al hr15, by rw [hnd]; omega, (fun h => by rw [hpl] at h; cases h), by rw [hnd]; omega, hst.drop [_]⟩
   refine W_sr [(.p, 0), (.p, 1), (.p, 2), (.p, 3), (.p, 4), (.p, 5), (.p, 6)] hst ?_
   refine r_y [(.p, 0), (.p, 1), (.p, 2)] [(70, iN wi), (71, .bool (decide (wi > 0))), (72, .bool (decide (wi > 0)))] ?_
   rcases Bool.eq_false_or_eq_true (decide (wi > 0)) with hc40 | hc40
   ·rw [hc40]
    have hp41 := hc40
    simp only [decide_eq_true_eq, decide_eq_false_iff_not, beq_iff_eq, beq_eq_false_iff_ne, bne_iff_ne, bne_eq_false_iff_eq, Bool.not_eq_true', Bool.not_eq_false', Bool.and_eq_true, Bool.and_eq_false_iff, ne_eq] at hp41
    refine r_z [(73, iN k1), (74, .bool (k1 != 5)), (75, .bool (k1 != 5)), (69, .bool (k1 != 5))] ?_
    refine W_cd (b := k1 != 5) (fun hc42 => ?_) (fun hc42 => ?_)
    ·skip
     have hp43 := hc42
     simp only [decide_eq_true_eq, decide_eq_false_iff_not, beq_iff_eq, beq_eq_false_iff_ne, bne_iff_ne, bne_eq_false_iff_eq, Bool.not_eq_true', Bool.not_eq_false', Bool.and_eq_true, Bool.and_eq_false_iff, ne_eq] at hp43
     refine W_sr [(.p, 0), (.p, 1), (.f, 2), (.f, 3), (.f, 4)] hst ?_
     refine r_y [(.p, 0), (.p, 1)] [(76, pN sb 0), (77, iN wi)] ?_
     have hst := St.swap (A := [(b1, .cells #[iN 0, iN 0, .slice none 0 0] 24), (lb, .cells #[iN (l - 1)] 3)]) (B := [(sb, .cells #[.slice A n c, nN ak1, .int .u64 sk1] 96)]) (C := L) hst
     refine m_cl #[pN sb 0, iN wi] (some 78) (c32 hB hn (by omega) hst) ?_
     rintro _ w1 ⟨k5, ak5, sk5, rfl, hk5a, hk5b, hk5t, hst⟩
     have hst := St.swap (A := [(sb, .cells #[.slice A n c, nN ak5, .int .u64 sk5] 96)]) (B := [(b1, .cells #[iN 0, iN 0, .slice none 0 0] 24), (lb, .cells #[iN (l - 1)] 3)]) (C := L) hst
     have hst : St G ((b1, .cells #[iN 0, iN 0, .slice none 0 0] 24) :: (lb, .cells #[iN (l - 1)] 3) :: (sb, .cells #[.slice A n c, nN ak5, .int .u64 sk5] 96) :: L) w1 := hst
     refine nx hst ?_
     refine m_cl #[iN k5] (some 79) (c50  hst) ?_
     rintro x17 w1 ⟨G17, hG17, hx17, hst⟩
     obtain ⟨xA17, xc17, rfl, _, _⟩ := id hx17.open
     refine nx hst ?_
     refine s_0 [(0, iN ((vr k5).kind)), (1, iN ((vr k5).num)), (2, .slice xA17 ((vr k5).kids.length) xc17)] [iN ((vr k5).kind), iN ((vr k5).num), .slice xA17 ((vr k5).kids.length) xc17] none hst (fun w1 hst => ?_)
     refine r_nil ?_
     refine W_ret ?_
     refine q_rt [iN ((vr k5).kind), iN ((vr k5).num), .slice xA17 ((vr k5).kids.length) xc17] [(⟨b1, 0, none⟩, iN ((vr k5).kind)), (⟨b1, 1, none⟩, iN ((vr k5).num)), (⟨b1, 2, none⟩, .slice xA17 ((vr k5).kids.length) xc17)] (.agg #[iN ((vr k5).kind), iN ((vr k5).num), .slice xA17 ((vr k5).kids.length) xc17]) (rc_L 0 rfl rfl (rc_L 0 rfl rfl (rc_L 0 rfl rfl rc_nil))) hst ?_
     have hnd := nds_vr k5
     have hlv : l - 1 = l - (nds (vr k5) : Int) := by rw [hnd]; omega
     rw [hlv] at hst
     exact ⟨G17, vr k5, ak5, _, hG17, (hx17), rgt_vr (hk5b (by omega)), by rw [hnd]; omega, (fun _ => rfl), by rw [hnd]; omega, hst.drop [_]⟩
    have hp44 := hc42
    simp only [decide_eq_true_eq, decide_eq_false_iff_not, beq_iff_eq, beq_eq_false_iff_ne, bne_iff_ne, bne_eq_false_iff_eq, Bool.not_eq_true', Bool.not_eq_false', Bool.and_eq_true, Bool.and_eq_false_iff, ne_eq] at hp44
    refine W_skip ?_
    refine W_sr [(.f, 0), (.f, 1)] hst ?_
    refine m_cl #[] (some 80) (c27  hst) ?_
    rintro x18 w1 ⟨G18, hG18, hx18, hst⟩
    obtain ⟨xA18, xc18, rfl, _, _⟩ := id hx18.open
    refine nx hst ?_
    refine s_0 [(0, iN ((nt).kind)), (1, iN ((nt).num)), (2, .slice xA18 ((nt).kids.length) xc18)] [iN ((nt).kind), iN ((nt).num), .slice xA18 ((nt).kids.length) xc18] none hst (fun w1 hst => ?_)
    refine r_nil ?_
    refine W_ret ?_
    refine q_rt [iN ((nt).kind), iN ((nt).num), .slice xA18 ((nt).kids.length) xc18] [(⟨b1, 0, none⟩, iN ((nt).kind)), (⟨b1, 1, none⟩, iN ((nt).num)), (⟨b1, 2, none⟩, .slice xA18 ((nt).kids.length) xc18)] (.agg #[iN ((nt).kind), iN ((nt).num), .slice xA18 ((nt).kids.length) xc18]) (rc_L 0 rfl rfl (rc_L 0 rfl rfl (rc_L 0 rfl rfl rc_nil))) hst ?_
    have hnd := nds_nt
    have hlv : l - 1 = l - (nds (nt) : Int) := by rw [hnd]; omega
    rw [hlv] at hst
    exact ⟨G18, nt, ak1, _, hG18, (hx18), rgt_nt, by rw [hnd]; omega, (fun _ => rfl), by rw [hnd]; omega, hst.drop [_]⟩
   rw [hc40]
   have hp45 := hc40
   simp only [decide_eq_true_eq, decide_eq_false_iff_not, beq_iff_eq, beq_eq_false_iff_ne, bne_iff_ne, bne_eq_false_iff_eq, Bool.not_eq_true', Bool.not_eq_false', Bool.and_eq_true, Bool.and_eq_false_iff, ne_eq] at hp45
   refine r_z [(73, undef), (74, undef), (75, .bool false), (69, .bool false)] ?_
   refine W_cF ?_
   refine W_skip ?_
   refine W_sr [(.f, 0), (.f, 1)] hst ?_
   refine m_cl #[] (some 80) (c27  hst) ?_
   rintro x19 w1 ⟨G19, hG19, hx19, hst⟩
   obtain ⟨xA19, xc19, rfl, _, _⟩ := id hx19.open
   refine nx hst ?_
   refine s_0 [(0, iN ((nt).kind)), (1, iN ((nt).num)), (2, .slice xA19 ((nt).kids.length) xc19)] [iN ((nt).kind), iN ((nt).num), .slice xA19 ((nt).kids.length) xc19] none hst (fun w1 hst => ?_)
   refine r_nil ?_
   refine W_ret ?_
   refine q_rt [iN ((nt).kind), iN ((nt).num), .slice xA19 ((nt).kids.length) xc19] [(⟨b1, 0, none⟩, iN ((nt).kind)), (⟨b1, 1, none⟩, iN ((nt).num)), (⟨b1, 2, none⟩, .slice xA19 ((nt).kids.length) xc19)] (.agg #[iN ((nt).kind), iN ((nt).num), .slice xA19 ((nt).kids.length) xc19]) (rc_L 0 rfl rfl (rc_L 0 rfl rfl (rc_L 0 rfl rfl rc_nil))) hst ?_
   have hnd := nds_nt
   have hlv : l - 1 = l - (nds (nt) : Int) := by rw [hnd]; omega
   rw [hlv] at hst
   exact ⟨G19, nt, ak1, _, hG19, (hx19), rgt_nt, by rw [hnd]; omega, (fun _ => rfl), by rw [hnd]; omega, hst.drop [_]⟩
  rw [hc37]
  have hp46 := hc37
  simp only [decide_eq_true_eq, decide_eq_false_iff_not, beq_iff_eq, beq_eq_false_iff_ne, bne_iff_ne, bne_eq_false_iff_eq, Bool.not_eq_true', Bool.not_eq_false', Bool.and_eq_true, Bool.and_eq_false_iff, ne_eq] at hp46
  refine r_z [(59, undef), (60, undef), (61, .bool false), (49, .bool false)] ?_
  refine W_cF ?_
  refine W_sr [(.p, 0), (.p, 1), (.p, 2), (.p, 3), (.p, 4), (.p, 5), (.p, 6)] hst ?_
  refine r_y [(.p, 0), (.p, 1), (.p, 2)] [(70, iN wi), (71, .bool (decide (wi > 0))), (72, .bool (decide (wi > 0)))] ?_
  rcases Bool.eq_false_or_eq_true (decide (wi > 0)) with hc47 | hc47
  ·rw [hc47]
   have hp48 := hc47
   simp only [decide_eq_true_eq, decide_eq_false_iff_not, beq_iff_eq, beq_eq_false_iff_ne, bne_iff_ne, bne_eq_false_iff_eq, Bool.not_eq_true', Bool.not_eq_false', Bool.and_eq_true, Bool.and_eq_false_iff, ne_eq] at hp48
   refine r_z [(73, iN k1), (74, .bool (k1 != 5)), (75, .bool (k1 != 5)), (69, .bool (k1 != 5))] ?_
   refine W_cd (b := k1 != 5) (fun hc49 => ?_) (fun hc49 => ?_)
   ·skip
    have hp50 := hc49
    simp only [decide_eq_true_eq, decide_eq_false_iff_not, beq_iff_eq, beq_eq_false_iff_ne, bne_iff_ne, bne_eq_false_iff_eq, Bool.not_eq_true', Bool.not_eq_false', Bool.and_eq_true, Bool.and_eq_false_iff, ne_eq] at hp50
    refine W_sr [(.p, 0), (.p, 1), (.f, 2), (.f, 3), (.f, 4)] hst ?_
    refine r_y [(.p, 0), (.p, 1)] [(76, pN sb 0), (77, iN wi)] ?_
    have hst := St.swap (A := [(b1, .cells #[iN 0, iN 0, .slice none 0 0] 24), (lb, .cells #[iN (l - 1)] 3)]) (B := [(sb, .cells #[.slice A n c, nN ak1, .int .u64 sk1] 96)]) (C := L) hst
    refine m_cl #[pN sb 0, iN wi] (some 78) (c32 hB hn (by omega) hst) ?_
    rintro _ w1 ⟨k6, ak6, sk6, rfl, hk6a, hk6b, hk6t, hst⟩
    have hst := St.swap (A := [(sb, .cells #[.slice A n c, nN ak6, .int .u64 sk6] 96)]) (B := [(b1, .cells #[iN 0, iN 0, .slice none 0 0] 24), (lb, .cells #[iN (l - 1)] 3)]) (C := L) hst
    have hst : St G ((b1, .cells #[iN 0, iN 0, .slice none 0 0] 24) :: (lb, .cells #[iN (l - 1)] 3) :: (sb, .cells #[.slice A n c, nN ak6, .int .u64 sk6] 96) :: L) w1 := hst
    refine nx hst ?_
    refine m_cl #[iN k6] (some 79) (c50  hst) ?_
    rintro x20 w1 ⟨G20, hG20, hx20, hst⟩
    obtain ⟨xA20, xc20, rfl, _, _⟩ := id hx20.open
    refine nx hst ?_
    refine s_0 [(0, iN ((vr k6).kind)), (1, iN ((vr k6).num)), (2, .slice xA20 ((vr k6).kids.length) xc20)] [iN ((vr k6).kind), iN ((vr k6).num), .slice xA20 ((vr k6).kids.length) xc20] none hst (fun w1 hst => ?_)
    refine r_nil ?_
    refine W_ret ?_
    refine q_rt [iN ((vr k6).kind), iN ((vr k6).num), .slice xA20 ((vr k6).kids.length) xc20] [(⟨b1, 0, none⟩, iN ((vr k6).kind)), (⟨b1, 1, none⟩, iN ((vr k6).num)), (⟨b1, 2, none⟩, .slice xA20 ((vr k6).kids.length) xc20)] (.agg #[iN ((vr k6).kind), iN ((vr k6).num), .slice xA20 ((vr k6).kids.length) xc20]) (rc_L 0 rfl rfl (rc_L 0 rfl rfl (rc_L 0 rfl rfl rc_nil))) hst ?_
    have hnd := nds_vr k6
    have hlv : l - 1 = l - (nds (vr k6) : Int) := by rw [hnd]; omega
    rw [hlv] at hst
    exact ⟨G20, vr k6, ak6, _, hG20, (hx20), rgt_vr (hk6b (by omega)), by rw [hnd]; omega, (fun _ => rfl), by rw [hnd]; omega, hst.drop [_]⟩
   have hp51 := hc49
   simp only [decide_eq_true_eq, decide_eq_false_iff_not, beq_iff_eq, beq_eq_false_iff_ne, bne_iff_ne, bne_eq_false_iff_eq, Bool.not_eq_true', Bool.not_eq_false', Bool.and_eq_true, Bool.and_eq_false_iff, ne_eq] at hp51
   refine W_skip ?_
   refine W_sr [(.f, 0), (.f, 1)] hst ?_
   refine m_cl #[] (some 80) (c27  hst) ?_
   rintro x21 w1 ⟨G21, hG21, hx21, hst⟩
   obtain ⟨xA21, xc21, rfl, _, _⟩ := id hx21.open
   refine nx hst ?_
   refine s_0 [(0, iN ((nt).kind)), (1, iN ((nt).num)), (2, .slice xA21 ((nt).kids.length) xc21)] [iN ((nt).kind), iN ((nt).num), .slice xA21 ((nt).kids.length) xc21] none hst (fun w1 hst => ?_)
   refine r_nil ?_
   refine W_ret ?_
   refine q_rt [iN ((nt).kind), iN ((nt).num), .slice xA21 ((nt).kids.length) xc21] [(⟨b1, 0, none⟩, iN ((nt).kind)), (⟨b1, 1, none⟩, iN ((nt).num)), (⟨b1, 2, none⟩, .slice xA21 ((nt).kids.length) xc21)] (.agg #[iN ((nt).kind), iN ((nt).num), .slice xA21 ((nt).kids.length) xc21]) (rc_L 0 rfl rfl (rc_L 0 rfl rfl (rc_L 0 rfl rfl rc_nil))) hst ?_
   have hnd := nds_nt
   have hlv : l - 1 = l - (nds (nt) : Int) := by rw [hnd]; omega
   rw [hlv] at hst
   exact ⟨G21, nt, ak1, _, hG21, (hx21), rgt_nt, by rw [hnd]; omega, (fun _ => rfl), by rw [hnd]; omega, hst.drop [_]⟩
  rw [hc47]
  have hp52 := hc47
  simp only [decide_eq_true_eq, decide_eq_false_iff_not, beq_iff_eq, beq_eq_false_iff_ne, bne_iff_ne, bne_eq_false_iff_eq, Bool.not_eq_true', Bool.not_eq_false', Bool.and_eq_true, Bool.and_eq_false_iff, ne_eq] at hp52
  refine r_z [(73, undef), (74, undef), (75, .bool false), (69, .bool false)] ?_
  refine W_cF ?_
  refine W_skip ?_
  refine W_sr [(.f, 0), (.f, 1)] hst ?_
  refine m_cl #[] (some 80) (c27  hst) ?_
  rintro x22 w1 ⟨G22, hG22, hx22, hst⟩
  obtain ⟨xA22, xc22, rfl, _, _⟩ := id hx22.open
  refine nx hst ?_
  refine s_0 [(0, iN ((nt).kind)), (1, iN ((nt).num)), (2, .slice xA22 ((nt).kids.length) xc22)] [iN ((nt).kind), iN ((nt).num), .slice xA22 ((nt).kids.length) xc22] none hst (fun w1 hst => ?_)
  refine r_nil ?_
  refine W_ret ?_
  refine q_rt [iN ((nt).kind), iN ((nt).num), .slice xA22 ((nt).kids.length) xc22] [(⟨b1, 0, none⟩, iN ((nt).kind)), (⟨b1, 1, none⟩, iN ((nt).num)), (⟨b1, 2, none⟩, .slice xA22 ((nt).kids.length) xc22)] (.agg #[iN ((nt).kind), iN ((nt).num), .slice xA22 ((nt).kids.length) xc22]) (rc_L 0 rfl rfl (rc_L 0 rfl rfl (rc_L 0 rfl rfl rc_nil))) hst ?_
  have hnd := nds_nt
  have hlv : l - 1 = l - (nds (nt) : Int) := by rw [hnd]; omega
  rw [hlv] at hst
  exact ⟨G22, nt, ak1, _, hG22, (hx22), rgt_nt, by rw [hnd]; omega, (fun _ => rfl), by rw [hnd]; omega, hst.drop [_]⟩
 rw [hc35]
 have hp53 := hc35
 simp only [decide_eq_true_eq, decide_eq_false_iff_not, beq_iff_eq, beq_eq_false_iff_ne, bne_iff_ne, bne_eq_false_iff_eq, Bool.not_eq_true', Bool.not_eq_false', Bool.and_eq_true, Bool.and_eq_false_iff, ne_eq] at hp53
 refine r_z [(55, undef), (56, undef), (57, .bool false), (58, .bool false), (59, undef), (60, undef), (61, .bool false), (49, .bool false)] ?_
 refine W_cF ?_
 refine W_sr [(.p, 0), (.p, 1), (.p, 2), (.p, 3), (.p, 4), (.p, 5), (.p, 6)] hst ?_
 refine r_y [(.p, 0), (.p, 1), (.p, 2)] [(70, iN wi), (71, .bool (decide (wi > 0))), (72, .bool (decide (wi > 0)))] ?_
 rcases Bool.eq_false_or_eq_true (decide (wi > 0)) with hc54 | hc54
 ·rw [hc54]
  have hp55 := hc54
  simp only [decide_eq_true_eq, decide_eq_false_iff_not, beq_iff_eq, beq_eq_false_iff_ne, bne_iff_ne, bne_eq_false_iff_eq, Bool.not_eq_true', Bool.not_eq_false', Bool.and_eq_true, Bool.and_eq_false_iff, ne_eq] at hp55
  refine r_z [(73, iN k1), (74, .bool (k1 != 5)), (75, .bool (k1 != 5)), (69, .bool (k1 != 5))] ?_
  refine W_cd (b := k1 != 5) (fun hc56 => ?_) (fun hc56 => ?_)
  ·skip
   have hp57 := hc56
   simp only [decide_eq_true_eq, decide_eq_false_iff_not, beq_iff_eq, beq_eq_false_iff_ne, bne_iff_ne, bne_eq_false_iff_eq, Bool.not_eq_true', Bool.not_eq_false', Bool.and_eq_true, Bool.and_eq_false_iff, ne_eq] at hp57
   refine W_sr [(.p, 0), (.p, 1), (.f, 2), (.f, 3), (.f, 4)] hst ?_
   refine r_y [(.p, 0), (.p, 1)] [(76, pN sb 0), (77, iN wi)] ?_
   have hst := St.swap (A := [(b1, .cells #[iN 0, iN 0, .slice none 0 0] 24), (lb, .cells #[iN (l - 1)] 3)]) (B := [(sb, .cells #[.slice A n c, nN ak1, .int .u64 sk1] 96)]) (C := L) hst
   refine m_cl #[pN sb 0, iN wi] (some 78) (c32 hB hn (by omega) hst) ?_
   rintro _ w1 ⟨k7, ak7, sk7, rfl, hk7a, hk7b, hk7t, hst⟩
   have hst := St.swap (A := [(sb, .cells #[.slice A n c, nN ak7, .int .u64 sk7] 96)]) (B := [(b1, .cells #[iN 0, iN 0, .slice none 0 0] 24), (lb, .cells #[iN (l - 1)] 3)]) (C := L) hst
   have hst : St G ((b1, .cells #[iN 0, iN 0, .slice none 0 0] 24) :: (lb, .cells #[iN (l - 1)] 3) :: (sb, .cells #[.slice A n c, nN ak7, .int .u64 sk7] 96) :: L) w1 := hst
   refine nx hst ?_
   refine m_cl #[iN k7] (some 79) (c50  hst) ?_
   rintro x23 w1 ⟨G23, hG23, hx23, hst⟩
   obtain ⟨xA23, xc23, rfl, _, _⟩ := id hx23.open
   refine nx hst ?_
   refine s_0 [(0, iN ((vr k7).kind)), (1, iN ((vr k7).num)), (2, .slice xA23 ((vr k7).kids.length) xc23)] [iN ((vr k7).kind), iN ((vr k7).num), .slice xA23 ((vr k7).kids.length) xc23] none hst (fun w1 hst => ?_)
   refine r_nil ?_
   refine W_ret ?_
   refine q_rt [iN ((vr k7).kind), iN ((vr k7).num), .slice xA23 ((vr k7).kids.length) xc23] [(⟨b1, 0, none⟩, iN ((vr k7).kind)), (⟨b1, 1, none⟩, iN ((vr k7).num)), (⟨b1, 2, none⟩, .slice xA23 ((vr k7).kids.length) xc23)] (.agg #[iN ((vr k7).kind), iN ((vr k7).num), .slice xA23 ((vr k7).kids.length) xc23]) (rc_L 0 rfl rfl (rc_L 0 rfl rfl (rc_L 0 rfl rfl rc_nil))) hst ?_
   have hnd := nds_vr k7
   have hlv : l - 1 = l - (nds (vr k7) : Int) := by rw [hnd]; omega
   rw [hlv] at hst
   exact ⟨G23, vr k7, ak7, _, hG23, (hx23), rgt_vr (hk7b (by omega)), by rw [hnd]; omega, (fun _ => rfl), by rw [hnd]; omega, hst.drop [_]⟩
  have hp58 := hc56
  simp only [decide_eq_true_eq, decide_eq_false_iff_not, beq_iff_eq, beq_eq_false_iff_ne, bne_iff_ne, bne_eq_false_iff_eq, Bool.not_eq_true', Bool.not_eq_false', Bool.and_eq_true, Bool.and_eq_false_iff, ne_eq] at hp58
  refine W_skip ?_
  refine W_sr [(.f, 0), (.f, 1)] hst ?_
  refine m_cl #[] (some 80) (c27  hst) ?_
  rintro x24 w1 ⟨G24, hG24, hx24, hst⟩
  obtain ⟨xA24, xc24, rfl, _, _⟩ := id hx24.open
  refine nx hst ?_
  refine s_0 [(0, iN ((nt).kind)), (1, iN ((nt).num)), (2, .slice xA24 ((nt).kids.length) xc24)] [iN ((nt).kind), iN ((nt).num), .slice xA24 ((nt).kids.length) xc24] none hst (fun w1 hst => ?_)
  refine r_nil ?_
  refine W_ret ?_
  refine q_rt [iN ((nt).kind), iN ((nt).num), .slice xA24 ((nt).kids.length) xc24] [(⟨b1, 0, none⟩, iN ((nt).kind)), (⟨b1, 1, none⟩, iN ((nt).num)), (⟨b1, 2, none⟩, .slice xA24 ((nt).kids.length) xc24)] (.agg #[iN ((nt).kind), iN ((nt).num), .slice xA24 ((nt).kids.length) xc24]) (rc_L 0 rfl rfl (rc_L 0 rfl rfl (rc_L 0 rfl rfl rc_nil))) hst ?_
  have hnd := nds_nt
  have hlv : l - 1 = l - (nds (nt) : Int) := by rw [hnd]; omega
  rw [hlv] at hst
  exact ⟨G24, nt, ak1, _, hG24, (hx24), rgt_nt, by rw [hnd]; omega, (fun _ => rfl), by rw [hnd]; omega, hst.drop [_]⟩
 rw [hc54]
 have hp59 := hc54
 simp only [decide_eq_true_eq, decide_eq_false_iff_not, beq_iff_eq, beq_eq_false_iff_ne, bne_iff_ne, bne_eq_false_iff_eq, Bool.not_eq_true', Bool.not_eq_false', Bool.and_eq_true, Bool.and_eq_false_iff, ne_eq] at hp59
 refine r_z [(73, undef), (74, undef), (75, .bool false), (69, .bool false)] ?_
 refine W_cF ?_
 refine W_skip ?_
 refine W_sr [(.f, 0), (.f, 1)] hst ?_
 refine m_cl #[] (some 80) (c27  hst) ?_
 rintro x25 w1 ⟨G25, hG25, hx25, hst⟩
 obtain ⟨xA25, xc25, rfl, _, _⟩ := id hx25.open
 refine nx hst ?_
 refine s_0 [(0, iN ((nt).kind)), (1, iN ((nt).num)), (2, .slice xA25 ((nt).kids.length) xc25)] [iN ((nt).kind), iN ((nt).num), .slice xA25 ((nt).kids.length) xc25] none hst (fun w1 hst => ?_)
 refine r_nil ?_
 refine W_ret ?_
 refine q_rt [iN ((nt).kind), iN ((nt).num), .slice xA25 ((nt).kids.length) xc25] [(⟨b1, 0, none⟩, iN ((nt).kind)), (⟨b1, 1, none⟩, iN ((nt).num)), (⟨b1, 2, none⟩, .slice xA25 ((nt).kids.length) xc25)] (.agg #[iN ((nt).kind), iN ((nt).num), .slice xA25 ((nt).kids.length) xc25]) (rc_L 0 rfl rfl (rc_L 0 rfl rfl (rc_L 0 rfl rfl rc_nil))) hst ?_
 have hnd := nds_nt
 have hlv : l - 1 = l - (nds (nt) : Int) := by rw [hnd]; omega
 rw [hlv] at hst
 exact ⟨G25, nt, ak1, _, hG25, (hx25), rgt_nt, by rw [hnd]; omega, (fun _ => rfl), by rw [hnd]; omega, hst.drop [_]⟩

theorem c19 {G : GH} {L : LH} {w : World} {sb n c at_ : Nat} {A : Option Addr} {sd l : Int} {pl : Bool} (hl1 : 1 ≤ l) (hl2 : l ≤ 1000) (hat : (at_ : Int) + 2 * l ≤ 5000) (hB : ByS G A n) (hn : n < lim) (hst : St G ((sb, StB A n c at_ sd) :: L) w) :
  Cal Try.prog 19 #[.pointer (some ⟨sb, 0, none⟩), .int .i64 l, .bool pl] w fun x w' => ∃ G' t at' sd', Le G G' ∧ IsPoly G' x t ∧ rgt 0 t ∧ (nds t : Int) ≤ l ∧ (pl = true → plain t = true) ∧ at' ≤ at_ + 2 * nds t ∧ St G' ((sb, StB A n c at' sd') :: L) w' := by
 refine cal_of_W Try.func19 rfl (Nat.le_of_ble_eq_true (by kernel_rfl)) ?_
 refine W_sr [(.f, 0)] hst ?_
 refine m_new (.cells #[iN 0, iN 0, .slice none 0 0] 24) (fun b1 => pN b1 0) (some 6) (fun b => by kernel_rfl) hst (fun b1 w1 hst => ?_)
 refine r_nil ?_
 refine W_sr [(.p, 0), (.f, 1), (.f, 2)] hst ?_
 refine r_y [(.p, 0)] [(8, iN l)] ?_
 refine m_new (.cells #[iN 0] 3) (fun b2 => pN b2 0) (some 7) (fun b => by kernel_rfl) hst (fun b2 w1 hst => ?_)
 refine s_0 [(0, iN l)] [iN l] none hst (fun w1 hst => ?_)
 refine r_nil ?_
 refine W_sr [(.p, 0), (.p, 1), (.f, 2), (.f, 3)] hst ?_
 refine r_y [(.p, 0), (.p, 1)] [(9, pN sb 0), (10, .bool pl)] ?_
 have hst := St.swap (A := [(b2, .cells #[iN l] 3), (b1, .cells #[iN 0, iN 0, .slice none 0 0] 24)]) (B := [(sb, .cells #[.slice A n c, nN at_, .int .u64 sd] 96)]) (C := L) hst
 have hst := St.swap (A := [(sb, .cells #[.slice A n c, nN at_, .int .u64 sd] 96)]) (B := [(b2, .cells #[iN l] 3)]) (C := (b1, .cells #[iN 0, iN 0, .slice none 0 0] 24) :: L) hst
 refine m_cl #[pN sb 0, pN b2 0, iN 0, .bool pl] (some 11) (c61 l.toNat (by omega) hl1 hl2 (Int.le_refl _) (by omega) hat hB hn hst) ?_
 rintro x1 w1 ⟨G1, t, at2, sd2, hG1, hx, hr, hd, hp, ha, hst⟩
 obtain ⟨xA, xc, rfl, _, _⟩ := id hx.open
 have hst := hst.drop [_]
 have hst := St.swap (A := [(sb, StB A n c at2 sd2)]) (B := [(b1, .cells #[iN 0, iN 0, .slice none 0 0] 24)]) (C := L) hst
 have hst : St G1 ((b1, .cells #[iN 0, iN 0, .slice none 0 0] 24) :: (sb, .cells #[.slice A n c, nN at2, .int .u64 sd2] 96) :: L) w1 := hst
 refine nx hst ?_
 refine s_0 [(0, iN t.kind), (1, iN t.num), (2, .slice xA t.kids.length xc)] [iN t.kind, iN t.num, .slice xA t.kids.length xc] none hst (fun w1 hst => ?_)
 refine r_nil ?_
 refine W_ret ?_
 refine q_rt [iN t.kind, iN t.num, .slice xA t.kids.length xc] [(⟨b1, 0, none⟩, iN t.kind), (⟨b1, 1, none⟩, iN t.num), (⟨b1, 2, none⟩, .slice xA t.kids.length xc)] (.agg #[iN t.kind, iN t.num, .slice xA t.kids.length xc]) (rc_L 0 rfl rfl (rc_L 0 rfl rfl (rc_L 0 rfl rfl rc_nil))) hst ?_
 exact ⟨G1, t, at2, sd2, hG1, hx, hr, hd, hp, ha, hst.drop [_]⟩

end Go.Proofs.Ytjgnhhgigickaaa.Wk
/- The plain law behind RankTexts: the program and the reference read a text alike. Conditions: none. -/

namespace Go.Proofs.Ytjgnhhgigickaaa.Wk
open Go Md
/-- what the answers of both have to do with one another -/
def Rel (s : List UInt8) (inner : Bool) (at_ : Nat) (q r : (T × Bool) × Nat) : Prop :=
  q.2 = r.2 ∧ at_ ≤ q.2 ∧ q.2 ≤ s.length ∧
  (q.1.2 = true → r.1.2 = false ∧ r.1.1 = q.1.1 ∧ (q.1.1.kids.length = 0 ↔ q.1.1.kind ≠ 3 ∧ q.1.1.kind ≠ 4) ∧ (inner = false → q.2 = s.length) ∧ (inner = true → s[q.2]? = some 41)) ∧
  (q.1.2 = false → r.1.2 = true ∨ (inner = false → q.2 ≠ s.length) ∧ (inner = true → ¬ s[q.2]? = some 41))
/-- the reference, behind the first part of a type -/
def rcont (f : Nat) (s : List UInt8) (at_ : Nat) (n : Int) (must : Bool) (t : T) : Option ((T × Bool) × Nat) :=
  if must = false ∧ ¬ s[at_]? = some 32 then some ((t, false), at_)
  else if (word [32, 45, 62, 32] s at_).1 = false then some ((t, true), (word [32, 45, 62, 32] s at_).2)
  else (rtyped f s (word [32, 45, 62, 32] s at_).2 n).bind fun p => some ((.mk 3 0 [t, p.1.1], p.1.2), p.2)
def Both (s : List UInt8) (m : Nat) : Prop := ∀ (at_ : Nat) (n : Int) (inner : Bool) (f g : Nat), at_ ≤ s.length → s.length - at_ ≤ m → 0 ≤ n → n ≤ 26 → 3 * (s.length - at_) + 3 ≤ f → 3 * (s.length - at_) + 3 ≤ g →
  ∃ q r, Md.typ f s at_ n inner = some q ∧ rtyped g s at_ n = some r ∧ Rel s inner at_ q r
end Go.Proofs.Ytjgnhhgigickaaa.Wk
/- Walks of the given program's functions: Clone, opened. Printed by tools/w40.py. Conditions: none. -/

namespace Go.Proofs.Ytjgnhhgigickaaa.Wk
open Go Md
set_option maxRecDepth 20000
set_option linter.unusedVariables false
set_option linter.unusedSimpArgs false
attribute [local irreducible] endQ

theorem opened_eq (f : Nat) (t wth : T) (n : Int) : Md.opened (f + 1) t wth n = if t.kind = 1 ∧ t.num = n then Md.opened f wth wth (-1) else (t.kids.mapM fun u => Md.opened f u wth (if t.kind = 4 ∧ n ≥ 0 then w64 (n + 1) else n)).bind fun ks' => some (.mk t.kind t.num ks') := by cases t; rfl
theorem in3 (vs r : List Value) {x0 x1 x2 a b c : Value} {n : Nat} (h : vs.length = n) : ([(n, a), (n + 1, b), (n + 2, c)].all fun (p : Nat × Value) => decide (p.1 < (vs ++ x0 :: x1 :: x2 :: r).length) && !(decide (0 ≤ p.1) && decide (p.1 < 0))) = true := by
 subst h; simp
theorem at0 (vs r : List Value) {x0 x1 x2 : Value} {n : Nat} (h : vs.length = n) : (List.toArray (vs ++ x0 :: x1 :: x2 :: r))[n]? = some x0 := by subst h; simp
theorem at1 (vs r : List Value) {x0 x1 x2 : Value} {n : Nat} (h : vs.length = n) : (List.toArray (vs ++ x0 :: x1 :: x2 :: r))[n + 1]? = some x1 := by
 subst h; simp only [List.getElem?_toArray]; rw [List.getElem?_append_right (by omega), show vs.length + 1 - vs.length = 1 by omega]; rfl
theorem at2 (vs r : List Value) {x0 x1 x2 : Value} {n : Nat} (h : vs.length = n) : (List.toArray (vs ++ x0 :: x1 :: x2 :: r))[n + 2]? = some x2 := by
 subst h; simp only [List.getElem?_toArray]; rw [List.getElem?_append_right (by omega), show vs.length + 2 - vs.length = 2 by omega]; rfl

theorem c113 {G : GH} {L : LH} {w : World} {A : Option Addr} {c : Nat} {ks : List T} (hk : IsPolys G A ks) (hl : ks.length < lim) (hst : St G L w) : Cal Try.prog 113 #[.slice A ks.length c] w fun x w' => ∃ A' c' F, x = .slice A' ks.length c' ∧ ks.length ≤ c' ∧ St G (F ++ L) w' ∧
  ((ks = [] ∧ F = []) ∨ ∃ b cs, A' = some ⟨b, 0, none⟩ ∧ F = [(b, .cells (List.toArray cs) 24 (0, 0))] ∧ PoH G cs ks) := by
 have hlim : lim = 1099511627776 := rfl
 obtain _ | ⟨t, ts⟩ := ks
 ·obtain _ | a := A
  ·skip
   refine cal_of_W Try.func113 rfl (Nat.le_of_ble_eq_true (by kernel_rfl)) ?_
   refine W_sr [(.p, 0)] hst ?_
   refine r_z [(2, .slice none 0 0)] ?_
   refine W_seq ?_
   refine W_sr [(.p, 0), (.p, 1)] hst ?_
   refine r_z [(3, .slice none 0 c), (4, .bool true)] ?_
   refine W_cT ?_
   refine W_sr [(.p, 0)] hst ?_
   refine r_z [(2, .slice none 0 0)] ?_
   refine W_ret ?_
   refine q_rt [] [] (.slice none 0 0) rc_nil hst ?_
   exact ⟨_, _, [], rfl, Nat.zero_le _, hst, .inl ⟨rfl, rfl⟩⟩
  refine cal_of_W Try.func113 rfl (Nat.le_of_ble_eq_true (by kernel_rfl)) ?_
  refine W_sr [(.p, 0)] hst ?_
  refine r_z [(2, .slice none 0 0)] ?_
  refine W_seq ?_
  refine W_sr [(.p, 0), (.p, 1)] hst ?_
  refine r_z [(3, .slice ((some a)) 0 c), (4, .bool false)] ?_
  refine W_cF ?_
  refine W_skip ?_
  refine W_sr [(.f, 0), (.p, 1), (.f, 2), (.p, 3)] hst ?_
  refine m_new (.cells #[] 24) (fun b1 => .slice (some ⟨b1, 0, none⟩) 0 0) (some 5) (fun b => by kernel_rfl) hst (fun b1 w1 hst => ?_)
  refine r_y [(.p, 1)] [(6, .slice ((some a)) 0 c)] ?_
  refine m_pv (.slice (some ⟨b1, 0, none⟩) 0 0) (some 7) (by kernel_rfl) hst ?_
  refine r_z [(2, .slice (some ⟨b1, 0, none⟩) 0 0)] ?_
  refine W_ret ?_
  refine q_rt [] [] (.slice (some ⟨b1, 0, none⟩) 0 0) rc_nil hst ?_
  exact ⟨_, _, [], rfl, Nat.zero_le _, hst.drop [_], .inl ⟨rfl, rfl⟩⟩
 have hstk := hst
 obtain ⟨eb, eo, _, _, rfl, _⟩ := hk.elem (i := 0) (t := t) rfl
 have hst := hstk; clear hstk
 obtain ⟨news, hnl, hnP, hnj, hno⟩ := hk.src
 refine cal_of_W Try.func113 rfl (Nat.le_of_ble_eq_true (by kernel_rfl)) ?_
 refine W_sr [(.p, 0)] hst ?_
 refine r_z [(2, .slice none 0 0)] ?_
 refine W_seq ?_
 refine W_sr [(.p, 0), (.p, 1)] hst ?_
 refine r_z [(3, .slice (some ⟨eb, eo, none⟩) ((t :: ts).length) c), (4, .bool false)] ?_
 refine W_cF ?_
 refine W_skip ?_
 refine W_sr [(.f, 0), (.p, 1), (.f, 2), (.p, 3)] hst ?_
 refine m_new (.cells #[] 24) (fun b1 => .slice (some ⟨b1, 0, none⟩) 0 0) (some 5) (fun b => by kernel_rfl) hst (fun b1 w1 hst => ?_)
 refine r_y [(.p, 1)] [(6, .slice (some ⟨eb, eo, none⟩) ((t :: ts).length) c)] ?_
 refine m_append (v := .slice (some ⟨b1, 0, none⟩) 0 0) (sb := eb) (so := eo) (m := (t :: ts).length) (mc := c) el22 [] (Lp := [(b1, .cells (List.toArray []) 24 (0, 0))]) (B := L) (n := 0) (cs := []) news (d := (some 7)) (show opAt _ _ _ = some (.call { callee := .builtin .append, args := #[(.tmp 5), (.tmp 6)], argTypes := #[22, 22] }, _) by kernel_rfl) (by kernel_rfl) (by kernel_rfl) ⟨rfl, .inr ⟨b1, 0, [], rfl, rfl, Nat.le_refl _, rfl, rfl⟩⟩ hst hnl (fun j u hu => (hnj j u hu).cell hst.imm) hno (Nat.succ_pos _) (by omega) (by omega) (fun v2 Lp2 w1 hos hst => ?_)
 obtain ⟨hcl, ⟨_, h0, _⟩ | ⟨nb, nc, arr, rfl, rfl, hnc, harr, htk⟩⟩ := hos
 ·simp at h0
 refine r_z [(2, .slice (some ⟨nb, 0, none⟩) (0 + (t :: ts).length) nc)] ?_
 refine W_ret ?_
 refine q_rt [] [] (.slice (some ⟨nb, 0, none⟩) (0 + (t :: ts).length) nc) rc_nil hst ?_
 refine ⟨some ⟨nb, 0, none⟩, nc, _, by rw [Nat.zero_add], by omega, hst, .inr ⟨nb, arr, rfl, rfl, ?_⟩⟩
 have := hnP (arr.drop ((0 + (t :: ts).length) * 3))
 rw [List.nil_append] at htk; rw [← htk, List.take_append_drop] at this; exact this

theorem c77 : ∀ (f : Nat) {G : GH} {L : LH} {w : World} {v vw : Value} {t wth r : T} {n : Int}, IsPoly G v t → IsPoly G vw wth → T.sz t < lim → T.sz wth < lim → Md.opened f t wth n = some r → St G L w → Cal Try.prog 77 #[v, vw, .int .i64 n] w fun x w' => ∃ F, OwnP x r F ∧ St G (F ++ L) w' := by
 intro f
 induction f with
 | zero => intro G L w v vw t wth r n hv hvw hz hzw h; cases h
 | succ f ih =>
 intro G L w v vw t wth r n hv hvw hz hzw h hst
 have hlim : lim = 1099511627776 := rfl
 have hln := T.len_le t
 rw [opened_eq] at h
 obtain ⟨tA, tc, rfl, htc, htk⟩ := id hv.open
 obtain ⟨wthA, wthc, rfl, hwthc, hwthk⟩ := id hvw.open
 refine cal_of_W Try.func77 rfl (Nat.le_of_ble_eq_true (by kernel_rfl)) ?_
 refine W_sr [(.f, 0), (.f, 1), (.f, 2)] hst ?_
 refine m_new (cT t tA tc) (fun b1 => pN b1 0) (some 3) (fun b => by kernel_rfl) hst (fun b1 w1 hst => ?_)
 refine m_new (cT wth wthA wthc) (fun b2 => pN b2 0) (some 4) (fun b => by kernel_rfl) hst (fun b2 w1 hst => ?_)
 refine m_new (.cells #[iN 0, iN 0, .slice none 0 0] 24) (fun b3 => pN b3 0) (some 6) (fun b => by kernel_rfl) hst (fun b3 w1 hst => ?_)
 refine r_nil ?_
 refine W_seqI (fun ρ D w => ∃ (nj : Int), EqS ρ [(2, iN nj), (3, pN b1 0), (4, pN b2 0), (6, pN b3 0)] ∧ D = [] ∧ St G ((b3, .cells #[iN 0, iN 0, .slice none 0 0] 24) :: (b2, cT wth wthA wthc) :: (b1, cT t tA tc) :: L) w ∧ (nj = if t.kind = 4 ∧ n ≥ 0 then w64 (n + 1) else n) ∧ (¬ (t.kind = 1 ∧ t.num = n))) ?_ ?_
 ·skip
  refine W_block ?_
  refine W_sr [(.p, 0), (.l, 1), (.p, 2), (.p, 3), (.p, 4), (.l, 5), (.p, 6), (.p, 7), (.p, 8), (.p, 9)] hst ?_
  refine r_s [1] [(.p, 0), (.l, 1), (.p, 2), (.p, 3)] [(10, pN b1 0), (11, iN t.kind), (12, .bool (t.kind == 1)), (13, .bool (t.kind == 1))] (rc_l 2 0 rfl rfl rc_nil) ?_
  rcases Bool.eq_false_or_eq_true (t.kind == 1) with hc4 | hc4
  ·rw [hc4]
   have hp5 := hc4
   simp only [decide_eq_true_eq, decide_eq_false_iff_not, beq_iff_eq, beq_eq_false_iff_ne, bne_iff_ne, bne_eq_false_iff_eq, Bool.not_eq_true', Bool.not_eq_false', Bool.and_eq_true, Bool.and_eq_false_iff, ne_eq] at hp5
   refine r_x [1] [(14, pN b1 1), (15, iN t.num), (16, iN n), (17, .bool (t.num == n)), (18, .bool (t.num == n)), (9, .bool (t.num == n))] (rc_l 2 1 rfl rfl rc_nil) ?_
   refine W_cd (b := t.num == n) (fun hc6 => ?_) (fun hc6 => ?_)
   ·skip
    have hp7 := hc6
    simp only [decide_eq_true_eq, decide_eq_false_iff_not, beq_iff_eq, beq_eq_false_iff_ne, bne_iff_ne, bne_eq_false_iff_eq, Bool.not_eq_true', Bool.not_eq_false', Bool.and_eq_true, Bool.and_eq_false_iff, ne_eq] at hp7
    rw [if_pos ⟨by assumption, by assumption⟩] at h
    refine W_sr [(.l, 0), (.l, 1), (.f, 2), (.f, 3)] hst ?_
    refine r_s [3, 3] [(.l, 0), (.l, 1)] [(19, (aT wth wthA wthc)), (20, (aT wth wthA wthc))] (rc_l 1 0 rfl rfl (rc_l 1 1 rfl rfl (rc_l 1 2 rfl rfl (rc_l 1 0 rfl rfl (rc_l 1 1 rfl rfl (rc_l 1 2 rfl rfl rc_nil)))))) ?_
    refine m_cl #[(aT wth wthA wthc), (aT wth wthA wthc), iN (-1)] (some 21) (ih hvw hvw hzw hzw h hst) ?_
    rintro x0 w1 ⟨Fr, hxo, hst⟩
    have hst := St.swap (A := Fr) (B := [(b3, .cells #[iN 0, iN 0, .slice none 0 0] 24), (b2, cT wth wthA wthc), (b1, cT t tA tc)]) (C := L) (by simpa [List.append_assoc] using hst)
    have hst : St G ((b3, .cells #[iN 0, iN 0, .slice none 0 0] 24) :: (b2, cT wth wthA wthc) :: (b1, cT t tA tc) :: (Fr ++ L)) w1 := by simpa [List.append_assoc] using hst
    obtain ⟨xA, xc, rfl⟩ := hxo.shape
    refine nx hst ?_
    refine s_0 [(0, iN r.kind), (1, iN r.num), (2, .slice xA r.kids.length xc)] [iN r.kind, iN r.num, .slice xA r.kids.length xc] none hst (fun w1 hst => ?_)
    refine r_nil ?_
    refine W_ret ?_
    refine q_rt [iN r.kind, iN r.num, .slice xA r.kids.length xc] [(⟨b3, 0, none⟩, iN r.kind), (⟨b3, 1, none⟩, iN r.num), (⟨b3, 2, none⟩, .slice xA r.kids.length xc)] (.agg #[iN r.kind, iN r.num, .slice xA r.kids.length xc]) (rc_L 0 rfl rfl (rc_L 0 rfl rfl (rc_L 0 rfl rfl rc_nil))) hst ?_
    exact ⟨Fr, hxo, hst.drop [_, _, _]⟩
   have hp8 := hc6
   simp only [decide_eq_true_eq, decide_eq_false_iff_not, beq_iff_eq, beq_eq_false_iff_ne, bne_iff_ne, bne_eq_false_iff_eq, Bool.not_eq_true', Bool.not_eq_false', Bool.and_eq_true, Bool.and_eq_false_iff, ne_eq] at hp8
   refine W_sr [(.p, 0), (.l, 1), (.p, 2), (.p, 3), (.p, 4), (.p, 5), (.p, 6), (.p, 7)] hst ?_
   refine r_s [1] [(.p, 0), (.l, 1), (.p, 2), (.p, 3)] [(23, pN b1 0), (24, iN t.kind), (25, .bool (t.kind == 4)), (26, .bool (t.kind == 4))] (rc_l 2 0 rfl rfl rc_nil) ?_
   rcases Bool.eq_false_or_eq_true (t.kind == 4) with hc9 | hc9
   ·rw [hc9]
    have hp10 := hc9
    simp only [decide_eq_true_eq, decide_eq_false_iff_not, beq_iff_eq, beq_eq_false_iff_ne, bne_iff_ne, bne_eq_false_iff_eq, Bool.not_eq_true', Bool.not_eq_false', Bool.and_eq_true, Bool.and_eq_false_iff, ne_eq] at hp10
    refine r_z [(27, iN n), (28, .bool (decide (n ≥ 0))), (29, .bool (decide (n ≥ 0))), (22, .bool (decide (n ≥ 0)))] ?_
    refine W_cd (b := decide (n ≥ 0)) (fun hc11 => ?_) (fun hc11 => ?_)
    ·skip
     have hp12 := hc11
     simp only [decide_eq_true_eq, decide_eq_false_iff_not, beq_iff_eq, beq_eq_false_iff_ne, bne_iff_ne, bne_eq_false_iff_eq, Bool.not_eq_true', Bool.not_eq_false', Bool.and_eq_true, Bool.and_eq_false_iff, ne_eq] at hp12
     refine W_rg [(.p, 0), (.p, 1), (.p, 2)] hst ?_
     refine r_z [(30, iN n), (31, iN (IntKind.wrap .i64 (n + 1))), (2, iN (IntKind.wrap .i64 (n + 1)))] ?_
     exact ⟨IntKind.wrap .i64 (n + 1), ⟨by kernel_rfl, by kernel_rfl, by kernel_rfl, by kernel_rfl, trivial⟩, rfl, hst, (by rw [if_pos (by omega)] <;> rfl), (by omega)⟩
    have hp13 := hc11
    simp only [decide_eq_true_eq, decide_eq_false_iff_not, beq_iff_eq, beq_eq_false_iff_ne, bne_iff_ne, bne_eq_false_iff_eq, Bool.not_eq_true', Bool.not_eq_false', Bool.and_eq_true, Bool.and_eq_false_iff, ne_eq] at hp13
    refine W_skip ?_
    exact ⟨n, ⟨by kernel_rfl, by kernel_rfl, by kernel_rfl, by kernel_rfl, trivial⟩, rfl, hst, (by first | rw [if_pos (by omega)] <;> rfl | rw [if_neg (by omega)]), (by omega)⟩
   rw [hc9]
   have hp14 := hc9
   simp only [decide_eq_true_eq, decide_eq_false_iff_not, beq_iff_eq, beq_eq_false_iff_ne, bne_iff_ne, bne_eq_false_iff_eq, Bool.not_eq_true', Bool.not_eq_false', Bool.and_eq_true, Bool.and_eq_false_iff, ne_eq] at hp14
   refine r_z [(27, undef), (28, undef), (29, .bool false), (22, .bool false)] ?_
   refine W_cF ?_
   refine W_skip ?_
   exact ⟨n, ⟨by kernel_rfl, by kernel_rfl, by kernel_rfl, by kernel_rfl, trivial⟩, rfl, hst, (by first | rw [if_pos (by omega)] <;> rfl | rw [if_neg (by omega)]), (by omega)⟩
  rw [hc4]
  have hp15 := hc4
  simp only [decide_eq_true_eq, decide_eq_false_iff_not, beq_iff_eq, beq_eq_false_iff_ne, bne_iff_ne, bne_eq_false_iff_eq, Bool.not_eq_true', Bool.not_eq_false', Bool.and_eq_true, Bool.and_eq_false_iff, ne_eq] at hp15
  refine r_z [(14, undef), (15, undef), (16, undef), (17, undef), (18, .bool false), (9, .bool false)] ?_
  refine W_cF ?_
  refine W_sr [(.p, 0), (.l, 1), (.p, 2), (.p, 3), (.p, 4), (.p, 5), (.p, 6), (.p, 7)] hst ?_
  refine r_s [1] [(.p, 0), (.l, 1), (.p, 2), (.p, 3)] [(23, pN b1 0), (24, iN t.kind), (25, .bool (t.kind == 4)), (26, .bool (t.kind == 4))] (rc_l 2 0 rfl rfl rc_nil) ?_
  rcases Bool.eq_false_or_eq_true (t.kind == 4) with hc16 | hc16
  ·rw [hc16]
   have hp17 := hc16
   simp only [decide_eq_true_eq, decide_eq_false_iff_not, beq_iff_eq, beq_eq_false_iff_ne, bne_iff_ne, bne_eq_false_iff_eq, Bool.not_eq_true', Bool.not_eq_false', Bool.and_eq_true, Bool.and_eq_false_iff, ne_eq] at hp17
   refine r_z [(27, iN n), (28, .bool (decide (n ≥ 0))), (29, .bool (decide (n ≥ 0))), (22, .bool (decide (n ≥ 0)))] ?_
   refine W_cd (b := decide (n ≥ 0)) (fun hc18 => ?_) (fun hc18 => ?_)
   ·skip
    have hp19 := hc18
    simp only [decide_eq_true_eq, decide_eq_false_iff_not, beq_iff_eq, beq_eq_false_iff_ne, bne_iff_ne, bne_eq_false_iff_eq, Bool.not_eq_true', Bool.not_eq_false', Bool.and_eq_true, Bool.and_eq_false_iff, ne_eq] at hp19
    refine W_rg [(.p, 0), (.p, 1), (.p, 2)] hst ?_
    refine r_z [(30, iN n), (31, iN (IntKind.wrap .i64 (n + 1))), (2, iN (IntKind.wrap .i64 (n + 1)))] ?_
    exact ⟨IntKind.wrap .i64 (n + 1), ⟨by kernel_rfl, by kernel_rfl, by kernel_rfl, by kernel_rfl, trivial⟩, rfl, hst, (by rw [if_pos (by omega)] <;> rfl), (by omega)⟩
   have hp20 := hc18
   simp only [decide_eq_true_eq, decide_eq_false_iff_not, beq_iff_eq, beq_eq_false_iff_ne, bne_iff_ne, bne_eq_false_iff_eq, Bool.not_eq_true', Bool.not_eq_false', Bool.and_eq_true, Bool.and_eq_false_iff, ne_eq] at hp20
   refine W_skip ?_
   exact ⟨n, ⟨by kernel_rfl, by kernel_rfl, by kernel_rfl, by kernel_rfl, trivial⟩, rfl, hst, (by first | rw [if_pos (by omega)] <;> rfl | rw [if_neg (by omega)]), (by omega)⟩
  rw [hc16]
  have hp21 := hc16
  simp only [decide_eq_true_eq, decide_eq_false_iff_not, beq_iff_eq, beq_eq_false_iff_ne, bne_iff_ne, bne_eq_false_iff_eq, Bool.not_eq_true', Bool.not_eq_false', Bool.and_eq_true, Bool.and_eq_false_iff, ne_eq] at hp21
  refine r_z [(27, undef), (28, undef), (29, .bool false), (22, .bool false)] ?_
  refine W_cF ?_
  refine W_skip ?_
  exact ⟨n, ⟨by kernel_rfl, by kernel_rfl, by kernel_rfl, by kernel_rfl, trivial⟩, rfl, hst, (by first | rw [if_pos (by omega)] <;> rfl | rw [if_neg (by omega)]), (by omega)⟩
 clear hst; rintro ρ D w1 ⟨nj, hE22, rfl, hst, hnj, hn1⟩
 refine W_env hE22 ?_
 refine W_seq ?_
 rw [if_neg hn1, ← hnj] at h
 obtain ⟨us, hus, h⟩ := Option.bind_eq_some_iff.1 h; simp only [Option.some.injEq] at h; subst h
 obtain ⟨hul, hug⟩ := mapM_get hus
 refine W_rg [(.p, 0), (.l, 1), (.f, 2), (.p, 3), (.f, 4)] hst ?_
 refine r_s [1] [(.p, 0), (.l, 1)] [(32, pN b1 2), (33, .slice tA t.kids.length tc)] (rc_l 2 2 rfl rfl rc_nil) ?_
 refine m_cl #[.slice tA t.kids.length tc] (some 34) (c113 htk (by omega) hst) ?_
 rintro _ w1 ⟨nA, nc, F, rfl, hnc, hst, ⟨hk0, rfl⟩ | ⟨cb, cs, rfl, rfl, hpc⟩⟩
 ·skip
  have hst : St G ((b3, .cells #[iN 0, iN 0, .slice none 0 0] 24) :: (b2, cT wth wthA wthc) :: (b1, cT t tA tc) :: L) w1 := hst
  refine nx hst ?_
  refine r_y [(.p, 3)] [(35, pN b1 2)] ?_
  refine s_2 [(2, .slice nA t.kids.length nc)] [iN t.kind, iN t.num, .slice nA t.kids.length nc] none hst (fun w1 hst => ?_)
  refine r_nil ?_
  refine W_seq ?_
  refine W_sr [(.p, 0), (.l, 1), (.p, 2), (.p, 3)] hst ?_
  refine r_x [1] [(36, pN b1 2), (37, .slice nA t.kids.length nc), (38, nN t.kids.length), (39, iN 0)] (rc_l 2 2 rfl rfl rc_nil) ?_
  refine W_block ?_
  refine W_loop (fun m ρ D w => ∃ (u0 : Unit), EqS ρ [(3, pN b1 0), (4, pN b2 0), (6, pN b3 0), (37, .slice nA t.kids.length nc), (38, iN (((t.kids.length : Nat) : Int))), (39, iN 0)] ∧ D = [] ∧ St G ((b3, .cells #[iN 0, iN 0, .slice none 0 0] 24) :: (b2, cT wth wthA wthc) :: (b1, cT t nA nc) :: L) w ∧ 0 = m) (0) ⟨(), ⟨by kernel_rfl, by kernel_rfl, by kernel_rfl, by kernel_rfl, by kernel_rfl, by kernel_rfl, trivial⟩, rfl, hst, rfl⟩ ?_
  clear hst; rintro m23 ρ D w1 ⟨u0, hE24, rfl, hst, hm25⟩
  refine W_env hE24 ?_
  refine W_sr [(.p, 0)] hst ?_
  refine r_z [(40, .bool (decide ((0 : Int) < (((t.kids.length : Nat) : Int)))))] ?_
  refine W_seq ?_
  have hd26 : (decide ((0 : Int) < (((t.kids.length : Nat) : Int)))) = false := (by rw [hk0]; rfl)
  refine W_condF (by refine Eq.trans (b := .bool (decide ((0 : Int) < (((t.kids.length : Nat) : Int))))) ?_ (congrArg Value.bool hd26); kernel_rfl) ?_
  refine W_exit ?_
  refine W_sr [(.l, 0), (.f, 1)] hst ?_
  refine r_s [3] [(.l, 0)] [(53, (aT t nA nc))] (rc_l 2 0 rfl rfl (rc_l 2 1 rfl rfl (rc_l 2 2 rfl rfl rc_nil))) ?_
  refine s_0 [(0, iN t.kind), (1, iN t.num), (2, .slice nA t.kids.length nc)] [iN t.kind, iN t.num, .slice nA t.kids.length nc] none hst (fun w1 hst => ?_)
  refine r_nil ?_
  refine W_ret ?_
  refine q_rt [iN t.kind, iN t.num, .slice nA t.kids.length nc] [(⟨b3, 0, none⟩, iN t.kind), (⟨b3, 1, none⟩, iN t.num), (⟨b3, 2, none⟩, .slice nA t.kids.length nc)] (.agg #[iN t.kind, iN t.num, .slice nA t.kids.length nc]) (rc_L 0 rfl rfl (rc_L 0 rfl rfl (rc_L 0 rfl rfl rc_nil))) hst ?_
  have hu0 : us = [] := by rw [hk0] at hul; simpa using hul
  subst hu0; refine ⟨[], ?_, hst.drop [_, _, _]⟩
  unfold OwnP; exact .inl ⟨rfl, rfl, nA, nc, by rw [hk0]; rfl⟩
 have hst : St G ((cb, .cells (List.toArray cs) 24 (0, 0)) :: (b3, .cells #[iN 0, iN 0, .slice none 0 0] 24) :: (b2, cT wth wthA wthc) :: (b1, cT t tA tc) :: L) w1 := hst
 refine nx hst ?_
 refine r_y [(.p, 3)] [(35, pN b1 2)] ?_
 refine m_st ((cb, .cells (List.toArray cs) 24 (0, 0)) :: (b3, .cells #[iN 0, iN 0, .slice none 0 0] 24) :: (b2, cT wth wthA wthc) :: (b1, .cells #[iN t.kind, iN t.num, .slice (some ⟨cb, 0, none⟩) t.kids.length nc] 24) :: L) 3 [(2, .slice (some ⟨cb, 0, none⟩) t.kids.length nc)] [iN t.kind, iN t.num, .slice (some ⟨cb, 0, none⟩) t.kids.length nc] none hst (fun w1 hst => ?_)
 refine r_nil ?_
 refine W_seq ?_
 refine W_sr [(.p, 0), (.l, 1), (.p, 2), (.p, 3)] hst ?_
 refine r_x [1] [(36, pN b1 2), (37, .slice (some ⟨cb, 0, none⟩) t.kids.length nc), (38, nN t.kids.length), (39, iN 0)] (rc_l 3 2 rfl rfl rc_nil) ?_
 refine W_block ?_
 have hst := St.swap (A := [(cb, .cells (List.toArray cs) 24 (0, 0))]) (B := [(b3, .cells #[iN 0, iN 0, .slice none 0 0] 24), (b2, cT wth wthA wthc), (b1, .cells #[iN t.kind, iN t.num, .slice (some ⟨cb, 0, none⟩) t.kids.length nc] 24)]) hst
 refine W_loop (fun m ρ D w => ∃ (k : Nat) (vs : List Value) (us2 : List Value) (Fk : LH), EqS ρ [(2, iN nj), (3, pN b1 0), (4, pN b2 0), (6, pN b3 0), (37, .slice (some ⟨cb, 0, none⟩) t.kids.length nc), (38, iN (((t.kids.length : Nat) : Int))), (39, iN (((k : Nat) : Int)))] ∧ D = [] ∧ St G ((b3, .cells #[iN 0, iN 0, .slice none 0 0] 24) :: (b2, cT wth wthA wthc) :: (b1, .cells #[iN t.kind, iN t.num, .slice (some ⟨cb, 0, none⟩) t.kids.length nc] 24) :: (cb, .cells (List.toArray (vs ++ us2)) 24 (0, 0)) :: (Fk ++ L)) w ∧ (vs.length = 0 + k * 3) ∧ (PoH G us2 (t.kids.drop k)) ∧ (OwnPs vs (us.take k) Fk) ∧ (k ≤ t.kids.length) ∧ t.kids.length - k = m) (t.kids.length - 0) ⟨0, [], cs, [], ⟨by kernel_rfl, by kernel_rfl, by kernel_rfl, by kernel_rfl, by kernel_rfl, by kernel_rfl, by kernel_rfl, trivial⟩, rfl, hst, rfl, hpc, (by unfold OwnPs; rfl), Nat.zero_le _, rfl⟩ ?_
 clear hst; rintro m27 ρ D w1 ⟨k, vs, us2, Fk, hE28, rfl, hst, hvl, hpo, how, hkk, hm29⟩
 refine W_env hE28 ?_
 refine W_sr [(.p, 0)] hst ?_
 refine r_z [(40, .bool (decide ((((k : Nat) : Int)) < (((t.kids.length : Nat) : Int)))))] ?_
 refine W_seq ?_
 refine W_cd (b := decide ((((k : Nat) : Int)) < (((t.kids.length : Nat) : Int)))) (fun hc30 => ?_) (fun hc30 => ?_)
 ·skip
  have hlt : k < t.kids.length := by have := of_decide_eq_true hc30; omega
  obtain ⟨q, hq⟩ := get_of_lt hlt
  have hqz := T.sz_kid hq
  obtain ⟨qu, hqu, hqo⟩ := hug k q hq
  have hstk := hst
  rw [drop_cons hq] at hpo
  obtain ⟨qA, qc, ur, rfl, hqp, hpr⟩ := hpo.open
  have hst := hstk; clear hstk
  refine W_skip ?_
  refine W_seq ?_
  refine W_block ?_
  refine W_sr [(.p, 0), (.p, 1), (.l, 2), (.f, 3), (.p, 4), (.f, 5)] hst ?_
  refine r_y [(.p, 0)] [(41, nN k)] ?_
  refine m_idx (sz := 3) (b := cb) (off := 0) (n := t.kids.length) (c := nc) (k := k) (some 42) (show opAt _ _ _ = some (.indexAddr 22 (.tmp 37) (.tmp 39), _) by kernel_rfl) (by kernel_rfl) (by kernel_rfl) Try.underlying22 sz24 hlt ?_
  refine r_s [3] [(.l, 2)] [(43, (aT q qA qc))] (rc_L 3 rfl (at0 vs ur hvl) (rc_L 3 rfl (at1 vs ur hvl) (rc_L 3 rfl (at2 vs ur hvl) rc_nil))) ?_
  refine m_new (.cells #[iN 0, iN 0, .slice none 0 0] 24) (fun b31 => pN b31 0) (some 8) (fun b => by kernel_rfl) hst (fun b31 w1 hst => ?_)
  refine r_y [(.p, 4)] [(7, nN k)] ?_
  refine s_0 [(0, iN q.kind), (1, iN q.num), (2, .slice qA q.kids.length qc)] [iN q.kind, iN q.num, .slice qA q.kids.length qc] none hst (fun w1 hst => ?_)
  refine r_nil ?_
  refine W_regd [(.p, 0), (.l, 1), (.p, 2), (.l, 3), (.l, 4), (.p, 5), (.e, 6), (.p, 7), (.f, 8)] (SS G ([(b31, cT q qA qc), (b2, cT wth wthA wthc), (b1, .cells #[iN t.kind, iN t.num, .slice (some ⟨cb, 0, none⟩) t.kids.length nc] 24)])) mixed (by kernel_rfl) (by kernel_rfl) (by kernel_rfl) (by kernel_rfl) (fun w1 hw1 => ?_)
  have hst := hst.heap hw1; refine ⟨hst.ss' (Le.refl _) (fun p hp => by simp only [List.mem_cons, List.not_mem_nil, or_false] at hp; rcases hp with rfl | rfl | rfl <;> simp), ?_⟩
  refine r_s [1, 3, 3] [(.p, 0), (.l, 1), (.p, 2), (.l, 3), (.l, 4), (.p, 5)] [(44, pN b1 2), (45, .slice (some ⟨cb, 0, none⟩) t.kids.length nc), (46, nN k), (47, (aT q qA qc)), (48, (aT wth wthA wthc)), (49, iN nj)] (rc_l 2 2 rfl rfl (rc_l 0 0 rfl rfl (rc_l 0 1 rfl rfl (rc_l 0 2 rfl rfl (rc_l 1 0 rfl rfl (rc_l 1 1 rfl rfl (rc_l 1 2 rfl rfl rc_nil))))))) ?_
  refine m_callE #[(aT q qA qc), (aT wth wthA wthc), iN nj] (some 50) (by kernel_rfl) (ih (t := q) (wth := wth) hqp hvw (by omega) hzw hqo hst) ?_
  rintro x0 w1 ⟨Fq, hxo, hst⟩
  have hst := St.swap (A := Fq) (B := [(b31, cT q qA qc), (b3, .cells #[iN 0, iN 0, .slice none 0 0] 24), (b2, cT wth wthA wthc), (b1, .cells #[iN t.kind, iN t.num, .slice (some ⟨cb, 0, none⟩) t.kids.length nc] 24), (cb, .cells (List.toArray (vs ++ iN q.kind :: iN q.num :: .slice qA q.kids.length qc :: ur)) 24 (0, 0))]) (C := (Fk ++ L)) (by simpa [List.append_assoc] using hst)
  have hst := St.swap (A := Fq) (B := [(b31, cT q qA qc), (b3, .cells #[iN 0, iN 0, .slice none 0 0] 24), (b2, cT wth wthA wthc), (b1, .cells #[iN t.kind, iN t.num, .slice (some ⟨cb, 0, none⟩) t.kids.length nc] 24), (cb, .cells (List.toArray (vs ++ iN q.kind :: iN q.num :: .slice qA q.kids.length qc :: ur)) 24 (0, 0))] ++ Fk) (C := L) (by have h2 := St.swap (A := [(b31, cT q qA qc), (b3, .cells #[iN 0, iN 0, .slice none 0 0] 24), (b2, cT wth wthA wthc), (b1, .cells #[iN t.kind, iN t.num, .slice (some ⟨cb, 0, none⟩) t.kids.length nc] 24), (cb, .cells (List.toArray (vs ++ iN q.kind :: iN q.num :: .slice qA q.kids.length qc :: ur)) 24 (0, 0))]) (B := Fq) (C := Fk ++ L) hst; simpa [List.append_assoc] using h2)
  have hst : St G ((b31, cT q qA qc) :: (b3, .cells #[iN 0, iN 0, .slice none 0 0] 24) :: (b2, cT wth wthA wthc) :: (b1, .cells #[iN t.kind, iN t.num, .slice (some ⟨cb, 0, none⟩) t.kids.length nc] 24) :: (cb, .cells (List.toArray (vs ++ iN q.kind :: iN q.num :: .slice qA q.kids.length qc :: ur)) 24 (0, 0)) :: ((Fk ++ Fq) ++ L)) w1 := by simpa [List.append_assoc] using hst
  obtain ⟨xA, xc, rfl⟩ := hxo.shape
  refine ⟨hst.ss' (Le.refl _) (fun p hp => by simp only [List.mem_cons, List.not_mem_nil, or_false] at hp; rcases hp with rfl | rfl | rfl <;> simp), ?_⟩
  refine m_idx (sz := 3) (b := cb) (off := 0) (n := t.kids.length) (c := nc) (k := k) (some 51) (show opAt _ _ _ = some (.indexAddr 22 (.tmp 45) (.tmp 46), _) by kernel_rfl) (by kernel_rfl) (by kernel_rfl) Try.underlying22 sz24 hlt ?_
  refine m_store (L' := (b31, cT q qA qc) :: (b3, .cells #[iN 0, iN 0, .slice none 0 0] 24) :: (b2, cT wth wthA wthc) :: (b1, .cells #[iN t.kind, iN t.num, .slice (some ⟨cb, 0, none⟩) t.kids.length nc] 24) :: (cb, .cells (List.toArray ((vs ++ [iN qu.kind, iN qu.num, .slice xA qu.kids.length xc]) ++ ur)) 24 (0, 0)) :: ((Fk ++ Fq) ++ L)) 4 [(0 + k * 3, iN qu.kind), (0 + k * 3 + 1, iN qu.num), (0 + k * 3 + 2, .slice xA qu.kids.length xc)] ((vs ++ [iN qu.kind, iN qu.num, .slice xA qu.kids.length xc]) ++ ur) none (by kernel_rfl) hst rfl (in3 vs ur hvl) (wr3 vs hvl) rfl (fun w1 hst => ?_)
  refine r_nil ?_
  refine W_rg [(.p, 0), (.p, 1)] hst ?_
  refine r_z [(52, iN (IntKind.wrap .i64 ((((k : Nat) : Int)) + 1))), (39, iN (IntKind.wrap .i64 ((((k : Nat) : Int)) + 1)))] ?_
  exact ⟨_, (by omega), k + 1, vs ++ [iN qu.kind, iN qu.num, .slice xA qu.kids.length xc], ur, Fk ++ Fq, ⟨by kernel_rfl, by kernel_rfl, by kernel_rfl, by kernel_rfl, by kernel_rfl, by kernel_rfl, (by rw [← wrap_succ (k := k) (by omega)]; kernel_rfl), trivial⟩, rfl, (by simpa [List.append_assoc] using hst.drop [_]), (by rw [List.length_append, hvl]; simp only [List.length_cons, List.length_nil]; omega), hpr, (by rw [take_snoc hqu]; exact how.snoc (by rw [hvl, List.length_take]; omega) hxo), hlt, rfl⟩
 have hge : k = t.kids.length := by have := of_decide_eq_false hc30; omega
 refine W_exit ?_
 refine W_sr [(.l, 0), (.f, 1)] hst ?_
 refine r_s [3] [(.l, 0)] [(53, .agg #[iN t.kind, iN t.num, .slice (some ⟨cb, 0, none⟩) t.kids.length nc])] (rc_l 2 0 rfl rfl (rc_l 2 1 rfl rfl (rc_l 2 2 rfl rfl rc_nil))) ?_
 refine s_0 [(0, iN t.kind), (1, iN t.num), (2, .slice (some ⟨cb, 0, none⟩) t.kids.length nc)] [iN t.kind, iN t.num, .slice (some ⟨cb, 0, none⟩) t.kids.length nc] none hst (fun w1 hst => ?_)
 refine r_nil ?_
 refine W_ret ?_
 refine q_rt [iN t.kind, iN t.num, .slice (some ⟨cb, 0, none⟩) t.kids.length nc] [(⟨b3, 0, none⟩, iN t.kind), (⟨b3, 1, none⟩, iN t.num), (⟨b3, 2, none⟩, .slice (some ⟨cb, 0, none⟩) t.kids.length nc)] (.agg #[iN t.kind, iN t.num, .slice (some ⟨cb, 0, none⟩) t.kids.length nc]) (rc_L 0 rfl rfl (rc_L 0 rfl rfl (rc_L 0 rfl rfl rc_nil))) hst ?_
 have hty2 : OwnPs vs us Fk := by have := how; rw [List.take_of_length_le (by omega)] at this; exact this
 refine ⟨(cb, .cells (List.toArray (vs ++ us2)) 24 (0, 0)) :: Fk, ?_, hst.drop [_, _, _]⟩
 unfold OwnP; exact .inr ⟨cb, nc, vs ++ us2, Fk, rfl, by rw [hul], by rw [hul]; exact hnc, hty2.app⟩

end Go.Proofs.Ytjgnhhgigickaaa.Wk
/- Walks of the given program's functions: spoil, Open. Printed by tools/w41.py. Conditions: none. -/

namespace Go.Proofs.Ytjgnhhgigickaaa.Wk
open Go Md
set_option maxRecDepth 20000
set_option linter.unusedVariables false
set_option linter.unusedSimpArgs false
attribute [local irreducible] endQ

theorem OwnPs.open {us : List Value} {q : T} {ts : List T} {F : LH} (h : OwnPs us (q :: ts) F) : ∃ A c ur F1 F2, us = .int .i64 q.kind :: .int .i64 q.num :: .slice A q.kids.length c :: ur ∧ F = F1 ++ F2 ∧ OwnP (.agg #[.int .i64 q.kind, .int .i64 q.num, .slice A q.kids.length c]) q F1 ∧ OwnPs ur ts F2 := by
 unfold OwnPs at h
 obtain ⟨v0, v1, v2, r, F1, F2, rfl, rfl, h1, h2⟩ := h
 obtain ⟨A, c, he⟩ := id h1.shape
 simp only [Value.agg.injEq] at he
 have he := congrArg Array.toList he
 simp only [List.cons.injEq, and_true] at he
 obtain ⟨rfl, rfl, rfl⟩ := he
 exact ⟨A, c, r, F1, F2, rfl, rfl, h1, h2⟩

theorem c35 {f : Nat} {G : GH} {L : LH} {w : World} {va vb : Value} {a b r : T} {e : Int} (hva : IsPoly G va a) (hvb : IsPoly G vb b) (hsz : T.sz a + T.sz b + 2 < lim) (hrz : ∀ u x, a.kids[0]? = some u → Md.opened f u b 0 = some x → T.sz x + 1 < lim) (hst : St G L w) (h : Md.Open f a b = some (r, e)) :
  Cal Try.prog 35 #[va, vb] w fun x w' => ∃ G' x0 F, Le G G' ∧ x = .tuple #[x0, .int .i64 e] ∧ OwnP x0 r F ∧ St G' (F ++ L) w' := by
 unfold Md.Open at h
 obtain ⟨aA, ac, rfl, hac, hak⟩ := id hva.open
 obtain ⟨bA, bc, rfl, hbc, hbk⟩ := id hvb.open
 refine cal_of_W Try.func35 rfl (Nat.le_of_ble_eq_true (by kernel_rfl)) ?_
 refine W_sr [(.f, 0), (.f, 1), (.f, 2), (.p, 3)] hst ?_
 refine m_new (cT a aA ac) (fun b1 => pN b1 0) (some 2) (fun b => by kernel_rfl) hst (fun b1 w1 hst => ?_)
 refine m_new (cT b bA bc) (fun b2 => pN b2 0) (some 3) (fun b => by kernel_rfl) hst (fun b2 w1 hst => ?_)
 refine m_new (.cells #[iN 0, iN 0, .slice none 0 0] 24) (fun b3 => pN b3 0) (some 4) (fun b => by kernel_rfl) hst (fun b3 w1 hst => ?_)
 refine r_z [(5, iN 0)] ?_
 refine W_sr [(.l, 0), (.l, 1), (.f, 2), (.f, 3), (.p, 4)] hst ?_
 refine r_s [3, 3] [(.l, 0), (.l, 1)] [(9, (aT a aA ac)), (10, (aT b bA bc))] (rc_l 2 0 rfl rfl (rc_l 2 1 rfl rfl (rc_l 2 2 rfl rfl (rc_l 1 0 rfl rfl (rc_l 1 1 rfl rfl (rc_l 1 2 rfl rfl rc_nil)))))) ?_
 refine m_new (.cells #[iN a.kind, iN a.num, .slice aA a.kids.length ac, iN b.kind, iN b.num, .slice bA b.kids.length bc] 24) (fun b4 => .slice (some ⟨b4, 0, none⟩) 2 2) (some 11) (fun b => by kernel_rfl) hst (fun b4 w1 hst => ?_)
 obtain ⟨G1, hG1, hF5, hst⟩ := St.freeze [_] hst
 have hfs := hF5 _ (.head _)
 have hcl56 := c56 (ts := [a, b]) (c := 2) (polys_of (cs := [.int .i64 a.kind, .int .i64 a.num, .slice aA a.kids.length ac, .int .i64 b.kind, .int .i64 b.num, .slice bA b.kids.length bc]) ⟨(hva).mono hG1, (hvb).mono hG1, trivial⟩ hfs) (Nat.le_refl _) (by rw [T.sz2]; omega) hst
 refine m_cl #[.slice (some ⟨b4, 0, none⟩) 2 2] (some 12) (hcl56) ?_
 rintro _ w1 ⟨G1', hG1', rfl, hst⟩
 replace hfs := hG1' _ _ hfs
 refine nx hst ?_
 refine r_z [(6, iN (closed [a, b]))] ?_
 refine W_seq ?_
 refine W_block ?_
 refine W_sr [(.p, 0), (.p, 1), (.p, 2)] hst ?_
 refine r_z [(14, iN (closed [a, b])), (15, .bool ((closed [a, b]) != 0)), (13, .bool ((closed [a, b]) != 0))] ?_
 refine W_cd (b := (closed [a, b]) != 0) (fun hc6 => ?_) (fun hc6 => ?_)
 ·skip
  rw [if_pos (show closed [a, b] ≠ 0 by simpa using hc6)] at h
  simp only [Option.some.injEq, Prod.mk.injEq] at h; obtain ⟨rfl, rfl⟩ := h
  refine W_sr [(.p, 0), (.p, 1), (.f, 2), (.p, 3)] hst ?_
  refine r_y [(.p, 0), (.p, 1)] [(16, .agg #[iN 0, iN 0, .slice none 0 0]), (17, iN (closed [a, b]))] ?_
  refine s_0 [(0, iN 0), (1, iN 0), (2, .slice none 0 0)] [iN 0, iN 0, .slice none 0 0] none hst (fun w1 hst => ?_)
  refine r_z [(5, iN (closed [a, b]))] ?_
  refine W_ret ?_
  refine q_rt [iN 0, iN 0, .slice none 0 0] [(⟨b3, 0, none⟩, iN 0), (⟨b3, 1, none⟩, iN 0), (⟨b3, 2, none⟩, .slice none 0 0)] (.tuple #[.agg #[iN 0, iN 0, .slice none 0 0], iN (closed [a, b])]) (rc_L 0 rfl rfl (rc_L 0 rfl rfl (rc_L 0 rfl rfl rc_nil))) hst ?_
  exact ⟨G1', _, [], hG1.trans hG1', rfl, OwnP.zero, hst.drop [_, _, _]⟩
 rw [if_neg (show ¬ closed [a, b] ≠ 0 by simpa using hc6)] at h
 refine W_sr [(.p, 0), (.l, 1), (.p, 2), (.p, 3)] hst ?_
 refine r_x [1] [(19, pN b1 0), (20, iN a.kind), (21, .bool (a.kind != 4)), (18, .bool (a.kind != 4))] (rc_l 2 0 rfl rfl rc_nil) ?_
 refine W_cd (b := a.kind != 4) (fun hc7 => ?_) (fun hc7 => ?_)
 ·skip
  rw [if_pos (show a.kind ≠ 4 by simpa using hc7)] at h
  simp only [Option.some.injEq, Prod.mk.injEq] at h; obtain ⟨rfl, rfl⟩ := h
  refine W_sr [(.p, 0), (.f, 1), (.p, 2)] hst ?_
  refine r_y [(.p, 0)] [(22, .agg #[iN 0, iN 0, .slice none 0 0])] ?_
  refine s_0 [(0, iN 0), (1, iN 0), (2, .slice none 0 0)] [iN 0, iN 0, .slice none 0 0] none hst (fun w1 hst => ?_)
  refine r_z [(5, iN 6)] ?_
  refine W_ret ?_
  refine q_rt [iN 0, iN 0, .slice none 0 0] [(⟨b3, 0, none⟩, iN 0), (⟨b3, 1, none⟩, iN 0), (⟨b3, 2, none⟩, .slice none 0 0)] (.tuple #[.agg #[iN 0, iN 0, .slice none 0 0], iN 6]) (rc_L 0 rfl rfl (rc_L 0 rfl rfl (rc_L 0 rfl rfl rc_nil))) hst ?_
  exact ⟨G1', _, [], hG1.trans hG1', rfl, OwnP.zero, hst.drop [_, _, _]⟩
 rw [if_neg (show ¬ a.kind ≠ 4 by simpa using hc7)] at h
 split at h
 case h_2 => cases h
 rename_i u _ hku
 obtain ⟨r0, hr0, h⟩ := Option.bind_eq_some_iff.1 h
 have hqu : a.kids[0]? = some u := by rw [hku]; rfl
 have hlt0 : 0 < a.kids.length := by rw [hku]; simp
 have huz := T.sz_kid hqu
 have hstk := hst
 obtain ⟨eb1, eo1, uA, uc, rfl, hu0, hu1, hu2, hup⟩ := ((hak.mono hG1).mono hG1').elem hqu
 have hst := hstk; clear hstk
 refine W_skip ?_
 refine W_seq ?_
 refine W_regT (.fork [(.p, 0), (.l, 1), (.p, 2), (.l, 3), (.l, 4)] 5 (.run [(.e, 6), (.f, 7)]) 6 (.run [(.e, 5), (.f, 7)])) 7 (SS G1' ([(b2, cT b bA bc), (b1, .cells #[iN a.kind, iN a.num, .slice (some ⟨eb1, eo1, none⟩) a.kids.length ac] 24)])) mixed (by kernel_rfl) (by kernel_rfl) (by kernel_rfl) (by kernel_rfl) (fun w1 hw1 => ?_)
 have hst := hst.heap hw1; refine ⟨hst.ss' (Le.refl _) (fun p hp => by simp only [List.mem_cons, List.not_mem_nil, or_false] at hp; rcases hp with rfl | rfl <;> simp), ?_⟩
 unfold RunT
 refine r_s [1] [(.p, 0), (.l, 1)] [(23, pN b1 2), (24, .slice (some ⟨eb1, eo1, none⟩) a.kids.length ac)] (rc_l 1 2 rfl rfl rc_nil) ?_
 refine m_idx (sz := 3) (b := eb1) (off := eo1) (n := a.kids.length) (c := ac) (k := 0) (some 25) (show opAt _ _ _ = some (.indexAddr 22 (.tmp 24) (.const (iN 0)), _) by kernel_rfl) (by kernel_rfl) (by kernel_rfl) Try.underlying22 sz24 hlt0 ?_
 refine r_x [3, 3] [(26, (aT u uA uc)), (27, (aT b bA bc))] (rc_C hu0 (rc_C hu1 (rc_C hu2 (rc_l 0 0 rfl rfl (rc_l 0 1 rfl rfl (rc_l 0 2 rfl rfl rc_nil)))))) ?_
 refine ⟨?_, ?_⟩
 ·skip
  refine m_callE #[(aT u uA uc), (aT b bA bc), iN 0] (some 28) (by kernel_rfl) (c77 _ hup ((hvb.mono hG1).mono hG1') (by omega) (by omega) hr0 hst) ?_
  rintro x0 w1 ⟨Fr, hxo, hst⟩
  have hst := St.swap (A := Fr) (B := [(b3, .cells #[iN 0, iN 0, .slice none 0 0] 24), (b2, cT b bA bc), (b1, .cells #[iN a.kind, iN a.num, .slice (some ⟨eb1, eo1, none⟩) a.kids.length ac] 24)]) (C := L) hst
  have hst : St G1' ((b3, .cells #[iN 0, iN 0, .slice none 0 0] 24) :: (b2, cT b bA bc) :: (b1, .cells #[iN a.kind, iN a.num, .slice (some ⟨eb1, eo1, none⟩) a.kids.length ac] 24) :: (Fr ++ L)) w1 := hst
  obtain ⟨xA, xc, rfl⟩ := hxo.shape
  refine ⟨hst.ss' (Le.refl _) (fun p hp => by simp only [List.mem_cons, List.not_mem_nil, or_false] at hp; rcases hp with rfl | rfl <;> simp), ?_⟩
  refine r_nil ?_
  unfold RunT
  refine m_newE (.cells #[iN 0, iN 0, .slice none 0 0] 24) (fun b8 => pN b8 0) (some 7) (fun b => by kernel_rfl) hst (fun _ _ h => h.ss' (Le.refl _) (fun p hp => by simp only [List.mem_cons, List.not_mem_nil, or_false] at hp; rcases hp with rfl | rfl <;> simp)) (fun b8 w1 hst => ?_)
  refine s_0 [(0, iN r0.kind), (1, iN r0.num), (2, .slice xA r0.kids.length xc)] [iN r0.kind, iN r0.num, .slice xA r0.kids.length xc] none hst (fun w1 hst => ?_)
  refine r_nil ?_
  refine W_seq ?_
  refine W_sr [(.l, 0), (.f, 1), (.f, 2), (.p, 3)] hst ?_
  refine r_s [3] [(.l, 0)] [(29, (aT r0 xA xc))] (rc_l 0 0 rfl rfl (rc_l 0 1 rfl rfl (rc_l 0 2 rfl rfl rc_nil))) ?_
  refine m_new (cT r0 xA xc) (fun b9 => .slice (some ⟨b9, 0, none⟩) 1 1) (some 30) (fun b => by kernel_rfl) hst (fun b9 w1 hst => ?_)
  have hst := St.swap (A := [(b9, cT r0 xA xc), (b8, cT r0 xA xc), (b3, .cells #[iN 0, iN 0, .slice none 0 0] 24), (b2, cT b bA bc), (b1, .cells #[iN a.kind, iN a.num, .slice (some ⟨eb1, eo1, none⟩) a.kids.length ac] 24)]) (B := Fr) (C := L) hst
  obtain ⟨G2, hG2, hF2, hst, hthaw⟩ := St.freezeT Fr hst
  have hxp := hxo.poly hF2
  obtain ⟨G3, hG3, hF3, hst⟩ := St.freeze [_] hst
  have hcl56 := c56 (ts := [r0]) (c := 1) (polys_of (cs := [.int .i64 r0.kind, .int .i64 r0.num, .slice xA r0.kids.length xc]) ⟨hxp.mono hG3, trivial⟩ (hF3 _ (.head _))) (Nat.le_refl _) (by rw [T.sz1]; exact hrz u r0 hqu hr0) hst
  refine m_cl #[.slice (some ⟨b9, 0, none⟩) 1 1] (some 31) hcl56 ?_
  rintro _ w1 ⟨G4, hG4, rfl, hst⟩
  have hst := hthaw (hst.weak (hG3.trans hG4))
  have hst := St.swap (A := Fr) (B := [(b8, cT r0 xA xc), (b3, .cells #[iN 0, iN 0, .slice none 0 0] 24), (b2, cT b bA bc), (b1, .cells #[iN a.kind, iN a.num, .slice (some ⟨eb1, eo1, none⟩) a.kids.length ac] 24)]) (C := L) hst
  have hst : St G1' ((b8, cT r0 xA xc) :: (b3, .cells #[iN 0, iN 0, .slice none 0 0] 24) :: (b2, cT b bA bc) :: (b1, .cells #[iN a.kind, iN a.num, .slice (some ⟨eb1, eo1, none⟩) a.kids.length ac] 24) :: (Fr ++ L)) w1 := hst
  refine nx hst ?_
  refine r_z [(8, iN (closed [r0]))] ?_
  refine W_sr [(.p, 0), (.p, 1)] hst ?_
  refine r_z [(32, iN (closed [r0])), (33, .bool ((closed [r0]) != 0))] ?_
  refine W_cd (b := (closed [r0]) != 0) (fun hc10 => ?_) (fun hc10 => ?_)
  ·skip
   rw [if_pos (show closed [r0] ≠ 0 by simpa using hc10)] at h; simp only [Option.some.injEq, Prod.mk.injEq] at h; obtain ⟨rfl, rfl⟩ := h
   refine W_sr [(.p, 0), (.p, 1), (.f, 2), (.p, 3)] hst ?_
   refine r_y [(.p, 0), (.p, 1)] [(34, .agg #[iN 0, iN 0, .slice none 0 0]), (35, iN (closed [r0]))] ?_
   refine s_1 [(0, iN 0), (1, iN 0), (2, .slice none 0 0)] [iN 0, iN 0, .slice none 0 0] none hst (fun w1 hst => ?_)
   refine r_z [(5, iN (closed [r0]))] ?_
   refine W_ret ?_
   refine q_rt [iN 0, iN 0, .slice none 0 0] [(⟨b3, 0, none⟩, iN 0), (⟨b3, 1, none⟩, iN 0), (⟨b3, 2, none⟩, .slice none 0 0)] (.tuple #[.agg #[iN 0, iN 0, .slice none 0 0], iN (closed [r0])]) (rc_L 1 rfl rfl (rc_L 1 rfl rfl (rc_L 1 rfl rfl rc_nil))) hst ?_
   exact ⟨G1', _, [], hG1.trans hG1', rfl, OwnP.zero, (hst.drop [_, _, _, _]).drop Fr⟩
  rw [if_neg (show ¬ closed [r0] ≠ 0 by simpa using hc10)] at h; simp only [Option.some.injEq, Prod.mk.injEq] at h; obtain ⟨rfl, rfl⟩ := h
  refine W_skip ?_
  refine W_sr [(.l, 0), (.f, 1), (.p, 2)] hst ?_
  refine r_s [3] [(.l, 0)] [(36, (aT r0 xA xc))] (rc_l 0 0 rfl rfl (rc_l 0 1 rfl rfl (rc_l 0 2 rfl rfl rc_nil))) ?_
  refine s_1 [(0, iN r0.kind), (1, iN r0.num), (2, .slice xA r0.kids.length xc)] [iN r0.kind, iN r0.num, .slice xA r0.kids.length xc] none hst (fun w1 hst => ?_)
  refine r_z [(5, iN 0)] ?_
  refine W_ret ?_
  refine q_rt [iN r0.kind, iN r0.num, .slice xA r0.kids.length xc] [(⟨b3, 0, none⟩, iN r0.kind), (⟨b3, 1, none⟩, iN r0.num), (⟨b3, 2, none⟩, .slice xA r0.kids.length xc)] (.tuple #[.agg #[iN r0.kind, iN r0.num, .slice xA r0.kids.length xc], iN 0]) (rc_L 1 rfl rfl (rc_L 1 rfl rfl (rc_L 1 rfl rfl rc_nil))) hst ?_
  exact ⟨G1', _, Fr, hG1.trans hG1', rfl, hxo, hst.drop [_, _, _, _]⟩
 refine m_newE (.cells #[iN 0, iN 0, .slice none 0 0] 24) (fun b11 => pN b11 0) (some 7) (fun b => by kernel_rfl) hst (fun _ _ h => h.ss' (Le.refl _) (fun p hp => by simp only [List.mem_cons, List.not_mem_nil, or_false] at hp; rcases hp with rfl | rfl <;> simp)) (fun b11 w1 hst => ?_)
 refine r_nil ?_
 unfold RunT
 refine m_callE #[(aT u uA uc), (aT b bA bc), iN 0] (some 28) (by kernel_rfl) (c77 _ hup ((hvb.mono hG1).mono hG1') (by omega) (by omega) hr0 hst) ?_
 rintro x0 w1 ⟨Fr, hxo, hst⟩
 have hst := St.swap (A := Fr) (B := [(b11, .cells #[iN 0, iN 0, .slice none 0 0] 24), (b3, .cells #[iN 0, iN 0, .slice none 0 0] 24), (b2, cT b bA bc), (b1, .cells #[iN a.kind, iN a.num, .slice (some ⟨eb1, eo1, none⟩) a.kids.length ac] 24)]) (C := L) hst
 have hst : St G1' ((b11, .cells #[iN 0, iN 0, .slice none 0 0] 24) :: (b3, .cells #[iN 0, iN 0, .slice none 0 0] 24) :: (b2, cT b bA bc) :: (b1, .cells #[iN a.kind, iN a.num, .slice (some ⟨eb1, eo1, none⟩) a.kids.length ac] 24) :: (Fr ++ L)) w1 := hst
 obtain ⟨xA, xc, rfl⟩ := hxo.shape
 refine ⟨hst.ss' (Le.refl _) (fun p hp => by simp only [List.mem_cons, List.not_mem_nil, or_false] at hp; rcases hp with rfl | rfl <;> simp), ?_⟩
 refine s_0 [(0, iN r0.kind), (1, iN r0.num), (2, .slice xA r0.kids.length xc)] [iN r0.kind, iN r0.num, .slice xA r0.kids.length xc] none hst (fun w1 hst => ?_)
 refine r_nil ?_
 refine W_seq ?_
 refine W_sr [(.l, 0), (.f, 1), (.f, 2), (.p, 3)] hst ?_
 refine r_s [3] [(.l, 0)] [(29, (aT r0 xA xc))] (rc_l 0 0 rfl rfl (rc_l 0 1 rfl rfl (rc_l 0 2 rfl rfl rc_nil))) ?_
 refine m_new (cT r0 xA xc) (fun b12 => .slice (some ⟨b12, 0, none⟩) 1 1) (some 30) (fun b => by kernel_rfl) hst (fun b12 w1 hst => ?_)
 have hst := St.swap (A := [(b12, cT r0 xA xc), (b11, cT r0 xA xc), (b3, .cells #[iN 0, iN 0, .slice none 0 0] 24), (b2, cT b bA bc), (b1, .cells #[iN a.kind, iN a.num, .slice (some ⟨eb1, eo1, none⟩) a.kids.length ac] 24)]) (B := Fr) (C := L) hst
 obtain ⟨G2, hG2, hF2, hst, hthaw⟩ := St.freezeT Fr hst
 have hxp := hxo.poly hF2
 obtain ⟨G3, hG3, hF3, hst⟩ := St.freeze [_] hst
 have hcl56 := c56 (ts := [r0]) (c := 1) (polys_of (cs := [.int .i64 r0.kind, .int .i64 r0.num, .slice xA r0.kids.length xc]) ⟨hxp.mono hG3, trivial⟩ (hF3 _ (.head _))) (Nat.le_refl _) (by rw [T.sz1]; exact hrz u r0 hqu hr0) hst
 refine m_cl #[.slice (some ⟨b12, 0, none⟩) 1 1] (some 31) hcl56 ?_
 rintro _ w1 ⟨G4, hG4, rfl, hst⟩
 have hst := hthaw (hst.weak (hG3.trans hG4))
 have hst := St.swap (A := Fr) (B := [(b11, cT r0 xA xc), (b3, .cells #[iN 0, iN 0, .slice none 0 0] 24), (b2, cT b bA bc), (b1, .cells #[iN a.kind, iN a.num, .slice (some ⟨eb1, eo1, none⟩) a.kids.length ac] 24)]) (C := L) hst
 have hst : St G1' ((b11, cT r0 xA xc) :: (b3, .cells #[iN 0, iN 0, .slice none 0 0] 24) :: (b2, cT b bA bc) :: (b1, .cells #[iN a.kind, iN a.num, .slice (some ⟨eb1, eo1, none⟩) a.kids.length ac] 24) :: (Fr ++ L)) w1 := hst
 refine nx hst ?_
 refine r_z [(8, iN (closed [r0]))] ?_
 refine W_sr [(.p, 0), (.p, 1)] hst ?_
 refine r_z [(32, iN (closed [r0])), (33, .bool ((closed [r0]) != 0))] ?_
 refine W_cd (b := (closed [r0]) != 0) (fun hc13 => ?_) (fun hc13 => ?_)
 ·skip
  rw [if_pos (show closed [r0] ≠ 0 by simpa using hc13)] at h; simp only [Option.some.injEq, Prod.mk.injEq] at h; obtain ⟨rfl, rfl⟩ := h
  refine W_sr [(.p, 0), (.p, 1), (.f, 2), (.p, 3)] hst ?_
  refine r_y [(.p, 0), (.p, 1)] [(34, .agg #[iN 0, iN 0, .slice none 0 0]), (35, iN (closed [r0]))] ?_
  refine s_1 [(0, iN 0), (1, iN 0), (2, .slice none 0 0)] [iN 0, iN 0, .slice none 0 0] none hst (fun w1 hst => ?_)
  refine r_z [(5, iN (closed [r0]))] ?_
  refine W_ret ?_
  refine q_rt [iN 0, iN 0, .slice none 0 0] [(⟨b3, 0, none⟩, iN 0), (⟨b3, 1, none⟩, iN 0), (⟨b3, 2, none⟩, .slice none 0 0)] (.tuple #[.agg #[iN 0, iN 0, .slice none 0 0], iN (closed [r0])]) (rc_L 1 rfl rfl (rc_L 1 rfl rfl (rc_L 1 rfl rfl rc_nil))) hst ?_
  exact ⟨G1', _, [], hG1.trans hG1', rfl, OwnP.zero, (hst.drop [_, _, _, _]).drop Fr⟩
 rw [if_neg (show ¬ closed [r0] ≠ 0 by simpa using hc13)] at h; simp only [Option.some.injEq, Prod.mk.injEq] at h; obtain ⟨rfl, rfl⟩ := h
 refine W_skip ?_
 refine W_sr [(.l, 0), (.f, 1), (.p, 2)] hst ?_
 refine r_s [3] [(.l, 0)] [(36, (aT r0 xA xc))] (rc_l 0 0 rfl rfl (rc_l 0 1 rfl rfl (rc_l 0 2 rfl rfl rc_nil))) ?_
 refine s_1 [(0, iN r0.kind), (1, iN r0.num), (2, .slice xA r0.kids.length xc)] [iN r0.kind, iN r0.num, .slice xA r0.kids.length xc] none hst (fun w1 hst => ?_)
 refine r_z [(5, iN 0)] ?_
 refine W_ret ?_
 refine q_rt [iN r0.kind, iN r0.num, .slice xA r0.kids.length xc] [(⟨b3, 0, none⟩, iN r0.kind), (⟨b3, 1, none⟩, iN r0.num), (⟨b3, 2, none⟩, .slice xA r0.kids.length xc)] (.tuple #[.agg #[iN r0.kind, iN r0.num, .slice xA r0.kids.length xc], iN 0]) (rc_L 1 rfl rfl (rc_L 1 rfl rfl (rc_L 1 rfl rfl rc_nil))) hst ?_
 exact ⟨G1', _, Fr, hG1.trans hG1', rfl, hxo, hst.drop [_, _, _, _]⟩

end Go.Proofs.Ytjgnhhgigickaaa.Wk
/- The plain laws behind RankTypes: ranks, whether two types are the same, and what opening makes, are in the program as in the reference. Conditions: none. -/

namespace Go.Proofs.Ytjgnhhgigickaaa.Wk
open Go Md
theorem both_law (a b : T) : closed [a, b] = rboth a b := by
  show (if right a 0 = 0 then closed [b] else right a 0) = _
  unfold rboth
  rw [closed_one, right_eq]
  by_cases h : rRight a 0 = 0
  · rw [if_pos h, if_neg (fun x => x h)]
  · rw [if_neg h, if_pos h]
mutual
/-- no variable leads out of so many quantifiers -/
def clo : Int → T → Prop
  | d, .mk k num ks => (k = 1 → 0 ≤ num ∧ num < d) ∧ clos (if k = 4 then d + 1 else d) ks
def clos : Int → List T → Prop
  | _, [] => True
  | d, t :: ts => clo d t ∧ clos d ts
end
mutual
theorem rt_clo : ∀ (t : T) {n ar m : Int}, 0 ≤ n → n ≤ 26 → 0 ≤ ar → ar ≤ m → m ≤ 12 → (rtWalk n ar m t).1 = 0 → clo (ar + n) t
  | .mk k num ks, n, ar, m, h0, h1, h2, h3, h4, h => by
    unfold rtWalk at h
    dsimp only at h
    split at h
    · rename_i hn
      have hr := rtNode_eq (ar := ar) (n := n) (k := k) (num := num) (len := ks.length) (wi := w64 (ar + n)) h4 rfl
      rw [hn] at hr
      have hw : w64 (ar + n) = ar + n := w64_id (by omega) (by omega)
      rw [hw] at hr
      split at hr
      · cases hr
      split at hr
      · cases hr
      split at hr
      · cases hr
      split at hr
      · cases hr
      rename_i c1 c2 c3 c4
      have hm : w64 (m + 1) = m + 1 := w64_id (by omega) (by omega)
      have ha : w64 (ar + 1) = ar + 1 := w64_id (by omega) (by omega)
      rw [hm, ha] at h
      unfold clo
      refine ⟨fun hk => by omega, ?_⟩
      have := rts_clo ks (n := n) (ar := if k = 4 then ar + 1 else ar) (m := m + 1) h0 h1 (by split <;> omega) (by split <;> omega) (by omega) h
      have e : (if k = 4 then ar + n + 1 else ar + n) = (if k = 4 then ar + 1 else ar) + n := by split <;> omega
      rw [e]; exact this
    · rename_i hn; exact absurd h hn
theorem rts_clo : ∀ (ts : List T) {n ar m : Int}, 0 ≤ n → n ≤ 26 → 0 ≤ ar → ar ≤ m → m ≤ 12 → (rtList n ar m ts).1 = 0 → clos (ar + n) ts
  | [], _, _, _, _, _, _, _, _, _ => by unfold clos; trivial
  | t :: ts, n, ar, m, h0, h1, h2, h3, h4, h => by
    unfold rtList at h
    dsimp only at h
    split at h
    · rename_i hc
      obtain ⟨_, b, c, _⟩ := (rt_eq t (n := n) (ar := ar) (m := m) (wi := w64 (ar + n)) (by omega) h4 rfl).2 hc
      have := nds_pos t
      unfold clos
      exact ⟨rt_clo t h0 h1 h2 h3 h4 hc, rts_clo ts h0 h1 h2 (by omega) c h⟩
    · rename_i hc; exact absurd h hc
end
theorem right_clo {t : T} (h : right t 0 = 0) : clo 0 t := by
  unfold right at h
  rw [if_neg (by decide)] at h
  have := rt_clo t (n := 0) (ar := 0) (m := 0) (by decide) (by decide) (by decide) (by decide) (by decide) h
  simpa using this

theorem mapM_some {α β : Type} {f : α → Option β} {g : α → β} : ∀ (l : List α), (∀ x, x ∈ l → f x = some (g x)) → l.mapM f = some (l.map g)
  | [], _ => rfl
  | x :: l, h => by
    rw [List.mapM_cons, h x (.head _)]
    have := mapM_some l (fun y hy => h y (.tail _ hy))
    simp [this]
theorem rputs_map (wth : T) (o : Int) : ∀ (ts : List T), rputs wth ts o = ts.map fun t => rput wth t o
  | [] => rfl
  | t :: ts => by simp [rputs, rputs_map wth o ts]
theorem wfs_mem : ∀ {ts : List T} {t : T}, wfs ts → t ∈ ts → wf t
  | u :: ts, t, h, hm => by
    unfold wfs at h
    rcases List.mem_cons.1 hm with rfl | hm
    · exact h.1
    · exact wfs_mem h.2 hm
theorem clos_mem : ∀ {ts : List T} {t : T} {d : Int}, clos d ts → t ∈ ts → clo d t
  | u :: ts, t, d, h, hm => by
    unfold clos at h
    rcases List.mem_cons.1 hm with rfl | hm
    · exact h.1
    · exact clos_mem h.2 hm
theorem ndss_mem : ∀ {ts : List T} {t : T}, t ∈ ts → nds t ≤ ndss ts
  | u :: ts, t, hm => by
    rw [ndss_cons]
    rcases List.mem_cons.1 hm with rfl | hm
    · omega
    · have := ndss_mem hm; omega
theorem opened_copy : ∀ (f : Nat) {t wth : T} {d : Int}, wf t → clo d t → nds t ≤ f → Md.opened f t wth (-1) = some t
  | 0, t, _, _, _, _, h => by have := nds_pos t; omega
  | f + 1, .mk k num ks, wth, d, hw, hc, hf => by
    rw [nds_mk] at hf
    unfold wf at hw
    unfold clo at hc
    rw [opened_eq]
    dsimp only [T.kind, T.num, T.kids]
    rw [if_neg (fun h => by have := hc.1 h.1; omega)]
    have hn : (if k = 4 ∧ (-1 : Int) ≥ 0 then w64 (-1 + 1) else -1) = (-1 : Int) := by rw [if_neg (by omega)]
    rw [hn, mapM_some (f := fun u => Md.opened f u wth (-1)) (g := id) ks fun u hu => opened_copy f (wfs_mem hw.2 hu) (clos_mem hc.2 hu) (by have := ndss_mem hu; omega)]
    simp
theorem opened_put : ∀ (f : Nat) {t wth : T} {n : Int}, wf t → clo (n + 1) t → 0 ≤ n → n + (nds t : Int) ≤ 1000 → wf wth → clo 0 wth → nds t + nds wth ≤ f → Md.opened f t wth n = some (rput wth t n)
  | 0, t, _, _, _, _, _, _, _, _, h => by have := nds_pos t; omega
  | f + 1, .mk k num ks, wth, n, hw, hc, h0, h1, hww, hcw, hf => by
    rw [nds_mk] at hf h1
    unfold wf at hw
    unfold clo at hc
    have hn1 : w64 (n + 1) = n + 1 := w64_id (by omega) (by omega)
    rw [opened_eq]
    unfold rput
    dsimp only [T.kind, T.num, T.kids]
    by_cases hk : k = 1
    · have hks : ks = [] := by
        have := hw.1; unfold wfn at this
        exact List.eq_nil_of_length_eq_zero (by omega)
      subst hks
      have hb := hc.1 hk
      rw [if_pos hk]
      by_cases hnum : num = n
      · rw [if_pos ⟨hk, hnum⟩, if_pos hnum]
        exact opened_copy f hww hcw (by omega)
      · rw [if_neg (fun h => hnum h.2), if_neg hnum, if_neg (show ¬ num > n by omega)]
        rfl
    · rw [if_neg (fun h => hk h.1), if_neg hk]
      have hn : (if k = 4 ∧ n ≥ 0 then w64 (n + 1) else n) = (if k = 4 then w64 (n + 1) else n) := by
        by_cases h4 : k = 4
        · rw [if_pos ⟨h4, h0⟩, if_pos h4]
        · rw [if_neg (fun h => h4 h.1), if_neg h4]
      rw [hn, rputs_map]
      rw [mapM_some (f := fun u => Md.opened f u wth (if k = 4 then w64 (n + 1) else n)) (g := fun u => rput wth u (if k = 4 then w64 (n + 1) else n)) ks fun u hu => by
        have hm := ndss_mem hu
        by_cases h4 : k = 4
        · rw [if_pos h4] at hc ⊢
          rw [hn1]
          exact opened_put f (wfs_mem hw.2 hu) (clos_mem hc.2 hu) (by omega) (by omega) hww hcw (by omega)
        · rw [if_neg h4] at hc ⊢
          exact opened_put f (wfs_mem hw.2 hu) (clos_mem hc.2 hu) h0 (by omega) hww hcw (by omega)]
      rfl
theorem open_law (a b : T) : ∃ f r e, Md.Open f a b = some (r, e) ∧ rOpen a b = (r, e) ∧ T.sz r < lim ∧ ∀ u x, a.kids[0]? = some u → Md.opened f u b 0 = some x → T.sz x + 1 < lim := by
  have hlim : lim = 1099511627776 := rfl
  unfold Md.Open rOpen
  rw [both_law]
  by_cases h1 : rboth a b ≠ 0
  · exact ⟨0, t0, rboth a b, by rw [if_pos h1], by rw [if_pos h1], by decide, fun u x _ hx => by cases hx⟩
  by_cases h2 : a.kind ≠ 4
  · exact ⟨0, t0, 6, by rw [if_neg h1, if_pos h2], by rw [if_neg h1, if_pos h2], by decide, fun u x _ hx => by cases hx⟩
  have hra : rRight a 0 = 0 ∧ rRight b 0 = 0 := by unfold rboth at h1; split at h1 <;> omega
  have ha0 : right a 0 = 0 := by rw [right_eq]; exact hra.1
  have hb0 : right b 0 = 0 := by rw [right_eq]; exact hra.2
  obtain ⟨hwa, hna⟩ := right_wf ha0
  obtain ⟨hwb, hnb⟩ := right_wf hb0
  have hca := right_clo ha0
  have hcb := right_clo hb0
  obtain ⟨k, num, ks⟩ := a
  have h4 : k = 4 := Classical.byContradiction h2
  subst h4
  unfold wf wfn at hwa
  have hl : ks.length = 1 := by omega
  match ks, hl with
  | [u], _ =>
    have hwu : wf u := wfs_mem hwa.2 (.head _)
    unfold clo at hca
    have hcu : clo 1 u := by have := clos_mem hca.2 (t := u) (.head _); simpa using this
    rw [nds_mk, ndss_cons] at hna
    have ho := opened_put (nds u + nds b) (n := 0) hwu (by simpa using hcu) (by decide) (by omega) hwb hcb (Nat.le_refl _)
    have hsz : T.sz (rput b u 0) + 1 < lim := by
      have x1 := nds_rput b u 0
      have x3 := sz_nds (rput b u 0)
      have x4 : nds u * nds b ≤ 12 * 12 := Nat.mul_le_mul (by omega) hnb
      omega
    have hx : ∀ v x, (T.mk 4 num [u]).kids[0]? = some v → Md.opened (nds u + nds b) v b 0 = some x → T.sz x + 1 < lim := by
      intro v x hv hxx
      have : u = v := by simpa using hv
      subst this
      rw [ho] at hxx; cases hxx; exact hsz
    by_cases hc : rRight (rput b u 0) 0 ≠ 0
    · refine ⟨nds u + nds b, t0, rRight (rput b u 0) 0, ?_, ?_, by decide, hx⟩
      · rw [if_neg h1, if_neg h2]; dsimp only; rw [ho]; show (if closed [rput b u 0] ≠ 0 then _ else _) = _; rw [closed_one, if_pos hc]
      · rw [if_neg h1, if_neg h2]; dsimp only; rw [if_pos hc]
    · refine ⟨nds u + nds b, rput b u 0, 0, ?_, ?_, by omega, hx⟩
      · rw [if_neg h1, if_neg h2]; dsimp only; rw [ho]; show (if closed [rput b u 0] ≠ 0 then _ else _) = _; rw [closed_one, if_neg hc]
      · rw [if_neg h1, if_neg h2]; dsimp only; rw [if_neg hc]
end Go.Proofs.Ytjgnhhgigickaaa.Wk
/- The plain laws behind RankRead: what is printed is read as it was; what is read was printed; ranks of functions. Conditions: none. -/

namespace Go.Proofs.Ytjgnhhgigickaaa.Wk
open Go Md

/-! ### right types, made -/
mutual
theorem rgt_rt : ∀ (t : T) {n ar m : Int}, 0 ≤ n → n ≤ 26 → 0 ≤ ar → ar ≤ m → m + (nds t : Int) ≤ 12 → rgt (ar + n) t → rtWalk n ar m t = (0, m + (nds t : Int))
  | .mk k num ks, n, ar, m, h0, h1, h2, h3, h4, h => by
    rw [nds_mk] at h4 ⊢
    unfold rgt at h
    obtain ⟨hk, hks⟩ := h
    unfold rtWalk
    dsimp only
    have hw : w64 (ar + n) = ar + n := w64_id (by omega) (by omega)
    have hm : w64 (m + 1) = m + 1 := w64_id (by omega) (by omega)
    have ha : w64 (ar + 1) = ar + 1 := w64_id (by omega) (by omega)
    have hn : rtNode ar n m k num ks.length = 0 := by
      rw [rtNode_eq (wi := ar + n) (by omega) hw.symm]
      rw [if_neg (by omega)]
      rw [if_neg (by omega), if_neg (by unfold wantsR; split <;> (try split) <;> omega), if_neg (by omega)]
    rw [if_pos hn, hm, ha]
    have := rgts_rt ks (n := n) (ar := if k = 4 then ar + 1 else ar) (m := m + 1) h0 h1 (by split <;> omega) (by split <;> omega) (by omega) (by
      have e : (if k = 4 then ar + 1 else ar) + n = (if k = 4 then ar + n + 1 else ar + n) := by split <;> omega
      rw [e]; exact hks)
    rw [this]
    congr 1; omega
theorem rgts_rt : ∀ (ts : List T) {n ar m : Int}, 0 ≤ n → n ≤ 26 → 0 ≤ ar → ar ≤ m → m + (ndss ts : Int) ≤ 12 → rgts (ar + n) ts → rtList n ar m ts = (0, m + (ndss ts : Int))
  | [], _, _, m, _, _, _, _, _, _ => by unfold rtList ndss; simp
  | t :: ts, n, ar, m, h0, h1, h2, h3, h4, h => by
    rw [ndss_cons] at h4 ⊢
    unfold rgts at h
    have hp := nds_pos t
    unfold rtList
    dsimp only
    rw [rgt_rt t h0 h1 h2 h3 (by omega) h.1, if_pos rfl, rgts_rt ts h0 h1 h2 (by omega) (by omega) h.2]
    congr 1; omega
end
theorem rgt_right {t : T} {n : Int} (h0 : 0 ≤ n) (h1 : n ≤ 26) (h2 : nds t ≤ 12) (h : rgt n t) : right t n = 0 := by
  unfold right
  rw [if_neg (by omega), rgt_rt t h0 h1 (Int.le_refl _) (Int.le_refl _) (by omega) (by simpa using h)]
theorem rgt_closed {t : T} (h2 : nds t ≤ 12) (h : rgt 0 t) : closed [t] = 0 := by
  unfold closed; rw [if_pos (rgt_right (Int.le_refl _) (by decide) h2 h)]; rfl
end Go.Proofs.Ytjgnhhgigickaaa.Wk
/- The bytes of a string, written to, and a string of bytes again. Conditions: none; over any program. -/

namespace Go.Proofs.Ytjgnhhgigickaaa.Wk
open Go Md

section
variable {P : Program} {ops : Array Oper} {K : Env → World → Prop} {rest : List (Mv × Nat)} {S : World → Prop} {ρ : Env} {w : World} {i : Nat} {G : GH} {L : LH}
end
end Go.Proofs.Ytjgnhhgigickaaa.Wk
/- Walks of the given program's functions: equal, nodes, plain. Printed by tools/w46.py. Conditions: none. -/

namespace Go.Proofs.Ytjgnhhgigickaaa.Wk
open Go Md
set_option maxRecDepth 20000
set_option linter.unusedVariables false
set_option linter.unusedSimpArgs false
attribute [local irreducible] endQ
theorem ndss_take : ∀ {ts : List T} {k : Nat} {q : T}, ts[k]? = some q → ndss (ts.take (k + 1)) = ndss (ts.take k) + nds q
 | [], _, _, h => by simp at h
 | t :: ts, 0, q, h => by
  simp at h; subst h
  show ndss [t] = ndss [] + nds t
  rw [ndss_cons]; show nds t + 0 = 0 + nds t; omega
 | t :: ts, k + 1, q, h => by
  have := ndss_take (ts := ts) (k := k) (by simpa using h)
  show ndss (t :: ts.take (k + 1)) = ndss (t :: ts.take k) + nds q
  rw [ndss_cons, ndss_cons, this]; omega
theorem ndss_take_le : ∀ (ts : List T) (k : Nat), ndss (ts.take k) ≤ ndss ts
 | [], k => by simp
 | t :: ts, 0 => Nat.zero_le _
 | t :: ts, k + 1 => by
  have := ndss_take_le ts k
  show ndss (t :: ts.take k) ≤ _
  rw [ndss_cons, ndss_cons]; omega
theorem nds_kids (t : T) : nds t = ndss t.kids + 1 := by cases t; rfl
theorem c24 : ∀ (f : Nat) {G : GH} {L : LH} {w : World} {v : Value} {t : T}, nds t < f → nds t ≤ 1000000000 → T.sz t < lim → IsPoly G v t → St G L w → Cal Try.prog 24 #[v] w fun x w' => x = .int .i64 ((nds t : Nat) : Int) ∧ St G L w' := by
 intro f
 induction f with
 | zero => intro G L w v t h; omega
 | succ f ih =>
 intro G L w v t hf hn hz hv hst
 have hlim : lim = 1099511627776 := rfl
 have hln := T.len_le t
 obtain ⟨tA, tc, rfl, htc, htk⟩ := id hv.open
 refine cal_of_W Try.func24 rfl (Nat.le_of_ble_eq_true (by kernel_rfl)) ?_
 refine W_sr [(.f, 0), (.p, 1)] hst ?_
 refine m_new (cT t tA tc) (fun b1 => pN b1 0) (some 1) (fun b => by kernel_rfl) hst (fun b1 w1 hst => ?_)
 refine r_z [(2, iN 0)] ?_
 refine W_sr [(.p, 0)] hst ?_
 refine r_z [(3, iN 1)] ?_
 refine W_seq ?_
 refine W_sr [(.p, 0), (.l, 1), (.p, 2), (.p, 3)] hst ?_
 refine r_x [1] [(6, pN b1 2), (7, .slice tA t.kids.length tc), (8, nN t.kids.length), (9, iN 0)] (rc_l 0 2 rfl rfl rc_nil) ?_
 refine W_block ?_
 refine W_loop (fun m ρ D w => ∃ (k : Nat) (mn : Nat), EqS ρ [(3, iN (((mn : Nat) : Int))), (7, .slice tA t.kids.length tc), (8, iN (((t.kids.length : Nat) : Int))), (9, iN (((k : Nat) : Int)))] ∧ D = [] ∧ St G ((b1, cT t tA tc) :: L) w ∧ (k ≤ t.kids.length) ∧ (mn = ndss (t.kids.take k) + 1) ∧ t.kids.length - k = m) (t.kids.length - 0) ⟨0, 1, ⟨by kernel_rfl, by kernel_rfl, by kernel_rfl, by kernel_rfl, trivial⟩, rfl, hst, Nat.zero_le _, rfl, rfl⟩ ?_
 clear hst; rintro m2 ρ D w1 ⟨k, mn, hE3, rfl, hst, hkk, hmn, hm4⟩
 refine W_env hE3 ?_
 refine W_sr [(.p, 0)] hst ?_
 refine r_z [(10, .bool (decide ((((k : Nat) : Int)) < (((t.kids.length : Nat) : Int)))))] ?_
 refine W_seq ?_
 refine W_cd (b := decide ((((k : Nat) : Int)) < (((t.kids.length : Nat) : Int)))) (fun hc5 => ?_) (fun hc5 => ?_)
 ·skip
  have hlt : k < t.kids.length := by have := of_decide_eq_true hc5; omega
  obtain ⟨q, hq⟩ := get_of_lt hlt
  have hqz := T.sz_kid hq
  have hqn := nds_kid hq
  have hqt := ndss_take hq
  have hstk := hst
  obtain ⟨eb1, eo1, qA, qc, rfl, hq0, hq1, hq2, hqp⟩ := (htk).elem hq
  have hst := hstk; clear hstk
  refine W_skip ?_
  refine W_seq ?_
  refine W_block ?_
  refine W_sr [(.p, 0), (.l, 1), (.f, 2), (.f, 3)] hst ?_
  refine m_idx (sz := 3) (b := eb1) (off := eo1) (n := t.kids.length) (c := tc) (k := k) (some 11) (show opAt _ _ _ = some (.indexAddr 22 (.tmp 7) (.tmp 9), _) by kernel_rfl) (by kernel_rfl) (by kernel_rfl) Try.underlying22 sz24 hlt ?_
  refine r_s [3] [(.l, 1)] [(12, (aT q qA qc))] (rc_C hq0 (rc_C hq1 (rc_C hq2 rc_nil))) ?_
  refine m_new (.cells #[iN 0, iN 0, .slice none 0 0] 24) (fun b6 => pN b6 0) (some 5) (fun b => by kernel_rfl) hst (fun b6 w1 hst => ?_)
  refine s_0 [(0, iN q.kind), (1, iN q.num), (2, .slice qA q.kids.length qc)] [iN q.kind, iN q.num, .slice qA q.kids.length qc] none hst (fun w1 hst => ?_)
  refine r_nil ?_
  refine W_rg [(.p, 0), (.l, 1), (.f, 2), (.p, 3), (.p, 4)] hst ?_
  refine r_s [3] [(.p, 0), (.l, 1)] [(13, nN mn), (14, (aT q qA qc))] (rc_l 0 0 rfl rfl (rc_l 0 1 rfl rfl (rc_l 0 2 rfl rfl rc_nil))) ?_
  refine m_cl #[(aT q qA qc)] (some 15) (ih (t := q) (by omega) (by omega) (by omega) hqp hst) ?_
  rintro _ w1 ⟨rfl, hst⟩
  have hle1 : ndss (t.kids.take (k + 1)) ≤ ndss t.kids := ndss_take_le _ _
  have hnk := nds_kids t
  have hwn : IntKind.wrap .i64 (((mn : Nat) : Int) + ((nds q : Nat) : Int)) = ((mn + nds q : Nat) : Int) := by rw [wrap_id] <;> omega
  refine nx hst ?_
  refine r_z [(16, iN (IntKind.wrap .i64 ((((mn : Nat) : Int)) + (((nds q : Nat) : Int))))), (3, iN (IntKind.wrap .i64 ((((mn : Nat) : Int)) + (((nds q : Nat) : Int)))))] ?_
  refine W_rg [(.p, 0), (.p, 1)] hst ?_
  refine r_z [(17, iN (IntKind.wrap .i64 ((((k : Nat) : Int)) + 1))), (9, iN (IntKind.wrap .i64 ((((k : Nat) : Int)) + 1)))] ?_
  exact ⟨_, (by omega), k + 1, mn + nds q, ⟨(by rw [← hwn]; kernel_rfl), by kernel_rfl, by kernel_rfl, (by rw [← wrap_succ (k := k) (by omega)]; kernel_rfl), trivial⟩, rfl, (hst.drop [_]), hlt, (by rw [hqt, hmn]; omega), rfl⟩
 have hge : k = t.kids.length := by have := of_decide_eq_false hc5; omega
 refine W_exit ?_
 refine W_sr [(.p, 0), (.p, 1)] hst ?_
 refine r_z [(18, nN mn), (2, nN mn)] ?_
 refine W_ret ?_
 refine q_rt [] [] (nN mn) rc_nil hst ?_
 have hr : nds t = mn := by rw [nds_kids, hmn, List.take_of_length_le (by omega)]
 exact ⟨by rw [hr], hst.drop [_]⟩

theorem plain_eq (t : T) : plain t = (decide (t.kind ≠ 4) && plains t.kids) := by cases t; rfl
end Go.Proofs.Ytjgnhhgigickaaa.Wk
/- From a reading of an argument to the walk's words: a type read as data is a tree in memory; and back: behind a call that leaves all old blocks alone the arguments read as before. Conditions: none. -/

namespace Go.Proofs.Ytjgnhhgigickaaa.Wk
open Go Md Go.ChangeShapes Go.WideShapes Go.ChangeAt Go.RowKit

/-- all that is there -/
def WG (w : World) : GH := ⟨fun b => w.heap[b]?, w.os, w.output⟩
theorem WG.st (w : World) : St (WG w) [] w := ⟨fun _ _ h => h, (fun p hp => by cases hp), (fun p hp => by cases hp), List.nodup_nil, rfl, rfl⟩

/-- behind the call: what was there is there -/
theorem kept_of {w w' : World} (h : St (WG w) [] w') (may : MemPlace → Prop) : w.keptBut w' may := by
  refine ⟨h.os, h.out, fun i hi => ?_⟩
  have hx : w.heap[i]? = some (w.heap[i]'hi) := Array.getElem?_eq_getElem hi
  have := h.imm i _ hx
  rw [this, hx]
  cases w.heap[i]'hi with
  | cells c t fz => exact ⟨rfl, rfl, rfl, fun _ _ => rfl⟩
  | map es ck => exact .inr ⟨rfl, rfl⟩
  | _ => rfl
theorem same_of {w w' : World} (h : St (WG w) [] w') {x : MemPlace} (hx : x.block < w.heap.size) : w.sameAt w' x := by
  have h0 : w.heap[x.block]? = some (w.heap[x.block]'hx) := Array.getElem?_eq_getElem hx
  have h1 := h.imm _ _ h0
  cases x with
  | cell b off => show (match w'.heap[b]? with | some (.cells c _ _) => _ | _ => none) = (match w.heap[b]? with | some (.cells c _ _) => _ | _ => none); rw [show w'.heap[b]? = w.heap[b]? from h1.trans h0.symm]
  | map b => exact h1.trans h0.symm
theorem Try.laidOut : laidOutB Try.prog = true := by kernel_rfl
theorem trod_kept {H : Type} {enc : TypeId × Value → H} {t : TypeId} (hr : Try.prog.readableRec t = true) (hrow : t < Try.prog.types.size) {w w' : World} {v : Value} {d : DataW H} {ps : List MemPlace}
    (h : DataW.Trod enc Try.prog w 0 (fun _ => true) true t v d ps) (hs : St (WG w) [] w') (hlt : ∀ x ∈ ps, x.block < w.heap.size) :
    DataW.Trod enc Try.prog w' 0 (fun b => decide (b < w.heap.size)) true t v d ps :=
  WideElems.Trod_stays Try.laidOut hr hrow h (fun x hx => same_of hs (hlt x hx)) (fun x hx => by simpa using hlt x hx)
/-- the row's word of a call that answers true and leaves all alone -/
theorem post_true {H : Type} {enc : TypeId × Value → H} {f : Func} {s : ChangeSpec} {apart fresh handsOn : Bool} {w w' : World} {args : Array Value} {ds : List (DataW H)} {before : List MemPlace}
    (hW : DataW.Whole enc Try.prog f.params.toList s.vars apart w args.toList ds [] before) (hv : s.vars = []) (hrt : f.resultTypes = #[4]) (hres : (s.fn H (ds ++ [])).results = [.lit (.bool true)]) (hra : (s.fn H (ds ++ [])).args = ds) (hrv : (s.fn H (ds ++ [])).vars = [])
    (hargs : DataW.TrodAll enc Try.prog w' 0 (fun b => decide (b < w.heap.size)) true f.params.toList args.toList ds before) (hs : St (WG w) [] w') :
    s.post enc Try.prog f apart fresh handsOn false w args (.bool true) w' := by
  refine ⟨ds, [], before, [], before, [], hW, ?_, by rw [hra]; exact hargs, by rw [hrv, hv]; rfl, kept_of hs _, fun h => by cases h⟩
  rw [hrt, hres]
  exact trodAll_mk1 (shut_bool Try.underlying4 true)
end Go.Proofs.Ytjgnhhgigickaaa.Wk
/- From a reading of bytes to the walk's words: a slice of bytes read as data, and a byte. Conditions: none. -/

namespace Go.Proofs.Ytjgnhhgigickaaa.Wk
open Go Md Go.ChangeShapes Go.WideShapes Go.ChangeAt Go.RowKit

set_option maxRecDepth 100000 in
theorem read_bytes {H : Type} {enc : TypeId × Value → H} {w : World} {sp : Nat → Bool} {held : Bool} {v : Value} {d : DataW H} {ps : List MemPlace} {b0 : Nat} (hok : Value.okWide Try.prog w .any b0 35 v) (h : DataW.Trod enc Try.prog w 0 sp held 35 v d ps) : ∃ A n c, v = .slice A n c ∧ ByS (WG w) A n ∧ n ≤ c := by
  obtain ⟨f, hf⟩ := h
  have key : ∀ {x : Addr} {v : Value}, w.cell? x = some v → x.spot = none ∧ GC (WG w) ⟨x.block, x.off, none⟩ v := by
    intro x v hx
    unfold World.cell? at hx
    split at hx
    · rename_i c T fz hb
      split at hx
      · cases hx
      · rename_i hs
        exact ⟨by cases hh : x.spot with | none => rfl | some y => rw [hh] at hs; simp at hs, c, T, fz, hb, rfl, hx⟩
    · cases hx
  have hv1 : ∃ A n c, v = .slice A n c := by
    obtain ⟨A, n, c, rfl⟩ := okWide_slice Try.underlying35 hok
    exact ⟨A, n, c, rfl⟩
  obtain ⟨A, n, c, rfl⟩ := hv1
  refine ⟨A, n, c, rfl, ?_⟩
  rcases Go.ChangeShapes.open_ints Try.underlying35 Try.underlying5 (by kernel_rfl) hf with ⟨h1, _⟩ | ⟨a, len, cap, zs, h1, _, hl, _, hz, _, hc, _⟩
  · simp only [Value.cells, List.cons.injEq, Value.slice.injEq, and_true] at h1
    obtain ⟨rfl, rfl, rfl⟩ := h1
    exact ⟨fun i hi => absurd hi (Nat.not_lt_zero _), Nat.le_refl _⟩
  · simp only [Value.cells, List.cons.injEq, Value.slice.injEq, and_true] at h1
    obtain ⟨rfl, rfl, rfl⟩ := h1
    refine ⟨fun i hi => ?_, hl⟩
    have hzl : i < zs.length := by rw [hz]; split <;> omega
    obtain ⟨k1, k2⟩ := key (hc i hzl)
    have hab : (a.add i).block = a.block := by unfold Addr.add; split <;> rfl
    have hao : (a.add i).off = a.off + i := by unfold Addr.add; split <;> simp_all
    have hsp : a.spot = none := by
      have := (key (hc 0 (by omega))).1
      simpa [Addr.add] using this
    rw [hab, hao] at k2
    exact ⟨a.block, a.off, _, by cases a; simp only at hsp; subst hsp; rfl, k2⟩
set_option maxRecDepth 100000 in
theorem read_bool {H : Type} {enc : TypeId × Value → H} {w : World} {sp : Nat → Bool} {held : Bool} {v : Value} {d : DataW H} {ps : List MemPlace} {b0 : Nat} (hok : Value.okWide Try.prog w .any b0 4 v) (h : DataW.Trod enc Try.prog w 0 sp held 4 v d ps) :
    ∃ b, v = .bool b ∧ ps = [] := by
  obtain ⟨b, rfl⟩ := okWide_bool Try.underlying4 hok
  obtain ⟨f, hf⟩ := h
  obtain ⟨b', _, h2⟩ := DataW.trod_bool Try.underlying4 hf
  exact ⟨b, rfl, (Prod.mk.inj h2).2⟩
end Go.Proofs.Ytjgnhhgigickaaa.Wk
