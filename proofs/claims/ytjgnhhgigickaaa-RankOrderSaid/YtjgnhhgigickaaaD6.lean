/- The texts M4 K16 M5 W37 W38 W39 K18 W40 W41 M6 W43 W44 W45, joined by wip/tools/squeeze.py: contracts of the given program's functions and plain laws. Conditions: each theorem's own. -/
import Derived.Test.YtjgnhhgigickaaaD5
import Derived.Test.YtjgnhhgigickaaaRows
import Derived.ProofKit
set_option linter.all false

/- The plain law behind RankTexts: the program and the reference read a text alike. Conditions: none. -/

namespace Go.Proofs.Ytjgnhhgigickaaa.Wk
open Go Md
/-- what the answers of both have to do with one another -/
def Rel (s : List UInt8) (inner : Bool) (at_ : Nat) (q r : (T × Bool) × Nat) : Prop :=
  q.2 = r.2 ∧ at_ ≤ q.2 ∧ q.2 ≤ s.length ∧
  (q.1.2 = true → r.1.2 = false ∧ r.1.1 = q.1.1 ∧ (q.1.1.kids.length = 0 ↔ q.1.1.kind ≠ 3 ∧ q.1.1.kind ≠ 4) ∧ (inner = false → q.2 = s.length) ∧ (inner = true → s[q.2]? = some 41)) ∧
  (q.1.2 = false → r.1.2 = true ∨ (inner = false → q.2 ≠ s.length) ∧ (inner = true → ¬ s[q.2]? = some 41))
/-- the reference, behind the first part of a type -/
def rcont (f : Nat) (s : List UInt8) (at_ : Nat) (n : Int) (must : Bool) (t : T) : Option ((T × Bool) × Nat) :=
  if must = false ∧ ¬ s[at_]? = some 32 then some ((t, false), at_)
  else if (word [32, 45, 62, 32] s at_).1 = false then some ((t, true), (word [32, 45, 62, 32] s at_).2)
  else (rtyped f s (word [32, 45, 62, 32] s at_).2 n).bind fun p => some ((.mk 3 0 [t, p.1.1], p.1.2), p.2)
def Both (s : List UInt8) (m : Nat) : Prop := ∀ (at_ : Nat) (n : Int) (inner : Bool) (f g : Nat), at_ ≤ s.length → s.length - at_ ≤ m → 0 ≤ n → n ≤ 26 → 3 * (s.length - at_) + 3 ≤ f → 3 * (s.length - at_) + 3 ≤ g →
  ∃ q r, Md.typ f s at_ n inner = some q ∧ rtyped g s at_ n = some r ∧ Rel s inner at_ q r
end Go.Proofs.Ytjgnhhgigickaaa.Wk
/- From a reading of an argument to the walk's words: a type read as data is a tree in memory; and back: behind a call that leaves all old blocks alone the arguments read as before. Conditions: none. -/

namespace Go.Proofs.Ytjgnhhgigickaaa.Wk
open Go Md Go.ChangeShapes Go.WideShapes Go.ChangeAt Go.RowKit

/-- all that is there -/
def WG (w : World) : GH := ⟨fun b => w.heap[b]?, w.os, w.output⟩
theorem WG.st (w : World) : St (WG w) [] w := ⟨fun _ _ h => h, (fun p hp => by cases hp), (fun p hp => by cases hp), List.nodup_nil, rfl, rfl⟩

/-- behind the call: what was there is there -/
theorem kept_of {w w' : World} (h : St (WG w) [] w') (may : MemPlace → Prop) : w.keptBut w' may := by
  refine ⟨h.os, h.out, fun i hi => ?_⟩
  have hx : w.heap[i]? = some (w.heap[i]'hi) := Array.getElem?_eq_getElem hi
  have := h.imm i _ hx
  rw [this, hx]
  cases w.heap[i]'hi with
  | cells c t fz => exact ⟨rfl, rfl, rfl, fun _ _ => rfl⟩
  | map es ck => exact .inr ⟨rfl, rfl⟩
  | _ => rfl
theorem same_of {w w' : World} (h : St (WG w) [] w') {x : MemPlace} (hx : x.block < w.heap.size) : w.sameAt w' x := by
  have h0 : w.heap[x.block]? = some (w.heap[x.block]'hx) := Array.getElem?_eq_getElem hx
  have h1 := h.imm _ _ h0
  cases x with
  | cell b off => show (match w'.heap[b]? with | some (.cells c _ _) => _ | _ => none) = (match w.heap[b]? with | some (.cells c _ _) => _ | _ => none); rw [show w'.heap[b]? = w.heap[b]? from h1.trans h0.symm]
  | map b => exact h1.trans h0.symm
theorem Try.laidOut : laidOutB Try.prog = true := by kernel_rfl
theorem trod_kept {H : Type} {enc : TypeId × Value → H} {t : TypeId} (hr : Try.prog.readableRec t = true) (hrow : t < Try.prog.types.size) {w w' : World} {v : Value} {d : DataW H} {ps : List MemPlace}
    (h : DataW.Trod enc Try.prog w 0 (fun _ => true) true t v d ps) (hs : St (WG w) [] w') (hlt : ∀ x ∈ ps, x.block < w.heap.size) :
    DataW.Trod enc Try.prog w' 0 (fun b => decide (b < w.heap.size)) true t v d ps :=
  WideElems.Trod_stays Try.laidOut hr hrow h (fun x hx => same_of hs (hlt x hx)) (fun x hx => by simpa using hlt x hx)
/-- the row's word of a call that answers true and leaves all alone -/
theorem post_true {H : Type} {enc : TypeId × Value → H} {f : Func} {s : ChangeSpec} {apart fresh handsOn : Bool} {w w' : World} {args : Array Value} {ds : List (DataW H)} {before : List MemPlace}
    (hW : DataW.Whole enc Try.prog f.params.toList s.vars apart w args.toList ds [] before) (hv : s.vars = []) (hrt : f.resultTypes = #[4]) (hres : (s.fn H (ds ++ [])).results = [.lit (.bool true)]) (hra : (s.fn H (ds ++ [])).args = ds) (hrv : (s.fn H (ds ++ [])).vars = [])
    (hargs : DataW.TrodAll enc Try.prog w' 0 (fun b => decide (b < w.heap.size)) true f.params.toList args.toList ds before) (hs : St (WG w) [] w') :
    s.post enc Try.prog f apart fresh handsOn false w args (.bool true) w' := by
  refine ⟨ds, [], before, [], before, [], hW, ?_, by rw [hra]; exact hargs, by rw [hrv, hv]; rfl, kept_of hs _, fun h => by cases h⟩
  rw [hrt, hres]
  exact trodAll_mk1 (shut_bool Try.underlying4 true)
end Go.Proofs.Ytjgnhhgigickaaa.Wk
/- What the reference's functions on types compute: ranks, whether two are the same, what opening makes. Conditions: none. -/

namespace Go.Proofs.Ytjgnhhgigickaaa.Md
open Go Wk
def rrank : Nat → T → Option Int
  | 0, _ => none
  | f + 1, t =>
    if t.kind = 4 then
      match t.kids with
      | a :: _ => (rrank f a).bind fun r => some (max 1 r)
      | [] => none
    else if t.kind = 3 then
      match t.kids with
      | a :: b :: _ => (rrank f a).bind fun n => (rrank f b).bind fun m => some (max (if n > 0 then w64 (n + 1) else n) m)
      | _ => none
    else some 0
def rRank (f : Nat) (t : T) : Option (Int × Int) := if rRight t 0 ≠ 0 then some (0, rRight t 0) else (rrank f t).bind fun r => some (r, 0)
def rboth (a b : T) : Int := if rRight a 0 ≠ 0 then rRight a 0 else rRight b 0
def rSame (a b : T) : Bool × Int := if rboth a b ≠ 0 then (false, rboth a b) else (same a b, 0)
mutual
def rput (wth : T) : T → Int → T
  | .mk k num ks, out =>
    if k = 1 then (if num = out then wth else if num > out then .mk k (w64 (num - 1)) ks else .mk k num ks)
    else .mk k num (rputs wth ks (if k = 4 then w64 (out + 1) else out))
def rputs (wth : T) : List T → Int → List T
  | [], _ => []
  | t :: ts, out => rput wth t out :: rputs wth ts out
end
def rOpen (t wth : T) : T × Int :=
  if rboth t wth ≠ 0 then (t0, rboth t wth)
  else if t.kind ≠ 4 then (t0, 6)
  else match t.kids with
    | k :: _ => if rRight (rput wth k 0) 0 ≠ 0 then (t0, rRight (rput wth k 0) 0) else (rput wth k 0, 0)
    | [] => (t0, 0)
end Go.Proofs.Ytjgnhhgigickaaa.Md
/- Walks of the given program's functions: same, EqualFunc, Same. Printed by tools/w37.py. Conditions: none. -/

namespace Go.Proofs.Ytjgnhhgigickaaa.Wk
open Go Md
set_option maxRecDepth 20000
set_option linter.unusedVariables false
set_option linter.unusedSimpArgs false
attribute [local irreducible] endQ

def SameC (f : Nat) : Prop := ∀ {G : GH} {L : LH} {w : World} {va vb : Value} {a b : T}, T.sz a < f → IsPoly G va a → IsPoly G vb b → St G L w → Cal Try.prog 79 #[va, vb] w fun x w' => x = .bool (same a b) ∧ St G L w'
end Go.Proofs.Ytjgnhhgigickaaa.Wk
/- Walks of the given program's functions: the reference: rank, Rank, both, Same. Printed by tools/w38.py. Conditions: none. -/

namespace Go.Proofs.Ytjgnhhgigickaaa.Wk
open Go Md
set_option maxRecDepth 20000
set_option linter.unusedVariables false
set_option linter.unusedSimpArgs false
attribute [local irreducible] endQ
end Go.Proofs.Ytjgnhhgigickaaa.Wk
/- Walks of the given program's functions: the reference: put, Open. Printed by tools/w39.py. Conditions: none. -/

namespace Go.Proofs.Ytjgnhhgigickaaa.Wk
open Go Md
set_option maxRecDepth 20000
set_option linter.unusedVariables false
set_option linter.unusedSimpArgs false
attribute [local irreducible] endQ
theorem nds_mk (k n : Int) (ks : List T) : nds (.mk k n ks) = ndss ks + 1 := rfl
theorem ndss_cons (t : T) (ts : List T) : ndss (t :: ts) = nds t + ndss ts := rfl
theorem nds_pos (t : T) : 1 ≤ nds t := by cases t; unfold nds; omega
end Go.Proofs.Ytjgnhhgigickaaa.Wk
/- A tree of the walk's own: each row of Kids lies in a block that nobody else has. To freeze blocks for a while; a slice that is nil; the append of nothing. Conditions: none. -/

namespace Go.Proofs.Ytjgnhhgigickaaa.Wk
open Go Md

def lk (F : LH) (x : Nat) : Option Obj := (F.find? fun p => p.1 == x).map (·.2)
/-! ### trees of one's own -/
mutual
def OwnP : Value → T → LH → Prop
  | v, .mk k n ks, F => (ks = [] ∧ F = [] ∧ ∃ A c, v = .agg #[.int .i64 k, .int .i64 n, .slice A 0 c]) ∨
      ∃ b c cs F', F = (b, .cells (List.toArray cs) 24 (0, 0)) :: F' ∧ v = .agg #[.int .i64 k, .int .i64 n, .slice (some ⟨b, 0, none⟩) ks.length c] ∧ ks.length ≤ c ∧ OwnPs cs ks F'
def OwnPs : List Value → List T → LH → Prop
  | _, [], F => F = []
  | cs, t :: ts, F => ∃ v0 v1 v2 r F1 F2, cs = v0 :: v1 :: v2 :: r ∧ F = F1 ++ F2 ∧ OwnP (.agg #[v0, v1, v2]) t F1 ∧ OwnPs r ts F2
end
theorem OwnPs.app : ∀ {ts : List T} {cs us : List Value} {F : LH}, OwnPs cs ts F → OwnPs (cs ++ us) ts F
  | [], _, _, _, h => by unfold OwnPs at h ⊢; exact h
  | t :: ts, cs, us, F, h => by
    unfold OwnPs at h ⊢
    obtain ⟨v0, v1, v2, r, F1, F2, rfl, rfl, h1, h2⟩ := h
    exact ⟨v0, v1, v2, r ++ us, F1, F2, rfl, rfl, h1, OwnPs.app h2⟩
theorem OwnPs.snoc : ∀ {ts : List T} {cs : List Value} {F F' : LH} {a b c : Value} {t : T}, OwnPs cs ts F → cs.length = ts.length * 3 → OwnP (.agg #[a, b, c]) t F' → OwnPs (cs ++ [a, b, c]) (ts ++ [t]) (F ++ F')
  | [], cs, F, F', a, b, c, t, h, hl, h2 => by
    unfold OwnPs at h; subst h
    have : cs = [] := by simpa using hl
    subst this
    show OwnPs [a, b, c] [t] F'
    unfold OwnPs
    exact ⟨a, b, c, [], F', [], rfl, by simp, h2, by unfold OwnPs; rfl⟩
  | u :: ts, cs, F, F', a, b, c, t, h, hl, h2 => by
    unfold OwnPs at h
    obtain ⟨v0, v1, v2, r, F1, F2, rfl, rfl, h3, h4⟩ := h
    show OwnPs _ (u :: (ts ++ [t])) _
    unfold OwnPs
    exact ⟨v0, v1, v2, r ++ [a, b, c], F1, F2 ++ F', rfl, by simp, h3, OwnPs.snoc h4 (by simp at hl; omega) h2⟩
mutual
theorem OwnP.poly {G : GH} : ∀ {t : T} {v : Value} {F : LH}, OwnP v t F → (∀ p, p ∈ F → G p.1 = some p.2) → IsPoly G v t
  | .mk k n ks, v, F, h, hF => by
    unfold OwnP at h
    rcases h with ⟨rfl, rfl, A, c, rfl⟩ | ⟨b, c, cs, F', rfl, rfl, hc, h⟩
    · exact IsPoly.mk (t := .mk k n []) (Nat.zero_le _) IsPolys.nil
    · have hb := hF _ (.head _)
      exact IsPoly.mk (t := .mk k n ks) hc (OwnPs.polys (off := 0) h (fun p hp => hF p (.tail _ hp)) fun i u hi => GC.of hb (by rw [Nat.zero_add]; simpa using hi))
theorem OwnPs.polys {G : GH} {b : Nat} : ∀ {ts : List T} {cs : List Value} {F : LH} {off : Nat}, OwnPs cs ts F → (∀ p, p ∈ F → G p.1 = some p.2) → (∀ i u, cs[i]? = some u → GC G ⟨b, off + i, none⟩ u) → IsPolys G (some ⟨b, off, none⟩) ts
  | [], _, _, _, _, _, _ => IsPolys.nil
  | t :: ts, cs, F, off, h, hF, hc => by
    unfold OwnPs at h
    obtain ⟨v0, v1, v2, r, F1, F2, rfl, rfl, h1, h2⟩ := h
    unfold IsPolys
    exact ⟨b, off, v0, v1, v2, rfl, hc 0 v0 rfl, hc 1 v1 rfl, hc 2 v2 rfl, OwnP.poly h1 (fun p hp => hF p (List.mem_append_left _ hp)), OwnPs.polys h2 (fun p hp => hF p (List.mem_append_right _ hp)) fun i u hi => by
      have := hc (i + 3) u (by simpa using hi)
      rwa [show off + (i + 3) = off + 3 + i by omega] at this⟩
end
theorem OwnP.shape {v : Value} {t : T} {F : LH} (h : OwnP v t F) : ∃ A c, v = .agg #[.int .i64 t.kind, .int .i64 t.num, .slice A t.kids.length c] := by
  obtain ⟨k, n, ks⟩ := t
  unfold OwnP at h
  rcases h with ⟨rfl, rfl, A, c, rfl⟩ | ⟨b, c, cs, F', rfl, rfl, hc, h⟩
  · exact ⟨A, c, rfl⟩
  · exact ⟨_, c, rfl⟩
theorem OwnP.zero {A : Option Addr} {c : Nat} : OwnP (.agg #[.int .i64 0, .int .i64 0, .slice A 0 c]) t0 [] := by unfold t0 OwnP; exact .inl ⟨rfl, rfl, A, c, rfl⟩

/-- cells that begin as the cells of types -/
def PoH (G : GH) : List Value → List T → Prop
  | _, [] => True
  | v0 :: v1 :: v2 :: r, t :: l => IsPoly G (.agg #[v0, v1, v2]) t ∧ PoH G r l
  | _, _ => False
theorem PoH.open {G : GH} {us : List Value} {t : T} {l : List T} (h : PoH G us (t :: l)) : ∃ A c r, us = .int .i64 t.kind :: .int .i64 t.num :: .slice A t.kids.length c :: r ∧ IsPoly G (.agg #[.int .i64 t.kind, .int .i64 t.num, .slice A t.kids.length c]) t ∧ PoH G r l := by
  match us, h with
  | v0 :: v1 :: v2 :: r, h =>
    unfold PoH at h
    obtain ⟨A, c, he, _, _⟩ := id h.1.open
    simp only [Value.agg.injEq] at he
    have he := congrArg Array.toList he
    simp only [List.cons.injEq, and_true] at he
    obtain ⟨rfl, rfl, rfl⟩ := he
    exact ⟨A, c, r, rfl, h.1, h.2⟩
/-- the cells of a row of types that nobody writes -/
theorem IsPolys.src {G : GH} : ∀ {ks : List T} {b off : Nat}, IsPolys G (some ⟨b, off, none⟩) ks → ∃ news : List Value, news.length = ks.length * 3 ∧ (∀ sp, PoH G (news ++ sp) ks) ∧ (∀ j u, news[j]? = some u → GC G ⟨b, off + j, none⟩ u) ∧ (news.all (·.oneCell')) = true
  | [], b, off, _ => ⟨[], rfl, fun _ => by unfold PoH; trivial, fun j u h => by simp at h, rfl⟩
  | t :: ts, b, off, h => by
    unfold IsPolys at h
    obtain ⟨b', off', v0, v1, v2, he, h0, h1, h2, hp, hr⟩ := h
    cases he
    obtain ⟨news, hl, hP, hj, ho⟩ := IsPolys.src hr
    obtain ⟨A, c, he, _, _⟩ := id hp.open
    simp only [Value.agg.injEq] at he
    have he := congrArg Array.toList he
    simp only [List.cons.injEq, and_true] at he
    obtain ⟨rfl, rfl, rfl⟩ := he
    refine ⟨_ :: _ :: _ :: news, by simp only [List.length_cons, hl]; omega, fun sp => by simp only [List.cons_append]; unfold PoH; exact ⟨hp, hP sp⟩, fun j u hu => ?_, by simp only [List.all_cons, ho]; rfl⟩
    match j, hu with
    | 0, hu => simp at hu; subst hu; exact h0
    | 1, hu => simp at hu; subst hu; exact h1
    | 2, hu => simp at hu; subst hu; exact h2
    | j + 3, hu =>
      have := hj j u (by simpa using hu)
      rwa [show off + 3 + j = off + (j + 3) by omega] at this

section
variable {P : Program} {ops : Array Oper} {K : Env → World → Prop} {rest : List (Mv × Nat)} {S : World → Prop} {ρ : Env} {w : World} {i : Nat} {G : GH} {L : LH}
/-- an effect that only gives a value -/
theorem m_pv (x : Value) (d : Option Nat) (h : opK ops i ρ (pv P) = some (.value x, d)) (hst : St G L w) (hk : RunD P ops K rest (SS G L) (updo ρ d x) w) : RunD P ops K ((.f, i) :: rest) S ρ w :=
  m_f _ d h fun _ hx => OpE_ok (pv_ok hx w) (nx hst hk)
end
end Go.Proofs.Ytjgnhhgigickaaa.Wk
/- Walks of the given program's functions: Clone, opened. Printed by tools/w40.py. Conditions: none. -/

namespace Go.Proofs.Ytjgnhhgigickaaa.Wk
open Go Md
set_option maxRecDepth 20000
set_option linter.unusedVariables false
set_option linter.unusedSimpArgs false
attribute [local irreducible] endQ
theorem at0 (vs r : List Value) {x0 x1 x2 : Value} {n : Nat} (h : vs.length = n) : (List.toArray (vs ++ x0 :: x1 :: x2 :: r))[n]? = some x0 := by subst h; simp
theorem at1 (vs r : List Value) {x0 x1 x2 : Value} {n : Nat} (h : vs.length = n) : (List.toArray (vs ++ x0 :: x1 :: x2 :: r))[n + 1]? = some x1 := by
 subst h; simp only [List.getElem?_toArray]; rw [List.getElem?_append_right (by omega), show vs.length + 1 - vs.length = 1 by omega]; rfl
theorem at2 (vs r : List Value) {x0 x1 x2 : Value} {n : Nat} (h : vs.length = n) : (List.toArray (vs ++ x0 :: x1 :: x2 :: r))[n + 2]? = some x2 := by
 subst h; simp only [List.getElem?_toArray]; rw [List.getElem?_append_right (by omega), show vs.length + 2 - vs.length = 2 by omega]; rfl

end Go.Proofs.Ytjgnhhgigickaaa.Wk
/- Walks of the given program's functions: spoil, Open. Printed by tools/w41.py. Conditions: none. -/

namespace Go.Proofs.Ytjgnhhgigickaaa.Wk
open Go Md
set_option maxRecDepth 20000
set_option linter.unusedVariables false
set_option linter.unusedSimpArgs false
attribute [local irreducible] endQ

theorem OwnPs.open {us : List Value} {q : T} {ts : List T} {F : LH} (h : OwnPs us (q :: ts) F) : ∃ A c ur F1 F2, us = .int .i64 q.kind :: .int .i64 q.num :: .slice A q.kids.length c :: ur ∧ F = F1 ++ F2 ∧ OwnP (.agg #[.int .i64 q.kind, .int .i64 q.num, .slice A q.kids.length c]) q F1 ∧ OwnPs ur ts F2 := by
 unfold OwnPs at h
 obtain ⟨v0, v1, v2, r, F1, F2, rfl, rfl, h1, h2⟩ := h
 obtain ⟨A, c, he⟩ := id h1.shape
 simp only [Value.agg.injEq] at he
 have he := congrArg Array.toList he
 simp only [List.cons.injEq, and_true] at he
 obtain ⟨rfl, rfl, rfl⟩ := he
 exact ⟨A, c, r, F1, F2, rfl, rfl, h1, h2⟩

end Go.Proofs.Ytjgnhhgigickaaa.Wk
/- The plain laws behind RankTypes: ranks, whether two types are the same, and what opening makes, are in the program as in the reference. Conditions: none. -/

namespace Go.Proofs.Ytjgnhhgigickaaa.Wk
open Go Md
mutual
/-- no variable leads out of so many quantifiers -/
def clo : Int → T → Prop
  | d, .mk k num ks => (k = 1 → 0 ≤ num ∧ num < d) ∧ clos (if k = 4 then d + 1 else d) ks
def clos : Int → List T → Prop
  | _, [] => True
  | d, t :: ts => clo d t ∧ clos d ts
end
end Go.Proofs.Ytjgnhhgigickaaa.Wk
/- Walks of the given program's functions: draw, Less. Printed by tools/w43.py. Conditions: none. -/

namespace Go.Proofs.Ytjgnhhgigickaaa.Wk
open Go Md
set_option maxRecDepth 20000
set_option linter.unusedVariables false
set_option linter.unusedSimpArgs false
attribute [local irreducible] endQ

noncomputable def xr64 (a b : Int) : Int := match pv Try.prog (Op.intBits .xor .u64 a b) with | some (.int _ n) => n | _ => 0
/-- bytes that nobody writes -/
def ByS (G : GH) (A : Option Addr) (n : Nat) : Prop := ∀ i, i < n → ∃ b off u, A = some ⟨b, off, none⟩ ∧ GC G ⟨b, off + i, none⟩ (.int .u8 u)
theorem ByS.mono {G G' : GH} {A : Option Addr} {n : Nat} (h : ByS G A n) (hG : Le G G') : ByS G' A n := fun i hi => let ⟨b, off, u, h1, h2⟩ := h i hi; ⟨b, off, u, h1, h2.mono hG⟩
@[reducible] def StB (A : Option Addr) (n c at_ : Nat) (sd : Int) : Obj := .cells #[.slice A n c, .int .i64 ((at_ : Nat) : Int), .int .u64 sd] 96
theorem draw_nn (x : Int) : 0 ≤ IntKind.wrap .i64 (Int.fdiv (IntKind.wrap .u64 x) 1099511627776) := by
 have h1 : 0 ≤ IntKind.wrap .u64 x ∧ IntKind.wrap .u64 x < 18446744073709551616 := by
  simp only [IntKind.wrap, IntKind.bits, IntKind.signed]; simp; omega
 rw [Int.fdiv_eq_ediv_of_nonneg _ (by decide)]
 rw [wrap_id (by omega) (by omega)]
 omega
section
variable {ops : Array Oper} {K : Env → World → Prop} {rest : List (Mv × Nat)} {S : World → Prop} {ρ : Env} {w : World} {i : Nat}
theorem m_rem {x y : Operand} {t ty : TypeId} {a b : Int} {k : IntKind} {dd : Option Nat} (h : opAt ops i ρ = some (.binOp .rem t x y ty, dd)) (hx : ev ρ x = .int k a) (hy : ev ρ y = .int k b) (hb : b ≠ 0) (r : Int) (hr : a.tmod b = r)
  (hk : RunD Try.prog ops K rest S (updo ρ dd (.int k r)) w) : RunD Try.prog ops K ((.p, i) :: rest) S ρ w := by
 refine m_pF _ h (fun o ho w' => ?_) hk
 subst hr
 have hg : (eqGuard .rem t x y (.int k a) (.int k b)).run Try.prog w' = .ok () w' := rfl
 simp [execOp, ho, hx, hy, hg, binOp, Op.intDiv, hb, Result.andThen]
end

theorem c74 {G : GH} {L : LH} {w : World} {sb n c at_ : Nat} {A : Option Addr} {sd : Int} (hB : ByS G A n) (hn : n < lim) (h1 : at_ < lim) (hst : St G ((sb, StB A n c at_ sd) :: L) w) :
  Cal Try.prog 74 #[.pointer (some ⟨sb, 0, none⟩)] w fun x w' => ∃ r at2 sd2, x = .int .i64 r ∧ 0 ≤ r ∧ at2 ≤ at_ + 1 ∧ St G ((sb, StB A n c at2 sd2) :: L) w' := by
 have hlim : lim = 1099511627776 := rfl
 refine cal_of_W Try.func74 rfl (Nat.le_of_ble_eq_true (by kernel_rfl)) ?_
 refine W_seq ?_
 refine W_rg [(.p, 0)] hst ?_
 refine r_en [] [] [(2, iN 0)] rc_nil ?_
 refine W_seqI (fun ρ D w => ∃ (at2 : Nat) (sd1 : Int), EqS ρ [(0, pN sb 0)] ∧ D = [] ∧ St G ((sb, .cells #[.slice A n c, iN (((at2 : Nat) : Int)), .int .u64 sd1] 96) :: L) w ∧ (at2 ≤ at_ + 1)) ?_ ?_
 ·skip
  refine W_seq ?_
  refine W_rg [(.p, 0), (.p, 1), (.p, 2), (.l, 3), (.p, 4), (.p, 5)] hst ?_
  refine r_en [[.slice A n c]] [(⟨sb, 0, none⟩, .slice A n c)] [(3, pN sb 0), (4, pN sb 0), (5, pN sb 0), (6, .slice A n c), (7, iN (((n : Nat) : Int))), (8, .bool (decide ((((n : Nat) : Int)) > 0)))] (rc_L 0 rfl rfl rc_nil) ?_
  refine W_cd (b := decide ((((n : Nat) : Int)) > 0)) (fun hc1 => ?_) (fun hc1 => ?_)
  ·skip
   have hn0 : 0 < n := by have := of_decide_eq_true hc1; omega
   have hml : at_ % n < n := Nat.mod_lt _ hn0
   have hstk := hst
   obtain ⟨eb, eo, u, rfl, hu⟩ := hB (at_ % n) hml
   have hst := hstk; clear hstk
   have hu : GC G ⟨eb, eo + (at_ % n) * 1, none⟩ (.int .u8 u) := by rw [Nat.mul_one]; exact hu
   refine W_seq ?_
   refine W_rgd [(.p, 0), (.p, 1), (.p, 2), (.l, 3), (.p, 4), (.p, 5), (.p, 6), (.l, 7), (.p, 8), (.p, 9), (.p, 10), (.l, 11), (.p, 12), (.p, 13), (.p, 14), (.l, 15), (.p, 16), (.p, 17), (.p, 18), (.l, 19), (.p, 20), (.p, 21), (.p, 22), (.p, 23), (.f, 24)] hst (fun w1 hst => ?_)
   refine r_sg [(.p, 0), (.p, 1), (.p, 2), (.l, 3), (.p, 4), (.p, 5), (.p, 6), (.l, 7), (.p, 8), (.p, 9), (.p, 10), (.l, 11), (.p, 12), (.p, 13), (.p, 14), (.l, 15), (.p, 16)] [[.int .u64 sd], [.slice (some ⟨eb, eo, none⟩) n c], [iN (((at_ : Nat) : Int))], [.slice (some ⟨eb, eo, none⟩) n c]] [(⟨sb, 2, none⟩, .int .u64 sd), (⟨sb, 0, none⟩, .slice (some ⟨eb, eo, none⟩) n c), (⟨sb, 1, none⟩, iN (((at_ : Nat) : Int))), (⟨sb, 0, none⟩, .slice (some ⟨eb, eo, none⟩) n c)] [(9, pN sb 0), (10, pN sb 0), (11, pN sb 2), (12, .int .u64 sd), (13, pN sb 0), (14, pN sb 0), (15, pN sb 0), (16, .slice (some ⟨eb, eo, none⟩) n c), (17, pN sb 0), (18, pN sb 0), (19, pN sb 1), (20, iN (((at_ : Nat) : Int))), (21, pN sb 0), (22, pN sb 0), (23, pN sb 0), (24, .slice (some ⟨eb, eo, none⟩) n c), (25, iN (((n : Nat) : Int)))] (rc_L 0 rfl rfl (rc_L 0 rfl rfl (rc_L 0 rfl rfl (rc_L 0 rfl rfl rc_nil)))) ?_
   refine m_rem (k := .i64) (a := ((at_ : Nat) : Int)) (b := ((n : Nat) : Int)) (dd := (some 26)) (show opAt _ _ _ = some (.binOp .rem 3 (.tmp 20) (.tmp 25) 3, _) by kernel_rfl) (by kernel_rfl) (by kernel_rfl) (by omega) (((at_ % n : Nat)) : Int) (by rw [Int.tmod_eq_emod_of_nonneg (by omega)]; omega) ?_
   refine m_idx (sz := 1) (b := eb) (off := eo) (n := n) (c := c) (k := (at_ % n)) (some 27) (show opAt _ _ _ = some (.indexAddr 35 (.tmp 16) (.tmp 26), _) by kernel_rfl) (by kernel_rfl) (by kernel_rfl) Try.underlying35 sz5 hml ?_
   refine r_sg [(.l, 19), (.p, 20), (.p, 21), (.p, 22), (.p, 23)] [[.int .u8 u]] [(⟨eb, eo + (at_ % n) * 1, none⟩, .int .u8 u)] [(28, .int .u8 u), (29, .int .u64 (IntKind.wrap .u64 u)), (30, .int .u64 (xr64 sd (IntKind.wrap .u64 u))), (31, pN sb 0), (32, pN sb 2)] (rc_C hu rc_nil) ?_
   refine m_st ((sb, .cells #[.slice (some ⟨eb, eo, none⟩) n c, iN (((at_ : Nat) : Int)), .int .u64 (xr64 sd (IntKind.wrap .u64 u))] 96) :: L) 0 [(2, .int .u64 (xr64 sd (IntKind.wrap .u64 u)))] [.slice (some ⟨eb, eo, none⟩) n c, iN (((at_ : Nat) : Int)), .int .u64 (xr64 sd (IntKind.wrap .u64 u))] none hst (fun w1 hst => ?_)
   refine r_nil ?_
   refine W_rg [(.p, 0), (.p, 1), (.p, 2), (.l, 3), (.p, 4), (.p, 5), (.p, 6), (.f, 7)] hst ?_
   refine r_sg [(.p, 0), (.p, 1), (.p, 2), (.l, 3), (.p, 4), (.p, 5), (.p, 6)] [[iN (((at_ : Nat) : Int))]] [(⟨sb, 1, none⟩, iN (((at_ : Nat) : Int)))] [(33, pN sb 0), (34, pN sb 0), (35, pN sb 1), (36, iN (((at_ : Nat) : Int))), (37, iN (IntKind.wrap .i64 ((((at_ : Nat) : Int)) + 1))), (38, pN sb 0), (39, pN sb 1)] (rc_L 0 rfl rfl rc_nil) ?_
   refine m_st ((sb, .cells #[.slice (some ⟨eb, eo, none⟩) n c, iN (IntKind.wrap .i64 ((((at_ : Nat) : Int)) + 1)), .int .u64 (xr64 sd (IntKind.wrap .u64 u))] 96) :: L) 0 [(1, iN (IntKind.wrap .i64 ((((at_ : Nat) : Int)) + 1)))] [.slice (some ⟨eb, eo, none⟩) n c, iN (IntKind.wrap .i64 ((((at_ : Nat) : Int)) + 1)), .int .u64 (xr64 sd (IntKind.wrap .u64 u))] none hst (fun w1 hst => ?_)
   refine r_nil ?_
   rw [wrap_succ (by omega)] at hst
   exact ⟨at_ + 1, xr64 sd (IntKind.wrap .u64 u), ⟨by kernel_rfl, trivial⟩, rfl, hst, Nat.le_refl _⟩
  ·skip
   refine W_skip ?_
   exact ⟨at_, sd, ⟨by kernel_rfl, trivial⟩, rfl, hst, Nat.le_succ _⟩
 clear hst; rintro ρ D w1 ⟨at2, sd1, hE2, rfl, hst, hat2⟩
 refine W_env hE2 ?_
 refine W_seq ?_
 refine W_rg [(.p, 0), (.p, 1), (.p, 2), (.p, 3), (.l, 4), (.p, 5), (.p, 6), (.p, 7), (.p, 8), (.f, 9)] hst ?_
 refine r_sg [(.p, 0), (.p, 1), (.p, 2), (.p, 3), (.l, 4), (.p, 5), (.p, 6), (.p, 7), (.p, 8)] [[.int .u64 sd1]] [(⟨sb, 2, none⟩, .int .u64 sd1)] [(40, pN sb 0), (41, pN sb 0), (42, pN sb 0), (43, pN sb 2), (44, .int .u64 sd1), (45, .int .u64 (IntKind.wrap .u64 (sd1 * 6364136223846793005))), (46, .int .u64 (IntKind.wrap .u64 ((IntKind.wrap .u64 (sd1 * 6364136223846793005)) + 1442695040888963407))), (47, pN sb 0), (48, pN sb 2)] (rc_L 0 rfl rfl rc_nil) ?_
 refine m_st ((sb, .cells #[.slice A n c, iN (((at2 : Nat) : Int)), .int .u64 (IntKind.wrap .u64 ((IntKind.wrap .u64 (sd1 * 6364136223846793005)) + 1442695040888963407))] 96) :: L) 0 [(2, .int .u64 (IntKind.wrap .u64 ((IntKind.wrap .u64 (sd1 * 6364136223846793005)) + 1442695040888963407)))] [.slice A n c, iN (((at2 : Nat) : Int)), .int .u64 (IntKind.wrap .u64 ((IntKind.wrap .u64 (sd1 * 6364136223846793005)) + 1442695040888963407))] none hst (fun w1 hst => ?_)
 refine r_nil ?_
 refine W_seq ?_
 refine W_rg [(.p, 0), (.p, 1), (.p, 2), (.l, 3), (.p, 4), (.p, 5), (.p, 6)] hst ?_
 refine r_en [[.int .u64 (IntKind.wrap .u64 ((IntKind.wrap .u64 (sd1 * 6364136223846793005)) + 1442695040888963407))]] [(⟨sb, 2, none⟩, .int .u64 (IntKind.wrap .u64 ((IntKind.wrap .u64 (sd1 * 6364136223846793005)) + 1442695040888963407)))] [(49, pN sb 0), (50, pN sb 0), (51, pN sb 2), (52, .int .u64 (IntKind.wrap .u64 ((IntKind.wrap .u64 (sd1 * 6364136223846793005)) + 1442695040888963407))), (53, .int .u64 (Int.fdiv (IntKind.wrap .u64 ((IntKind.wrap .u64 (sd1 * 6364136223846793005)) + 1442695040888963407)) 1099511627776)), (54, iN (IntKind.wrap .i64 (Int.fdiv (IntKind.wrap .u64 ((IntKind.wrap .u64 (sd1 * 6364136223846793005)) + 1442695040888963407)) 1099511627776))), (2, iN (IntKind.wrap .i64 (Int.fdiv (IntKind.wrap .u64 ((IntKind.wrap .u64 (sd1 * 6364136223846793005)) + 1442695040888963407)) 1099511627776)))] (rc_L 0 rfl rfl rc_nil) ?_
 refine W_ret ?_
 refine q_rt [] [] (iN (IntKind.wrap .i64 (Int.fdiv (IntKind.wrap .u64 ((IntKind.wrap .u64 (sd1 * 6364136223846793005)) + 1442695040888963407)) 1099511627776))) rc_nil hst ?_
 exact ⟨_, at2, _, rfl, draw_nn _, hat2, hst⟩

theorem c32 {G : GH} {L : LH} {w : World} {sb n c at_ : Nat} {A : Option Addr} {sd k : Int} (hB : ByS G A n) (hn : n < lim) (h1 : at_ < lim) (hst : St G ((sb, StB A n c at_ sd) :: L) w) :
  Cal Try.prog 32 #[.pointer (some ⟨sb, 0, none⟩), .int .i64 k] w fun x w' => ∃ r at2 sd2, x = .int .i64 r ∧ (k ≤ 0 → r = 0) ∧ (0 < k → 0 ≤ r ∧ r < k) ∧ at2 ≤ at_ + 1 ∧ St G ((sb, StB A n c at2 sd2) :: L) w' := by
 refine cal_of_W Try.func32 rfl (Nat.le_of_ble_eq_true (by kernel_rfl)) ?_
 refine W_seq ?_
 refine W_rg [(.p, 0)] hst ?_
 refine r_en [] [] [(4, iN 0)] rc_nil ?_
 refine W_seq ?_
 refine W_seq ?_
 refine W_rg [(.p, 0), (.p, 1)] hst ?_
 refine r_en [] [] [(5, iN k), (6, .bool (decide (k ≤ 0)))] rc_nil ?_
 refine W_cd (b := decide (k ≤ 0)) (fun hc1 => ?_) (fun hc1 => ?_)
 ·skip
  have hk : k ≤ 0 := of_decide_eq_true hc1
  refine W_seq ?_
  refine W_rg [(.p, 0)] hst ?_
  refine r_en [] [] [(4, iN 0)] rc_nil ?_
  refine W_ret ?_
  refine q_rt [] [] (iN 0) rc_nil hst ?_
  exact ⟨0, at_, sd, rfl, fun _ => rfl, fun h => absurd h (by omega), Nat.le_succ _, hst⟩
 ·skip
  have hk : ¬ k ≤ 0 := of_decide_eq_false hc1
  refine W_skip ?_
  refine W_seq ?_
  refine W_rg [(.p, 0), (.f, 1), (.p, 2), (.p, 3), (.p, 4)] hst ?_
  refine r_sg [(.p, 0)] [] [] [(7, pN sb 0)] rc_nil ?_
  refine m_cl #[pN sb 0] (some 8) (c74 hB hn h1 hst) ?_
  rintro _ w1 ⟨r0, at2, sd2, rfl, hr0, hat2, hst⟩
  refine nx hst ?_
  refine r_sg [(.p, 2)] [] [] [(9, iN k)] rc_nil ?_
  refine m_rem (k := .i64) (a := r0) (b := k) (dd := (some 10)) (show opAt _ _ _ = some (.binOp .rem 3 (.tmp 8) (.tmp 9) 3, _) by kernel_rfl) (by kernel_rfl) (by kernel_rfl) (by omega) (r0 % k) (by rw [Int.tmod_eq_emod_of_nonneg hr0]) ?_
  refine r_en [] [] [(4, iN (r0 % k))] rc_nil ?_
  refine W_ret ?_
  refine q_rt [] [] (iN (r0 % k)) rc_nil hst ?_
  exact ⟨_, at2, sd2, rfl, fun h => absurd h hk, fun h => ⟨Int.emod_nonneg _ (by omega), Int.emod_lt_of_pos _ h⟩, hat2, hst⟩

end Go.Proofs.Ytjgnhhgigickaaa.Wk
/- Walks of the given program's functions: Clone of bytes, Of. Printed by tools/w44.py. Conditions: none. -/

namespace Go.Proofs.Ytjgnhhgigickaaa.Wk
open Go Md
set_option maxRecDepth 20000
set_option linter.unusedVariables false
set_option linter.unusedSimpArgs false
attribute [local irreducible] endQ

theorem ByS.src {G : GH} : ∀ {n b off : Nat}, ByS G (some ⟨b, off, none⟩) n → ∃ news : List Value, news.length = n ∧ (∀ (j : Nat) (u : Value), news[j]? = some u → GC G ⟨b, off + j, none⟩ u) ∧ (news.all (·.oneCell')) = true ∧ ∀ (j : Nat) (x : Value), news[j]? = some x → ∃ u, x = .int .u8 u
 | 0, _, _, _ => ⟨[], rfl, (fun j u h => by simp at h), rfl, (fun j u h => by simp at h)⟩
 | n + 1, b, off, h => by
  obtain ⟨b', off', u, he, hu⟩ := h 0 (Nat.succ_pos _)
  cases he
  obtain ⟨news, hl, hj, ho, hx⟩ := ByS.src (n := n) (b := b) (off := off + 1) (fun i hi => by
   obtain ⟨b', off', u, he, hu⟩ := h (i + 1) (by omega)
   cases he
   exact ⟨b, off + 1, u, rfl, by rw [show off + 1 + i = off + (i + 1) by omega]; exact hu⟩)
  refine ⟨.int .u8 u :: news, by simp [hl], fun j v hv => ?_, by simp only [List.all_cons, ho]; rfl, fun j v hv => ?_⟩
  ·cases j with
   | zero => simp at hv; subst hv; exact hu
   | succ j => rw [show off + (j + 1) = off + 1 + j by omega]; exact hj j v (by simpa using hv)
  ·cases j with
   | zero => simp at hv; exact ⟨u, hv.symm⟩
   | succ j => exact hx j v (by simpa using hv)

theorem c62 {G : GH} {L : LH} {w : World} {A : Option Addr} {n c : Nat} (hB : ByS G A n) (hl : n < lim) (hst : St G L w) : Cal Try.prog 62 #[.slice A n c] w fun x w' => ∃ G' A' c', Le G G' ∧ x = .slice A' n c' ∧ ByS G' A' n ∧ St G' L w' := by
 have hlim : lim = 1099511627776 := rfl
 obtain _ | n := n
 ·obtain _ | a := A
  ·skip
   refine cal_of_W Try.func62 rfl (Nat.le_of_ble_eq_true (by kernel_rfl)) ?_
   refine W_seq ?_
   refine W_rg [(.p, 0)] hst ?_
   refine r_en [] [] [(2, .slice none 0 0)] rc_nil ?_
   refine W_seq ?_
   refine W_seq ?_
   refine W_rg [(.p, 0), (.p, 1)] hst ?_
   refine r_en [] [] [(3, .slice none 0 c), (4, .bool true)] rc_nil ?_
   refine W_cT ?_
   refine W_seq ?_
   refine W_rg [(.p, 0)] hst ?_
   refine r_en [] [] [(2, .slice none 0 0)] rc_nil ?_
   refine W_ret ?_
   refine q_rt [] [] (.slice none 0 0) rc_nil hst ?_
   exact ⟨G, _, _, Le.refl _, rfl, (fun i hi => absurd hi (Nat.not_lt_zero _)), hst⟩
  ·skip
   refine cal_of_W Try.func62 rfl (Nat.le_of_ble_eq_true (by kernel_rfl)) ?_
   refine W_seq ?_
   refine W_rg [(.p, 0)] hst ?_
   refine r_en [] [] [(2, .slice none 0 0)] rc_nil ?_
   refine W_seq ?_
   refine W_seq ?_
   refine W_rg [(.p, 0), (.p, 1)] hst ?_
   refine r_en [] [] [(3, .slice ((some a)) 0 c), (4, .bool false)] rc_nil ?_
   refine W_cF ?_
   refine W_skip ?_
   refine W_seq ?_
   refine W_rg [(.f, 0), (.p, 1), (.f, 2), (.p, 3)] hst ?_
   refine m_new (.cells #[] 5) (fun b1 => .slice (some ⟨b1, 0, none⟩) 0 0) (some 5) (fun b => by kernel_rfl) hst (fun b1 w1 hst => ?_)
   refine r_sg [(.p, 1)] [] [] [(6, .slice ((some a)) 0 c)] rc_nil ?_
   refine m_pv (.slice (some ⟨b1, 0, none⟩) 0 0) (some 7) (by kernel_rfl) hst ?_
   refine r_en [] [] [(2, .slice (some ⟨b1, 0, none⟩) 0 0)] rc_nil ?_
   refine W_ret ?_
   refine q_rt [] [] (.slice (some ⟨b1, 0, none⟩) 0 0) rc_nil hst ?_
   exact ⟨G, _, _, Le.refl _, rfl, (fun i hi => absurd hi (Nat.not_lt_zero _)), hst.drop [_]⟩
 ·skip
  have hstk := hst
  obtain ⟨eb, eo, _, rfl, _⟩ := hB 0 (Nat.succ_pos _)
  have hst := hstk; clear hstk
  obtain ⟨news, hnl, hnj, hno, hnx⟩ := ByS.src hB
  refine cal_of_W Try.func62 rfl (Nat.le_of_ble_eq_true (by kernel_rfl)) ?_
  refine W_seq ?_
  refine W_rg [(.p, 0)] hst ?_
  refine r_en [] [] [(2, .slice none 0 0)] rc_nil ?_
  refine W_seq ?_
  refine W_seq ?_
  refine W_rg [(.p, 0), (.p, 1)] hst ?_
  refine r_en [] [] [(3, .slice (some ⟨eb, eo, none⟩) ((n + 1)) c), (4, .bool false)] rc_nil ?_
  refine W_cF ?_
  refine W_skip ?_
  refine W_seq ?_
  refine W_rg [(.f, 0), (.p, 1), (.f, 2), (.p, 3)] hst ?_
  refine m_new (.cells #[] 5) (fun b1 => .slice (some ⟨b1, 0, none⟩) 0 0) (some 5) (fun b => by kernel_rfl) hst (fun b1 w1 hst => ?_)
  refine r_sg [(.p, 1)] [] [] [(6, .slice (some ⟨eb, eo, none⟩) ((n + 1)) c)] rc_nil ?_
  refine m_append (v := .slice (some ⟨b1, 0, none⟩) 0 0) (sb := eb) (so := eo) (m := n + 1) (mc := c) el35 [] (Lp := [(b1, .cells (List.toArray []) 5 (0, 0))]) (B := L) (n := 0) (cs := []) news (d := (some 7)) (show opAt _ _ _ = some (.call { callee := .builtin .append, args := #[(.tmp 5), (.tmp 6)], argTypes := #[35, 35] }, _) by kernel_rfl) (by kernel_rfl) (by kernel_rfl) ⟨rfl, .inr ⟨b1, 0, [], rfl, rfl, Nat.le_refl _, rfl, rfl⟩⟩ hst (by omega) (fun j u hu => (hnj j u hu).cell hst.imm) hno (Nat.succ_pos _) (by omega) (by omega) (fun v2 Lp2 w1 hos hst => ?_)
  obtain ⟨hcl, ⟨_, h0, _⟩ | ⟨nb, nc, arr, rfl, rfl, hnc, harr, htk⟩⟩ := hos
  ·simp at h0
  refine r_en [] [] [(2, .slice (some ⟨nb, 0, none⟩) (0 + (n + 1)) nc)] rc_nil ?_
  refine W_ret ?_
  refine q_rt [] [] (.slice (some ⟨nb, 0, none⟩) (0 + (n + 1)) nc) rc_nil hst ?_
  obtain ⟨G2, hG2, hF2, hst⟩ := St.freeze [(nb, .cells (List.toArray arr) 5 (0, 0))] hst
  have hf := hF2 _ (.head _)
  refine ⟨G2, some ⟨nb, 0, none⟩, nc, hG2, by rw [Nat.zero_add], fun i hi => ?_, hst⟩
  have hi2 : i < news.length := by omega
  obtain ⟨x, hx⟩ := get_of_lt hi2
  obtain ⟨u, rfl⟩ := hnx i x hx
  refine ⟨nb, 0, u, rfl, GC.of hf ?_⟩
  rw [List.nil_append] at htk; rw [← htk, List.getElem?_take] at hx; rw [Nat.zero_add]; split at hx
  ·simpa using hx
  ·cases hx

theorem c20 {G : GH} {L : LH} {w : World} {A : Option Addr} {n c : Nat} (hB : ByS G A n) (hc : n ≤ c) (hst : St G L w) : Cal Try.prog 20 #[.slice A n c] w fun x w' => ∃ G' sb A' n' c', Le G G' ∧ x = .pointer (some ⟨sb, 0, none⟩) ∧ ByS G' A' n' ∧ n' < lim ∧ St G' ((sb, StB A' n' c' 0 88172645463325252) :: L) w' := by
 have hlim : lim = 1099511627776 := rfl
 refine cal_of_W Try.func20 rfl (Nat.le_of_ble_eq_true (by kernel_rfl)) ?_
 refine W_seq ?_
 refine W_rg [(.p, 0)] hst ?_
 refine r_en [] [] [(2, .pointer none)] rc_nil ?_
 refine W_seq ?_
 refine W_rg [(.p, 0), (.p, 1), (.p, 2), (.p, 3), (.p, 4), (.f, 5), (.p, 6), (.f, 7), (.p, 8)] hst ?_
 refine r_sg [(.p, 0), (.p, 1), (.p, 2), (.p, 3)] [] [] [(3, .slice A n c), (4, .slice A n c), (5, iN (((n : Nat) : Int))), (6, iN (if (300 : Int) < (((n : Nat) : Int)) then 300 else ((n : Nat) : Int)))] rc_nil ?_
 have hmin : (if (300 : Int) < (((n : Nat) : Int)) then 300 else ((n : Nat) : Int)) = ((min n 300 : Nat) : Int) := by split <;> omega
 refine m_sliceTo (n := n) (c := c) (A := A) (hi := min n 300) (some 7) (show opAt _ _ _ = some (.slice 35 (.tmp 3) none (some (.tmp 6)) none, _) by kernel_rfl) (by kernel_rfl) (by rw [← hmin]; kernel_rfl) Try.underlying35 (by kernel_rfl) (by omega) ?_
 refine m_cl #[.slice A ((min n 300)) c] (some 8) (c62 (n := min n 300) (fun i hi => hB i (by omega)) (by omega) hst) ?_
 rintro _ w1 ⟨G1, A1, c1, hG1, rfl, hB1, hst⟩
 refine nx hst ?_
 refine r_sg [(.p, 6)] [] [] [(9, .agg #[.slice A1 ((min n 300)) c1, iN 0, .int .u64 88172645463325252])] rc_nil ?_
 refine m_new (.cells #[.slice A1 ((min n 300)) c1, iN 0, .int .u64 88172645463325252] 96) (fun b1 => pN b1 0) (some 10) (fun b => by kernel_rfl) hst (fun b1 w1 hst => ?_)
 refine r_en [] [] [(2, pN b1 0)] rc_nil ?_
 refine W_ret ?_
 refine q_rt [] [] (pN b1 0) rc_nil hst ?_
 exact ⟨G1, _, A1, _, c1, hG1, rfl, hB1, by omega, hst⟩

end Go.Proofs.Ytjgnhhgigickaaa.Wk
/- Walks of the given program's functions: made, Made. Printed by tools/w45.py. Conditions: none. -/

namespace Go.Proofs.Ytjgnhhgigickaaa.Wk
open Go Md
set_option maxRecDepth 20000
set_option linter.unusedVariables false
set_option linter.unusedSimpArgs false
attribute [local irreducible] endQ

mutual
/-- a right type within so many quantifiers, of whatever size -/
def rgt : Int → T → Prop
 | d, .mk k num ks => (k = 1 ∧ (0 ≤ num ∧ num < d) ∧ ks.length = 0 ∨ k = 2 ∧ num = 0 ∧ ks.length = 0 ∨ k = 3 ∧ num = 0 ∧ ks.length = 2 ∨ k = 4 ∧ num = 0 ∧ ks.length = 1) ∧ rgts (if k = 4 then d + 1 else d) ks
def rgts : Int → List T → Prop
 | _, [] => True
 | d, t :: ts => rgt d t ∧ rgts d ts
end
theorem rgt_nt {d : Int} : rgt d nt := by unfold nt rgt; exact ⟨.inr (.inl ⟨rfl, rfl, rfl⟩), by unfold rgts; trivial⟩
theorem rgt_vr {d n : Int} (h : 0 ≤ n ∧ n < d) : rgt d (vr n) := by unfold vr rgt; exact ⟨.inl ⟨rfl, h, rfl⟩, by unfold rgts; trivial⟩
theorem rgt_fn {d : Int} {a b : T} (ha : rgt d a) (hb : rgt d b) : rgt d (fn a b) := by
 unfold fn rgt
 refine ⟨.inr (.inr (.inl ⟨rfl, rfl, rfl⟩)), ?_⟩
 rw [if_neg (by decide)]; unfold rgts; exact ⟨ha, by unfold rgts; exact ⟨hb, by unfold rgts; trivial⟩⟩
theorem rgt_al {d : Int} {a : T} (ha : rgt (d + 1) a) : rgt d (al a) := by
 unfold al rgt
 refine ⟨.inr (.inr (.inr ⟨rfl, rfl, rfl⟩)), ?_⟩
 rw [if_pos rfl]; unfold rgts; exact ⟨ha, by unfold rgts; trivial⟩
theorem nds_nt : nds nt = 1 := rfl
theorem nds_vr (n : Int) : nds (vr n) = 1 := rfl
theorem nds_fn (a b : T) : nds (fn a b) = nds a + nds b + 1 := by unfold fn; rw [nds_mk, ndss_cons, ndss_cons]; rfl
theorem nds_al (a : T) : nds (al a) = nds a + 1 := by unfold al; rw [nds_mk, ndss_cons]; rfl
theorem plain_fn (a b : T) : plain (fn a b) = (plain a && plain b) := by show (decide ((3 : Int) ≠ 4) && (plain a && (plain b && true))) = _; simp
def MD (G : GH) (L : LH) (sb lb : Nat) (A : Option Addr) (n c at_ : Nat) (wi l : Int) (pl : Bool) (x : Value) (w' : World) : Prop :=
 ∃ G' t at' sd', Le G G' ∧ IsPoly G' x t ∧ rgt wi t ∧ (nds t : Int) ≤ l ∧ (pl = true → plain t = true) ∧ at' ≤ at_ + 2 * nds t ∧ St G' ((lb, .cells #[.int .i64 (l - (nds t : Int))] 3) :: (sb, StB A n c at' sd') :: L) w'

theorem c61 : ∀ (N : Nat) {G : GH} {L : LH} {w : World} {sb lb n c at_ : Nat} {A : Option Addr} {sd wi l : Int} {pl : Bool}, l ≤ (N : Int) → 1 ≤ l → l ≤ 1000 → 0 ≤ wi → wi + l ≤ 2000 → (at_ : Int) + 2 * l ≤ 5000 → ByS G A n → n < lim → St G ((lb, .cells #[.int .i64 l] 3) :: (sb, StB A n c at_ sd) :: L) w →
  Cal Try.prog 61 #[.pointer (some ⟨sb, 0, none⟩), .pointer (some ⟨lb, 0, none⟩), .int .i64 wi, .bool pl] w (MD G L sb lb A n c at_ wi l pl) := by
 intro N
 induction N with
 | zero => intro G L w sb lb n c at_ A sd wi l pl h1 h2; omega
 | succ N ih =>
 intro G L w sb lb n c at_ A sd wi l pl hN hl1 hl2 hwi hwl hat hB hn hst
 have hlim : lim = 1099511627776 := rfl
 have hm1 : IntKind.wrap .i64 (l - 1) = l - 1 := wrap_id (by omega) (by omega)
 have hm2 : IntKind.wrap .i64 (l - 1 - 1) = l - 2 := by rw [wrap_id] <;> omega
 refine cal_of_W Try.func61 rfl (Nat.le_of_ble_eq_true (by kernel_rfl)) ?_
 refine W_seq ?_
 refine W_rg [(.f, 0)] hst ?_
 refine m_new (.cells #[iN 0, iN 0, .slice none 0 0] 24) (fun b1 => pN b1 0) (some 8) (fun b => by kernel_rfl) hst (fun b1 w1 hst => ?_)
 refine r_nil ?_
 refine W_seq ?_
 refine W_rg [(.p, 0), (.p, 1), (.l, 2), (.p, 3), (.p, 4), (.f, 5)] hst ?_
 refine r_sg [(.p, 0), (.p, 1), (.l, 2), (.p, 3), (.p, 4)] [[iN l]] [(⟨lb, 0, none⟩, iN l)] [(11, pN lb 0), (12, pN lb 0), (13, iN l), (14, iN (IntKind.wrap .i64 (l - 1))), (15, pN lb 0)] (rc_L 1 rfl rfl rc_nil) ?_
 refine m_st ((b1, .cells #[iN 0, iN 0, .slice none 0 0] 24) :: (lb, .cells #[iN (IntKind.wrap .i64 (l - 1))] 3) :: (sb, .cells #[.slice A n c, iN (((at_ : Nat) : Int)), .int .u64 sd] 96) :: L) 1 [(0, iN (IntKind.wrap .i64 (l - 1)))] [iN (IntKind.wrap .i64 (l - 1))] none hst (fun w1 hst => ?_)
 refine r_nil ?_
 refine W_seq ?_
 rw [hm1] at hst
 refine W_rg [(.p, 0), (.f, 1), (.p, 2)] hst ?_
 refine r_sg [(.p, 0)] [] [] [(16, pN sb 0)] rc_nil ?_
 have hst := St.swap (A := [(b1, .cells #[iN 0, iN 0, .slice none 0 0] 24), (lb, .cells #[iN (l - 1)] 3)]) (B := [(sb, .cells #[.slice A n c, iN (((at_ : Nat) : Int)), .int .u64 sd] 96)]) (C := L) hst
 refine m_cl #[pN sb 0, iN 6] (some 17) (c32 hB hn (by omega) hst) ?_
 rintro _ w1 ⟨k1, ak1, sk1, rfl, hk1a, hk1b, hk1t, hst⟩
 have hst := St.swap (A := [(sb, .cells #[.slice A n c, iN (((ak1 : Nat) : Int)), .int .u64 sk1] 96)]) (B := [(b1, .cells #[iN 0, iN 0, .slice none 0 0] 24), (lb, .cells #[iN (l - 1)] 3)]) (C := L) hst
 have hst : St G ((b1, .cells #[iN 0, iN 0, .slice none 0 0] 24) :: (lb, .cells #[iN (l - 1)] 3) :: (sb, .cells #[.slice A n c, iN (((ak1 : Nat) : Int)), .int .u64 sk1] 96) :: L) w1 := hst
 refine nx hst ?_
 refine r_en [] [] [(9, iN k1)] rc_nil ?_
 refine W_seq ?_
 refine W_block ?_
 refine W_seq ?_
 refine W_rg [(.p, 0), (.p, 1), (.l, 2), (.p, 3), (.p, 4), (.p, 5), (.p, 6), (.p, 7), (.p, 8)] hst ?_
 refine r_sg [(.p, 0), (.p, 1), (.l, 2), (.p, 3), (.p, 4)] [[iN (l - 1)]] [(⟨lb, 0, none⟩, iN (l - 1))] [(19, pN lb 0), (20, pN lb 0), (21, iN (l - 1)), (22, .bool (decide ((l - 1) ≥ 2))), (23, .bool (decide ((l - 1) ≥ 2)))] (rc_L 1 rfl rfl rc_nil) ?_
 rcases Bool.eq_false_or_eq_true (decide ((l - 1) ≥ 2)) with hc2 | hc2
 ·rw [hc2]
  have hp3 := hc2
  simp only [decide_eq_true_eq, decide_eq_false_iff_not, beq_iff_eq, beq_eq_false_iff_ne, bne_iff_ne, bne_eq_false_iff_eq, Bool.not_eq_true', Bool.not_eq_false', Bool.and_eq_true, Bool.and_eq_false_iff, ne_eq] at hp3
  refine r_en [] [] [(24, iN k1), (25, .bool (decide (k1 < 3))), (26, .bool (decide (k1 < 3))), (18, .bool (decide (k1 < 3)))] rc_nil ?_
  refine W_cd (b := decide (k1 < 3)) (fun hc4 => ?_) (fun hc4 => ?_)
  ·skip
   have hp5 := hc4
   simp only [decide_eq_true_eq, decide_eq_false_iff_not, beq_iff_eq, beq_eq_false_iff_ne, bne_iff_ne, bne_eq_false_iff_eq, Bool.not_eq_true', Bool.not_eq_false', Bool.and_eq_true, Bool.and_eq_false_iff, ne_eq] at hp5
   refine W_seq ?_
   refine W_rg [(.p, 0), (.p, 1), (.l, 2), (.p, 3), (.p, 4), (.f, 5)] hst ?_
   refine r_sg [(.p, 0), (.p, 1), (.l, 2), (.p, 3), (.p, 4)] [[iN (l - 1)]] [(⟨lb, 0, none⟩, iN (l - 1))] [(27, pN lb 0), (28, pN lb 0), (29, iN (l - 1)), (30, iN (IntKind.wrap .i64 ((l - 1) - 1))), (31, pN lb 0)] (rc_L 1 rfl rfl rc_nil) ?_
   refine m_st ((b1, .cells #[iN 0, iN 0, .slice none 0 0] 24) :: (lb, .cells #[iN (IntKind.wrap .i64 ((l - 1) - 1))] 3) :: (sb, .cells #[.slice A n c, iN (((ak1 : Nat) : Int)), .int .u64 sk1] 96) :: L) 1 [(0, iN (IntKind.wrap .i64 ((l - 1) - 1)))] [iN (IntKind.wrap .i64 ((l - 1) - 1))] none hst (fun w1 hst => ?_)
   refine r_nil ?_
   refine W_seqI (fun ρ D w => ∃ (GJ : GH) (ta : T) (aj : Nat) (sj : Int) (pA : Option Addr) (qA : Nat) (b10 : Nat), EqS ρ [(0, pN sb 0), (1, pN lb 0), (2, iN wi), (3, .bool pl), (8, pN b1 0), (10, pN b10 0)] ∧ D = [] ∧ St GJ ((b10, .cells #[iN ta.kind, iN ta.num, .slice pA ta.kids.length qA] 24) :: (b1, .cells #[iN 0, iN 0, .slice none 0 0] 24) :: (lb, .cells #[iN (l - 2 - (nds ta : Int))] 3) :: (sb, .cells #[.slice A n c, iN (((aj : Nat) : Int)), .int .u64 sj] 96) :: L) w ∧ (Le G GJ) ∧ (IsPoly GJ (.agg #[iN ta.kind, iN ta.num, .slice pA ta.kids.length qA]) ta) ∧ (rgt wi ta) ∧ ((nds ta : Int) ≤ l - 2) ∧ (pl = true → plain ta = true) ∧ (aj ≤ at_ + 1 + 2 * nds ta)) ?_ ?_
   ·skip
    rw [hm2] at hst
    refine W_rg [(.p, 0), (.p, 1), (.p, 2), (.p, 3), (.f, 4), (.f, 5), (.f, 6)] hst ?_
    refine r_sg [(.p, 0), (.p, 1), (.p, 2), (.p, 3)] [] [] [(32, pN sb 0), (33, pN lb 0), (34, iN wi), (35, .bool pl)] rc_nil ?_
    have hst := St.swap (A := [(b1, .cells #[iN 0, iN 0, .slice none 0 0] 24)]) (B := [(lb, .cells #[iN (l - 2)] 3), (sb, .cells #[.slice A n c, iN (((ak1 : Nat) : Int)), .int .u64 sk1] 96)]) (C := L) hst
    refine m_cl #[pN sb 0, pN lb 0, iN wi, .bool pl] (some 36) (ih (l := l - 2) (wi := wi) (by omega) (by omega) (by omega) (by omega) (by omega) (by omega) hB hn hst) ?_
    rintro x1 w1 ⟨G1, t1, at1, sd1, hG1, hx1, hr1, hd1, hp1, ha1, hst⟩
    obtain ⟨xA1, xc1, rfl, _, _⟩ := id hx1.open
    have hst := St.swap (A := [(lb, .cells #[iN (l - 2 - (nds t1 : Int))] 3), (sb, .cells #[.slice A n c, iN (((at1 : Nat) : Int)), .int .u64 sd1] 96)]) (B := [(b1, .cells #[iN 0, iN 0, .slice none 0 0] 24)]) (C := L) hst
    have hst : St G1 ((b1, .cells #[iN 0, iN 0, .slice none 0 0] 24) :: (lb, .cells #[iN (l - 2 - (nds t1 : Int))] 3) :: (sb, .cells #[.slice A n c, iN (((at1 : Nat) : Int)), .int .u64 sd1] 96) :: L) w1 := hst
    refine nx hst ?_
    refine m_new (.cells #[iN 0, iN 0, .slice none 0 0] 24) (fun b6 => pN b6 0) (some 10) (fun b => by kernel_rfl) hst (fun b6 w1 hst => ?_)
    refine m_st ((b6, .cells #[iN t1.kind, iN t1.num, .slice xA1 t1.kids.length xc1] 24) :: (b1, .cells #[iN 0, iN 0, .slice none 0 0] 24) :: (lb, .cells #[iN (l - 2 - (nds t1 : Int))] 3) :: (sb, .cells #[.slice A n c, iN (((at1 : Nat) : Int)), .int .u64 sd1] 96) :: L) 0 [(0, iN t1.kind), (1, iN t1.num), (2, .slice xA1 t1.kids.length xc1)] [iN t1.kind, iN t1.num, .slice xA1 t1.kids.length xc1] none hst (fun w1 hst => ?_)
    refine r_nil ?_
    exact ⟨G1, t1, at1, sd1, xA1, xc1, b6, ⟨by kernel_rfl, by kernel_rfl, by kernel_rfl, by kernel_rfl, by kernel_rfl, by kernel_rfl, trivial⟩, rfl, hst, hG1, (hx1), hr1, hd1, hp1, by omega⟩
   clear hst; rintro ρ D w1 ⟨GJ, ta, aj, sj, pA, qA, b10, hE7, rfl, hst, hGJ, hta, hra, hda, hpa, haj⟩
   refine W_env hE7 ?_
   refine W_seq ?_
   refine W_rg [(.p, 0), (.p, 1), (.l, 2), (.p, 3), (.p, 4), (.f, 5)] hst ?_
   refine r_sg [(.p, 0), (.p, 1), (.l, 2), (.p, 3), (.p, 4)] [[iN (l - 2 - (nds ta : Int))]] [(⟨lb, 0, none⟩, iN (l - 2 - (nds ta : Int)))] [(37, pN lb 0), (38, pN lb 0), (39, iN (l - 2 - (nds ta : Int))), (40, iN (IntKind.wrap .i64 ((l - 2 - (nds ta : Int)) + 1))), (41, pN lb 0)] (rc_L 2 rfl rfl rc_nil) ?_
   refine m_st ((b10, .cells #[iN ta.kind, iN ta.num, .slice pA ta.kids.length qA] 24) :: (b1, .cells #[iN 0, iN 0, .slice none 0 0] 24) :: (lb, .cells #[iN (IntKind.wrap .i64 ((l - 2 - (nds ta : Int)) + 1))] 3) :: (sb, .cells #[.slice A n c, iN (((aj : Nat) : Int)), .int .u64 sj] 96) :: L) 2 [(0, iN (IntKind.wrap .i64 ((l - 2 - (nds ta : Int)) + 1)))] [iN (IntKind.wrap .i64 ((l - 2 - (nds ta : Int)) + 1))] none hst (fun w1 hst => ?_)
   refine r_nil ?_
   refine W_seq ?_
   have hm3 : IntKind.wrap .i64 (l - 2 - (nds ta : Int) + 1) = l - 1 - (nds ta : Int) := by rw [wrap_id] <;> omega
   rw [hm3] at hst
   refine W_regd [(.l, 0), (.p, 1), (.p, 2), (.p, 3), (.p, 4), (.e, 5), (.f, 6), (.f, 7)] (SS GJ ([(b10, .cells #[iN ta.kind, iN ta.num, .slice pA ta.kids.length qA] 24)])) mixed (by kernel_rfl) (by kernel_rfl) (by kernel_rfl) (by kernel_rfl) (fun w1 hw1 => ?_)
   have hst := hst.heap hw1; refine ⟨hst.ss' (Le.refl _) (fun p hp => by rw [List.mem_singleton.1 hp]; simp), ?_⟩
   refine r_sg [(.l, 0), (.p, 1), (.p, 2), (.p, 3), (.p, 4)] [[iN ta.kind, iN ta.num, .slice pA ta.kids.length qA]] [(⟨b10, 0, none⟩, iN ta.kind), (⟨b10, 1, none⟩, iN ta.num), (⟨b10, 2, none⟩, .slice pA ta.kids.length qA)] [(42, .agg #[iN ta.kind, iN ta.num, .slice pA ta.kids.length qA]), (43, pN sb 0), (44, pN lb 0), (45, iN wi), (46, .bool pl)] (rc_L 0 rfl rfl (rc_L 0 rfl rfl (rc_L 0 rfl rfl rc_nil))) ?_
   have hst := St.swap (A := [(b10, .cells #[iN ta.kind, iN ta.num, .slice pA ta.kids.length qA] 24), (b1, .cells #[iN 0, iN 0, .slice none 0 0] 24)]) (B := [(lb, .cells #[iN (l - 1 - (nds ta : Int))] 3), (sb, .cells #[.slice A n c, iN (((aj : Nat) : Int)), .int .u64 sj] 96)]) (C := L) hst
   refine m_callE #[pN sb 0, pN lb 0, iN wi, .bool pl] (some 47) (by kernel_rfl) (ih (l := l - 1 - (nds ta : Int)) (wi := wi) (by omega) (by omega) (by omega) (by omega) (by omega) (by omega) (hB.mono (hGJ)) hn hst) ?_
   rintro x2 w1 ⟨G2, t2, at2, sd2, hG2, hx2, hr2, hd2, hp2, ha2, hst⟩
   obtain ⟨xA2, xc2, rfl, _, _⟩ := id hx2.open
   have hst := St.swap (A := [(lb, .cells #[iN (l - 1 - (nds ta : Int) - (nds t2 : Int))] 3), (sb, .cells #[.slice A n c, iN (((at2 : Nat) : Int)), .int .u64 sd2] 96)]) (B := [(b10, .cells #[iN ta.kind, iN ta.num, .slice pA ta.kids.length qA] 24), (b1, .cells #[iN 0, iN 0, .slice none 0 0] 24)]) (C := L) hst
   have hst : St G2 ((b10, .cells #[iN ta.kind, iN ta.num, .slice pA ta.kids.length qA] 24) :: (b1, .cells #[iN 0, iN 0, .slice none 0 0] 24) :: (lb, .cells #[iN (l - 1 - (nds ta : Int) - (nds t2 : Int))] 3) :: (sb, .cells #[.slice A n c, iN (((at2 : Nat) : Int)), .int .u64 sd2] 96) :: L) w1 := hst
   refine ⟨hst.ss' ((Le.refl _).trans hG2) (fun p hp => by rw [List.mem_singleton.1 hp]; simp), ?_⟩
   refine m_cl #[.agg #[iN ta.kind, iN ta.num, .slice pA ta.kids.length qA], .agg #[iN t2.kind, iN t2.num, .slice xA2 t2.kids.length xc2]] (some 48) (c26 ((hta).mono (hG2)) (hx2) hst) ?_
   rintro x3 w1 ⟨G3, hG3, hx3, hst⟩
   obtain ⟨xA3, xc3, rfl, _, _⟩ := id hx3.open
   refine nx hst ?_
   refine m_st ((b10, .cells #[iN ta.kind, iN ta.num, .slice pA ta.kids.length qA] 24) :: (b1, .cells #[iN ((fn ta t2).kind), iN ((fn ta t2).num), .slice xA3 ((fn ta t2).kids.length) xc3] 24) :: (lb, .cells #[iN (l - 1 - (nds ta : Int) - (nds t2 : Int))] 3) :: (sb, .cells #[.slice A n c, iN (((at2 : Nat) : Int)), .int .u64 sd2] 96) :: L) 1 [(0, iN ((fn ta t2).kind)), (1, iN ((fn ta t2).num)), (2, .slice xA3 ((fn ta t2).kids.length) xc3)] [iN ((fn ta t2).kind), iN ((fn ta t2).num), .slice xA3 ((fn ta t2).kids.length) xc3] none hst (fun w1 hst => ?_)
   refine r_nil ?_
   refine W_ret ?_
   refine q_rt [iN ((fn ta t2).kind), iN ((fn ta t2).num), .slice xA3 ((fn ta t2).kids.length) xc3] [(⟨b1, 0, none⟩, iN ((fn ta t2).kind)), (⟨b1, 1, none⟩, iN ((fn ta t2).num)), (⟨b1, 2, none⟩, .slice xA3 ((fn ta t2).kids.length) xc3)] (.agg #[iN ((fn ta t2).kind), iN ((fn ta t2).num), .slice xA3 ((fn ta t2).kids.length) xc3]) (rc_L 1 rfl rfl (rc_L 1 rfl rfl (rc_L 1 rfl rfl rc_nil))) hst ?_
   have hnd := nds_fn ta t2
   have hlv : l - 1 - (nds ta : Int) - (nds t2 : Int) = l - (nds (fn ta t2) : Int) := by rw [hnd]; omega
   rw [hlv] at hst
   exact ⟨G3, fn ta t2, at2, _, ((hGJ).trans hG2).trans hG3, (hx3), rgt_fn hra hr2, by rw [hnd]; omega, (fun h => by rw [plain_fn, hpa h, hp2 h]; rfl), by rw [hnd]; omega, hst.drop [_, _]⟩
  ·skip
   have hp8 := hc4
   simp only [decide_eq_true_eq, decide_eq_false_iff_not, beq_iff_eq, beq_eq_false_iff_ne, bne_iff_ne, bne_eq_false_iff_eq, Bool.not_eq_true', Bool.not_eq_false', Bool.and_eq_true, Bool.and_eq_false_iff, ne_eq] at hp8
   refine W_seq ?_
   refine W_rg [(.p, 0), (.p, 1), (.l, 2), (.p, 3), (.p, 4), (.p, 5), (.p, 6), (.p, 7), (.p, 8), (.p, 9), (.p, 10), (.p, 11), (.p, 12)] hst ?_
   refine r_sg [(.p, 0), (.p, 1), (.l, 2), (.p, 3), (.p, 4)] [[iN (l - 1)]] [(⟨lb, 0, none⟩, iN (l - 1))] [(50, pN lb 0), (51, pN lb 0), (52, iN (l - 1)), (53, .bool (decide ((l - 1) ≥ 1))), (54, .bool (decide ((l - 1) ≥ 1)))] (rc_L 1 rfl rfl rc_nil) ?_
   rcases Bool.eq_false_or_eq_true (decide ((l - 1) ≥ 1)) with hc9 | hc9
   ·rw [hc9]
    have hp10 := hc9
    simp only [decide_eq_true_eq, decide_eq_false_iff_not, beq_iff_eq, beq_eq_false_iff_ne, bne_iff_ne, bne_eq_false_iff_eq, Bool.not_eq_true', Bool.not_eq_false', Bool.and_eq_true, Bool.and_eq_false_iff, ne_eq] at hp10
    refine r_sg [(.p, 5), (.p, 6), (.p, 7), (.p, 8)] [] [] [(55, iN k1), (56, .bool (k1 == 3)), (57, .bool (k1 == 3)), (58, .bool (k1 == 3))] rc_nil ?_
    rcases Bool.eq_false_or_eq_true (k1 == 3) with hc11 | hc11
    ·rw [hc11]
     have hp12 := hc11
     simp only [decide_eq_true_eq, decide_eq_false_iff_not, beq_iff_eq, beq_eq_false_iff_ne, bne_iff_ne, bne_eq_false_iff_eq, Bool.not_eq_true', Bool.not_eq_false', Bool.and_eq_true, Bool.and_eq_false_iff, ne_eq] at hp12
     refine r_en [] [] [(59, .bool pl), (60, .bool (!pl)), (61, .bool (!pl)), (49, .bool (!pl))] rc_nil ?_
     refine W_cd (b := !pl) (fun hc13 => ?_) (fun hc13 => ?_)
     ·skip
      have hpl : pl = false := by simpa using hc13
      refine W_seq ?_
      refine W_rg [(.p, 0), (.p, 1), (.p, 2), (.p, 3), (.p, 4), (.f, 5), (.f, 6), (.f, 7)] hst ?_
      refine r_sg [(.p, 0), (.p, 1), (.p, 2), (.p, 3), (.p, 4)] [] [] [(62, pN sb 0), (63, pN lb 0), (64, iN wi), (65, iN (IntKind.wrap .i64 (wi + 1))), (66, .bool pl)] rc_nil ?_
      have hst := St.swap (A := [(b1, .cells #[iN 0, iN 0, .slice none 0 0] 24)]) (B := [(lb, .cells #[iN (l - 1)] 3), (sb, .cells #[.slice A n c, iN (((ak1 : Nat) : Int)), .int .u64 sk1] 96)]) (C := L) hst
      have hw1 : IntKind.wrap .i64 (wi + 1) = wi + 1 := wrap_id (by omega) (by omega)
      rw [hw1]
      refine m_cl #[pN sb 0, pN lb 0, iN (wi + 1), .bool pl] (some 67) (ih (l := l - 1) (wi := wi + 1) (by omega) (by omega) (by omega) (by omega) (by omega) (by omega) hB hn hst) ?_
      rintro x4 w1 ⟨G4, t4, at4, sd4, hG4, hx4, hr4, hd4, hp4, ha4, hst⟩
      obtain ⟨xA4, xc4, rfl, _, _⟩ := id hx4.open
      have hst := St.swap (A := [(lb, .cells #[iN (l - 1 - (nds t4 : Int))] 3), (sb, .cells #[.slice A n c, iN (((at4 : Nat) : Int)), .int .u64 sd4] 96)]) (B := [(b1, .cells #[iN 0, iN 0, .slice none 0 0] 24)]) (C := L) hst
      have hst : St G4 ((b1, .cells #[iN 0, iN 0, .slice none 0 0] 24) :: (lb, .cells #[iN (l - 1 - (nds t4 : Int))] 3) :: (sb, .cells #[.slice A n c, iN (((at4 : Nat) : Int)), .int .u64 sd4] 96) :: L) w1 := hst
      refine nx hst ?_
      refine m_cl #[.agg #[iN t4.kind, iN t4.num, .slice xA4 t4.kids.length xc4]] (some 68) (c49 (hx4) hst) ?_
      rintro x5 w1 ⟨G5, hG5, hx5, hst⟩
      obtain ⟨xA5, xc5, rfl, _, _⟩ := id hx5.open
      refine nx hst ?_
      refine m_st ((b1, .cells #[iN ((al t4).kind), iN ((al t4).num), .slice xA5 ((al t4).kids.length) xc5] 24) :: (lb, .cells #[iN (l - 1 - (nds t4 : Int))] 3) :: (sb, .cells #[.slice A n c, iN (((at4 : Nat) : Int)), .int .u64 sd4] 96) :: L) 0 [(0, iN ((al t4).kind)), (1, iN ((al t4).num)), (2, .slice xA5 ((al t4).kids.length) xc5)] [iN ((al t4).kind), iN ((al t4).num), .slice xA5 ((al t4).kids.length) xc5] none hst (fun w1 hst => ?_)
      refine r_nil ?_
      refine W_ret ?_
      refine q_rt [iN ((al t4).kind), iN ((al t4).num), .slice xA5 ((al t4).kids.length) xc5] [(⟨b1, 0, none⟩, iN ((al t4).kind)), (⟨b1, 1, none⟩, iN ((al t4).num)), (⟨b1, 2, none⟩, .slice xA5 ((al t4).kids.length) xc5)] (.agg #[iN ((al t4).kind), iN ((al t4).num), .slice xA5 ((al t4).kids.length) xc5]) (rc_L 0 rfl rfl (rc_L 0 rfl rfl (rc_L 0 rfl rfl rc_nil))) hst ?_
      have hnd := nds_al t4
      have hlv : l - 1 - (nds t4 : Int) = l - (nds (al t4) : Int) := by rw [hnd]; omega
      rw [hlv] at hst
      exact ⟨G5, al t4, at4, _, (hG4).trans hG5, (hx5), rgt_al hr4, by rw [hnd]; omega, (fun h => by rw [hpl] at h; cases h), by rw [hnd]; omega, hst.drop [_]⟩
     ·skip
      refine W_seq ?_
      refine W_rg [(.p, 0), (.p, 1), (.p, 2), (.p, 3), (.p, 4), (.p, 5), (.p, 6)] hst ?_
      refine r_sg [(.p, 0), (.p, 1), (.p, 2)] [] [] [(70, iN wi), (71, .bool (decide (wi > 0))), (72, .bool (decide (wi > 0)))] rc_nil ?_
      rcases Bool.eq_false_or_eq_true (decide (wi > 0)) with hc14 | hc14
      ·rw [hc14]
       have hp15 := hc14
       simp only [decide_eq_true_eq, decide_eq_false_iff_not, beq_iff_eq, beq_eq_false_iff_ne, bne_iff_ne, bne_eq_false_iff_eq, Bool.not_eq_true', Bool.not_eq_false', Bool.and_eq_true, Bool.and_eq_false_iff, ne_eq] at hp15
       refine r_en [] [] [(73, iN k1), (74, .bool (k1 != 5)), (75, .bool (k1 != 5)), (69, .bool (k1 != 5))] rc_nil ?_
       refine W_cd (b := k1 != 5) (fun hc16 => ?_) (fun hc16 => ?_)
       ·skip
        have hp17 := hc16
        simp only [decide_eq_true_eq, decide_eq_false_iff_not, beq_iff_eq, beq_eq_false_iff_ne, bne_iff_ne, bne_eq_false_iff_eq, Bool.not_eq_true', Bool.not_eq_false', Bool.and_eq_true, Bool.and_eq_false_iff, ne_eq] at hp17
        refine W_seq ?_
        refine W_rg [(.p, 0), (.p, 1), (.f, 2), (.f, 3), (.f, 4)] hst ?_
        refine r_sg [(.p, 0), (.p, 1)] [] [] [(76, pN sb 0), (77, iN wi)] rc_nil ?_
        have hst := St.swap (A := [(b1, .cells #[iN 0, iN 0, .slice none 0 0] 24), (lb, .cells #[iN (l - 1)] 3)]) (B := [(sb, .cells #[.slice A n c, iN (((ak1 : Nat) : Int)), .int .u64 sk1] 96)]) (C := L) hst
        refine m_cl #[pN sb 0, iN wi] (some 78) (c32 hB hn (by omega) hst) ?_
        rintro _ w1 ⟨k2, ak2, sk2, rfl, hk2a, hk2b, hk2t, hst⟩
        have hst := St.swap (A := [(sb, .cells #[.slice A n c, iN (((ak2 : Nat) : Int)), .int .u64 sk2] 96)]) (B := [(b1, .cells #[iN 0, iN 0, .slice none 0 0] 24), (lb, .cells #[iN (l - 1)] 3)]) (C := L) hst
        have hst : St G ((b1, .cells #[iN 0, iN 0, .slice none 0 0] 24) :: (lb, .cells #[iN (l - 1)] 3) :: (sb, .cells #[.slice A n c, iN (((ak2 : Nat) : Int)), .int .u64 sk2] 96) :: L) w1 := hst
        refine nx hst ?_
        refine m_cl #[iN k2] (some 79) (c50  hst) ?_
        rintro x6 w1 ⟨G6, hG6, hx6, hst⟩
        obtain ⟨xA6, xc6, rfl, _, _⟩ := id hx6.open
        refine nx hst ?_
        refine m_st ((b1, .cells #[iN ((vr k2).kind), iN ((vr k2).num), .slice xA6 ((vr k2).kids.length) xc6] 24) :: (lb, .cells #[iN (l - 1)] 3) :: (sb, .cells #[.slice A n c, iN (((ak2 : Nat) : Int)), .int .u64 sk2] 96) :: L) 0 [(0, iN ((vr k2).kind)), (1, iN ((vr k2).num)), (2, .slice xA6 ((vr k2).kids.length) xc6)] [iN ((vr k2).kind), iN ((vr k2).num), .slice xA6 ((vr k2).kids.length) xc6] none hst (fun w1 hst => ?_)
        refine r_nil ?_
        refine W_ret ?_
        refine q_rt [iN ((vr k2).kind), iN ((vr k2).num), .slice xA6 ((vr k2).kids.length) xc6] [(⟨b1, 0, none⟩, iN ((vr k2).kind)), (⟨b1, 1, none⟩, iN ((vr k2).num)), (⟨b1, 2, none⟩, .slice xA6 ((vr k2).kids.length) xc6)] (.agg #[iN ((vr k2).kind), iN ((vr k2).num), .slice xA6 ((vr k2).kids.length) xc6]) (rc_L 0 rfl rfl (rc_L 0 rfl rfl (rc_L 0 rfl rfl rc_nil))) hst ?_
        have hnd := nds_vr k2
        have hlv : l - 1 = l - (nds (vr k2) : Int) := by rw [hnd]; omega
        rw [hlv] at hst
        exact ⟨G6, vr k2, ak2, _, hG6, (hx6), rgt_vr (hk2b (by omega)), by rw [hnd]; omega, (fun _ => rfl), by rw [hnd]; omega, hst.drop [_]⟩
       ·skip
        have hp18 := hc16
        simp only [decide_eq_true_eq, decide_eq_false_iff_not, beq_iff_eq, beq_eq_false_iff_ne, bne_iff_ne, bne_eq_false_iff_eq, Bool.not_eq_true', Bool.not_eq_false', Bool.and_eq_true, Bool.and_eq_false_iff, ne_eq] at hp18
        refine W_skip ?_
        refine W_seq ?_
        refine W_rg [(.f, 0), (.f, 1)] hst ?_
        refine m_cl #[] (some 80) (c27  hst) ?_
        rintro x7 w1 ⟨G7, hG7, hx7, hst⟩
        obtain ⟨xA7, xc7, rfl, _, _⟩ := id hx7.open
        refine nx hst ?_
        refine m_st ((b1, .cells #[iN ((nt).kind), iN ((nt).num), .slice xA7 ((nt).kids.length) xc7] 24) :: (lb, .cells #[iN (l - 1)] 3) :: (sb, .cells #[.slice A n c, iN (((ak1 : Nat) : Int)), .int .u64 sk1] 96) :: L) 0 [(0, iN ((nt).kind)), (1, iN ((nt).num)), (2, .slice xA7 ((nt).kids.length) xc7)] [iN ((nt).kind), iN ((nt).num), .slice xA7 ((nt).kids.length) xc7] none hst (fun w1 hst => ?_)
        refine r_nil ?_
        refine W_ret ?_
        refine q_rt [iN ((nt).kind), iN ((nt).num), .slice xA7 ((nt).kids.length) xc7] [(⟨b1, 0, none⟩, iN ((nt).kind)), (⟨b1, 1, none⟩, iN ((nt).num)), (⟨b1, 2, none⟩, .slice xA7 ((nt).kids.length) xc7)] (.agg #[iN ((nt).kind), iN ((nt).num), .slice xA7 ((nt).kids.length) xc7]) (rc_L 0 rfl rfl (rc_L 0 rfl rfl (rc_L 0 rfl rfl rc_nil))) hst ?_
        have hnd := nds_nt
        have hlv : l - 1 = l - (nds (nt) : Int) := by rw [hnd]; omega
        rw [hlv] at hst
        exact ⟨G7, nt, ak1, _, hG7, (hx7), rgt_nt, by rw [hnd]; omega, (fun _ => rfl), by rw [hnd]; omega, hst.drop [_]⟩
      ·rw [hc14]
       have hp19 := hc14
       simp only [decide_eq_true_eq, decide_eq_false_iff_not, beq_iff_eq, beq_eq_false_iff_ne, bne_iff_ne, bne_eq_false_iff_eq, Bool.not_eq_true', Bool.not_eq_false', Bool.and_eq_true, Bool.and_eq_false_iff, ne_eq] at hp19
       refine r_en [] [] [(73, undef), (74, undef), (75, .bool false), (69, .bool false)] rc_nil ?_
       refine W_cF ?_
       refine W_skip ?_
       refine W_seq ?_
       refine W_rg [(.f, 0), (.f, 1)] hst ?_
       refine m_cl #[] (some 80) (c27  hst) ?_
       rintro x8 w1 ⟨G8, hG8, hx8, hst⟩
       obtain ⟨xA8, xc8, rfl, _, _⟩ := id hx8.open
       refine nx hst ?_
       refine m_st ((b1, .cells #[iN ((nt).kind), iN ((nt).num), .slice xA8 ((nt).kids.length) xc8] 24) :: (lb, .cells #[iN (l - 1)] 3) :: (sb, .cells #[.slice A n c, iN (((ak1 : Nat) : Int)), .int .u64 sk1] 96) :: L) 0 [(0, iN ((nt).kind)), (1, iN ((nt).num)), (2, .slice xA8 ((nt).kids.length) xc8)] [iN ((nt).kind), iN ((nt).num), .slice xA8 ((nt).kids.length) xc8] none hst (fun w1 hst => ?_)
       refine r_nil ?_
       refine W_ret ?_
       refine q_rt [iN ((nt).kind), iN ((nt).num), .slice xA8 ((nt).kids.length) xc8] [(⟨b1, 0, none⟩, iN ((nt).kind)), (⟨b1, 1, none⟩, iN ((nt).num)), (⟨b1, 2, none⟩, .slice xA8 ((nt).kids.length) xc8)] (.agg #[iN ((nt).kind), iN ((nt).num), .slice xA8 ((nt).kids.length) xc8]) (rc_L 0 rfl rfl (rc_L 0 rfl rfl (rc_L 0 rfl rfl rc_nil))) hst ?_
       have hnd := nds_nt
       have hlv : l - 1 = l - (nds (nt) : Int) := by rw [hnd]; omega
       rw [hlv] at hst
       exact ⟨G8, nt, ak1, _, hG8, (hx8), rgt_nt, by rw [hnd]; omega, (fun _ => rfl), by rw [hnd]; omega, hst.drop [_]⟩
    ·rw [hc11]
     have hp20 := hc11
     simp only [decide_eq_true_eq, decide_eq_false_iff_not, beq_iff_eq, beq_eq_false_iff_ne, bne_iff_ne, bne_eq_false_iff_eq, Bool.not_eq_true', Bool.not_eq_false', Bool.and_eq_true, Bool.and_eq_false_iff, ne_eq] at hp20
     refine r_en [] [] [(59, undef), (60, undef), (61, .bool false), (49, .bool false)] rc_nil ?_
     refine W_cF ?_
     refine W_seq ?_
     refine W_rg [(.p, 0), (.p, 1), (.p, 2), (.p, 3), (.p, 4), (.p, 5), (.p, 6)] hst ?_
     refine r_sg [(.p, 0), (.p, 1), (.p, 2)] [] [] [(70, iN wi), (71, .bool (decide (wi > 0))), (72, .bool (decide (wi > 0)))] rc_nil ?_
     rcases Bool.eq_false_or_eq_true (decide (wi > 0)) with hc21 | hc21
     ·rw [hc21]
      have hp22 := hc21
      simp only [decide_eq_true_eq, decide_eq_false_iff_not, beq_iff_eq, beq_eq_false_iff_ne, bne_iff_ne, bne_eq_false_iff_eq, Bool.not_eq_true', Bool.not_eq_false', Bool.and_eq_true, Bool.and_eq_false_iff, ne_eq] at hp22
      refine r_en [] [] [(73, iN k1), (74, .bool (k1 != 5)), (75, .bool (k1 != 5)), (69, .bool (k1 != 5))] rc_nil ?_
      refine W_cd (b := k1 != 5) (fun hc23 => ?_) (fun hc23 => ?_)
      ·skip
       have hp24 := hc23
       simp only [decide_eq_true_eq, decide_eq_false_iff_not, beq_iff_eq, beq_eq_false_iff_ne, bne_iff_ne, bne_eq_false_iff_eq, Bool.not_eq_true', Bool.not_eq_false', Bool.and_eq_true, Bool.and_eq_false_iff, ne_eq] at hp24
       refine W_seq ?_
       refine W_rg [(.p, 0), (.p, 1), (.f, 2), (.f, 3), (.f, 4)] hst ?_
       refine r_sg [(.p, 0), (.p, 1)] [] [] [(76, pN sb 0), (77, iN wi)] rc_nil ?_
       have hst := St.swap (A := [(b1, .cells #[iN 0, iN 0, .slice none 0 0] 24), (lb, .cells #[iN (l - 1)] 3)]) (B := [(sb, .cells #[.slice A n c, iN (((ak1 : Nat) : Int)), .int .u64 sk1] 96)]) (C := L) hst
       refine m_cl #[pN sb 0, iN wi] (some 78) (c32 hB hn (by omega) hst) ?_
       rintro _ w1 ⟨k3, ak3, sk3, rfl, hk3a, hk3b, hk3t, hst⟩
       have hst := St.swap (A := [(sb, .cells #[.slice A n c, iN (((ak3 : Nat) : Int)), .int .u64 sk3] 96)]) (B := [(b1, .cells #[iN 0, iN 0, .slice none 0 0] 24), (lb, .cells #[iN (l - 1)] 3)]) (C := L) hst
       have hst : St G ((b1, .cells #[iN 0, iN 0, .slice none 0 0] 24) :: (lb, .cells #[iN (l - 1)] 3) :: (sb, .cells #[.slice A n c, iN (((ak3 : Nat) : Int)), .int .u64 sk3] 96) :: L) w1 := hst
       refine nx hst ?_
       refine m_cl #[iN k3] (some 79) (c50  hst) ?_
       rintro x9 w1 ⟨G9, hG9, hx9, hst⟩
       obtain ⟨xA9, xc9, rfl, _, _⟩ := id hx9.open
       refine nx hst ?_
       refine m_st ((b1, .cells #[iN ((vr k3).kind), iN ((vr k3).num), .slice xA9 ((vr k3).kids.length) xc9] 24) :: (lb, .cells #[iN (l - 1)] 3) :: (sb, .cells #[.slice A n c, iN (((ak3 : Nat) : Int)), .int .u64 sk3] 96) :: L) 0 [(0, iN ((vr k3).kind)), (1, iN ((vr k3).num)), (2, .slice xA9 ((vr k3).kids.length) xc9)] [iN ((vr k3).kind), iN ((vr k3).num), .slice xA9 ((vr k3).kids.length) xc9] none hst (fun w1 hst => ?_)
       refine r_nil ?_
       refine W_ret ?_
       refine q_rt [iN ((vr k3).kind), iN ((vr k3).num), .slice xA9 ((vr k3).kids.length) xc9] [(⟨b1, 0, none⟩, iN ((vr k3).kind)), (⟨b1, 1, none⟩, iN ((vr k3).num)), (⟨b1, 2, none⟩, .slice xA9 ((vr k3).kids.length) xc9)] (.agg #[iN ((vr k3).kind), iN ((vr k3).num), .slice xA9 ((vr k3).kids.length) xc9]) (rc_L 0 rfl rfl (rc_L 0 rfl rfl (rc_L 0 rfl rfl rc_nil))) hst ?_
       have hnd := nds_vr k3
       have hlv : l - 1 = l - (nds (vr k3) : Int) := by rw [hnd]; omega
       rw [hlv] at hst
       exact ⟨G9, vr k3, ak3, _, hG9, (hx9), rgt_vr (hk3b (by omega)), by rw [hnd]; omega, (fun _ => rfl), by rw [hnd]; omega, hst.drop [_]⟩
      ·skip
       have hp25 := hc23
       simp only [decide_eq_true_eq, decide_eq_false_iff_not, beq_iff_eq, beq_eq_false_iff_ne, bne_iff_ne, bne_eq_false_iff_eq, Bool.not_eq_true', Bool.not_eq_false', Bool.and_eq_true, Bool.and_eq_false_iff, ne_eq] at hp25
       refine W_skip ?_
       refine W_seq ?_
       refine W_rg [(.f, 0), (.f, 1)] hst ?_
       refine m_cl #[] (some 80) (c27  hst) ?_
       rintro x10 w1 ⟨G10, hG10, hx10, hst⟩
       obtain ⟨xA10, xc10, rfl, _, _⟩ := id hx10.open
       refine nx hst ?_
       refine m_st ((b1, .cells #[iN ((nt).kind), iN ((nt).num), .slice xA10 ((nt).kids.length) xc10] 24) :: (lb, .cells #[iN (l - 1)] 3) :: (sb, .cells #[.slice A n c, iN (((ak1 : Nat) : Int)), .int .u64 sk1] 96) :: L) 0 [(0, iN ((nt).kind)), (1, iN ((nt).num)), (2, .slice xA10 ((nt).kids.length) xc10)] [iN ((nt).kind), iN ((nt).num), .slice xA10 ((nt).kids.length) xc10] none hst (fun w1 hst => ?_)
       refine r_nil ?_
       refine W_ret ?_
       refine q_rt [iN ((nt).kind), iN ((nt).num), .slice xA10 ((nt).kids.length) xc10] [(⟨b1, 0, none⟩, iN ((nt).kind)), (⟨b1, 1, none⟩, iN ((nt).num)), (⟨b1, 2, none⟩, .slice xA10 ((nt).kids.length) xc10)] (.agg #[iN ((nt).kind), iN ((nt).num), .slice xA10 ((nt).kids.length) xc10]) (rc_L 0 rfl rfl (rc_L 0 rfl rfl (rc_L 0 rfl rfl rc_nil))) hst ?_
       have hnd := nds_nt
       have hlv : l - 1 = l - (nds (nt) : Int) := by rw [hnd]; omega
       rw [hlv] at hst
       exact ⟨G10, nt, ak1, _, hG10, (hx10), rgt_nt, by rw [hnd]; omega, (fun _ => rfl), by rw [hnd]; omega, hst.drop [_]⟩
     ·rw [hc21]
      have hp26 := hc21
      simp only [decide_eq_true_eq, decide_eq_false_iff_not, beq_iff_eq, beq_eq_false_iff_ne, bne_iff_ne, bne_eq_false_iff_eq, Bool.not_eq_true', Bool.not_eq_false', Bool.and_eq_true, Bool.and_eq_false_iff, ne_eq] at hp26
      refine r_en [] [] [(73, undef), (74, undef), (75, .bool false), (69, .bool false)] rc_nil ?_
      refine W_cF ?_
      refine W_skip ?_
      refine W_seq ?_
      refine W_rg [(.f, 0), (.f, 1)] hst ?_
      refine m_cl #[] (some 80) (c27  hst) ?_
      rintro x11 w1 ⟨G11, hG11, hx11, hst⟩
      obtain ⟨xA11, xc11, rfl, _, _⟩ := id hx11.open
      refine nx hst ?_
      refine m_st ((b1, .cells #[iN ((nt).kind), iN ((nt).num), .slice xA11 ((nt).kids.length) xc11] 24) :: (lb, .cells #[iN (l - 1)] 3) :: (sb, .cells #[.slice A n c, iN (((ak1 : Nat) : Int)), .int .u64 sk1] 96) :: L) 0 [(0, iN ((nt).kind)), (1, iN ((nt).num)), (2, .slice xA11 ((nt).kids.length) xc11)] [iN ((nt).kind), iN ((nt).num), .slice xA11 ((nt).kids.length) xc11] none hst (fun w1 hst => ?_)
      refine r_nil ?_
      refine W_ret ?_
      refine q_rt [iN ((nt).kind), iN ((nt).num), .slice xA11 ((nt).kids.length) xc11] [(⟨b1, 0, none⟩, iN ((nt).kind)), (⟨b1, 1, none⟩, iN ((nt).num)), (⟨b1, 2, none⟩, .slice xA11 ((nt).kids.length) xc11)] (.agg #[iN ((nt).kind), iN ((nt).num), .slice xA11 ((nt).kids.length) xc11]) (rc_L 0 rfl rfl (rc_L 0 rfl rfl (rc_L 0 rfl rfl rc_nil))) hst ?_
      have hnd := nds_nt
      have hlv : l - 1 = l - (nds (nt) : Int) := by rw [hnd]; omega
      rw [hlv] at hst
      exact ⟨G11, nt, ak1, _, hG11, (hx11), rgt_nt, by rw [hnd]; omega, (fun _ => rfl), by rw [hnd]; omega, hst.drop [_]⟩
   ·rw [hc9]
    have hp27 := hc9
    simp only [decide_eq_true_eq, decide_eq_false_iff_not, beq_iff_eq, beq_eq_false_iff_ne, bne_iff_ne, bne_eq_false_iff_eq, Bool.not_eq_true', Bool.not_eq_false', Bool.and_eq_true, Bool.and_eq_false_iff, ne_eq] at hp27
    refine r_en [] [] [(55, undef), (56, undef), (57, .bool false), (58, .bool false), (59, undef), (60, undef), (61, .bool false), (49, .bool false)] rc_nil ?_
    refine W_cF ?_
    refine W_seq ?_
    refine W_rg [(.p, 0), (.p, 1), (.p, 2), (.p, 3), (.p, 4), (.p, 5), (.p, 6)] hst ?_
    refine r_sg [(.p, 0), (.p, 1), (.p, 2)] [] [] [(70, iN wi), (71, .bool (decide (wi > 0))), (72, .bool (decide (wi > 0)))] rc_nil ?_
    rcases Bool.eq_false_or_eq_true (decide (wi > 0)) with hc28 | hc28
    ·rw [hc28]
     have hp29 := hc28
     simp only [decide_eq_true_eq, decide_eq_false_iff_not, beq_iff_eq, beq_eq_false_iff_ne, bne_iff_ne, bne_eq_false_iff_eq, Bool.not_eq_true', Bool.not_eq_false', Bool.and_eq_true, Bool.and_eq_false_iff, ne_eq] at hp29
     refine r_en [] [] [(73, iN k1), (74, .bool (k1 != 5)), (75, .bool (k1 != 5)), (69, .bool (k1 != 5))] rc_nil ?_
     refine W_cd (b := k1 != 5) (fun hc30 => ?_) (fun hc30 => ?_)
     ·skip
      have hp31 := hc30
      simp only [decide_eq_true_eq, decide_eq_false_iff_not, beq_iff_eq, beq_eq_false_iff_ne, bne_iff_ne, bne_eq_false_iff_eq, Bool.not_eq_true', Bool.not_eq_false', Bool.and_eq_true, Bool.and_eq_false_iff, ne_eq] at hp31
      refine W_seq ?_
      refine W_rg [(.p, 0), (.p, 1), (.f, 2), (.f, 3), (.f, 4)] hst ?_
      refine r_sg [(.p, 0), (.p, 1)] [] [] [(76, pN sb 0), (77, iN wi)] rc_nil ?_
      have hst := St.swap (A := [(b1, .cells #[iN 0, iN 0, .slice none 0 0] 24), (lb, .cells #[iN (l - 1)] 3)]) (B := [(sb, .cells #[.slice A n c, iN (((ak1 : Nat) : Int)), .int .u64 sk1] 96)]) (C := L) hst
      refine m_cl #[pN sb 0, iN wi] (some 78) (c32 hB hn (by omega) hst) ?_
      rintro _ w1 ⟨k4, ak4, sk4, rfl, hk4a, hk4b, hk4t, hst⟩
      have hst := St.swap (A := [(sb, .cells #[.slice A n c, iN (((ak4 : Nat) : Int)), .int .u64 sk4] 96)]) (B := [(b1, .cells #[iN 0, iN 0, .slice none 0 0] 24), (lb, .cells #[iN (l - 1)] 3)]) (C := L) hst
      have hst : St G ((b1, .cells #[iN 0, iN 0, .slice none 0 0] 24) :: (lb, .cells #[iN (l - 1)] 3) :: (sb, .cells #[.slice A n c, iN (((ak4 : Nat) : Int)), .int .u64 sk4] 96) :: L) w1 := hst
      refine nx hst ?_
      refine m_cl #[iN k4] (some 79) (c50  hst) ?_
      rintro x12 w1 ⟨G12, hG12, hx12, hst⟩
      obtain ⟨xA12, xc12, rfl, _, _⟩ := id hx12.open
      refine nx hst ?_
      refine m_st ((b1, .cells #[iN ((vr k4).kind), iN ((vr k4).num), .slice xA12 ((vr k4).kids.length) xc12] 24) :: (lb, .cells #[iN (l - 1)] 3) :: (sb, .cells #[.slice A n c, iN (((ak4 : Nat) : Int)), .int .u64 sk4] 96) :: L) 0 [(0, iN ((vr k4).kind)), (1, iN ((vr k4).num)), (2, .slice xA12 ((vr k4).kids.length) xc12)] [iN ((vr k4).kind), iN ((vr k4).num), .slice xA12 ((vr k4).kids.length) xc12] none hst (fun w1 hst => ?_)
      refine r_nil ?_
      refine W_ret ?_
      refine q_rt [iN ((vr k4).kind), iN ((vr k4).num), .slice xA12 ((vr k4).kids.length) xc12] [(⟨b1, 0, none⟩, iN ((vr k4).kind)), (⟨b1, 1, none⟩, iN ((vr k4).num)), (⟨b1, 2, none⟩, .slice xA12 ((vr k4).kids.length) xc12)] (.agg #[iN ((vr k4).kind), iN ((vr k4).num), .slice xA12 ((vr k4).kids.length) xc12]) (rc_L 0 rfl rfl (rc_L 0 rfl rfl (rc_L 0 rfl rfl rc_nil))) hst ?_
      have hnd := nds_vr k4
      have hlv : l - 1 = l - (nds (vr k4) : Int) := by rw [hnd]; omega
      rw [hlv] at hst
      exact ⟨G12, vr k4, ak4, _, hG12, (hx12), rgt_vr (hk4b (by omega)), by rw [hnd]; omega, (fun _ => rfl), by rw [hnd]; omega, hst.drop [_]⟩
     ·skip
      have hp32 := hc30
      simp only [decide_eq_true_eq, decide_eq_false_iff_not, beq_iff_eq, beq_eq_false_iff_ne, bne_iff_ne, bne_eq_false_iff_eq, Bool.not_eq_true', Bool.not_eq_false', Bool.and_eq_true, Bool.and_eq_false_iff, ne_eq] at hp32
      refine W_skip ?_
      refine W_seq ?_
      refine W_rg [(.f, 0), (.f, 1)] hst ?_
      refine m_cl #[] (some 80) (c27  hst) ?_
      rintro x13 w1 ⟨G13, hG13, hx13, hst⟩
      obtain ⟨xA13, xc13, rfl, _, _⟩ := id hx13.open
      refine nx hst ?_
      refine m_st ((b1, .cells #[iN ((nt).kind), iN ((nt).num), .slice xA13 ((nt).kids.length) xc13] 24) :: (lb, .cells #[iN (l - 1)] 3) :: (sb, .cells #[.slice A n c, iN (((ak1 : Nat) : Int)), .int .u64 sk1] 96) :: L) 0 [(0, iN ((nt).kind)), (1, iN ((nt).num)), (2, .slice xA13 ((nt).kids.length) xc13)] [iN ((nt).kind), iN ((nt).num), .slice xA13 ((nt).kids.length) xc13] none hst (fun w1 hst => ?_)
      refine r_nil ?_
      refine W_ret ?_
      refine q_rt [iN ((nt).kind), iN ((nt).num), .slice xA13 ((nt).kids.length) xc13] [(⟨b1, 0, none⟩, iN ((nt).kind)), (⟨b1, 1, none⟩, iN ((nt).num)), (⟨b1, 2, none⟩, .slice xA13 ((nt).kids.length) xc13)] (.agg #[iN ((nt).kind), iN ((nt).num), .slice xA13 ((nt).kids.length) xc13]) (rc_L 0 rfl rfl (rc_L 0 rfl rfl (rc_L 0 rfl rfl rc_nil))) hst ?_
      have hnd := nds_nt
      have hlv : l - 1 = l - (nds (nt) : Int) := by rw [hnd]; omega
      rw [hlv] at hst
      exact ⟨G13, nt, ak1, _, hG13, (hx13), rgt_nt, by rw [hnd]; omega, (fun _ => rfl), by rw [hnd]; omega, hst.drop [_]⟩
    ·rw [hc28]
     have hp33 := hc28
     simp only [decide_eq_true_eq, decide_eq_false_iff_not, beq_iff_eq, beq_eq_false_iff_ne, bne_iff_ne, bne_eq_false_iff_eq, Bool.not_eq_true', Bool.not_eq_false', Bool.and_eq_true, Bool.and_eq_false_iff, ne_eq] at hp33
     refine r_en [] [] [(73, undef), (74, undef), (75, .bool false), (69, .bool false)] rc_nil ?_
     refine W_cF ?_
     refine W_skip ?_
     refine W_seq ?_
     refine W_rg [(.f, 0), (.f, 1)] hst ?_
     refine m_cl #[] (some 80) (c27  hst) ?_
     rintro x14 w1 ⟨G14, hG14, hx14, hst⟩
     obtain ⟨xA14, xc14, rfl, _, _⟩ := id hx14.open
     refine nx hst ?_
     refine m_st ((b1, .cells #[iN ((nt).kind), iN ((nt).num), .slice xA14 ((nt).kids.length) xc14] 24) :: (lb, .cells #[iN (l - 1)] 3) :: (sb, .cells #[.slice A n c, iN (((ak1 : Nat) : Int)), .int .u64 sk1] 96) :: L) 0 [(0, iN ((nt).kind)), (1, iN ((nt).num)), (2, .slice xA14 ((nt).kids.length) xc14)] [iN ((nt).kind), iN ((nt).num), .slice xA14 ((nt).kids.length) xc14] none hst (fun w1 hst => ?_)
     refine r_nil ?_
     refine W_ret ?_
     refine q_rt [iN ((nt).kind), iN ((nt).num), .slice xA14 ((nt).kids.length) xc14] [(⟨b1, 0, none⟩, iN ((nt).kind)), (⟨b1, 1, none⟩, iN ((nt).num)), (⟨b1, 2, none⟩, .slice xA14 ((nt).kids.length) xc14)] (.agg #[iN ((nt).kind), iN ((nt).num), .slice xA14 ((nt).kids.length) xc14]) (rc_L 0 rfl rfl (rc_L 0 rfl rfl (rc_L 0 rfl rfl rc_nil))) hst ?_
     have hnd := nds_nt
     have hlv : l - 1 = l - (nds (nt) : Int) := by rw [hnd]; omega
     rw [hlv] at hst
     exact ⟨G14, nt, ak1, _, hG14, (hx14), rgt_nt, by rw [hnd]; omega, (fun _ => rfl), by rw [hnd]; omega, hst.drop [_]⟩
 ·rw [hc2]
  have hp34 := hc2
  simp only [decide_eq_true_eq, decide_eq_false_iff_not, beq_iff_eq, beq_eq_false_iff_ne, bne_iff_ne, bne_eq_false_iff_eq, Bool.not_eq_true', Bool.not_eq_false', Bool.and_eq_true, Bool.and_eq_false_iff, ne_eq] at hp34
  refine r_en [] [] [(24, undef), (25, undef), (26, .bool false), (18, .bool false)] rc_nil ?_
  refine W_cF ?_
  refine W_seq ?_
  refine W_rg [(.p, 0), (.p, 1), (.l, 2), (.p, 3), (.p, 4), (.p, 5), (.p, 6), (.p, 7), (.p, 8), (.p, 9), (.p, 10), (.p, 11), (.p, 12)] hst ?_
  refine r_sg [(.p, 0), (.p, 1), (.l, 2), (.p, 3), (.p, 4)] [[iN (l - 1)]] [(⟨lb, 0, none⟩, iN (l - 1))] [(50, pN lb 0), (51, pN lb 0), (52, iN (l - 1)), (53, .bool (decide ((l - 1) ≥ 1))), (54, .bool (decide ((l - 1) ≥ 1)))] (rc_L 1 rfl rfl rc_nil) ?_
  rcases Bool.eq_false_or_eq_true (decide ((l - 1) ≥ 1)) with hc35 | hc35
  ·rw [hc35]
   have hp36 := hc35
   simp only [decide_eq_true_eq, decide_eq_false_iff_not, beq_iff_eq, beq_eq_false_iff_ne, bne_iff_ne, bne_eq_false_iff_eq, Bool.not_eq_true', Bool.not_eq_false', Bool.and_eq_true, Bool.and_eq_false_iff, ne_eq] at hp36
   refine r_sg [(.p, 5), (.p, 6), (.p, 7), (.p, 8)] [] [] [(55, iN k1), (56, .bool (k1 == 3)), (57, .bool (k1 == 3)), (58, .bool (k1 == 3))] rc_nil ?_
   rcases Bool.eq_false_or_eq_true (k1 == 3) with hc37 | hc37
   ·rw [hc37]
    have hp38 := hc37
    simp only [decide_eq_true_eq, decide_eq_false_iff_not, beq_iff_eq, beq_eq_false_iff_ne, bne_iff_ne, bne_eq_false_iff_eq, Bool.not_eq_true', Bool.not_eq_false', Bool.and_eq_true, Bool.and_eq_false_iff, ne_eq] at hp38
    refine r_en [] [] [(59, .bool pl), (60, .bool (!pl)), (61, .bool (!pl)), (49, .bool (!pl))] rc_nil ?_
    refine W_cd (b := !pl) (fun hc39 => ?_) (fun hc39 => ?_)
    ·skip
     have hpl : pl = false := by simpa using hc39
     refine W_seq ?_
     refine W_rg [(.p, 0), (.p, 1), (.p, 2), (.p, 3), (.p, 4), (.f, 5), (.f, 6), (.f, 7)] hst ?_
     refine r_sg [(.p, 0), (.p, 1), (.p, 2), (.p, 3), (.p, 4)] [] [] [(62, pN sb 0), (63, pN lb 0), (64, iN wi), (65, iN (IntKind.wrap .i64 (wi + 1))), (66, .bool pl)] rc_nil ?_
     have hst := St.swap (A := [(b1, .cells #[iN 0, iN 0, .slice none 0 0] 24)]) (B := [(lb, .cells #[iN (l - 1)] 3), (sb, .cells #[.slice A n c, iN (((ak1 : Nat) : Int)), .int .u64 sk1] 96)]) (C := L) hst
     have hw1 : IntKind.wrap .i64 (wi + 1) = wi + 1 := wrap_id (by omega) (by omega)
     rw [hw1]
     refine m_cl #[pN sb 0, pN lb 0, iN (wi + 1), .bool pl] (some 67) (ih (l := l - 1) (wi := wi + 1) (by omega) (by omega) (by omega) (by omega) (by omega) (by omega) hB hn hst) ?_
     rintro x15 w1 ⟨G15, t15, at15, sd15, hG15, hx15, hr15, hd15, hp15, ha15, hst⟩
     obtain ⟨xA15, xc15, rfl, _, _⟩ := id hx15.open
     have hst := St.swap (A := [(lb, .cells #[iN (l - 1 - (nds t15 : Int))] 3), (sb, .cells #[.slice A n c, iN (((at15 : Nat) : Int)), .int .u64 sd15] 96)]) (B := [(b1, .cells #[iN 0, iN 0, .slice none 0 0] 24)]) (C := L) hst
     have hst : St G15 ((b1, .cells #[iN 0, iN 0, .slice none 0 0] 24) :: (lb, .cells #[iN (l - 1 - (nds t15 : Int))] 3) :: (sb, .cells #[.slice A n c, iN (((at15 : Nat) : Int)), .int .u64 sd15] 96) :: L) w1 := hst
     refine nx hst ?_
     refine m_cl #[.agg #[iN t15.kind, iN t15.num, .slice xA15 t15.kids.length xc15]] (some 68) (c49 (hx15) hst) ?_
     rintro x16 w1 ⟨G16, hG16, hx16, hst⟩
     obtain ⟨xA16, xc16, rfl, _, _⟩ := id hx16.open
     refine nx hst ?_
     refine m_st ((b1, .cells #[iN ((al t15).kind), iN ((al t15).num), .slice xA16 ((al t15).kids.length) xc16] 24) :: (lb, .cells #[iN (l - 1 - (nds t15 : Int))] 3) :: (sb, .cells #[.slice A n c, iN (((at15 : Nat) : Int)), .int .u64 sd15] 96) :: L) 0 [(0, iN ((al t15).kind)), (1, iN ((al t15).num)), (2, .slice xA16 ((al t15).kids.length) xc16)] [iN ((al t15).kind), iN ((al t15).num), .slice xA16 ((al t15).kids.length) xc16] none hst (fun w1 hst => ?_)
     refine r_nil ?_
     refine W_ret ?_
     refine q_rt [iN ((al t15).kind), iN ((al t15).num), .slice xA16 ((al t15).kids.length) xc16] [(⟨b1, 0, none⟩, iN ((al t15).kind)), (⟨b1, 1, none⟩, iN ((al t15).num)), (⟨b1, 2, none⟩, .slice xA16 ((al t15).kids.length) xc16)] (.agg #[iN ((al t15).kind), iN ((al t15).num), .slice xA16 ((al t15).kids.length) xc16]) (rc_L 0 rfl rfl (rc_L 0 rfl rfl (rc_L 0 rfl rfl rc_nil))) hst ?_
     have hnd := nds_al t15
     have hlv : l - 1 - (nds t15 : Int) = l - (nds (al t15) : Int) := by rw [hnd]; omega
     rw [hlv] at hst
     exact ⟨G16, al t15, at15, _, (hG15).trans hG16, (hx16), rgt_al hr15, by rw [hnd]; omega, (fun h => by rw [hpl] at h; cases h), by rw [hnd]; omega, hst.drop [_]⟩
    ·skip
     refine W_seq ?_
     refine W_rg [(.p, 0), (.p, 1), (.p, 2), (.p, 3), (.p, 4), (.p, 5), (.p, 6)] hst ?_
     refine r_sg [(.p, 0), (.p, 1), (.p, 2)] [] [] [(70, iN wi), (71, .bool (decide (wi > 0))), (72, .bool (decide (wi > 0)))] rc_nil ?_
     rcases Bool.eq_false_or_eq_true (decide (wi > 0)) with hc40 | hc40
     ·rw [hc40]
      have hp41 := hc40
      simp only [decide_eq_true_eq, decide_eq_false_iff_not, beq_iff_eq, beq_eq_false_iff_ne, bne_iff_ne, bne_eq_false_iff_eq, Bool.not_eq_true', Bool.not_eq_false', Bool.and_eq_true, Bool.and_eq_false_iff, ne_eq] at hp41
      refine r_en [] [] [(73, iN k1), (74, .bool (k1 != 5)), (75, .bool (k1 != 5)), (69, .bool (k1 != 5))] rc_nil ?_
      refine W_cd (b := k1 != 5) (fun hc42 => ?_) (fun hc42 => ?_)
      ·skip
       have hp43 := hc42
       simp only [decide_eq_true_eq, decide_eq_false_iff_not, beq_iff_eq, beq_eq_false_iff_ne, bne_iff_ne, bne_eq_false_iff_eq, Bool.not_eq_true', Bool.not_eq_false', Bool.and_eq_true, Bool.and_eq_false_iff, ne_eq] at hp43
       refine W_seq ?_
       refine W_rg [(.p, 0), (.p, 1), (.f, 2), (.f, 3), (.f, 4)] hst ?_
       refine r_sg [(.p, 0), (.p, 1)] [] [] [(76, pN sb 0), (77, iN wi)] rc_nil ?_
       have hst := St.swap (A := [(b1, .cells #[iN 0, iN 0, .slice none 0 0] 24), (lb, .cells #[iN (l - 1)] 3)]) (B := [(sb, .cells #[.slice A n c, iN (((ak1 : Nat) : Int)), .int .u64 sk1] 96)]) (C := L) hst
       refine m_cl #[pN sb 0, iN wi] (some 78) (c32 hB hn (by omega) hst) ?_
       rintro _ w1 ⟨k5, ak5, sk5, rfl, hk5a, hk5b, hk5t, hst⟩
       have hst := St.swap (A := [(sb, .cells #[.slice A n c, iN (((ak5 : Nat) : Int)), .int .u64 sk5] 96)]) (B := [(b1, .cells #[iN 0, iN 0, .slice none 0 0] 24), (lb, .cells #[iN (l - 1)] 3)]) (C := L) hst
       have hst : St G ((b1, .cells #[iN 0, iN 0, .slice none 0 0] 24) :: (lb, .cells #[iN (l - 1)] 3) :: (sb, .cells #[.slice A n c, iN (((ak5 : Nat) : Int)), .int .u64 sk5] 96) :: L) w1 := hst
       refine nx hst ?_
       refine m_cl #[iN k5] (some 79) (c50  hst) ?_
       rintro x17 w1 ⟨G17, hG17, hx17, hst⟩
       obtain ⟨xA17, xc17, rfl, _, _⟩ := id hx17.open
       refine nx hst ?_
       refine m_st ((b1, .cells #[iN ((vr k5).kind), iN ((vr k5).num), .slice xA17 ((vr k5).kids.length) xc17] 24) :: (lb, .cells #[iN (l - 1)] 3) :: (sb, .cells #[.slice A n c, iN (((ak5 : Nat) : Int)), .int .u64 sk5] 96) :: L) 0 [(0, iN ((vr k5).kind)), (1, iN ((vr k5).num)), (2, .slice xA17 ((vr k5).kids.length) xc17)] [iN ((vr k5).kind), iN ((vr k5).num), .slice xA17 ((vr k5).kids.length) xc17] none hst (fun w1 hst => ?_)
       refine r_nil ?_
       refine W_ret ?_
       refine q_rt [iN ((vr k5).kind), iN ((vr k5).num), .slice xA17 ((vr k5).kids.length) xc17] [(⟨b1, 0, none⟩, iN ((vr k5).kind)), (⟨b1, 1, none⟩, iN ((vr k5).num)), (⟨b1, 2, none⟩, .slice xA17 ((vr k5).kids.length) xc17)] (.agg #[iN ((vr k5).kind), iN ((vr k5).num), .slice xA17 ((vr k5).kids.length) xc17]) (rc_L 0 rfl rfl (rc_L 0 rfl rfl (rc_L 0 rfl rfl rc_nil))) hst ?_
       have hnd := nds_vr k5
       have hlv : l - 1 = l - (nds (vr k5) : Int) := by rw [hnd]; omega
       rw [hlv] at hst
       exact ⟨G17, vr k5, ak5, _, hG17, (hx17), rgt_vr (hk5b (by omega)), by rw [hnd]; omega, (fun _ => rfl), by rw [hnd]; omega, hst.drop [_]⟩
      ·skip
       have hp44 := hc42
       simp only [decide_eq_true_eq, decide_eq_false_iff_not, beq_iff_eq, beq_eq_false_iff_ne, bne_iff_ne, bne_eq_false_iff_eq, Bool.not_eq_true', Bool.not_eq_false', Bool.and_eq_true, Bool.and_eq_false_iff, ne_eq] at hp44
       refine W_skip ?_
       refine W_seq ?_
       refine W_rg [(.f, 0), (.f, 1)] hst ?_
       refine m_cl #[] (some 80) (c27  hst) ?_
       rintro x18 w1 ⟨G18, hG18, hx18, hst⟩
       obtain ⟨xA18, xc18, rfl, _, _⟩ := id hx18.open
       refine nx hst ?_
       refine m_st ((b1, .cells #[iN ((nt).kind), iN ((nt).num), .slice xA18 ((nt).kids.length) xc18] 24) :: (lb, .cells #[iN (l - 1)] 3) :: (sb, .cells #[.slice A n c, iN (((ak1 : Nat) : Int)), .int .u64 sk1] 96) :: L) 0 [(0, iN ((nt).kind)), (1, iN ((nt).num)), (2, .slice xA18 ((nt).kids.length) xc18)] [iN ((nt).kind), iN ((nt).num), .slice xA18 ((nt).kids.length) xc18] none hst (fun w1 hst => ?_)
       refine r_nil ?_
       refine W_ret ?_
       refine q_rt [iN ((nt).kind), iN ((nt).num), .slice xA18 ((nt).kids.length) xc18] [(⟨b1, 0, none⟩, iN ((nt).kind)), (⟨b1, 1, none⟩, iN ((nt).num)), (⟨b1, 2, none⟩, .slice xA18 ((nt).kids.length) xc18)] (.agg #[iN ((nt).kind), iN ((nt).num), .slice xA18 ((nt).kids.length) xc18]) (rc_L 0 rfl rfl (rc_L 0 rfl rfl (rc_L 0 rfl rfl rc_nil))) hst ?_
       have hnd := nds_nt
       have hlv : l - 1 = l - (nds (nt) : Int) := by rw [hnd]; omega
       rw [hlv] at hst
       exact ⟨G18, nt, ak1, _, hG18, (hx18), rgt_nt, by rw [hnd]; omega, (fun _ => rfl), by rw [hnd]; omega, hst.drop [_]⟩
     ·rw [hc40]
      have hp45 := hc40
      simp only [decide_eq_true_eq, decide_eq_false_iff_not, beq_iff_eq, beq_eq_false_iff_ne, bne_iff_ne, bne_eq_false_iff_eq, Bool.not_eq_true', Bool.not_eq_false', Bool.and_eq_true, Bool.and_eq_false_iff, ne_eq] at hp45
      refine r_en [] [] [(73, undef), (74, undef), (75, .bool false), (69, .bool false)] rc_nil ?_
      refine W_cF ?_
      refine W_skip ?_
      refine W_seq ?_
      refine W_rg [(.f, 0), (.f, 1)] hst ?_
      refine m_cl #[] (some 80) (c27  hst) ?_
      rintro x19 w1 ⟨G19, hG19, hx19, hst⟩
      obtain ⟨xA19, xc19, rfl, _, _⟩ := id hx19.open
      refine nx hst ?_
      refine m_st ((b1, .cells #[iN ((nt).kind), iN ((nt).num), .slice xA19 ((nt).kids.length) xc19] 24) :: (lb, .cells #[iN (l - 1)] 3) :: (sb, .cells #[.slice A n c, iN (((ak1 : Nat) : Int)), .int .u64 sk1] 96) :: L) 0 [(0, iN ((nt).kind)), (1, iN ((nt).num)), (2, .slice xA19 ((nt).kids.length) xc19)] [iN ((nt).kind), iN ((nt).num), .slice xA19 ((nt).kids.length) xc19] none hst (fun w1 hst => ?_)
      refine r_nil ?_
      refine W_ret ?_
      refine q_rt [iN ((nt).kind), iN ((nt).num), .slice xA19 ((nt).kids.length) xc19] [(⟨b1, 0, none⟩, iN ((nt).kind)), (⟨b1, 1, none⟩, iN ((nt).num)), (⟨b1, 2, none⟩, .slice xA19 ((nt).kids.length) xc19)] (.agg #[iN ((nt).kind), iN ((nt).num), .slice xA19 ((nt).kids.length) xc19]) (rc_L 0 rfl rfl (rc_L 0 rfl rfl (rc_L 0 rfl rfl rc_nil))) hst ?_
      have hnd := nds_nt
      have hlv : l - 1 = l - (nds (nt) : Int) := by rw [hnd]; omega
      rw [hlv] at hst
      exact ⟨G19, nt, ak1, _, hG19, (hx19), rgt_nt, by rw [hnd]; omega, (fun _ => rfl), by rw [hnd]; omega, hst.drop [_]⟩
   ·rw [hc37]
    have hp46 := hc37
    simp only [decide_eq_true_eq, decide_eq_false_iff_not, beq_iff_eq, beq_eq_false_iff_ne, bne_iff_ne, bne_eq_false_iff_eq, Bool.not_eq_true', Bool.not_eq_false', Bool.and_eq_true, Bool.and_eq_false_iff, ne_eq] at hp46
    refine r_en [] [] [(59, undef), (60, undef), (61, .bool false), (49, .bool false)] rc_nil ?_
    refine W_cF ?_
    refine W_seq ?_
    refine W_rg [(.p, 0), (.p, 1), (.p, 2), (.p, 3), (.p, 4), (.p, 5), (.p, 6)] hst ?_
    refine r_sg [(.p, 0), (.p, 1), (.p, 2)] [] [] [(70, iN wi), (71, .bool (decide (wi > 0))), (72, .bool (decide (wi > 0)))] rc_nil ?_
    rcases Bool.eq_false_or_eq_true (decide (wi > 0)) with hc47 | hc47
    ·rw [hc47]
     have hp48 := hc47
     simp only [decide_eq_true_eq, decide_eq_false_iff_not, beq_iff_eq, beq_eq_false_iff_ne, bne_iff_ne, bne_eq_false_iff_eq, Bool.not_eq_true', Bool.not_eq_false', Bool.and_eq_true, Bool.and_eq_false_iff, ne_eq] at hp48
     refine r_en [] [] [(73, iN k1), (74, .bool (k1 != 5)), (75, .bool (k1 != 5)), (69, .bool (k1 != 5))] rc_nil ?_
     refine W_cd (b := k1 != 5) (fun hc49 => ?_) (fun hc49 => ?_)
     ·skip
      have hp50 := hc49
      simp only [decide_eq_true_eq, decide_eq_false_iff_not, beq_iff_eq, beq_eq_false_iff_ne, bne_iff_ne, bne_eq_false_iff_eq, Bool.not_eq_true', Bool.not_eq_false', Bool.and_eq_true, Bool.and_eq_false_iff, ne_eq] at hp50
      refine W_seq ?_
      refine W_rg [(.p, 0), (.p, 1), (.f, 2), (.f, 3), (.f, 4)] hst ?_
      refine r_sg [(.p, 0), (.p, 1)] [] [] [(76, pN sb 0), (77, iN wi)] rc_nil ?_
      have hst := St.swap (A := [(b1, .cells #[iN 0, iN 0, .slice none 0 0] 24), (lb, .cells #[iN (l - 1)] 3)]) (B := [(sb, .cells #[.slice A n c, iN (((ak1 : Nat) : Int)), .int .u64 sk1] 96)]) (C := L) hst
      refine m_cl #[pN sb 0, iN wi] (some 78) (c32 hB hn (by omega) hst) ?_
      rintro _ w1 ⟨k6, ak6, sk6, rfl, hk6a, hk6b, hk6t, hst⟩
      have hst := St.swap (A := [(sb, .cells #[.slice A n c, iN (((ak6 : Nat) : Int)), .int .u64 sk6] 96)]) (B := [(b1, .cells #[iN 0, iN 0, .slice none 0 0] 24), (lb, .cells #[iN (l - 1)] 3)]) (C := L) hst
      have hst : St G ((b1, .cells #[iN 0, iN 0, .slice none 0 0] 24) :: (lb, .cells #[iN (l - 1)] 3) :: (sb, .cells #[.slice A n c, iN (((ak6 : Nat) : Int)), .int .u64 sk6] 96) :: L) w1 := hst
      refine nx hst ?_
      refine m_cl #[iN k6] (some 79) (c50  hst) ?_
      rintro x20 w1 ⟨G20, hG20, hx20, hst⟩
      obtain ⟨xA20, xc20, rfl, _, _⟩ := id hx20.open
      refine nx hst ?_
      refine m_st ((b1, .cells #[iN ((vr k6).kind), iN ((vr k6).num), .slice xA20 ((vr k6).kids.length) xc20] 24) :: (lb, .cells #[iN (l - 1)] 3) :: (sb, .cells #[.slice A n c, iN (((ak6 : Nat) : Int)), .int .u64 sk6] 96) :: L) 0 [(0, iN ((vr k6).kind)), (1, iN ((vr k6).num)), (2, .slice xA20 ((vr k6).kids.length) xc20)] [iN ((vr k6).kind), iN ((vr k6).num), .slice xA20 ((vr k6).kids.length) xc20] none hst (fun w1 hst => ?_)
      refine r_nil ?_
      refine W_ret ?_
      refine q_rt [iN ((vr k6).kind), iN ((vr k6).num), .slice xA20 ((vr k6).kids.length) xc20] [(⟨b1, 0, none⟩, iN ((vr k6).kind)), (⟨b1, 1, none⟩, iN ((vr k6).num)), (⟨b1, 2, none⟩, .slice xA20 ((vr k6).kids.length) xc20)] (.agg #[iN ((vr k6).kind), iN ((vr k6).num), .slice xA20 ((vr k6).kids.length) xc20]) (rc_L 0 rfl rfl (rc_L 0 rfl rfl (rc_L 0 rfl rfl rc_nil))) hst ?_
      have hnd := nds_vr k6
      have hlv : l - 1 = l - (nds (vr k6) : Int) := by rw [hnd]; omega
      rw [hlv] at hst
      exact ⟨G20, vr k6, ak6, _, hG20, (hx20), rgt_vr (hk6b (by omega)), by rw [hnd]; omega, (fun _ => rfl), by rw [hnd]; omega, hst.drop [_]⟩
     ·skip
      have hp51 := hc49
      simp only [decide_eq_true_eq, decide_eq_false_iff_not, beq_iff_eq, beq_eq_false_iff_ne, bne_iff_ne, bne_eq_false_iff_eq, Bool.not_eq_true', Bool.not_eq_false', Bool.and_eq_true, Bool.and_eq_false_iff, ne_eq] at hp51
      refine W_skip ?_
      refine W_seq ?_
      refine W_rg [(.f, 0), (.f, 1)] hst ?_
      refine m_cl #[] (some 80) (c27  hst) ?_
      rintro x21 w1 ⟨G21, hG21, hx21, hst⟩
      obtain ⟨xA21, xc21, rfl, _, _⟩ := id hx21.open
      refine nx hst ?_
      refine m_st ((b1, .cells #[iN ((nt).kind), iN ((nt).num), .slice xA21 ((nt).kids.length) xc21] 24) :: (lb, .cells #[iN (l - 1)] 3) :: (sb, .cells #[.slice A n c, iN (((ak1 : Nat) : Int)), .int .u64 sk1] 96) :: L) 0 [(0, iN ((nt).kind)), (1, iN ((nt).num)), (2, .slice xA21 ((nt).kids.length) xc21)] [iN ((nt).kind), iN ((nt).num), .slice xA21 ((nt).kids.length) xc21] none hst (fun w1 hst => ?_)
      refine r_nil ?_
      refine W_ret ?_
      refine q_rt [iN ((nt).kind), iN ((nt).num), .slice xA21 ((nt).kids.length) xc21] [(⟨b1, 0, none⟩, iN ((nt).kind)), (⟨b1, 1, none⟩, iN ((nt).num)), (⟨b1, 2, none⟩, .slice xA21 ((nt).kids.length) xc21)] (.agg #[iN ((nt).kind), iN ((nt).num), .slice xA21 ((nt).kids.length) xc21]) (rc_L 0 rfl rfl (rc_L 0 rfl rfl (rc_L 0 rfl rfl rc_nil))) hst ?_
      have hnd := nds_nt
      have hlv : l - 1 = l - (nds (nt) : Int) := by rw [hnd]; omega
      rw [hlv] at hst
      exact ⟨G21, nt, ak1, _, hG21, (hx21), rgt_nt, by rw [hnd]; omega, (fun _ => rfl), by rw [hnd]; omega, hst.drop [_]⟩
    ·rw [hc47]
     have hp52 := hc47
     simp only [decide_eq_true_eq, decide_eq_false_iff_not, beq_iff_eq, beq_eq_false_iff_ne, bne_iff_ne, bne_eq_false_iff_eq, Bool.not_eq_true', Bool.not_eq_false', Bool.and_eq_true, Bool.and_eq_false_iff, ne_eq] at hp52
     refine r_en [] [] [(73, undef), (74, undef), (75, .bool false), (69, .bool false)] rc_nil ?_
     refine W_cF ?_
     refine W_skip ?_
     refine W_seq ?_
     refine W_rg [(.f, 0), (.f, 1)] hst ?_
     refine m_cl #[] (some 80) (c27  hst) ?_
     rintro x22 w1 ⟨G22, hG22, hx22, hst⟩
     obtain ⟨xA22, xc22, rfl, _, _⟩ := id hx22.open
     refine nx hst ?_
     refine m_st ((b1, .cells #[iN ((nt).kind), iN ((nt).num), .slice xA22 ((nt).kids.length) xc22] 24) :: (lb, .cells #[iN (l - 1)] 3) :: (sb, .cells #[.slice A n c, iN (((ak1 : Nat) : Int)), .int .u64 sk1] 96) :: L) 0 [(0, iN ((nt).kind)), (1, iN ((nt).num)), (2, .slice xA22 ((nt).kids.length) xc22)] [iN ((nt).kind), iN ((nt).num), .slice xA22 ((nt).kids.length) xc22] none hst (fun w1 hst => ?_)
     refine r_nil ?_
     refine W_ret ?_
     refine q_rt [iN ((nt).kind), iN ((nt).num), .slice xA22 ((nt).kids.length) xc22] [(⟨b1, 0, none⟩, iN ((nt).kind)), (⟨b1, 1, none⟩, iN ((nt).num)), (⟨b1, 2, none⟩, .slice xA22 ((nt).kids.length) xc22)] (.agg #[iN ((nt).kind), iN ((nt).num), .slice xA22 ((nt).kids.length) xc22]) (rc_L 0 rfl rfl (rc_L 0 rfl rfl (rc_L 0 rfl rfl rc_nil))) hst ?_
     have hnd := nds_nt
     have hlv : l - 1 = l - (nds (nt) : Int) := by rw [hnd]; omega
     rw [hlv] at hst
     exact ⟨G22, nt, ak1, _, hG22, (hx22), rgt_nt, by rw [hnd]; omega, (fun _ => rfl), by rw [hnd]; omega, hst.drop [_]⟩
  ·rw [hc35]
   have hp53 := hc35
   simp only [decide_eq_true_eq, decide_eq_false_iff_not, beq_iff_eq, beq_eq_false_iff_ne, bne_iff_ne, bne_eq_false_iff_eq, Bool.not_eq_true', Bool.not_eq_false', Bool.and_eq_true, Bool.and_eq_false_iff, ne_eq] at hp53
   refine r_en [] [] [(55, undef), (56, undef), (57, .bool false), (58, .bool false), (59, undef), (60, undef), (61, .bool false), (49, .bool false)] rc_nil ?_
   refine W_cF ?_
   refine W_seq ?_
   refine W_rg [(.p, 0), (.p, 1), (.p, 2), (.p, 3), (.p, 4), (.p, 5), (.p, 6)] hst ?_
   refine r_sg [(.p, 0), (.p, 1), (.p, 2)] [] [] [(70, iN wi), (71, .bool (decide (wi > 0))), (72, .bool (decide (wi > 0)))] rc_nil ?_
   rcases Bool.eq_false_or_eq_true (decide (wi > 0)) with hc54 | hc54
   ·rw [hc54]
    have hp55 := hc54
    simp only [decide_eq_true_eq, decide_eq_false_iff_not, beq_iff_eq, beq_eq_false_iff_ne, bne_iff_ne, bne_eq_false_iff_eq, Bool.not_eq_true', Bool.not_eq_false', Bool.and_eq_true, Bool.and_eq_false_iff, ne_eq] at hp55
    refine r_en [] [] [(73, iN k1), (74, .bool (k1 != 5)), (75, .bool (k1 != 5)), (69, .bool (k1 != 5))] rc_nil ?_
    refine W_cd (b := k1 != 5) (fun hc56 => ?_) (fun hc56 => ?_)
    ·skip
     have hp57 := hc56
     simp only [decide_eq_true_eq, decide_eq_false_iff_not, beq_iff_eq, beq_eq_false_iff_ne, bne_iff_ne, bne_eq_false_iff_eq, Bool.not_eq_true', Bool.not_eq_false', Bool.and_eq_true, Bool.and_eq_false_iff, ne_eq] at hp57
     refine W_seq ?_
     refine W_rg [(.p, 0), (.p, 1), (.f, 2), (.f, 3), (.f, 4)] hst ?_
     refine r_sg [(.p, 0), (.p, 1)] [] [] [(76, pN sb 0), (77, iN wi)] rc_nil ?_
     have hst := St.swap (A := [(b1, .cells #[iN 0, iN 0, .slice none 0 0] 24), (lb, .cells #[iN (l - 1)] 3)]) (B := [(sb, .cells #[.slice A n c, iN (((ak1 : Nat) : Int)), .int .u64 sk1] 96)]) (C := L) hst
     refine m_cl #[pN sb 0, iN wi] (some 78) (c32 hB hn (by omega) hst) ?_
     rintro _ w1 ⟨k7, ak7, sk7, rfl, hk7a, hk7b, hk7t, hst⟩
     have hst := St.swap (A := [(sb, .cells #[.slice A n c, iN (((ak7 : Nat) : Int)), .int .u64 sk7] 96)]) (B := [(b1, .cells #[iN 0, iN 0, .slice none 0 0] 24), (lb, .cells #[iN (l - 1)] 3)]) (C := L) hst
     have hst : St G ((b1, .cells #[iN 0, iN 0, .slice none 0 0] 24) :: (lb, .cells #[iN (l - 1)] 3) :: (sb, .cells #[.slice A n c, iN (((ak7 : Nat) : Int)), .int .u64 sk7] 96) :: L) w1 := hst
     refine nx hst ?_
     refine m_cl #[iN k7] (some 79) (c50  hst) ?_
     rintro x23 w1 ⟨G23, hG23, hx23, hst⟩
     obtain ⟨xA23, xc23, rfl, _, _⟩ := id hx23.open
     refine nx hst ?_
     refine m_st ((b1, .cells #[iN ((vr k7).kind), iN ((vr k7).num), .slice xA23 ((vr k7).kids.length) xc23] 24) :: (lb, .cells #[iN (l - 1)] 3) :: (sb, .cells #[.slice A n c, iN (((ak7 : Nat) : Int)), .int .u64 sk7] 96) :: L) 0 [(0, iN ((vr k7).kind)), (1, iN ((vr k7).num)), (2, .slice xA23 ((vr k7).kids.length) xc23)] [iN ((vr k7).kind), iN ((vr k7).num), .slice xA23 ((vr k7).kids.length) xc23] none hst (fun w1 hst => ?_)
     refine r_nil ?_
     refine W_ret ?_
     refine q_rt [iN ((vr k7).kind), iN ((vr k7).num), .slice xA23 ((vr k7).kids.length) xc23] [(⟨b1, 0, none⟩, iN ((vr k7).kind)), (⟨b1, 1, none⟩, iN ((vr k7).num)), (⟨b1, 2, none⟩, .slice xA23 ((vr k7).kids.length) xc23)] (.agg #[iN ((vr k7).kind), iN ((vr k7).num), .slice xA23 ((vr k7).kids.length) xc23]) (rc_L 0 rfl rfl (rc_L 0 rfl rfl (rc_L 0 rfl rfl rc_nil))) hst ?_
     have hnd := nds_vr k7
     have hlv : l - 1 = l - (nds (vr k7) : Int) := by rw [hnd]; omega
     rw [hlv] at hst
     exact ⟨G23, vr k7, ak7, _, hG23, (hx23), rgt_vr (hk7b (by omega)), by rw [hnd]; omega, (fun _ => rfl), by rw [hnd]; omega, hst.drop [_]⟩
    ·skip
     have hp58 := hc56
     simp only [decide_eq_true_eq, decide_eq_false_iff_not, beq_iff_eq, beq_eq_false_iff_ne, bne_iff_ne, bne_eq_false_iff_eq, Bool.not_eq_true', Bool.not_eq_false', Bool.and_eq_true, Bool.and_eq_false_iff, ne_eq] at hp58
     refine W_skip ?_
     refine W_seq ?_
     refine W_rg [(.f, 0), (.f, 1)] hst ?_
     refine m_cl #[] (some 80) (c27  hst) ?_
     rintro x24 w1 ⟨G24, hG24, hx24, hst⟩
     obtain ⟨xA24, xc24, rfl, _, _⟩ := id hx24.open
     refine nx hst ?_
     refine m_st ((b1, .cells #[iN ((nt).kind), iN ((nt).num), .slice xA24 ((nt).kids.length) xc24] 24) :: (lb, .cells #[iN (l - 1)] 3) :: (sb, .cells #[.slice A n c, iN (((ak1 : Nat) : Int)), .int .u64 sk1] 96) :: L) 0 [(0, iN ((nt).kind)), (1, iN ((nt).num)), (2, .slice xA24 ((nt).kids.length) xc24)] [iN ((nt).kind), iN ((nt).num), .slice xA24 ((nt).kids.length) xc24] none hst (fun w1 hst => ?_)
     refine r_nil ?_
     refine W_ret ?_
     refine q_rt [iN ((nt).kind), iN ((nt).num), .slice xA24 ((nt).kids.length) xc24] [(⟨b1, 0, none⟩, iN ((nt).kind)), (⟨b1, 1, none⟩, iN ((nt).num)), (⟨b1, 2, none⟩, .slice xA24 ((nt).kids.length) xc24)] (.agg #[iN ((nt).kind), iN ((nt).num), .slice xA24 ((nt).kids.length) xc24]) (rc_L 0 rfl rfl (rc_L 0 rfl rfl (rc_L 0 rfl rfl rc_nil))) hst ?_
     have hnd := nds_nt
     have hlv : l - 1 = l - (nds (nt) : Int) := by rw [hnd]; omega
     rw [hlv] at hst
     exact ⟨G24, nt, ak1, _, hG24, (hx24), rgt_nt, by rw [hnd]; omega, (fun _ => rfl), by rw [hnd]; omega, hst.drop [_]⟩
   ·rw [hc54]
    have hp59 := hc54
    simp only [decide_eq_true_eq, decide_eq_false_iff_not, beq_iff_eq, beq_eq_false_iff_ne, bne_iff_ne, bne_eq_false_iff_eq, Bool.not_eq_true', Bool.not_eq_false', Bool.and_eq_true, Bool.and_eq_false_iff, ne_eq] at hp59
    refine r_en [] [] [(73, undef), (74, undef), (75, .bool false), (69, .bool false)] rc_nil ?_
    refine W_cF ?_
    refine W_skip ?_
    refine W_seq ?_
    refine W_rg [(.f, 0), (.f, 1)] hst ?_
    refine m_cl #[] (some 80) (c27  hst) ?_
    rintro x25 w1 ⟨G25, hG25, hx25, hst⟩
    obtain ⟨xA25, xc25, rfl, _, _⟩ := id hx25.open
    refine nx hst ?_
    refine m_st ((b1, .cells #[iN ((nt).kind), iN ((nt).num), .slice xA25 ((nt).kids.length) xc25] 24) :: (lb, .cells #[iN (l - 1)] 3) :: (sb, .cells #[.slice A n c, iN (((ak1 : Nat) : Int)), .int .u64 sk1] 96) :: L) 0 [(0, iN ((nt).kind)), (1, iN ((nt).num)), (2, .slice xA25 ((nt).kids.length) xc25)] [iN ((nt).kind), iN ((nt).num), .slice xA25 ((nt).kids.length) xc25] none hst (fun w1 hst => ?_)
    refine r_nil ?_
    refine W_ret ?_
    refine q_rt [iN ((nt).kind), iN ((nt).num), .slice xA25 ((nt).kids.length) xc25] [(⟨b1, 0, none⟩, iN ((nt).kind)), (⟨b1, 1, none⟩, iN ((nt).num)), (⟨b1, 2, none⟩, .slice xA25 ((nt).kids.length) xc25)] (.agg #[iN ((nt).kind), iN ((nt).num), .slice xA25 ((nt).kids.length) xc25]) (rc_L 0 rfl rfl (rc_L 0 rfl rfl (rc_L 0 rfl rfl rc_nil))) hst ?_
    have hnd := nds_nt
    have hlv : l - 1 = l - (nds (nt) : Int) := by rw [hnd]; omega
    rw [hlv] at hst
    exact ⟨G25, nt, ak1, _, hG25, (hx25), rgt_nt, by rw [hnd]; omega, (fun _ => rfl), by rw [hnd]; omega, hst.drop [_]⟩

theorem c19 {G : GH} {L : LH} {w : World} {sb n c at_ : Nat} {A : Option Addr} {sd l : Int} {pl : Bool} (hl1 : 1 ≤ l) (hl2 : l ≤ 1000) (hat : (at_ : Int) + 2 * l ≤ 5000) (hB : ByS G A n) (hn : n < lim) (hst : St G ((sb, StB A n c at_ sd) :: L) w) :
  Cal Try.prog 19 #[.pointer (some ⟨sb, 0, none⟩), .int .i64 l, .bool pl] w fun x w' => ∃ G' t at' sd', Le G G' ∧ IsPoly G' x t ∧ rgt 0 t ∧ (nds t : Int) ≤ l ∧ (pl = true → plain t = true) ∧ at' ≤ at_ + 2 * nds t ∧ St G' ((sb, StB A n c at' sd') :: L) w' := by
 refine cal_of_W Try.func19 rfl (Nat.le_of_ble_eq_true (by kernel_rfl)) ?_
 refine W_seq ?_
 refine W_rg [(.f, 0)] hst ?_
 refine m_new (.cells #[iN 0, iN 0, .slice none 0 0] 24) (fun b1 => pN b1 0) (some 6) (fun b => by kernel_rfl) hst (fun b1 w1 hst => ?_)
 refine r_nil ?_
 refine W_seq ?_
 refine W_rg [(.p, 0), (.f, 1), (.f, 2)] hst ?_
 refine r_sg [(.p, 0)] [] [] [(8, iN l)] rc_nil ?_
 refine m_new (.cells #[iN 0] 3) (fun b2 => pN b2 0) (some 7) (fun b => by kernel_rfl) hst (fun b2 w1 hst => ?_)
 refine m_st ((b2, .cells #[iN l] 3) :: (b1, .cells #[iN 0, iN 0, .slice none 0 0] 24) :: (sb, .cells #[.slice A n c, iN (((at_ : Nat) : Int)), .int .u64 sd] 96) :: L) 0 [(0, iN l)] [iN l] none hst (fun w1 hst => ?_)
 refine r_nil ?_
 refine W_seq ?_
 refine W_rg [(.p, 0), (.p, 1), (.f, 2), (.f, 3)] hst ?_
 refine r_sg [(.p, 0), (.p, 1)] [] [] [(9, pN sb 0), (10, .bool pl)] rc_nil ?_
 have hst := St.swap (A := [(b2, .cells #[iN l] 3), (b1, .cells #[iN 0, iN 0, .slice none 0 0] 24)]) (B := [(sb, .cells #[.slice A n c, iN (((at_ : Nat) : Int)), .int .u64 sd] 96)]) (C := L) hst
 have hst := St.swap (A := [(sb, .cells #[.slice A n c, iN (((at_ : Nat) : Int)), .int .u64 sd] 96)]) (B := [(b2, .cells #[iN l] 3)]) (C := (b1, .cells #[iN 0, iN 0, .slice none 0 0] 24) :: L) hst
 refine m_cl #[pN sb 0, pN b2 0, iN 0, .bool pl] (some 11) (c61 l.toNat (by omega) hl1 hl2 (Int.le_refl _) (by omega) hat hB hn hst) ?_
 rintro x1 w1 ⟨G1, t, at2, sd2, hG1, hx, hr, hd, hp, ha, hst⟩
 obtain ⟨xA, xc, rfl, _, _⟩ := id hx.open
 have hst := hst.drop [_]
 have hst := St.swap (A := [(sb, StB A n c at2 sd2)]) (B := [(b1, .cells #[iN 0, iN 0, .slice none 0 0] 24)]) (C := L) hst
 have hst : St G1 ((b1, .cells #[iN 0, iN 0, .slice none 0 0] 24) :: (sb, .cells #[.slice A n c, iN (((at2 : Nat) : Int)), .int .u64 sd2] 96) :: L) w1 := hst
 refine nx hst ?_
 refine m_st ((b1, .cells #[iN t.kind, iN t.num, .slice xA t.kids.length xc] 24) :: (sb, .cells #[.slice A n c, iN (((at2 : Nat) : Int)), .int .u64 sd2] 96) :: L) 0 [(0, iN t.kind), (1, iN t.num), (2, .slice xA t.kids.length xc)] [iN t.kind, iN t.num, .slice xA t.kids.length xc] none hst (fun w1 hst => ?_)
 refine r_nil ?_
 refine W_ret ?_
 refine q_rt [iN t.kind, iN t.num, .slice xA t.kids.length xc] [(⟨b1, 0, none⟩, iN t.kind), (⟨b1, 1, none⟩, iN t.num), (⟨b1, 2, none⟩, .slice xA t.kids.length xc)] (.agg #[iN t.kind, iN t.num, .slice xA t.kids.length xc]) (rc_L 0 rfl rfl (rc_L 0 rfl rfl (rc_L 0 rfl rfl rc_nil))) hst ?_
 exact ⟨G1, t, at2, sd2, hG1, hx, hr, hd, hp, ha, hst.drop [_]⟩

end Go.Proofs.Ytjgnhhgigickaaa.Wk
