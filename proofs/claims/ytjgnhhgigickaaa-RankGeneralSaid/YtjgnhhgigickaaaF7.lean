/- RankGeneral holds: the law returns true for all bytes, and they read afterwards as they read before. Conditions: none but those that the given row itself bears. -/
import Derived.Test.YtjgnhhgigickaaaF6
set_option linter.all false


namespace Go.Proofs.Ytjgnhhgigickaaa.Sv
open Ty Go Wk Md
mutual
/-- a right type that is too large -/
theorem rgt_much : ∀ (t : T) {n ar m : Int}, 0 ≤ n → n ≤ 26 → 0 ≤ ar → ar ≤ m → m ≤ 12 → 12 < m + (nds t : Int) → rgt (ar + n) t → (rtWalk n ar m t).1 = 2
  | .mk k num ks, n, ar, m, h0, h1, h2, h3, h4, h5, h => by
    rw [nds_mk] at h5
    unfold rgt at h
    obtain ⟨hk, hks⟩ := h
    unfold rtWalk
    dsimp only
    by_cases e : m = 12
    · have hn : rtNode ar n m k num ks.length = 2 := by unfold rtNode; rw [if_pos e]
      rw [hn]; rfl
    have hw : w64 (ar + n) = ar + n := w64_id (by omega) (by omega)
    have hm : w64 (m + 1) = m + 1 := w64_id (by omega) (by omega)
    have ha : w64 (ar + 1) = ar + 1 := w64_id (by omega) (by omega)
    have hn : rtNode ar n m k num ks.length = 0 := by
      rw [rtNode_eq (wi := ar + n) (by omega) hw.symm]
      rw [if_neg (by omega)]
      rw [if_neg (by omega), if_neg (by unfold wantsR; split <;> (try split) <;> omega), if_neg (by omega)]
    rw [if_pos hn, hm, ha]
    exact rgts_much ks (n := n) (ar := if k = 4 then ar + 1 else ar) (m := m + 1) h0 h1 (by split <;> omega) (by split <;> omega) (by omega) (by omega) (by
      have e : (if k = 4 then ar + 1 else ar) + n = (if k = 4 then ar + n + 1 else ar + n) := by split <;> omega
      rw [e]; exact hks)
theorem rgts_much : ∀ (ts : List T) {n ar m : Int}, 0 ≤ n → n ≤ 26 → 0 ≤ ar → ar ≤ m → m ≤ 12 → 12 < m + (ndss ts : Int) → rgts (ar + n) ts → (rtList n ar m ts).1 = 2
  | [], _, _, m, _, _, _, _, h4, h5, _ => by exfalso; unfold ndss at h5; simp at h5; omega
  | t :: ts, n, ar, m, h0, h1, h2, h3, h4, h5, h => by
    rw [ndss_cons] at h5
    unfold rgts at h
    unfold rtList
    dsimp only
    by_cases e : m + (nds t : Int) ≤ 12
    · have := nds_pos t
      rw [rgt_rt t h0 h1 h2 h3 e h.1, if_pos rfl]
      exact rgts_much ts h0 h1 h2 (by omega) e (by omega) h.2
    · have := rgt_much t h0 h1 h2 h3 h4 (by omega) h.1
      rw [this, if_neg (by decide)]; exact this
end
theorem right_much {t : T} {n : Int} (h0 : 0 ≤ n) (h1 : n ≤ 26) (h2 : 12 < nds t) (h : rgt n t) : Md.right t n = 2 := by
  unfold Md.right
  rw [if_neg (by omega)]
  exact rgt_much t h0 h1 (Int.le_refl _) (Int.le_refl _) (by decide) (by omega) (by simpa using h)
theorem ct_rgt : ∀ {t : Ty} {n : Nat}, CT n t → rgt (n : Int) (toT t) ∧ nds (toT t) = sz t
  | .var m, n, h => ⟨rgt_vr ⟨by omega, by have : m < n := h.c; omega⟩, rfl⟩
  | .nat, n, _ => ⟨rgt_nt, rfl⟩
  | .fn a b, n, h => by
    obtain ⟨ha, na⟩ := ct_rgt (t := a) (n := n) ⟨h.c.1, h.f.1, h.h.1⟩
    obtain ⟨hb, nb⟩ := ct_rgt (t := b) (n := n) ⟨h.c.2, h.f.2, h.h.2⟩
    exact ⟨rgt_fn ha hb, by show nds (Wk.fn (toT a) (toT b)) = _; rw [nds_fn, na, nb]; rfl⟩
  | .all a, n, h => by
    obtain ⟨ha, na⟩ := ct_rgt (t := a) (n := n + 1) ⟨h.c, h.f, h.h⟩
    exact ⟨rgt_al (by simpa using ha), by show nds (Wk.al (toT a)) = _; rw [nds_al, na]; rfl⟩
  | .fr _, _, h => h.f.elim
  | .ho _, _, h => h.h.elim
theorem plain_toT : ∀ {t : Ty}, Md.plain (toT t) = true ↔ Ty.plain t
  | .fn a b => by
    have h1 := plain_toT (t := a)
    have h2 := plain_toT (t := b)
    show _ ↔ (Ty.plain a ∧ Ty.plain b)
    rw [← h1, ← h2]; simp [Md.plain, Md.plains]
  | .all a => by simp [Md.plain, Ty.plain]
  | .var _ => by simp [Md.plain, Md.plains, Ty.plain]
  | .nat => by simp [Md.plain, Md.plains, Ty.plain]
  | .fr _ => by simp [Md.plain, Md.plains, Ty.plain]
  | .ho _ => by simp [Md.plain, Md.plains, Ty.plain]

/-! ### written -/
def wr (S : AS) (l : List (Nat × Nat)) : Nat → Ty → Ty
  | d, .fr x => .var (d - 1 - S.lev x)
  | d, .ho i => match l.lookup i with | some n => .var (d + l.length - 1 - n) | none => .nat
  | d, .fn a b => .fn (wr S l d a) (wr S l d b)
  | d, .all a => .all (wr S l (d + 1) a)
  | _, .var n => .var n
  | _, .nat => .nat
def chs (l : List (Nat × Nat)) : List (Int × Int) := l.map fun p => ((p.1 : Int), (p.2 : Int))
theorem lkp_chs : ∀ (l : List (Nat × Nat)) (i : Nat), lkp (chs l) (i : Int) = (l.lookup i).map fun (n : Nat) => (n : Int)
  | [], _ => rfl
  | (k, v) :: l, i => by
    show (bif (i : Int) == (k : Int) then some (v : Int) else lkp (chs l) i) = ((match i == k with | true => some v | false => l.lookup i)).map _
    by_cases e : i = k
    · subst e; simp
    · rw [show ((i : Int) == (k : Int)) = false by simpa using fun h : (i : Int) = (k : Int) => e (by omega), show (i == k) = false by simpa using e]
      exact lkp_chs l i
theorem written_eq {f : Nat} {s : Sol} {t : T} {d : Int} {hs : Option (List (Int × Int))} : Md.written (f + 1) s t d hs = (Md.now f s.solved t).bind fun t =>
      if t.kind = 5 then (nth s.deep t.num).bind fun x => some (.mk 1 (w64 (w64 (d - 1) - x)) [])
      else if t.kind = 6 then
        (match lkp (hs.getD []) t.num with
        | some n => some (.mk 1 (w64 (w64 (w64 (d + ((hs.getD []).length : Int)) - 1) - n)) [])
        | none => some (.mk 2 0 []))
      else (t.kids.mapM fun k => Md.written f s k (if t.kind = 4 then w64 (d + 1) else d) hs).bind fun ks => some (.mk t.kind t.num ks) := rfl
theorem written_ev {wt : Bool} {S : AS} (hok : Ok S.sv) {hs : Option (List (Int × Int))} {l : List (Nat × Nat)} (hl : hs.getD [] = chs l) (hn : ∀ i n, l.lookup i = some n → n < l.length) (hlen : l.length < lim) :
    ∀ (z : Nat) (t : Ty) (d : Nat), Ty.sz (R S.sv t) ≤ z → d + nq (R S.sv t) < lim → allF (fun x => x < S.dp.length ∧ S.lev x < d) (R S.sv t) → Ev (fun f => Md.written f (cSol wt S) (toT t) (d : Int) hs) (toT (wr S l d (R S.sv t))) := by
  have hlim : lim = 1099511627776 := rfl
  intro z
  induction z with
  | zero => intro t d hz; exfalso; revert hz; cases R S.sv t <;> simp [Ty.sz]
  | succ z ih =>
    intro t d hz hd hf
    refine Ev.succ (fun f => written_eq) (Ev.bind (now_ev hok t) ?_)
    rw [R_head hok t] at hz hf hd ⊢
    have hfree : ∀ i, nowA S.sv t = .ho i → i ∉ dom S.sv := fun i e => now_free hok e
    cases e : nowA S.sv t with
    | fn a b =>
      rw [e, R_fn] at hz hf hd; simp only [Ty.sz] at hz; simp only [nq] at hd
      rw [R_fn]
      obtain ⟨n1, h1⟩ := ih a d (by omega) (by omega) hf.1
      obtain ⟨n2, h2⟩ := ih b d (by omega) (by omega) hf.2
      refine ⟨max n1 n2, fun f hf => ?_⟩
      show (([toT a, toT b].mapM fun k => Md.written f (cSol wt S) k (d : Int) hs).bind fun ks => some (T.mk 3 0 ks)) = _
      have e1 := h1 f (by omega)
      have e2 := h2 f (by omega)
      simp only at e1 e2
      simp only [List.mapM_cons, List.mapM_nil, e1, e2]; rfl
    | all a =>
      rw [e, R_all] at hz hf hd; simp only [Ty.sz] at hz; simp only [nq] at hd
      rw [R_all]
      obtain ⟨n1, h1⟩ := ih a (d + 1) (by omega) (by omega) (hf.mono fun x ⟨p, q⟩ => ⟨p, by omega⟩)
      refine ⟨n1, fun f hf => ?_⟩
      show (([toT a].mapM fun k => Md.written f (cSol wt S) k (w64 ((d : Int) + 1)) hs).bind fun ks => some (T.mk 4 0 ks)) = _
      have e1 := h1 f (by omega)
      rw [w64_id (by omega) (by omega), show ((d : Int) + 1) = ((d + 1 : Nat) : Int) by omega]
      simp only at e1
      simp only [List.mapM_cons, List.mapM_nil, e1]; rfl
    | ho i =>
      rw [e, R_free (hfree i e)] at hd; simp only [nq] at hd
      rw [R_free (hfree i e)]
      refine Ev.congr (G := fun _ => some (toT (wr S l d (.ho i)))) (fun f => ?_) Ev.pure
      show (match lkp (hs.getD []) (i : Int) with | some n => some (T.mk 1 (w64 (w64 (w64 ((d : Int) + ((hs.getD []).length : Int)) - 1) - n)) []) | none => some (.mk 2 0 [])) = _
      rw [hl, lkp_chs]
      show _ = some (toT (match l.lookup i with | some n => .var (d + l.length - 1 - n) | none => .nat))
      cases h : l.lookup i with
      | none => rfl
      | some n =>
        have h1 := hn i n h
        have h2 : (chs l).length = l.length := by simp [chs]
        show some (T.mk 1 (w64 (w64 (w64 ((d : Int) + ((chs l).length : Int)) - 1) - (n : Int))) []) = some (T.mk 1 ((d + l.length - 1 - n : Nat) : Int) [])
        rw [h2, w64_id (x := (d : Int) + (l.length : Int)) (by omega) (by omega), w64_id (x := (d : Int) + (l.length : Int) - 1) (by omega) (by omega), w64_id (by omega) (by omega)]
        congr 2; omega
    | fr i =>
      rw [e, R_fr] at hf hd; simp only [nq] at hd
      rw [R_fr]
      have hf : i < S.dp.length ∧ S.lev i < d := hf
      refine Ev.congr (G := fun _ => some (toT (wr S l d (.fr i)))) (fun f => ?_) Ev.pure
      show (nth (S.dp.map fun (n : Nat) => (n : Int)) (i : Int)).bind (fun x => some (T.mk 1 (w64 (w64 ((d : Int) - 1) - x)) [])) = some (T.mk 1 ((d - 1 - S.dp.getD i 0 : Nat) : Int) [])
      have h2 : S.dp.getD i 0 < d := hf.2
      rw [nth_dp hf.1, Option.bind_some, w64_id (x := (d : Int) - 1) (by omega) (by omega), w64_id (by omega) (by omega)]
      congr 2; omega
    | nat => rw [R_nat]; exact Ev.congr (G := fun f => some (.mk 2 0 [])) (fun f => rfl) Ev.pure
    | var i => rw [R_var]; exact Ev.congr (G := fun f => some (.mk 1 (i : Int) [])) (fun f => rfl) Ev.pure
theorem nq_sz1 : ∀ (t : Ty), nq t + 1 ≤ sz t
  | .fn a b => by
    have h1 := nq_sz1 a
    have h2 := nq_sz1 b
    simp only [nq, sz]; omega
  | .all a => by have := nq_sz1 a; simp only [nq, sz]; omega
  | .var _ => Nat.le_refl _
  | .nat => Nat.le_refl _
  | .fr _ => Nat.le_refl _
  | .ho _ => Nat.le_refl _
end Go.Proofs.Ytjgnhhgigickaaa.Sv

namespace Go.Proofs.Ytjgnhhgigickaaa.Sv
open Ty Go Wk Md
/-! ### opening -/
theorem rput_eq {u : Ty} : ∀ {t : Ty} {n : Nat}, lc (n + 1) t → n + nq t < lim → Md.rput (toT u) (toT t) (n : Int) = toT (Ty.put u n t)
  | .fn a b, n, h, hl => by
    simp only [nq] at hl
    have h1 := rput_eq (u := u) (t := a) (n := n) h.1 (by omega)
    have h2 := rput_eq (u := u) (t := b) (n := n) h.2 (by omega)
    show Md.rput (toT u) (T.mk 3 0 [toT a, toT b]) (n : Int) = _
    unfold Md.rput Md.rputs Md.rputs Md.rputs
    rw [if_neg (by decide), if_neg (by decide), h1, h2]; rfl
  | .all a, n, h, hl => by
    have hlim : lim = 1099511627776 := rfl
    simp only [nq] at hl
    have h1 := rput_eq (u := u) (t := a) (n := n + 1) h (by omega)
    show Md.rput (toT u) (T.mk 4 0 [toT a]) (n : Int) = _
    unfold Md.rput Md.rputs Md.rputs
    rw [if_neg (by decide), if_pos rfl, w64_id (by omega) (by omega), show ((n : Int) + 1) = ((n + 1 : Nat) : Int) by omega, h1]; rfl
  | .var m, n, h, _ => by
    have h : m < n + 1 := h
    show Md.rput (toT u) (T.mk 1 (m : Int) []) (n : Int) = toT (if m = n then u else .var m)
    unfold Md.rput
    rw [if_pos rfl]
    by_cases e : m = n
    · rw [if_pos (by omega), if_pos e]
    · rw [if_neg (by omega), if_neg (by omega), if_neg e]
  | .nat, n, _, _ => by show Md.rput (toT u) (T.mk 2 0 []) (n : Int) = _; unfold Md.rput Md.rputs; rw [if_neg (by decide)]; rfl
  | .fr i, n, _, _ => by show Md.rput (toT u) (T.mk 5 (i : Int) []) (n : Int) = _; unfold Md.rput Md.rputs; rw [if_neg (by decide)]; rfl
  | .ho i, n, _, _ => by show Md.rput (toT u) (T.mk 6 (i : Int) []) (n : Int) = _; unfold Md.rput Md.rputs; rw [if_neg (by decide)]; rfl
end Go.Proofs.Ytjgnhhgigickaaa.Sv
namespace Go.Proofs.Ytjgnhhgigickaaa.Md
open Go Wk
mutual
/-- how many quantifiers -/
def qn : T → Nat
  | .mk k _ ks => (if k = 4 then 1 else 0) + qns ks
def qns : List T → Nat
  | [] => 0
  | t :: ts => qn t + qns ts
end
end Go.Proofs.Ytjgnhhgigickaaa.Md
namespace Go.Proofs.Ytjgnhhgigickaaa.Sv
open Ty Go Wk Md
theorem qn_eq : ∀ (t : Ty), Md.qn (toT t) = nq t
  | .fn a b => by
    show Md.qn (T.mk 3 0 [toT a, toT b]) = _
    unfold Md.qn Md.qns Md.qns Md.qns
    rw [qn_eq a, qn_eq b, if_neg (by decide)]; simp only [nq]; omega
  | .all a => by
    show Md.qn (T.mk 4 0 [toT a]) = _
    unfold Md.qn Md.qns Md.qns
    rw [qn_eq a, if_pos rfl]; simp only [nq]; omega
  | .var _ => by show Md.qn (T.mk 1 _ []) = _; unfold Md.qn Md.qns; rfl
  | .nat => by show Md.qn (T.mk 2 _ []) = _; unfold Md.qn Md.qns; rfl
  | .fr _ => by show Md.qn (T.mk 5 _ []) = _; unfold Md.qn Md.qns; rfl
  | .ho _ => by show Md.qn (T.mk 6 _ []) = _; unfold Md.qn Md.qns; rfl
theorem CT.put {n : Nat} {a u : Ty} (h : CT (n + 1) a) (hu : CT 0 u) : CT n (Ty.put u n a) := ⟨lc_put hu.c h.c, allF_put hu.f h.f, allH_put hu.h h.h⟩
/-- a quantifier can be used as each type that it is when it is opened -/
theorem opens_law {a u : T} (ha : rgt 0 a) (na : nds a ≤ 12) (h4 : a.kind = 4) (hu : rgt 0 u) (pu : Md.plain u = true) (nu : nds u ≤ 12) :
    ∃ f r e, Md.Open f a u = some (r, e) ∧ (∀ v x, a.kids[0]? = some v → Md.opened f v u 0 = some x → T.sz x + 1 < lim) ∧ (e = 2 ∨ e = 0 ∧ rgt 0 r ∧ nds r ≤ 12 ∧ usB a r = true ∧ Md.qn r < Md.qn a) := by
  have hlim : lim = 1099511627776 := rfl
  obtain ⟨f, r, e, h1, h2, _, h3⟩ := open_law a u
  refine ⟨f, r, e, h1, h3, ?_⟩
  obtain ⟨x, rfl, hx, sx, _⟩ := rgt_ty a (Int.le_refl _) ha
  obtain ⟨y, rfl, hy, sy, py⟩ := rgt_ty u (Int.le_refl _) hu
  have hx : CT 0 x := hx
  have hy : CT 0 y := hy
  have py := py.1 pu
  cases x with
  | all k =>
    have hk : CT 1 k := ⟨hx.c, hx.f, hx.h⟩
    have hp : CT 0 (Ty.put y 0 k) := hk.put hy
    have e1 : rRight (toT (.all k)) 0 = 0 := by rw [← right_eq]; exact rgt_right (Int.le_refl _) (by decide) na ha
    have e2 : rRight (toT y) 0 = 0 := by rw [← right_eq]; exact rgt_right (Int.le_refl _) (by decide) nu hu
    have hq := nq_sz1 k
    simp only [sz] at sx
    have e3 : Md.rput (toT y) (toT k) 0 = toT (Ty.put y 0 k) := rput_eq (n := 0) hx.c (by omega)
    have hr : rOpen (toT (.all k)) (toT y) = if rRight (toT (Ty.put y 0 k)) 0 ≠ 0 then (t0, rRight (toT (Ty.put y 0 k)) 0) else (toT (Ty.put y 0 k), 0) := by
      have hb0 : rboth (toT (.all k)) (toT y) = 0 := by unfold rboth; rw [e1, if_neg (by decide), e2]
      unfold rOpen
      rw [hb0, if_neg (by decide), if_neg (fun h => h rfl)]
      show (if rRight (Md.rput (toT y) (toT k) 0) 0 ≠ 0 then (t0, rRight (Md.rput (toT y) (toT k) 0) 0) else (Md.rput (toT y) (toT k) 0, 0)) = _
      rw [e3]
    rw [hr] at h2
    obtain ⟨g1, g2⟩ := ct_rgt hp
    have g1 : rgt 0 (toT (Ty.put y 0 k)) := g1
    by_cases hs : sz (Ty.put y 0 k) ≤ 12
    · have e4 : rRight (toT (Ty.put y 0 k)) 0 = 0 := by rw [← right_eq]; exact rgt_right (Int.le_refl _) (by decide) (by omega) g1
      rw [e4, if_neg (fun h => h rfl)] at h2
      cases h2
      refine .inr ⟨rfl, g1, by omega, ?_, ?_⟩
      · refine usB_true.2 ⟨_, _, rfl, rfl, SubE.left ⟨py, hy.c, (hy.wf 0).l, hy.h⟩ _ (Nat.le_refl _) (SubE.refl _ (Nat.le_refl _) (hp.wf 0))⟩
      · rw [qn_eq, qn_eq, nq_put py]; simp only [nq]; omega
    · have e4 : rRight (toT (Ty.put y 0 k)) 0 = 2 := by rw [← right_eq]; exact right_much (Int.le_refl _) (by decide) (by omega) g1
      rw [e4, if_pos (by decide)] at h2
      cases h2
      exact .inl rfl
  | var n => have h4 : (1 : Int) = 4 := h4
             exact absurd h4 (by decide)
  | nat => have h4 : (2 : Int) = 4 := h4
           exact absurd h4 (by decide)
  | fn a b => have h4 : (3 : Int) = 4 := h4
              exact absurd h4 (by decide)
  | fr n => exact hx.f.elim
  | ho n => exact hx.h.elim
end Go.Proofs.Ytjgnhhgigickaaa.Sv

namespace Go.Proofs.Ytjgnhhgigickaaa.Sv
open Ty

inductive Tm where
  | var (k : Nat)
  | nat
  | lam (e : Tm)
  | typed (T : Ty) (e : Tm)
  | app (f x : Tm)
  | has (e : Tm) (T : Ty)
/-- a right type of at most 12 nodes -/
def Ann (T : Ty) : Prop := CT 0 T ∧ sz T ≤ 12
def Tm.ok : Nat → Tm → Prop
  | n, .var k => k < n
  | _, .nat => True
  | n, .lam e => e.ok (n + 1)
  | n, .typed T e => Ann T ∧ e.ok (n + 1)
  | n, .app f x => f.ok n ∧ x.ok n
  | n, .has e T => Ann T ∧ e.ok n
def Tm.size : Tm → Nat
  | .var _ => 1
  | .nat => 1
  | .lam e => e.size + 1
  | .typed _ e => e.size + 1
  | .app f x => f.size + x.size + 1
  | .has e _ => e.size + 1
def Tm.isLam : Tm → Bool
  | .lam _ => true
  | _ => false
def Tm.bare : Tm → Prop
  | .var _ => True
  | .nat => True
  | .lam e => e.bare
  | .typed _ _ => False
  | .app f x => f.bare ∧ x.bare
  | .has _ _ => False

/-- the quantifiers in front -/
inductive Fr (P : Nat → Ty → Prop) : Nat → Ty → Prop
  | all {n : Nat} {a : Ty} : Fr P (n + 1) (Ty.put (.fr n) 0 a) → Fr P n (.all a)
  | non {n : Nat} {a : Ty} : isAll a = false → P n a → Fr P n a
/-- a type leads by an argument, of which P tells what it has, to another one -/
inductive Ld (n : Nat) (P : Ty → Prop) : Ty → Ty → Prop
  | fn {a b : Ty} : P a → Ld n P (.fn a b) b
  | all {a τ c : Ty} : Gnd n τ → Ld n P (Ty.put τ 0 a) c → Ld n P (.all a) c
@[reducible] def Jt : Type := Nat → List Ty → Ty → Prop
def baseOf (g : Jt) : Jt := fun m Γ t => ∃ σ, g m Γ σ ∧ SubE m σ t
def hsOf (b : Jt) : Jt := fun n Γ τ => Fr (fun m t => b m Γ t) n τ
/-- what a term gives; what it has, but for the quantifiers in front -/
def J : Tm → Jt × Jt
  | .var k => (fun _ Γ σ => Γ[k]? = some σ, baseOf fun _ Γ σ => Γ[k]? = some σ)
  | .nat => (fun _ _ σ => σ = .nat, baseOf fun _ _ σ => σ = .nat)
  | .lam e => (fun n Γ σ => ∃ a b, σ = .fn a b ∧ Gnd n a ∧ Gnd n b ∧ hsOf (J e).2 n (a :: Γ) b, fun m Γ t => ∃ a b, t = .fn a b ∧ hsOf (J e).2 m (a :: Γ) b)
  | .typed T e => (fun n Γ σ => ∃ b, σ = .fn T b ∧ (J e).1 n (T :: Γ) b, baseOf fun n Γ σ => ∃ b, σ = .fn T b ∧ (J e).1 n (T :: Γ) b)
  | .app f x => (fun n Γ σ => ∃ φ, (J f).1 n Γ φ ∧ Ld n (hsOf (J x).2 n Γ) φ σ, baseOf fun n Γ σ => ∃ φ, (J f).1 n Γ φ ∧ Ld n (hsOf (J x).2 n Γ) φ σ)
  | .has e T => (fun n Γ σ => σ = T ∧ hsOf (J e).2 n Γ T, baseOf fun n Γ σ => σ = T ∧ hsOf (J e).2 n Γ T)
def Gv (e : Tm) : Jt := (J e).1
def Hb (e : Tm) : Jt := (J e).2
def Hs (e : Tm) : Jt := hsOf (Hb e)
theorem hb_base {e : Tm} (h : e.isLam = false) : Hb e = baseOf (Gv e) := by cases e <;> first | rfl | cases h
def WFs (n : Nat) (Γ : List Ty) : Prop := ∀ t ∈ Γ, WF n t
theorem WFs.mono {n m : Nat} {Γ : List Ty} (h : WFs n Γ) (hm : n ≤ m) : WFs m Γ := fun t ht => (h t ht).mono hm
theorem WFs.cons {n : Nat} {Γ : List Ty} {t : Ty} (h : WF n t) (hs : WFs n Γ) : WFs n (t :: Γ) := fun u hu => by
  rcases List.mem_cons.1 hu with rfl | hu
  · exact h
  · exact hs u hu
theorem Ld.wf {n : Nat} {P : Ty → Prop} {φ σ : Ty} (h : Ld n P φ σ) : WF n φ → WF n σ := by
  induction h with
  | fn _ => exact fun h => h.fn2
  | all hτ _ ih => exact fun h => ih (h.put hτ.wf)
theorem gv_wf : ∀ {e : Tm} {n : Nat} {Γ : List Ty} {σ : Ty}, e.ok Γ.length → WFs n Γ → Gv e n Γ σ → WF n σ
  | .var k, n, Γ, σ, _, hΓ, h => hΓ σ (List.mem_of_getElem? (show Γ[k]? = some σ from h))
  | .nat, n, Γ, σ, _, _, h => by rw [show σ = .nat from h]; exact Gnd.nat.wf
  | .lam e, n, Γ, σ, _, _, h => by
    obtain ⟨a, b, rfl, ha, hb, _⟩ := h
    exact (ha.fn hb).wf
  | .typed T e, n, Γ, σ, hok, hΓ, h => by
    obtain ⟨b, rfl, hb⟩ := h
    have h1 := gv_wf (e := e) (Γ := T :: Γ) hok.2 (WFs.cons (hok.1.1.wf n) hΓ) hb
    exact ⟨⟨hok.1.1.c, h1.c⟩, ⟨(hok.1.1.wf n).l, h1.l⟩, ⟨hok.1.1.h, h1.h⟩⟩
  | .app f x, n, Γ, σ, hok, hΓ, h => by
    obtain ⟨φ, hf, hl⟩ := h
    exact hl.wf (gv_wf (e := f) hok.1 hΓ hf)
  | .has e T, n, Γ, σ, hok, _, h => by rw [show σ = T from h.1]; exact hok.1.1.wf n

/-! ### substitution -/
theorem WFs.agree {n : Nat} {Γ : List Ty} (h : WFs n Γ) {φ φ' θ θ' : Nat → Ty} (ha : ∀ i, i < n → φ' i = φ i) : Γ.map (inst φ' θ') = Γ.map (inst φ θ) :=
  List.map_congr_left fun t ht => inst_congr ((h t ht).l.mono fun i hi => ha i hi) ((h t ht).h.mono fun _ x => x.elim)
/-- a family of statements is stable -/
def Stb (b : Jt) (k : Nat) (w : Nat → Ty → Prop) : Prop := ∀ {n m : Nat} {φ θ : Nat → Ty} {Γ : List Ty} {t : Ty}, Γ.length = k → WFs n Γ → w n t → (∀ i, i < n → Gnd m (φ i)) → b n Γ t → b m (Γ.map (inst φ θ)) (inst φ θ t)
theorem inst_all {φ θ : Nat → Ty} {n m : Nat} {a : Ty} (ha : WF n (.all a)) (hφ : ∀ i, i < n → Gnd m (φ i)) :
    inst (fun i => if i = n then .fr m else φ i) θ (Ty.put (.fr n) 0 a) = Ty.put (.fr m) 0 (inst φ θ a) := by
  rw [inst_put (t := a) (allF.mono (t := a) (fun i hi => by rw [if_neg (Nat.ne_of_lt hi)]; exact (hφ i hi).c) ha.l) (allH.mono (t := a) (fun _ x => x.elim) ha.h)]
  have e : inst (fun i => if i = n then .fr m else φ i) θ (.fr n) = .fr m := by unfold inst; rw [if_pos rfl]
  rw [e, inst_congr (t := a) (φ' := φ) (θ' := θ) (allF.mono (t := a) (fun i hi => if_neg (Nat.ne_of_lt hi)) ha.l) (allH.mono (t := a) (fun _ x => x.elim) ha.h)]
theorem Fr.stb {b : Jt} {k : Nat} (hb : Stb b k WF) {n : Nat} {Γ : List Ty} {t : Ty} (h : Fr (fun m t => b m Γ t) n t) : ∀ {m : Nat} {φ θ : Nat → Ty}, Γ.length = k → WFs n Γ → WF n t → (∀ i, i < n → Gnd m (φ i)) → Fr (fun m t => b m (Γ.map (inst φ θ)) t) m (inst φ θ t) := by
  induction h with
  | @all n a _ ih =>
    intro m φ θ hk hΓ ht hφ
    have h1 := ih (m := m + 1) (φ := fun i => if i = n then .fr m else φ i) (θ := θ) hk (hΓ.mono (Nat.le_succ n)) ht.gen (fun i hi => by
      split
      · exact Gnd.fr (Nat.lt_succ_self m)
      · exact (hφ i (by omega)).mono (Nat.le_succ _))
    rw [inst_all ht hφ, hΓ.agree (φ := φ) (θ := θ) (fun i hi => if_neg (Nat.ne_of_lt hi))] at h1
    exact .all h1
  | @non n a ha h =>
    intro m φ θ hk hΓ ht hφ
    exact .non (isAll_inst ha (ht.l.mono fun i hi => (hφ i hi).p) (ht.h.mono fun _ x => x.elim)) (hb hk hΓ ht hφ h)
theorem hsOf_stb {b : Jt} {k : Nat} (hb : Stb b k WF) : Stb (hsOf b) k WF := fun hk hΓ ht hφ h => Fr.stb hb h hk hΓ ht hφ
theorem Gnd.inst {n m : Nat} {φ θ : Nat → Ty} {t : Ty} (h : Gnd n t) (hφ : ∀ i, i < n → Gnd m (φ i)) : Gnd m (Ty.inst φ θ t) :=
  ⟨plain_inst h.p (h.l.mono fun i hi => (hφ i hi).p) (h.h.mono fun _ x => x.elim), lc_inst h.c (h.l.mono fun i hi => (hφ i hi).c) (h.h.mono fun _ x => x.elim),
    allF_inst (h.l.mono fun i hi => (hφ i hi).l) (h.h.mono fun _ x => x.elim), allH_inst (h.l.mono fun i hi => (hφ i hi).h) (h.h.mono fun _ x => x.elim)⟩
theorem WF.inst {n m : Nat} {φ θ : Nat → Ty} {t : Ty} (h : WF n t) (hφ : ∀ i, i < n → Gnd m (φ i)) : WF m (Ty.inst φ θ t) :=
  ⟨lc_inst h.c (h.l.mono fun i hi => (hφ i hi).c) (h.h.mono fun _ x => x.elim),
    allF_inst (h.l.mono fun i hi => (hφ i hi).l) (h.h.mono fun _ x => x.elim), allH_inst (h.l.mono fun i hi => (hφ i hi).h) (h.h.mono fun _ x => x.elim)⟩
theorem CT.inst {t : Ty} (h : CT 0 t) {φ θ : Nat → Ty} : Ty.inst φ θ t = t := (h.wf 0).inst_id' fun i hi => absurd hi (Nat.not_lt_zero _)
theorem Ld.stb {n m : Nat} {φ θ : Nat → Ty} {P Q : Ty → Prop} {f σ : Ty} (hφ : ∀ i, i < n → Gnd m (φ i)) (hP : ∀ a, WF n a → P a → Q (Ty.inst φ θ a)) (h : Ld n P f σ) : WF n f → Ld m Q (Ty.inst φ θ f) (Ty.inst φ θ σ) := by
  induction h with
  | fn h => exact fun hf => .fn (hP _ hf.fn1 h)
  | @all a τ c hτ _ ih =>
    intro hf
    have h1 := ih (hf.put hτ.wf)
    rw [inst_put (t := a) (allF.mono (t := a) (fun i hi => (hφ i hi).c) hf.l) (allH.mono (t := a) (fun _ x => x.elim) hf.h)] at h1
    exact .all (hτ.inst hφ) h1
theorem SubE.inst {n m : Nat} {a b : Ty} {φ θ : Nat → Ty} (h : SubE n a b) (ha : WF n a) (hb : WF n b) (hφ : ∀ i, i < n → Gnd m (φ i)) : SubE m (Ty.inst φ θ a) (Ty.inst φ θ b) := by
  obtain ⟨l, h⟩ := h
  exact h.subst ha hb hφ
theorem base_stb {e : Tm} {k : Nat} (ho : e.ok k) (hg : Stb (Gv e) k fun _ _ => True) : Stb (baseOf (Gv e)) k WF := fun {n m φ θ Γ t} hk hΓ ht hφ h => by
  obtain ⟨σ, h1, h2⟩ := h
  exact ⟨_, hg hk hΓ trivial hφ h1, h2.inst (gv_wf (by rw [hk]; exact ho) hΓ h1) ht hφ⟩
theorem stb : ∀ (e : Tm) {k : Nat}, e.ok k → Stb (Gv e) k (fun _ _ => True) ∧ Stb (Hb e) k WF := by
  intro e
  induction e with
  | var i =>
    intro k ho
    have h1 : Stb (Gv (.var i)) k (fun _ _ => True) := fun {n m φ θ Γ t} hk hΓ _ hφ h => by
      have h : Γ[i]? = some t := h
      show (Γ.map (Ty.inst φ θ))[i]? = _
      rw [List.getElem?_map, h]; rfl
    exact ⟨h1, base_stb ho h1⟩
  | nat =>
    intro k ho
    have h1 : Stb (Gv .nat) k (fun _ _ => True) := fun {n m φ θ Γ t} hk hΓ _ hφ h => by rw [show t = .nat from h]; exact rfl
    exact ⟨h1, base_stb ho h1⟩
  | lam e ih =>
    intro k ho
    have h2 : Stb (hsOf (J e).2) (k + 1) WF := hsOf_stb (ih (k := k + 1) ho).2
    refine ⟨fun {n m φ θ Γ t} hk hΓ _ hφ h => ?_, fun {n m φ θ Γ t} hk hΓ ht hφ h => ?_⟩
    · obtain ⟨a, b, rfl, ha, hb, h⟩ := h
      exact ⟨_, _, rfl, ha.inst hφ, hb.inst hφ, h2 (Γ := a :: Γ) (by rw [List.length_cons, hk]) (WFs.cons ha.wf hΓ) hb.wf hφ h⟩
    · obtain ⟨a, b, rfl, h⟩ := h
      exact ⟨_, _, rfl, h2 (Γ := a :: Γ) (by rw [List.length_cons, hk]) (WFs.cons ht.fn1 hΓ) ht.fn2 hφ h⟩
  | typed T e ih =>
    intro k ho
    have h1 : Stb (Gv (.typed T e)) k (fun _ _ => True) := fun {n m φ θ Γ t} hk hΓ _ hφ h => by
      obtain ⟨b, rfl, h⟩ := h
      have h3 := (ih (k := k + 1) ho.2).1 (Γ := T :: Γ) (θ := θ) (by rw [List.length_cons, hk]) (WFs.cons (ho.1.1.wf n) hΓ) trivial hφ h
      refine ⟨Ty.inst φ θ b, by show Ty.fn (Ty.inst φ θ T) _ = _; rw [ho.1.1.inst], ?_⟩
      rw [List.map_cons, ho.1.1.inst] at h3; exact h3
    exact ⟨h1, base_stb ho h1⟩
  | app f x ihf ihx =>
    intro k ho
    have h2 : Stb (hsOf (J x).2) k WF := hsOf_stb (ihx ho.2).2
    have h1 : Stb (Gv (.app f x)) k (fun _ _ => True) := fun {n m φ θ Γ t} hk hΓ _ hφ h => by
      obtain ⟨ψ, hf, hl⟩ := h
      exact ⟨_, (ihf ho.1).1 hk hΓ trivial hφ hf, hl.stb hφ (fun a ha h => h2 hk hΓ ha hφ h) (gv_wf (e := f) (by rw [hk]; exact ho.1) hΓ hf)⟩
    exact ⟨h1, base_stb ho h1⟩
  | has e T ih =>
    intro k ho
    have h2 : Stb (hsOf (J e).2) k WF := hsOf_stb (ih ho.2).2
    have h1 : Stb (Gv (.has e T)) k (fun _ _ => True) := fun {n m φ θ Γ t} hk hΓ _ hφ h => by
      obtain ⟨rfl, h⟩ := h
      have h3 := h2 (θ := θ) hk hΓ (ho.1.1.wf n) hφ h
      rw [ho.1.1.inst] at h3 ⊢
      exact ⟨rfl, h3⟩
    exact ⟨h1, base_stb ho h1⟩
theorem Hs.inst {e : Tm} {n m : Nat} {φ θ : Nat → Ty} {Γ : List Ty} {t : Ty} (ho : e.ok Γ.length) (hΓ : WFs n Γ) (ht : WF n t) (hφ : ∀ i, i < n → Gnd m (φ i)) (h : Hs e n Γ t) : Hs e m (Γ.map (Ty.inst φ θ)) (Ty.inst φ θ t) :=
  hsOf_stb (stb e ho).2 rfl hΓ ht hφ h
theorem map_id_inst (Γ : List Ty) : Γ.map (Ty.inst Ty.fr Ty.ho) = Γ := by
  have : (Ty.inst Ty.fr Ty.ho) = id := by funext t; exact inst_id
  rw [this, List.map_id]
theorem Gv.weak {e : Tm} {n m : Nat} {Γ : List Ty} {t : Ty} (ho : e.ok Γ.length) (hΓ : WFs n Γ) (hm : n ≤ m) (h : Gv e n Γ t) : Gv e m Γ t := by
  have := (stb e ho).1 (φ := Ty.fr) (θ := Ty.ho) (m := m) rfl hΓ trivial (fun i hi => Gnd.fr (by omega)) h
  rwa [inst_id, map_id_inst] at this
theorem Hs.weak {e : Tm} {n m : Nat} {Γ : List Ty} {t : Ty} (ho : e.ok Γ.length) (hΓ : WFs n Γ) (ht : WF n t) (hm : n ≤ m) (h : Hs e n Γ t) : Hs e m Γ t := by
  have := h.inst (φ := Ty.fr) (θ := Ty.ho) (m := m) ho hΓ ht (fun i hi => Gnd.fr (by omega))
  rwa [inst_id, map_id_inst] at this
/-- a fresh variable of the last level becomes a plain type -/
theorem Hs.put {e : Tm} {n : Nat} {Γ : List Ty} {a τ : Ty} (ho : e.ok Γ.length) (hΓ : WFs n Γ) (ha : WF n (.all a)) (hτ : Gnd n τ) (h : Hs e (n + 1) Γ (Ty.put (.fr n) 0 a)) : Hs e n Γ (Ty.put τ 0 a) := by
  have h1 := h.inst (m := n) (φ := fun i => if i = n then τ else .fr i) (θ := Ty.ho) ho (hΓ.mono (Nat.le_succ n)) ha.gen (fun i hi => by
    split
    · exact hτ
    · exact Gnd.fr (by omega))
  rw [hΓ.agree (φ := Ty.fr) (θ := Ty.ho) (fun i hi => if_neg (Nat.ne_of_lt hi)), map_id_inst,
    inst_put (t := a) (allF.mono (t := a) (fun i hi => by rw [if_neg (Nat.ne_of_lt hi)]; trivial) ha.l) (allH.mono (t := a) (fun _ x => x.elim) ha.h),
    inst_congr (t := a) (φ' := Ty.fr) (θ' := Ty.ho) (allF.mono (t := a) (fun i hi => if_neg (Nat.ne_of_lt hi)) ha.l) (allH.mono (t := a) (fun _ x => x.elim) ha.h), inst_id] at h1
  have e : Ty.inst (fun i => if i = n then τ else .fr i) Ty.ho (.fr n) = τ := by unfold Ty.inst; rw [if_pos rfl]
  rw [e] at h1
  exact h1
theorem Hs.inv_all {e : Tm} {n : Nat} {Γ : List Ty} {a : Ty} (h : Hs e n Γ (.all a)) : Hs e (n + 1) Γ (Ty.put (.fr n) 0 a) := by
  unfold Hs hsOf at h
  cases h with
  | all h => exact h
  | non h _ => cases h
theorem Hs.inv_non {e : Tm} {n : Nat} {Γ : List Ty} {a : Ty} (h : Hs e n Γ a) (ha : isAll a = false) : Hb e n Γ a := by
  unfold Hs hsOf at h
  cases h with
  | all h => cases ha
  | non _ h => exact h

/-! ### a type that is more general -/
/-- types of variables that can be used as others -/
def Le2 (n : Nat) : List Ty → List Ty → Prop
  | [], [] => True
  | a :: Γ', b :: Γ => SubE n a b ∧ Le2 n Γ' Γ
  | _, _ => False
theorem Le2.len {n : Nat} : ∀ {Γ' Γ : List Ty}, Le2 n Γ' Γ → Γ'.length = Γ.length
  | [], [], _ => rfl
  | _ :: _, _ :: _, ⟨_, h⟩ => by rw [List.length_cons, List.length_cons, Le2.len h]
  | [], _ :: _, h => h.elim
  | _ :: _, [], h => h.elim
theorem Le2.get {n : Nat} : ∀ {Γ' Γ : List Ty} {k : Nat} {t : Ty}, Le2 n Γ' Γ → Γ[k]? = some t → ∃ u, Γ'[k]? = some u ∧ SubE n u t
  | a :: Γ', b :: Γ, 0, t, ⟨h1, _⟩, h => by cases h; exact ⟨a, rfl, h1⟩
  | a :: Γ', b :: Γ, k + 1, t, ⟨_, h2⟩, h => Le2.get (k := k) h2 (by simpa using h)
  | [], [], k, t, _, h => by simp at h
  | [], _ :: _, _, _, h, _ => h.elim
  | _ :: _, [], _, _, h, _ => h.elim
theorem Le2.weak {n m : Nat} (hm : n ≤ m) : ∀ {Γ' Γ : List Ty}, Le2 n Γ' Γ → WFs n Γ' → WFs n Γ → Le2 m Γ' Γ
  | [], [], _, _, _ => trivial
  | a :: Γ', b :: Γ, ⟨h1, h2⟩, hw, hw' => ⟨h1.weak (hw a (List.mem_cons_self ..)) (hw' b (List.mem_cons_self ..)) hm, Le2.weak hm h2 (fun t ht => hw t (List.mem_cons_of_mem _ ht)) fun t ht => hw' t (List.mem_cons_of_mem _ ht)⟩
  | [], _ :: _, h, _, _ => h.elim
  | _ :: _, [], h, _, _ => h.elim
theorem Le2.refl {n : Nat} : ∀ {Γ : List Ty}, WFs n Γ → Le2 n Γ Γ
  | [], _ => trivial
  | a :: Γ, h => ⟨SubE.refl _ (Nat.le_refl _) (h a (List.mem_cons_self ..)), Le2.refl fun t ht => h t (List.mem_cons_of_mem _ ht)⟩
theorem Sub1.trans {n : Nat} {a b c : Ty} (ha : WF n a) (hb : WF n b) (hc : WF n c) (h1 : SubE n a b) (h2 : SubE n b c) : SubE n a c := SubE.trans _ _ rfl rfl ha hb hc h1 h2
/-- behind the quantifiers, then everywhere -/
theorem hs_mono {e : Tm} {k : Nat} (ho : e.ok k)
    (hb : ∀ {n : Nat} {Γ' Γ : List Ty} {t t' : Ty}, Γ.length = k → WFs n Γ' → WFs n Γ → Le2 n Γ' Γ → WF n t → WF n t' → isAll t = false → isAll t' = false → SubE n t t' → Hb e n Γ t → Hb e n Γ' t') :
    ∀ (q : Nat) {n : Nat} {Γ' Γ : List Ty} {t t' : Ty}, nq t + nq t' = q → Γ.length = k → WFs n Γ' → WFs n Γ → Le2 n Γ' Γ → WF n t → WF n t' → SubE n t t' → Hs e n Γ t → Hs e n Γ' t' := by
  intro q
  induction q using Nat.strongRecOn with
  | _ q ih =>
  intro n Γ' Γ t t' hq hk hΓ' hΓ hle ht ht' hs h
  cases e' : isAll t' with
  | true =>
    cases t' with
    | all b =>
      obtain ⟨l, hs2⟩ := hs
      refine Fr.all (ih (nq t + nq (Ty.put (.fr n) 0 b)) (by rw [nq_put (by trivial)]; simp only [nq] at hq; omega) rfl hk (hΓ'.mono (Nat.le_succ n)) (hΓ.mono (Nat.le_succ n)) (hle.weak (Nat.le_succ n) hΓ' hΓ) (ht.mono (Nat.le_succ n)) ht'.gen ⟨l, hs2.inv_gen⟩ (h.weak (by rw [hk]; exact ho) hΓ ht (Nat.le_succ n)))
    | _ => cases e'
  | false =>
    cases e1 : isAll t with
    | true =>
      cases t with
      | all a =>
        obtain ⟨l, hs2⟩ := hs
        obtain ⟨τ, l', _, hτ, hs2⟩ := hs2.inv_ins e'
        exact ih (nq (Ty.put τ 0 a) + nq t') (by rw [nq_put hτ.p]; simp only [nq] at hq; omega) rfl hk hΓ' hΓ hle (ht.put hτ.wf) ht' ⟨l', hs2⟩ (h.inv_all.put (by rw [hk]; exact ho) hΓ ht hτ)
      | _ => cases e1
    | false => exact Fr.non e' (hb hk hΓ' hΓ hle ht ht' e1 e' hs (h.inv_non e1))
theorem Ld.sub {n : Nat} {P Q : Ty → Prop} {φ σ : Ty} (h : Ld n P φ σ) : ∀ {φ' : Ty}, WF n φ → WF n φ' → SubE n φ' φ → (∀ a a', WF n a → WF n a' → SubE n a a' → P a → Q a') → ∃ σ', Ld n Q φ' σ' ∧ SubE n σ' σ := by
  induction h with
  | @fn a b hP =>
    intro φ' hφ hφ' hs hPQ
    suffices ∀ (q : Nat) {φ' : Ty}, nq φ' = q → WF n φ' → SubE n φ' (.fn a b) → ∃ σ', Ld n Q φ' σ' ∧ SubE n σ' b from this _ rfl hφ' hs
    intro q
    induction q using Nat.strongRecOn with
    | _ q ih =>
    intro φ' hq hφ' hs
    cases e : isAll φ' with
    | true =>
      cases φ' with
      | all c =>
        obtain ⟨l, hs⟩ := hs
        obtain ⟨τ, l', _, hτ, hs⟩ := hs.inv_ins rfl
        obtain ⟨σ', h1, h2⟩ := ih (nq (Ty.put τ 0 c)) (by rw [nq_put hτ.p]; simp only [nq] at hq; omega) rfl (hφ'.put hτ.wf) ⟨l', hs⟩
        exact ⟨σ', .all hτ h1, h2⟩
      | _ => cases e
    | false =>
      obtain ⟨l, hs⟩ := hs
      obtain ⟨a', b', l1, l2, rfl, _, h1, h2⟩ := hs.inv_fn' e
      exact ⟨b', .fn (hPQ a a' hφ.fn1 hφ'.fn1 ⟨_, h1⟩ hP), _, h2⟩
  | @all a τ c hτ _ ih =>
    intro φ' hφ hφ' hs hPQ
    obtain ⟨l, hs⟩ := hs
    exact ih (hφ.put hτ.wf) hφ' (SubE.put ⟨l, hs.inv_gen⟩ hφ' hφ hτ) hPQ
/-- a term in types that are more general -/
theorem mono : ∀ (e : Tm) {k : Nat}, e.ok k →
    (∀ {n : Nat} {Γ' Γ : List Ty} {σ : Ty}, Γ.length = k → WFs n Γ' → WFs n Γ → Le2 n Γ' Γ → Gv e n Γ σ → ∃ σ', Gv e n Γ' σ' ∧ SubE n σ' σ) ∧
    (∀ {n : Nat} {Γ' Γ : List Ty} {t t' : Ty}, Γ.length = k → WFs n Γ' → WFs n Γ → Le2 n Γ' Γ → WF n t → WF n t' → SubE n t t' → Hs e n Γ t → Hs e n Γ' t') := by
  intro e
  have fin : ∀ {e : Tm} {k : Nat}, e.ok k → e.isLam = false → (∀ {n : Nat} {Γ' Γ : List Ty} {σ : Ty}, Γ.length = k → WFs n Γ' → WFs n Γ → Le2 n Γ' Γ → Gv e n Γ σ → ∃ σ', Gv e n Γ' σ' ∧ SubE n σ' σ) →
      (∀ {n : Nat} {Γ' Γ : List Ty} {t t' : Ty}, Γ.length = k → WFs n Γ' → WFs n Γ → Le2 n Γ' Γ → WF n t → WF n t' → SubE n t t' → Hs e n Γ t → Hs e n Γ' t') := by
    intro e k ho hl hg n Γ' Γ t t' hk hΓ' hΓ hle ht ht' hs h
    refine hs_mono ho (fun {n Γ' Γ t t'} hk hΓ' hΓ hle ht ht' e1 e2 hs h => ?_) _ rfl hk hΓ' hΓ hle ht ht' hs h
    rw [hb_base hl] at h ⊢
    obtain ⟨σ, h1, h2⟩ := h
    obtain ⟨σ', h3, h4⟩ := hg hk hΓ' hΓ hle h1
    have w1 := gv_wf (by rw [hk]; exact ho) hΓ h1
    have w2 := gv_wf (by rw [hle.len, hk]; exact ho) hΓ' h3
    exact ⟨σ', h3, Sub1.trans w2 ht ht' (Sub1.trans w2 w1 ht h4 h2) hs⟩
  induction e with
  | var i =>
    intro k ho
    have hg : ∀ {n : Nat} {Γ' Γ : List Ty} {σ : Ty}, Γ.length = k → WFs n Γ' → WFs n Γ → Le2 n Γ' Γ → Gv (.var i) n Γ σ → ∃ σ', Gv (.var i) n Γ' σ' ∧ SubE n σ' σ := fun {n Γ' Γ σ} _ _ _ hle h => hle.get h
    exact ⟨hg, fin ho rfl hg⟩
  | nat =>
    intro k ho
    have hg : ∀ {n : Nat} {Γ' Γ : List Ty} {σ : Ty}, Γ.length = k → WFs n Γ' → WFs n Γ → Le2 n Γ' Γ → Gv .nat n Γ σ → ∃ σ', Gv .nat n Γ' σ' ∧ SubE n σ' σ := fun {n Γ' Γ σ} _ _ _ _ h => ⟨σ, h, by rw [show σ = .nat from h]; exact ⟨_, .nat⟩⟩
    exact ⟨hg, fin ho rfl hg⟩
  | lam e ih =>
    intro k ho
    obtain ⟨_, ih2⟩ := ih (k := k + 1) ho
    refine ⟨fun {n Γ' Γ σ} hk hΓ' hΓ hle h => ?_, fun {n Γ' Γ t t'} hk hΓ' hΓ hle ht ht' hs h => hs_mono ho (fun {n Γ' Γ t t'} hk hΓ' hΓ hle ht ht' e1 e2 hs h => ?_) _ rfl hk hΓ' hΓ hle ht ht' hs h⟩
    · obtain ⟨a, b, rfl, ha, hb, h⟩ := h
      refine ⟨_, ⟨a, b, rfl, ha, hb, ih2 (Γ := a :: Γ) (by rw [List.length_cons, hk]) (WFs.cons ha.wf hΓ') (WFs.cons ha.wf hΓ) ⟨SubE.refl _ (Nat.le_refl _) ha.wf, hle⟩ hb.wf hb.wf (SubE.refl _ (Nat.le_refl _) hb.wf) h⟩, SubE.refl _ (Nat.le_refl _) (ha.fn hb).wf⟩
    · obtain ⟨a, b, rfl, h⟩ := h
      obtain ⟨l, hs⟩ := hs
      obtain ⟨a', b', l1, l2, rfl, _, h1, h2⟩ := hs.inv_fn e2
      exact ⟨a', b', rfl, ih2 (Γ := a :: Γ) (by rw [List.length_cons, hk]) (WFs.cons ht'.fn1 hΓ') (WFs.cons ht.fn1 hΓ) ⟨⟨_, h1⟩, hle⟩ ht.fn2 ht'.fn2 ⟨_, h2⟩ h⟩
  | typed T e ih =>
    intro k ho
    obtain ⟨ih1, _⟩ := ih (k := k + 1) ho.2
    have hg : ∀ {n : Nat} {Γ' Γ : List Ty} {σ : Ty}, Γ.length = k → WFs n Γ' → WFs n Γ → Le2 n Γ' Γ → Gv (.typed T e) n Γ σ → ∃ σ', Gv (.typed T e) n Γ' σ' ∧ SubE n σ' σ := fun {n Γ' Γ σ} hk hΓ' hΓ hle h => by
      obtain ⟨b, rfl, h⟩ := h
      have hT := ho.1.1.wf n
      obtain ⟨σ', h1, l, h2⟩ := ih1 (Γ := T :: Γ) (by rw [List.length_cons, hk]) (WFs.cons hT hΓ') (WFs.cons hT hΓ) ⟨SubE.refl _ (Nat.le_refl _) hT, hle⟩ h
      obtain ⟨l0, h0⟩ := SubE.refl _ (Nat.le_refl _) hT
      exact ⟨_, ⟨σ', rfl, h1⟩, _, .fn h0 h2⟩
    exact ⟨hg, fin ho rfl hg⟩
  | app f x ihf ihx =>
    intro k ho
    obtain ⟨ihf1, _⟩ := ihf ho.1
    obtain ⟨_, ihx2⟩ := ihx ho.2
    have hg : ∀ {n : Nat} {Γ' Γ : List Ty} {σ : Ty}, Γ.length = k → WFs n Γ' → WFs n Γ → Le2 n Γ' Γ → Gv (.app f x) n Γ σ → ∃ σ', Gv (.app f x) n Γ' σ' ∧ SubE n σ' σ := fun {n Γ' Γ σ} hk hΓ' hΓ hle h => by
      obtain ⟨φ, hf, hl⟩ := h
      obtain ⟨φ', h1, h2⟩ := ihf1 hk hΓ' hΓ hle hf
      obtain ⟨σ', h3, h4⟩ := hl.sub (Q := hsOf (J x).2 n Γ') (gv_wf (e := f) (by rw [hk]; exact ho.1) hΓ hf) (gv_wf (e := f) (by rw [hle.len, hk]; exact ho.1) hΓ' h1) h2 (fun a a' ha ha' hs h => ihx2 hk hΓ' hΓ hle ha ha' hs h)
      exact ⟨σ', ⟨φ', h1, h3⟩, h4⟩
    exact ⟨hg, fin ho rfl hg⟩
  | has e T ih =>
    intro k ho
    obtain ⟨_, ih2⟩ := ih ho.2
    have hg : ∀ {n : Nat} {Γ' Γ : List Ty} {σ : Ty}, Γ.length = k → WFs n Γ' → WFs n Γ → Le2 n Γ' Γ → Gv (.has e T) n Γ σ → ∃ σ', Gv (.has e T) n Γ' σ' ∧ SubE n σ' σ := fun {n Γ' Γ σ} hk hΓ' hΓ hle h => by
      obtain ⟨rfl, h⟩ := h
      have hT := ho.1.1.wf n
      exact ⟨σ, ⟨rfl, ih2 hk hΓ' hΓ hle hT hT (SubE.refl _ (Nat.le_refl _) hT) h⟩, SubE.refl _ (Nat.le_refl _) hT⟩
    exact ⟨hg, fin ho rfl hg⟩
/-- a term has what it gives -/
theorem gv_hs {e : Tm} : ∀ (q : Nat) {n : Nat} {Γ : List Ty} {σ τ : Ty}, nq τ = q → e.ok Γ.length → WFs n Γ → WF n τ → Gv e n Γ σ → SubE n σ τ → Hs e n Γ τ := by
  intro q
  induction q with
  | zero =>
    intro n Γ σ τ hq ho hΓ hτ h hs
    have e1 : isAll τ = false := by cases τ <;> first | rfl | (simp only [nq] at hq; omega)
    cases hl : e.isLam with
    | false => exact Fr.non e1 (by show Hb e n Γ τ; rw [hb_base hl]; exact ⟨σ, h, hs⟩)
    | true =>
      cases e with
      | lam e =>
        have hw := gv_wf ho hΓ h
        obtain ⟨a, b, rfl, ha, hb, h⟩ := h
        exact (mono (.lam e) (k := Γ.length) ho).2 rfl hΓ hΓ (Le2.refl hΓ) hw hτ hs (Fr.non rfl ⟨a, b, rfl, h⟩)
      | _ => cases hl
  | succ q ih =>
    intro n Γ σ τ hq ho hΓ hτ h hs
    cases e1 : isAll τ with
    | true =>
      cases τ with
      | all b =>
        obtain ⟨l, hs⟩ := hs
        exact Fr.all (ih (by rw [nq_put (by trivial)]; simp only [nq] at hq; omega) ho (hΓ.mono (Nat.le_succ n)) hτ.gen (h.weak ho hΓ (Nat.le_succ n)) ⟨l, hs.inv_gen⟩)
      | _ => cases e1
    | false =>
      cases hl : e.isLam with
      | false => exact Fr.non e1 (by show Hb e n Γ τ; rw [hb_base hl]; exact ⟨σ, h, hs⟩)
      | true =>
        cases e with
        | lam e =>
          have hw := gv_wf ho hΓ h
          obtain ⟨a, b, rfl, ha, hb, h⟩ := h
          exact (mono (.lam e) (k := Γ.length) ho).2 rfl hΓ hΓ (Le2.refl hΓ) hw hτ hs (Fr.non rfl ⟨a, b, rfl, h⟩)
        | _ => cases hl
/-- what has a type, and is no function without a type, gives one that can be used as it -/
theorem hs_gv {e : Tm} (hl : e.isLam = false) {n : Nat} {Γ : List Ty} {τ : Ty} (h : Hs e n Γ τ) : ∀ {t : Ty}, e.ok Γ.length → WFs n Γ → WF n t → WF n τ → (∀ m σ, n ≤ m → Gv e m Γ σ → SubE m t σ) → SubE n t τ := by
  unfold Hs hsOf at h
  induction h with
  | @all n a _ ih =>
    intro t ho hΓ ht hτ hg
    obtain ⟨l, h1⟩ := ih ho (hΓ.mono (Nat.le_succ n)) (ht.mono (Nat.le_succ n)) hτ.gen (fun m σ hm => hg m σ (by omega))
    exact ⟨l, .gen h1⟩
  | @non n a ha h =>
    intro t ho hΓ ht hτ hg
    have h : Hb e n Γ a := h
    rw [hb_base hl] at h
    obtain ⟨σ, h1, h2⟩ := h
    exact Sub1.trans ht (gv_wf ho hΓ h1) hτ (hg n σ (Nat.le_refl _) h1) h2
/-- what has a type gives one, if it is no function without a type -/
theorem hs_gives {e : Tm} (hl : e.isLam = false) {n : Nat} {Γ : List Ty} {τ : Ty} (h : Hs e n Γ τ) : ∃ m σ, n ≤ m ∧ Gv e m Γ σ := by
  unfold Hs hsOf at h
  induction h with
  | @all n a _ ih => obtain ⟨m, σ, h1, h2⟩ := ih; exact ⟨m, σ, by omega, h2⟩
  | @non n a ha h =>
    have h : Hb e n Γ a := h
    rw [hb_base hl] at h
    obtain ⟨σ, h1, _⟩ := h
    exact ⟨n, σ, Nat.le_refl _, h1⟩
/-- without annotations all is plain -/
theorem gv_plain : ∀ {e : Tm} {n : Nat} {Γ : List Ty} {σ : Ty}, e.bare → (∀ t ∈ Γ, Ty.plain t) → Gv e n Γ σ → Ty.plain σ
  | .var k, _, Γ, σ, _, hΓ, h => hΓ σ (List.mem_of_getElem? (show Γ[k]? = some σ from h))
  | .nat, _, _, σ, _, _, h => by rw [show σ = .nat from h]; trivial
  | .lam e, _, _, _, _, _, h => by obtain ⟨a, b, rfl, ha, hb, _⟩ := h; exact ⟨ha.p, hb.p⟩
  | .typed _ _, _, _, _, hb, _, _ => hb.elim
  | .app f x, n, Γ, σ, hb, hΓ, h => by
    obtain ⟨φ, hf, hl⟩ := h
    have hp := gv_plain (e := f) hb.1 hΓ hf
    cases hl with
    | fn _ => exact hp.2
    | all _ _ => exact hp.elim
  | .has _ _, _, _, _, hb, _, _ => hb.elim
open Go Md Wk
def IsE : Tm → E → Prop
  | .var k, e => e.kind = 1 ∧ e.num = (k : Int)
  | .nat, e => e.kind = 2
  | .lam b, e => e.kind = 3 ∧ ∃ x, e.kids = [x] ∧ IsE b x
  | .typed T b, e => e.kind = 4 ∧ e.ty = toT T ∧ ∃ x, e.kids = [x] ∧ IsE b x
  | .app f a, e => e.kind = 5 ∧ ∃ x y, e.kids = [x, y] ∧ IsE f x ∧ IsE a y
  | .has b T, e => e.kind = 6 ∧ e.ty = toT T ∧ ∃ x, e.kids = [x] ∧ IsE b x
def cChk (S : AS) (Γ : List Ty) : Chk := { types := (Γ.map toT).reverse, s := cSol false S }
theorem cChk_cons {S S' : AS} {Γ : List Ty} {a : Ty} : ({ types := (cChk S Γ).types ++ [toT a], s := cSol false S' } : Chk) = cChk S' (a :: Γ) := by simp [cChk]
theorem cChk_len {S : AS} {Γ : List Ty} : (cChk S Γ).types.length = Γ.length := by simp [cChk]

/-! ### the model, by kinds -/
theorem g_var {f : Nat} {c : Chk} {e : E} {d : Int} (hk : e.kind = 1) : Md.gives (f + 1) c e d = (match nth c.types (w64 (w64 ((c.types.length : Int) - 1) - e.num)) with | some t => some ((t, true), c) | none => some ((t0, false), c)) := by
  rw [Md.gives]; exact if_pos hk
theorem g_nat {f : Nat} {c : Chk} {e : E} {d : Int} (hk : e.kind = 2) : Md.gives (f + 1) c e d = some ((.mk 2 0 [], true), c) := by
  rw [Md.gives]; exact (if_neg (by rw [hk]; decide)).trans (if_pos hk)
theorem g_lam {f : Nat} {c : Chk} {e x : E} {d : Int} (hk : e.kind = 3) (hx : e.kids = [x]) : Md.gives (f + 1) c e d = (newer c.s 6 d).bind fun a => (newer a.2 6 d).bind fun b =>
          if c.types.length ≥ lim then none else (Md.has f { types := c.types ++ [a.1], s := b.2 } x b.1 d).bind fun r => some ((.mk 3 0 [a.1, b.1], r.1), { r.2 with types := c.types }) := by
  rw [Md.gives]
  refine (if_neg (by rw [hk]; decide)).trans ((if_neg (by rw [hk]; decide)).trans ((if_pos hk).trans ?_))
  rw [hx]
theorem g_typed {f : Nat} {c : Chk} {e x : E} {d : Int} (hk : e.kind = 4) (hx : e.kids = [x]) : Md.gives (f + 1) c e d = if c.types.length ≥ lim then none else (Md.gives f { c with types := c.types ++ [e.ty] } x d).bind fun r => some ((.mk 3 0 [e.ty, r.1.1], r.1.2), { r.2 with types := c.types }) := by
  rw [Md.gives]
  refine (if_neg (by rw [hk]; decide)).trans ((if_neg (by rw [hk]; decide)).trans ((if_neg (by rw [hk]; decide)).trans ((if_pos hk).trans ?_)))
  rw [hx]
theorem g_app {f : Nat} {c : Chk} {e x y : E} {d : Int} (hk : e.kind = 5) (hx : e.kids = [x, y]) : Md.gives (f + 1) c e d = (Md.gives f c x d).bind fun r => if r.1.2 = false then some ((t0, false), r.2) else Md.leads f r.2 r.1.1 y d := by
  rw [Md.gives]
  refine (if_neg (by rw [hk]; decide)).trans ((if_neg (by rw [hk]; decide)).trans ((if_neg (by rw [hk]; decide)).trans ((if_neg (by rw [hk]; decide)).trans ((if_pos hk).trans ?_))))
  rw [hx]
theorem g_has {f : Nat} {c : Chk} {e x : E} {d : Int} (hk : e.kind = 6) (hx : e.kids = [x]) : Md.gives (f + 1) c e d = (Md.has f c x e.ty d).bind fun r => some ((e.ty, r.1), r.2) := by
  rw [Md.gives]
  refine (if_neg (by rw [hk]; decide)).trans ((if_neg (by rw [hk]; decide)).trans ((if_neg (by rw [hk]; decide)).trans ((if_neg (by rw [hk]; decide)).trans ((if_neg (by rw [hk]; decide)).trans ((if_pos hk).trans ?_)))))
  rw [hx]
def hasB (f : Nat) (c : Chk) (e : E) (t : T) (d : Int) : Option (Bool × Chk) :=
  if e.kind = 3 then
    if t.kind = 6 then (split c.s t).bind fun r => Md.hasL f { c with s := r.2 } e r.1 d else Md.hasL f c e t d
  else (Md.gives f c e d).bind fun r => if r.1.2 then (Md.uses f r.2.s r.1.1 t d).bind fun x => some (x.1, { r.2 with s := x.2 }) else some (false, r.2)
theorem has_eq {f : Nat} {c : Chk} {e : E} {t : T} {d : Int} : Md.has (f + 1) c e t d = (Md.now f c.s.solved t).bind fun t =>
      if t.kind = 4 then
        (newer c.s 5 d).bind fun r => (opn t r.1).bind fun u =>
          (Md.has f { c with s := { r.2 with way := c.s.way ++ [r.1] } } e u (w64 (d + 1))).bind fun x => some (x.1, { x.2 with s := { x.2.s with way := c.s.way } })
      else hasB f c e t d := by
  rw [Md.has]; rfl
theorem hasL_fn {f : Nat} {c : Chk} {e x : E} {a b : Ty} {d : Int} (hx : e.kids = [x]) : Md.hasL (f + 1) c e (toT (.fn a b)) d =
    if c.types.length ≥ lim then none else (Md.has f { c with types := c.types ++ [toT a] } x (toT b) d).bind fun r => some (r.1, { r.2 with types := c.types }) := by
  rw [Md.hasL]
  refine (if_neg (fun h => h rfl)).trans ?_
  show (match [toT a, toT b], e.kids with | a :: b :: _, x :: _ => _ | _, _ => _) = _
  rw [hx]
theorem hasL_no {f : Nat} {c : Chk} {e : E} {t : T} {d : Int} (h : t.kind ≠ 3) : Md.hasL (f + 1) c e t d = some (false, c) := by
  rw [Md.hasL]; exact if_pos h
theorem leads_eq {f : Nat} {c : Chk} {t : T} {x : E} {d : Int} : Md.leads (f + 1) c t x d = (Md.now f c.s.solved t).bind fun t => Md.leadsO f c t x d := by rw [Md.leads]
theorem leadsO_all {f : Nat} {c : Chk} {a : Ty} {x : E} {d : Int} : Md.leadsO (f + 1) c (toT (.all a)) x d = (newer c.s 6 d).bind fun h => (opn (toT (.all a)) h.1).bind fun u => (Md.now f h.2.solved u).bind fun u => Md.leadsO f { c with s := h.2 } u x d := by
  rw [Md.leadsO]; exact if_pos rfl
theorem leadsO_ho {f : Nat} {c : Chk} {h : Nat} {x : E} {d : Int} : Md.leadsO (f + 1) c (toT (.ho h)) x d = (split c.s (toT (.ho h))).bind fun r => Md.leadsO f { c with s := r.2 } r.1 x d := by
  rw [Md.leadsO]; exact (if_neg (by show ¬ (6 : Int) = 4; decide)).trans (if_pos rfl)
theorem leadsO_fn {f : Nat} {c : Chk} {a b : Ty} {x : E} {d : Int} : Md.leadsO (f + 1) c (toT (.fn a b)) x d = (Md.has f c x (toT a) d).bind fun r => if r.1 then some ((toT b, true), r.2) else some ((t0, false), r.2) := by
  rw [Md.leadsO]; exact (if_neg (by show ¬ (3 : Int) = 4; decide)).trans ((if_neg (by show ¬ (3 : Int) = 6; decide)).trans (if_neg (fun h => h rfl)))
theorem leadsO_no {f : Nat} {c : Chk} {t : T} {x : E} {d : Int} (h4 : t.kind ≠ 4) (h6 : t.kind ≠ 6) (h3 : t.kind ≠ 3) : Md.leadsO (f + 1) c t x d = some ((t0, false), c) := by
  rw [Md.leadsO]; exact (if_neg h4).trans ((if_neg h6).trans (if_pos h3))

/-! ### steps -/
def Rm (S : AS) (n : Nat) : Prop := S.dp.length + n < lim ∧ S.way.length + n < lim ∧ S.tk.length + n < lim
theorem Rm.mono {S : AS} {n m : Nat} (h : Rm S n) (hm : m ≤ n) : Rm S m := ⟨by have := h.1; omega, by have := h.2.1; omega, by have := h.2.2; omega⟩
structure Stp (S S' : AS) (N : Nat) : Prop where
  inv : Inv S'
  ext : Ext S S'
  way : S'.way = S.way
  dpl : S'.dp.length ≤ S.dp.length + N
  tkl : S'.tk.length ≤ S.tk.length + N
theorem Stp.refl {S : AS} (h : Inv S) : Stp S S 0 := ⟨h, Ext.refl S, rfl, Nat.le_refl _, Nat.le_refl _⟩
theorem Stp.trans {S S1 S2 : AS} {n m : Nat} (h : Stp S S1 n) (g : Stp S1 S2 m) : Stp S S2 (n + m) :=
  ⟨g.inv, h.ext.trans g.ext, g.way.trans h.way, by have := h.dpl; have := g.dpl; omega, by have := h.tkl; have := g.tkl; omega⟩
theorem Stp.mono {S S1 : AS} {n m : Nat} (h : Stp S S1 n) (hm : n ≤ m) : Stp S S1 m := ⟨h.inv, h.ext, h.way, by have := h.dpl; omega, by have := h.tkl; omega⟩
theorem Stp.room {S S1 : AS} {n m k : Nat} (h : Stp S S1 n) (hR : Rm S k) (hk : n + m ≤ k) : Rm S1 m :=
  ⟨by have := h.dpl; have := hR.1; omega, by rw [h.way]; have := hR.2.1; omega, by have := h.tkl; have := hR.2.2; omega⟩
theorem Stp.lt {S S1 : AS} {n : Nat} (hI : Inv S) (h : Stp S S1 n) {i : Nat} (hi : i < S.dp.length) : i < S1.dp.length := by
  obtain ⟨m, hm⟩ := h.ext.g
  rw [h.inv.len, hm, List.length_append, ← hI.len]; omega
theorem Stp.pushH {S : AS} (hI : Inv S) : Stp S (S.push S.way.length (some S.way)) 1 := ⟨hI.push _ _, Ext.push hI _ _, rfl, by simp [AS.push], Nat.le_add_right _ _⟩
theorem push_ip {S : AS} (hI : Inv S) : IP (S.push S.way.length (some S.way)) S.way (.ho S.dp.length) :=
  PH.hole (get_push hI _ _) (Nat.le_of_eq lev_push') rfl hI.new_free
def IPs (S : AS) (Γ : List Ty) : Prop := ∀ t ∈ Γ, IP S S.way t
theorem IPs.cons {S : AS} {Γ : List Ty} {t : Ty} (h : IP S S.way t) (hs : IPs S Γ) : IPs S (t :: Γ) := fun u hu => by
  rcases List.mem_cons.1 hu with rfl | hu
  · exact h
  · exact hs u hu
theorem IPs.stp {S S' : AS} {Γ : List Ty} {n : Nat} (hI : Inv S) (h : IPs S Γ) (hs : Stp S S' n) : IPs S' Γ := fun t ht => by rw [hs.way]; exact (h t ht).ext hI hs.inv hs.ext
theorem IP.stp {S S' : AS} {t : Ty} {n : Nat} (hI : Inv S) (h : IP S S.way t) (hs : Stp S S' n) : IP S' S'.way t := by rw [hs.way]; exact h.ext hI hs.inv hs.ext
def cx (κ : Nat) (S : AS) (θ : Nat → Ty) (Γ : List Ty) : List Ty := Γ.map (gi κ S θ)
theorem cx_agree {κ : Nat} {S S' : AS} {θ θ' : Nat → Ty} {Γ : List Ty} (hI : Inv S) (he : Ext S S') (h : IPs S Γ) (hm : Mod κ S θ) (hm' : Mod κ S' θ') (ha : ∀ i, i < S.dp.length → θ' i = θ i) : cx κ S' θ' Γ = cx κ S θ Γ :=
  List.map_congr_left fun t ht => (h t ht).agree hI he hm hm' ha
theorem cx_back {κ : Nat} {S S' : AS} {θ : Nat → Ty} {Γ : List Ty} (he : Ext S S') (h : IPs S Γ) : cx κ S' θ Γ = cx κ S θ Γ :=
  List.map_congr_left fun t ht => gi_ext he (h t ht).frs
theorem CT.ip {t : Ty} (h : CT 0 t) (S : AS) (w : List Nat) : IP S w t := by
  unfold IP
  rw [R_id (h.h.mono fun _ x => x.elim)]
  exact ⟨h.c, h.f.mono fun _ x => x.elim, h.h.mono fun _ x => x.elim⟩
theorem CT.qwR {t : Ty} (h : CT 0 t) (sv : List (Nat × Ty)) : qw (R sv t) ≤ sz t := by
  rw [R_id (h.h.mono fun _ x => x.elim)]; exact nq_sz t
theorem qw_fnle (a b : Ty) : qw (.fn a b) ≤ qw a + qw b + 1 := by simp only [qw]; split <;> omega
theorem qw_fn1 (a b : Ty) : qw a ≤ qw (.fn a b) := by
  obtain ⟨h1, h2⟩ := qw_fn a b
  by_cases h : qw (.fn a b) = 0
  · have := (h1 h).1; omega
  · have := h2 h; omega
theorem qw_fn2 (a b : Ty) : qw b ≤ qw (.fn a b) := by
  obtain ⟨h1, h2⟩ := qw_fn a b
  by_cases h : qw (.fn a b) = 0
  · have := (h1 h).2; omega
  · have := h2 h; omega
theorem qw_ff {sv : List (Nat × Ty)} (h : Ok sv) (i j : Nat) : qw (R sv (.fn (.ho i) (.ho j))) = 0 := qw_plain (R_plain h (show Ty.plain (.fn (.ho i) (.ho j)) from ⟨trivial, trivial⟩))
theorem qw_ho {sv : List (Nat × Ty)} (h : Ok sv) (i : Nat) : qw (R sv (.ho i)) = 0 := qw_plain (h.plain i)
/-- a hole's function -/
theorem Mod.spl {κ : Nat} {S : AS} (hI : Inv S) {h : Nat} {v : List Nat} (hG : S.G[h]? = some (some v)) {θ : Nat → Ty} {τ0 τ1 : Ty} (hm : Mod κ S θ) (e : θ h = .fn τ0 τ1) :
    ∃ θ1, Mod κ (S.spl h v) θ1 ∧ (∀ i, i < S.dp.length → θ1 i = θ i) ∧ θ1 S.dp.length = τ0 ∧ θ1 (S.dp.length + 1) = τ1 := by
  have hlt := hI.lt hG
  have hg := hm.gnd h v hG
  rw [e] at hg
  refine ⟨fun i => if i = S.dp.length then τ0 else if i = S.dp.length + 1 then τ1 else θ i, ?_, fun i hi => (if_neg (by omega)).trans (if_neg (by omega)), if_pos rfl, (if_neg (by omega)).trans (if_pos rfl)⟩
  rw [spl_eq]
  have m1 : Mod κ (S.push (S.lev h) (some v)) (fun i => if i = S.dp.length then τ0 else θ i) := hm.push hI _ _ (fun i hi => if_neg (by omega)) fun v' _ => by rw [if_pos rfl]; exact hg.fn1
  have hI' := hI.push (S.lev h) (some v)
  have hdl' : (S.push (S.lev h) (some v)).dp.length = S.dp.length + 1 := by simp [AS.push]
  have m2 : Mod κ ((S.push (S.lev h) (some v)).push (S.lev h) (some v)) (fun i => if i = S.dp.length then τ0 else if i = S.dp.length + 1 then τ1 else θ i) := m1.push hI' _ _ (fun i hi => by
    by_cases e1 : i = S.dp.length
    · rw [if_pos e1, if_pos e1]
    · rw [if_neg e1, if_neg e1, if_neg (by omega)]) fun v' _ => by rw [hdl', if_neg (by omega), if_pos rfl]; exact hg.fn2
  refine m2.sol ?_
  show (if h = S.dp.length then τ0 else if h = S.dp.length + 1 then τ1 else θ h) = .fn (if S.dp.length = S.dp.length then τ0 else _) (if S.dp.length + 1 = S.dp.length then τ0 else if S.dp.length + 1 = S.dp.length + 1 then τ1 else _)
  rw [if_neg (by omega), if_neg (by omega), if_pos rfl, if_neg (by omega), if_pos rfl, e]
structure SplT (S : AS) (h : Nat) (v : List Nat) : Prop where
  st : Stp S (S.spl h v) 2
  ip : IP (S.spl h v) (S.spl h v).way (.fn (.ho S.dp.length) (.ho (S.dp.length + 1)))
  run : Md.split (cSol false S) (toT (.ho h)) = some (toT (.fn (.ho S.dp.length) (.ho (S.dp.length + 1))), cSol false (S.spl h v))
  back : ∀ {κ : Nat} {θ : Nat → Ty}, Mod κ (S.spl h v) θ → gi κ (S.spl h v) θ (.fn (.ho S.dp.length) (.ho (S.dp.length + 1))) = θ h
theorem splT {S : AS} {h : Nat} (hI : Inv S) (hh : IP S S.way (.ho h)) (hd : h ∉ dom S.sv) (hR : Rm S 2) : ∃ v, S.G[h]? = some (some v) ∧ SplT S h v := by
  have hh' := hh.h
  rw [R_free hd] at hh'
  obtain ⟨v, hG, hl, htk⟩ : PH S S.way h := hh'
  have hlv2 : S.lev h ≤ v.length := by
    have := congrArg List.length htk
    rw [List.length_take, List.length_take] at this; omega
  obtain ⟨hI1, hE1, hPH⟩ := hI.spl hd hG hlv2
  obtain ⟨hc1, hc2⟩ := hPH S.way ⟨v, hG, hl, htk⟩
  refine ⟨v, hG, ⟨hI1, hE1, rfl, by simp [AS.spl], Nat.le_add_right _ _⟩, ?_, split_eq (hI.lt hG) hd (by have := hR.1; omega) (by have := hR.2.1; omega), fun {κ θ} hm => (hm.eq (h, .fn (.ho S.dp.length) (.ho (S.dp.length + 1))) (List.mem_cons_self ..)).symm⟩
  unfold IP; rw [R_fn]; exact ⟨⟨hc1.c, hc2.c⟩, ⟨hc1.f, hc2.f⟩, ⟨hc1.h, hc2.h⟩⟩

/-! ### what is claimed -/
structure Ctx (S : AS) (Γ : List Ty) (e : Tm) (K X C : Nat) : Prop where
  inv : Inv S
  ips : IPs S Γ
  ok : e.ok Γ.length
  qws : ∀ t ∈ Γ, qw (R S.sv t) ≤ K
  k12 : 12 ≤ K
  hX : K + 15 * e.size ≤ X
  hC : C = 6 * X + 4
  len : Γ.length + e.size < lim
theorem qws_stp {S S' : AS} {Γ : List Ty} {K n : Nat} (hI : Inv S) (h : ∀ t ∈ Γ, qw (R S.sv t) ≤ K) (hs : Stp S S' n) : ∀ t ∈ Γ, qw (R S'.sv t) ≤ K := fun t ht => by rw [qw_R hI hs.inv hs.ext]; exact h t ht
theorem Ctx.stp {S S' : AS} {Γ : List Ty} {e : Tm} {K X C n : Nat} (h : Ctx S Γ e K X C) (hs : Stp S S' n) : Ctx S' Γ e K X C := ⟨hs.inv, h.ips.stp h.inv hs, h.ok, qws_stp h.inv h.qws hs, h.k12, h.hX, h.hC, h.len⟩
structure PoG (S : AS) (Γ : List Ty) (e : Tm) (K N : Nat) (t : Ty) (S' : AS) : Prop where
  st : Stp S S' N
  ip : IP S' S'.way t
  qwb : qw (R S'.sv t) ≤ K + 15 * e.size
  snd : ∀ κ θ, Mod κ S' θ → Gv e (κ + S.way.length) (cx κ S' θ Γ) (gi κ S' θ t)
  cmp : ∀ κ θ σ, Mod κ S θ → Gv e (κ + S.way.length) (cx κ S θ Γ) σ → ∃ θ', Mod κ S' θ' ∧ gi κ S' θ' t = σ ∧ ∀ h, h < S.dp.length → θ' h = θ h
def ReG (S : AS) (Γ : List Ty) (e : Tm) (K N : Nat) (o : (T × Bool) × Chk) : Prop :=
  (o.1.2 = false ∧ ∀ κ θ σ, Mod κ S θ → Gv e (κ + S.way.length) (cx κ S θ Γ) σ → False) ∨ ∃ t S', o = ((toT t, true), cChk S' Γ) ∧ PoG S Γ e K N t S'
structure PoH (S : AS) (Γ : List Ty) (e : Tm) (t : Ty) (N : Nat) (S' : AS) : Prop where
  st : Stp S S' N
  snd : ∀ κ θ, Mod κ S' θ → Hs e (κ + S.way.length) (cx κ S' θ Γ) (gi κ S' θ t)
  cmp : ∀ κ θ, Mod κ S θ → Hs e (κ + S.way.length) (cx κ S θ Γ) (gi κ S θ t) → ∃ θ', Mod κ S' θ' ∧ ∀ h, h < S.dp.length → θ' h = θ h
def ReH (S : AS) (Γ : List Ty) (e : Tm) (t : Ty) (N : Nat) (o : Bool × Chk) : Prop :=
  (o.1 = false ∧ ∀ κ θ, Mod κ S θ → Hs e (κ + S.way.length) (cx κ S θ Γ) (gi κ S θ t) → False) ∨ ∃ S', o = (true, cChk S' Γ) ∧ PoH S Γ e t N S'
structure PoL (S : AS) (Γ : List Ty) (e : Tm) (f : Ty) (N : Nat) (t : Ty) (S' : AS) : Prop where
  st : Stp S S' N
  ip : IP S' S'.way t
  qwb : qw (R S'.sv t) ≤ qw (R S.sv f)
  snd : ∀ κ θ, Mod κ S' θ → Ld (κ + S.way.length) (Hs e (κ + S.way.length) (cx κ S' θ Γ)) (gi κ S' θ f) (gi κ S' θ t)
  cmp : ∀ κ θ σ, Mod κ S θ → Ld (κ + S.way.length) (Hs e (κ + S.way.length) (cx κ S θ Γ)) (gi κ S θ f) σ → ∃ θ', Mod κ S' θ' ∧ gi κ S' θ' t = σ ∧ ∀ h, h < S.dp.length → θ' h = θ h
def ReL (S : AS) (Γ : List Ty) (e : Tm) (f : Ty) (N : Nat) (o : (T × Bool) × Chk) : Prop :=
  (o.1.2 = false ∧ ∀ κ θ σ, Mod κ S θ → Ld (κ + S.way.length) (Hs e (κ + S.way.length) (cx κ S θ Γ)) (gi κ S θ f) σ → False) ∨ ∃ t S', o = ((toT t, true), cChk S' Γ) ∧ PoL S Γ e f N t S'
def ClG (e : Tm) : Prop := ∀ {S : AS} {Γ : List Ty} {K X C : Nat} (x : E), Ctx S Γ e K X C → IsE e x → Rm S (e.size * C + C) →
  ∃ o, Ev (fun f => Md.gives f (cChk S Γ) x (S.way.length : Int)) o ∧ ReG S Γ e K (e.size * C) o
def ClH (e : Tm) : Prop := ∀ {S : AS} {Γ : List Ty} {K X C : Nat} (x : E) (t : Ty), Ctx S Γ e K X C → IsE e x → IP S S.way t → qw (R S.sv t) ≤ K → Rm S (e.size * C + C + qw (R S.sv t)) →
  ∃ o, Ev (fun f => Md.has f (cChk S Γ) x (toT t) (S.way.length : Int)) o ∧ ReH S Γ e t (e.size * C + 4 * X + 2 + qw (R S.sv t)) o
def ClB (e : Tm) : Prop := ∀ {S : AS} {Γ : List Ty} {K X C : Nat} (x : E) (t : Ty), Ctx S Γ e K X C → IsE e x → IP S S.way t → qw (R S.sv t) ≤ K → Rm S (e.size * C + C) → nowA S.sv t = t → isAll t = false →
  ∃ o, Ev (fun f => hasB f (cChk S Γ) x (toT t) (S.way.length : Int)) o ∧ ReH S Γ e t (e.size * C + 4 * X + 2) o
theorem ReH.mono {S : AS} {Γ : List Ty} {e : Tm} {t : Ty} {N M : Nat} {o : Bool × Chk} (h : ReH S Γ e t N o) (hm : N ≤ M) : ReH S Γ e t M o := by
  rcases h with h | ⟨S', h1, h2⟩
  · exact .inl h
  · exact .inr ⟨S', h1, h2.st.mono hm, h2.snd, h2.cmp⟩
theorem gi_all {κ : Nat} {S : AS} {θ : Nat → Ty} {t : Ty} (hm : Mod κ S θ) (hI : Inv S) (ht : IP S S.way t) (h : isAll t = false) : isAll (gi κ S θ t) = false :=
  isAll_inst h (allF.triv fun _ => trivial) ((ht.hos hI).mono fun i ⟨v, hv⟩ => (hm.gnd i v hv).p)

/-! ### has: the quantifiers in front -/
theorem has_front {e : Tm} (hb : ClB e) : ClH e := by
  suffices ∀ q {S : AS} {Γ : List Ty} {K X C : Nat} (x : E) (t : Ty), qw (R S.sv t) = q → Ctx S Γ e K X C → IsE e x → IP S S.way t → qw (R S.sv t) ≤ K → Rm S (e.size * C + C + qw (R S.sv t)) →
      ∃ o, Ev (fun f => Md.has f (cChk S Γ) x (toT t) (S.way.length : Int)) o ∧ ReH S Γ e t (e.size * C + 4 * X + 2 + qw (R S.sv t)) o from
    fun {S Γ K X C} x t => this (qw (R S.sv t)) x t rfl
  intro q
  induction q with
  | zero =>
    intro S Γ K X C x t hq hc hx ht hK hR
    have hI := hc.inv
    have hp := plain_qw hq
    have hna : nowA S.sv (nowA S.sv t) = nowA S.sv t := now_now fun i e => now_free hI.ok e
    have hall : isAll (nowA S.sv t) = false := by
      cases e1 : nowA S.sv t with
      | all a =>
        have := R_now hI.ok t
        rw [e1, R_all] at this
        rw [← this] at hp; exact hp.elim
      | _ => rfl
    obtain ⟨o, hev, ho⟩ := hb x (nowA S.sv t) hc hx (ht.now hI) (by rw [R_now hI.ok]; exact hK) (hR.mono (by omega)) hna hall
    refine ⟨o, Ev.succ (fun f => has_eq) (Ev.bind (now_ev hI.ok t) (Ev.congr (fun f => if_neg (kind_all hall)) hev)), ?_⟩
    rcases ho with ⟨h1, h2⟩ | ⟨S', h1, h2⟩
    · exact .inl ⟨h1, fun κ θ hm h => h2 κ θ hm (by rw [hm.now hI]; exact h)⟩
    · refine .inr ⟨S', h1, h2.st.mono (by omega), fun κ θ hm => ?_, fun κ θ hm h => h2.cmp κ θ hm (by rw [hm.now hI]; exact h)⟩
      have := h2.snd κ θ hm
      rwa [gi_ext h2.st.ext (ht.now hI).frs, (hm.back hI h2.st.ext).now hI, ← gi_ext h2.st.ext ht.frs] at this
  | succ q ih =>
    intro S Γ K X C x t hq hc hx ht hK hR
    have hI := hc.inv
    have hlim : lim = 1099511627776 := rfl
    cases hall : isAll (nowA S.sv t) with
    | false =>
      have hna : nowA S.sv (nowA S.sv t) = nowA S.sv t := now_now fun i e => now_free hI.ok e
      obtain ⟨o, hev, ho⟩ := hb x (nowA S.sv t) hc hx (ht.now hI) (by rw [R_now hI.ok]; exact hK) (hR.mono (by omega)) hna hall
      refine ⟨o, Ev.succ (fun f => has_eq) (Ev.bind (now_ev hI.ok t) (Ev.congr (fun f => if_neg (kind_all hall)) hev)), ?_⟩
      rcases ho with ⟨h1, h2⟩ | ⟨S', h1, h2⟩
      · exact .inl ⟨h1, fun κ θ hm h => h2 κ θ hm (by rw [hm.now hI]; exact h)⟩
      · refine .inr ⟨S', h1, h2.st.mono (by omega), fun κ θ hm => ?_, fun κ θ hm h => h2.cmp κ θ hm (by rw [hm.now hI]; exact h)⟩
        have := h2.snd κ θ hm
        rwa [gi_ext h2.st.ext (ht.now hI).frs, (hm.back hI h2.st.ext).now hI, ← gi_ext h2.st.ext ht.frs] at this
    | true =>
      obtain ⟨b1, hb1⟩ : ∃ b1, nowA S.sv t = .all b1 := by
        cases e : nowA S.sv t with
        | all b1 => exact ⟨b1, rfl⟩
        | _ => rw [e] at hall; cases hall
      have hball : IP S S.way (.all b1) := by rw [← hb1]; exact ht.now hI
      obtain ⟨S1, hS1⟩ : ∃ S1 : AS, S1 = { S.push S.way.length none with way := S.way ++ [S.dp.length] } := ⟨_, rfl⟩
      have hI1 : Inv S1 := by rw [hS1]; exact (hI.push S.way.length none).congr rfl rfl rfl
      have hE1 : Ext S S1 := by rw [hS1]; exact (Ext.push hI S.way.length none).trans (Ext.congr rfl rfl rfl)
      have hG1 : S1.G[S.dp.length]? = some none := by rw [hS1]; exact get_push hI S.way.length none
      have hl1 : S1.lev S.dp.length = S.way.length := by rw [hS1]; exact lev_push' (S := S) (d := S.way.length) (o := none)
      have hw1 : S1.way = S.way ++ [S.dp.length] := by rw [hS1]
      have hsv : S1.sv = S.sv := by rw [hS1]; rfl
      have hdl : S1.dp.length = S.dp.length + 1 := by rw [hS1]; simp [AS.push]
      have htl : S1.tk = S.tk := by rw [hS1]; rfl
      have hwl : S1.way.length = S.way.length + 1 := by rw [hw1]; simp
      have hf : IP S1 S1.way (.fr S.dp.length) := by
        unfold IP; rw [R_fr]
        exact ⟨trivial, ⟨hG1, by rw [hl1, hw1]; simp⟩, trivial⟩
      have hips1 : IPs S1 Γ := fun u hu => by rw [hw1]; exact ((hc.ips u hu).ext hI hI1 hE1).app
      have hbp : IP S1 S1.way (Ty.put (.fr S.dp.length) 0 b1) := IP.put hI1 (by rw [hw1]; exact (hball.ext hI hI1 hE1).app) hf
      have hqb : qw (R S.sv t) = qw (R S.sv b1) + 1 := by rw [← R_now hI.ok t, hb1, R_all]; rfl
      have hqp : qw (R S.sv (Ty.put (.fr S.dp.length) 0 b1)) = qw (R S.sv b1) := by rw [R_put hI.ok, R_fr, qw_put (by trivial)]
      have hnq : nq b1 < lim := by
        have h1 := nq_R hI b1
        have h2 := nq_qw (R S.sv b1)
        have := hR.1
        omega
      obtain ⟨R1, R2, R3⟩ := hR
      have hc1 : Ctx S1 Γ e K X C := ⟨hI1, hips1, hc.ok, fun u hu => by rw [hsv]; exact hc.qws u hu, hc.k12, hc.hX, hc.hC, hc.len⟩
      obtain ⟨o, hev, ho⟩ := ih x (Ty.put (.fr S.dp.length) 0 b1) (by rw [hsv, hqp]; omega) hc1 hx hbp (by rw [hsv, hqp]; omega) ⟨by rw [hdl, hsv, hqp]; omega, by rw [hwl, hsv, hqp]; omega, by rw [htl, hsv, hqp]; omega⟩
      have e0 : ({ cSol false { S with dp := S.dp ++ [S.way.length], G := S.G ++ [none] } with way := (cSol false S).way ++ [toT (.fr S.dp.length)] } : Sol) = cSol false S1 := by
        rw [hS1]; simp [cSol, AS.push]
      have run : Ev (fun f => Md.has f (cChk S Γ) x (toT t) (S.way.length : Int)) (o.1, { o.2 with s := { o.2.s with way := (cSol false S).way } }) := by
        refine Ev.succ (fun f => has_eq) (Ev.bind (now_ev hI.ok t) ?_)
        rw [hb1]
        refine Ev.congr (fun f => if_pos rfl) ?_
        refine Ev.congr (G := fun f => (Md.has f (cChk S1 Γ) x (toT (Ty.put (.fr S.dp.length) 0 b1)) (S1.way.length : Int)).bind fun x => some (x.1, { x.2 with s := { x.2.s with way := (cSol false S).way } })) (fun f => ?_) (Ev.bind hev Ev.pure)
        show (newer (cSol false S) 5 (S.way.length : Int)).bind _ = _
        rw [newer_fr (by omega) (by omega), Option.bind_some, opn_eq hnq, Option.bind_some, w64_id (by omega) (by omega), show ((S.way.length : Int) + 1) = (S1.way.length : Int) by omega]
        rw [show ({ cChk S Γ with s := { cSol false { S with dp := S.dp ++ [S.way.length], G := S.G ++ [none] } with way := (cChk S Γ).s.way ++ [toT (.fr S.dp.length)] } } : Chk) = cChk S1 Γ from by rw [← show ({ cChk S Γ with s := cSol false S1 } : Chk) = cChk S1 Γ from rfl, ← e0]; rfl]
        rfl
      have hap : ∀ {κ : Nat} {S2 : AS} {θ : Nat → Ty}, Mod κ S2 θ → Ext S1 S2 → gi κ S2 θ (Ty.put (.fr S.dp.length) 0 b1) = Ty.put (.fr (κ + S.way.length)) 0 (gi κ S2 θ b1) := fun {κ S2 θ} hm he => by
        have := inst_put (φ := fun x => .fr (κ + S2.lev x)) (θ := θ) (u := .fr S.dp.length) (t := b1) (n := 0) (allF.triv fun _ => trivial) (allH.mono (t := b1) (fun i ⟨v, hv⟩ => (hm.gnd i v ((hE1.trans he).get hv)).c) (hball.hos hI))
        have e2 : inst (fun x => .fr (κ + S2.lev x)) θ (.fr S.dp.length) = .fr (κ + S.way.length) := by
          show Ty.fr (κ + S2.lev S.dp.length) = _
          rw [he.fr _ hG1, hl1]
        rw [e2] at this
        exact this
      have hgb : ∀ {κ : Nat} {S2 : AS} {θ : Nat → Ty}, Mod κ S2 θ → Ext S S2 → gi κ S2 θ t = .all (gi κ S2 θ b1) := fun {κ S2 θ} hm he => by
        rw [gi_ext he ht.frs, ← (hm.back hI he).now hI t, hb1, ← gi_ext he hball.frs]; rfl
      have fwd : ∀ κ θ, Mod κ S θ → Hs e (κ + S.way.length) (cx κ S θ Γ) (gi κ S θ t) → Mod κ S1 θ ∧ Hs e (κ + S1.way.length) (cx κ S1 θ Γ) (gi κ S1 θ (Ty.put (.fr S.dp.length) 0 b1)) := fun κ θ hm h => by
        rw [hgb hm (Ext.refl S)] at h
        have hm1 : Mod κ S1 θ := by rw [hS1]; exact (hm.push hI S.way.length none (fun _ _ => rfl) fun v e => by cases e).congr rfl rfl rfl
        refine ⟨hm1, ?_⟩
        rw [hap hm1 (Ext.refl S1), hwl, cx_back hE1 hc.ips, gi_ext (t := b1) hE1 hball.frs]
        exact h.inv_all
      refine ⟨_, run, ?_⟩
      rcases ho with ⟨h1, h2⟩ | ⟨S2, rfl, h2⟩
      · exact .inl ⟨h1, fun κ θ hm h => by obtain ⟨a, b⟩ := fwd κ θ hm h; exact h2 κ θ a b⟩
      · refine .inr ⟨{ S2 with way := S.way }, rfl, ⟨h2.st.inv.congr rfl rfl rfl, (hE1.trans h2.st.ext).trans (Ext.congr rfl rfl rfl), rfl, ?_, ?_⟩, fun κ θ hm => ?_, fun κ θ hm h => ?_⟩
        · have := h2.st.dpl
          rw [hsv, hqp] at this
          show S2.dp.length ≤ _
          omega
        · have := h2.st.tkl
          rw [htl, hsv, hqp] at this
          show S2.tk.length ≤ _
          omega
        · have hm2 : Mod κ S2 θ := hm.congr rfl rfl rfl
          have k3 := h2.snd κ θ hm2
          rw [hap hm2 h2.st.ext, hwl] at k3
          show Hs e (κ + S.way.length) (cx κ S2 θ Γ) (gi κ S2 θ t)
          rw [hgb hm2 (hE1.trans h2.st.ext)]
          exact Fr.all k3
        · obtain ⟨a, b⟩ := fwd κ θ hm h
          obtain ⟨θ', m', ha⟩ := h2.cmp κ θ a b
          exact ⟨θ', m'.congr rfl rfl rfl, fun i hi => ha i (by omega)⟩

/-! ### has: behind the quantifiers -/
theorem isE_kind {e : Tm} {x : E} (h : IsE e x) (hl : e.isLam = false) : x.kind ≠ 3 := by
  cases e with
  | var k => rw [h.1]; decide
  | nat => rw [show x.kind = 2 from h]; decide
  | lam e => cases hl
  | typed T e => rw [h.1]; decide
  | app f a => rw [h.1]; decide
  | has e T => rw [h.1]; decide
theorem base_non {e : Tm} (hl : e.isLam = false) (hg : ClG e) : ClB e := by
  intro S Γ K X C x t hc hx ht hK hR hna hall
  have hlim : lim = 1099511627776 := rfl
  have hI := hc.inv
  obtain ⟨R1, R2, R3⟩ := id hR
  have hC := hc.hC
  have hX := hc.hX
  obtain ⟨o, hev, ho⟩ := hg x hc hx hR
  have inv : ∀ κ θ, Mod κ S θ → Hs e (κ + S.way.length) (cx κ S θ Γ) (gi κ S θ t) → ∃ σ, Gv e (κ + S.way.length) (cx κ S θ Γ) σ ∧ SubE (κ + S.way.length) σ (gi κ S θ t) := fun κ θ hm h => by
    have h := h.inv_non (gi_all hm hI ht hall)
    rw [hb_base hl] at h; exact h
  have run : ∀ {G : Nat → Option (Bool × Chk)} {r : Bool × Chk}, (∀ f, (if o.1.2 then (Md.uses f o.2.s o.1.1 (toT t) (S.way.length : Int)).bind fun x => some (x.1, { o.2 with s := x.2 }) else some (false, o.2)) = G f) → Ev G r → Ev (fun f => hasB f (cChk S Γ) x (toT t) (S.way.length : Int)) r := fun {G r} e h => by
    refine Ev.congr (fun f => if_neg (isE_kind hx hl)) (Ev.bind hev ?_)
    exact Ev.congr e h
  rcases ho with ⟨h1, h2⟩ | ⟨u, S1, rfl, h2⟩
  · refine ⟨(false, o.2), run (G := fun _ => some (false, o.2)) (fun f => by rw [h1]; rfl) Ev.pure, .inl ⟨rfl, fun κ θ hm h => ?_⟩⟩
    obtain ⟨σ, h3, _⟩ := inv κ θ hm h
    exact h2 κ θ σ hm h3
  · have ht1 := ht.stp hI h2.st
    have hqt : qw (R S1.sv t) = qw (R S.sv t) := qw_R hI h2.st.inv h2.st.ext t
    have d1 := h2.st.dpl
    have d2 := h2.st.tkl
    have d3 := h2.qwb
    obtain ⟨r, S2, hev2, hP⟩ := claim false (qw (R S1.sv u) + qw (R S1.sv t)) _ _ S1 u t (List.range S1.dp.length) h2.st.inv h2.ip ht1 rfl (fun h hh _ => List.mem_range.2 hh) rfl rfl
      ⟨by omega, by rw [h2.st.way]; omega, by omega⟩
    rw [h2.st.way] at hev2
    refine ⟨(r, cChk S2 Γ), run (fun f => by rfl) (Ev.bind hev2 (Ev.congr (fun f => by rfl) Ev.pure)), ?_⟩
    have key : ∀ κ θ, Mod κ S θ → Hs e (κ + S.way.length) (cx κ S θ Γ) (gi κ S θ t) → r = true ∧ ∃ θ', Mod κ S2 θ' ∧ ∀ h, h < S.dp.length → θ' h = θ h := fun κ θ hm h => by
      obtain ⟨σ, h3, h4⟩ := inv κ θ hm h
      obtain ⟨θ1, m1, e1, a1⟩ := h2.cmp κ θ σ hm h3
      obtain ⟨hr, θ2, m2, a2⟩ := hP.cmp κ θ1 m1 (by rw [e1, ht.agree hI h2.st.ext hm m1 a1, h2.st.way]; exact h4)
      exact ⟨hr, θ2, m2, fun i hi => (a2 i (h2.st.lt hI hi)).trans (a1 i hi)⟩
    cases r with
    | false => exact .inl ⟨rfl, fun κ θ hm h => by have := (key κ θ hm h).1; cases this⟩
    | true =>
      have hE2 := h2.st.ext.trans (hP.ext rfl)
      have p1 := hP.dpl rfl
      have p2 := hP.tkl rfl
      refine .inr ⟨S2, rfl, ⟨hP.inv rfl, hE2, (hP.way rfl).trans h2.st.way, by omega, by omega⟩, fun κ θ hm => ?_, fun κ θ hm h => (key κ θ hm h).2⟩
      have hm1 := hm.back h2.st.inv (hP.ext rfl)
      have k1 := h2.snd κ θ hm1
      obtain ⟨new, _, k2⟩ := hP.snd rfl
      have k2 := k2 κ θ hm
      rw [cx_back h2.st.ext hc.ips, ← cx_back hE2 hc.ips, ← gi_ext (hP.ext rfl) h2.ip.frs] at k1
      rw [h2.st.way] at k2
      refine Fr.non (gi_all hm (hP.inv rfl) (by rw [hP.way rfl]; exact ht1.ext h2.st.inv (hP.inv rfl) (hP.ext rfl)) hall) ?_
      show Hb e _ _ _
      rw [hb_base hl]
      exact ⟨_, k1, _, k2⟩
theorem lam_fn {e : Tm} (hb : ClH e) {S : AS} {Γ : List Ty} {K X C : Nat} (x : E) {a b : Ty} (hc : Ctx S Γ (.lam e) K X C) (hx : IsE (.lam e) x) (ht : IP S S.way (.fn a b)) (hK : qw (R S.sv (.fn a b)) ≤ K) (hR : Rm S (e.size * C + C + X)) :
    ∃ o, Ev (fun f => Md.hasL f (cChk S Γ) x (toT (.fn a b)) (S.way.length : Int)) o ∧ ReH S Γ (.lam e) (.fn a b) (e.size * C + 5 * X + 2) o := by
  have hI := hc.inv
  obtain ⟨_, y, hy, hxy⟩ := hx
  have hX : K + 15 * (e.size + 1) ≤ X := hc.hX
  have hlen : Γ.length + (e.size + 1) < lim := hc.len
  rw [R_fn] at hK
  have q1 := qw_fn1 (R S.sv a) (R S.sv b)
  have q2 := qw_fn2 (R S.sv a) (R S.sv b)
  have hc1 : Ctx S (a :: Γ) e K X C := ⟨hI, IPs.cons ht.fn1 hc.ips, hc.ok, fun u hu => by
    rcases List.mem_cons.1 hu with rfl | hu
    · omega
    · exact hc.qws u hu, hc.k12, by omega, hc.hC, by rw [List.length_cons]; omega⟩
  obtain ⟨o, hev, ho⟩ := hb y b hc1 hxy ht.fn2 (by omega) (hR.mono (by omega))
  have e0 : ({ cChk S Γ with types := (cChk S Γ).types ++ [toT a] } : Chk) = cChk S (a :: Γ) := cChk_cons
  have run : Ev (fun f => Md.hasL f (cChk S Γ) x (toT (.fn a b)) (S.way.length : Int)) (o.1, { o.2 with types := (cChk S Γ).types }) := by
    refine Ev.succ (fun f => hasL_fn hy) (Ev.congr (fun f => if_neg (by rw [cChk_len]; omega)) ?_)
    rw [e0]
    exact Ev.bind hev Ev.pure
  have inv : ∀ κ θ, Hs (.lam e) (κ + S.way.length) (cx κ S θ Γ) (gi κ S θ (.fn a b)) → Hs e (κ + S.way.length) (cx κ S θ (a :: Γ)) (gi κ S θ b) := fun κ θ h => by
    obtain ⟨a', b', e1, h1⟩ := h.inv_non rfl
    have e1 : Ty.fn (gi κ S θ a) (gi κ S θ b) = .fn a' b' := e1
    cases e1
    exact h1
  refine ⟨_, run, ?_⟩
  rcases ho with ⟨h1, h2⟩ | ⟨S', rfl, h2⟩
  · exact .inl ⟨h1, fun κ θ hm h => h2 κ θ hm (inv κ θ h)⟩
  · refine .inr ⟨S', rfl, h2.st.mono (by omega), fun κ θ hm => Fr.non rfl ⟨gi κ S' θ a, gi κ S' θ b, rfl, h2.snd κ θ hm⟩, fun κ θ hm h => h2.cmp κ θ hm (inv κ θ h)⟩
theorem base_lam {e : Tm} (hb : ClH e) : ClB (.lam e) := by
  intro S Γ K X C x t hc hx ht hK hR hna hall
  have hI := hc.inv
  have hX : K + 15 * (e.size + 1) ≤ X := hc.hX
  have hC := hc.hC
  have hs1 : (Tm.lam e).size * C = e.size * C + C := by show (e.size + 1) * C = _; rw [Nat.add_mul, Nat.one_mul]
  rw [hs1] at hR ⊢
  have run : ∀ {G : Nat → Option (Bool × Chk)} {r : Bool × Chk}, (∀ f, (if (toT t).kind = 6 then (split (cChk S Γ).s (toT t)).bind fun r => Md.hasL f { cChk S Γ with s := r.2 } x r.1 (S.way.length : Int) else Md.hasL f (cChk S Γ) x (toT t) (S.way.length : Int)) = G f) → Ev G r → Ev (fun f => hasB f (cChk S Γ) x (toT t) (S.way.length : Int)) r :=
    fun {G r} e h => Ev.congr (fun f => if_pos hx.1) (Ev.congr e h)
  have no : (toT t).kind ≠ 6 → (toT t).kind ≠ 3 → (∀ κ θ a b, Mod κ S θ → gi κ S θ t = .fn a b → False) → ∃ o, Ev (fun f => hasB f (cChk S Γ) x (toT t) (S.way.length : Int)) o ∧ ReH S Γ (.lam e) t (e.size * C + C + 4 * X + 2) o := fun h6 h3 h => by
    refine ⟨(false, cChk S Γ), run (fun f => if_neg h6) (Ev.succ (fun f => hasL_no h3) Ev.pure), .inl ⟨rfl, fun κ θ hm hh => ?_⟩⟩
    obtain ⟨a, b, e1, _⟩ := hh.inv_non (gi_all hm hI ht hall)
    exact h κ θ a b hm e1
  cases t with
  | all a => cases hall
  | var n => exact absurd ht.lcl (Nat.not_lt_zero _)
  | nat => exact no (by decide) (by decide) fun κ θ a b _ h => by cases h
  | fr i => exact no (by show (5 : Int) ≠ 6; decide) (by show (5 : Int) ≠ 3; decide) fun κ θ a b _ h => by cases h
  | fn a b =>
    obtain ⟨o, hev, ho⟩ := lam_fn hb x hc hx ht hK (hR.mono (by omega))
    exact ⟨o, run (fun f => if_neg (by show ¬ (3 : Int) = 6; decide)) hev, ho.mono (by omega)⟩
  | ho h =>
    have hd := now_free hI.ok hna
    obtain ⟨v, hG, hT⟩ := splT hI ht hd (hR.mono (by omega))
    obtain ⟨o, hev, ho⟩ := lam_fn hb x (hc.stp hT.st) hx hT.ip (by rw [qw_ff hT.st.inv.ok]; omega) (hT.st.room hR (by omega))
    rw [hT.st.way] at hev
    refine ⟨o, run (G := fun f => Md.hasL f (cChk (S.spl h v) Γ) x (toT (.fn (.ho S.dp.length) (.ho (S.dp.length + 1)))) (S.way.length : Int)) (fun f => (if_pos rfl).trans (by show (split (cSol false S) (toT (.ho h))).bind _ = _; rw [hT.run]; rfl)) hev, ?_⟩
    have inv : ∀ κ θ, Mod κ S θ → Hs (.lam e) (κ + S.way.length) (cx κ S θ Γ) (gi κ S θ (.ho h)) → ∃ θ1, Mod κ (S.spl h v) θ1 ∧ (∀ i, i < S.dp.length → θ1 i = θ i) ∧ Hs (.lam e) (κ + (S.spl h v).way.length) (cx κ (S.spl h v) θ1 Γ) (gi κ (S.spl h v) θ1 (.fn (.ho S.dp.length) (.ho (S.dp.length + 1)))) := fun κ θ hm hh => by
      obtain ⟨a, b, e1, _⟩ := hh.inv_non (gi_all hm hI ht hall)
      have e1 : θ h = .fn a b := e1
      obtain ⟨θ1, m1, ag, z0, z1⟩ := hm.spl hI hG e1
      refine ⟨θ1, m1, ag, ?_⟩
      rw [cx_agree hI hT.st.ext hc.ips hm m1 ag, hT.back m1, ag h (hI.lt hG)]
      exact hh
    rcases ho with ⟨h1, h2⟩ | ⟨S', h1, h2⟩
    · refine .inl ⟨h1, fun κ θ hm hh => ?_⟩
      obtain ⟨θ1, m1, _, h3⟩ := inv κ θ hm hh
      exact h2 κ θ1 m1 h3
    · refine .inr ⟨S', h1, (hT.st.trans h2.st).mono (by omega), fun κ θ hm => ?_, fun κ θ hm hh => ?_⟩
      · have := h2.snd κ θ hm
        rw [gi_ext h2.st.ext hT.ip.frs, hT.back (hm.back hT.st.inv h2.st.ext)] at this
        exact this
      · obtain ⟨θ1, m1, ag, h3⟩ := inv κ θ hm hh
        obtain ⟨θ', m', a'⟩ := h2.cmp κ θ1 m1 h3
        exact ⟨θ', m', fun i hi => (a' i (hT.st.lt hI hi)).trans (ag i hi)⟩

/-! ### leads -/
theorem leads_fn {e : Tm} (hb : ClH e) {S : AS} {Γ : List Ty} {K X C : Nat} (x : E) {a b : Ty} (hc : Ctx S Γ e K X C) (hx : IsE e x) (hf : IP S S.way (.fn a b)) (hK : qw (R S.sv (.fn a b)) ≤ K) (hR : Rm S (e.size * C + C + X)) :
    ∃ o, Ev (fun f => Md.leadsO f (cChk S Γ) (toT (.fn a b)) x (S.way.length : Int)) o ∧ ReL S Γ e (.fn a b) (e.size * C + 5 * X + 2) o := by
  have hI := hc.inv
  have hX := hc.hX
  rw [R_fn] at hK
  have q1 := qw_fn1 (R S.sv a) (R S.sv b)
  have q2 := qw_fn2 (R S.sv a) (R S.sv b)
  obtain ⟨o, hev, ho⟩ := hb x a hc hx hf.fn1 (by omega) (hR.mono (by omega))
  have run : ∀ {r : (T × Bool) × Chk}, (if o.1 then some ((toT b, true), o.2) else some ((t0, false), o.2)) = some r → Ev (fun f => Md.leadsO f (cChk S Γ) (toT (.fn a b)) x (S.way.length : Int)) r := fun {r} e1 => by
    refine Ev.succ (fun f => leadsO_fn) (Ev.bind hev ?_)
    exact Ev.congr (fun f => e1) Ev.pure
  have inv : ∀ κ θ σ, Ld (κ + S.way.length) (Hs e (κ + S.way.length) (cx κ S θ Γ)) (gi κ S θ (.fn a b)) σ → Hs e (κ + S.way.length) (cx κ S θ Γ) (gi κ S θ a) ∧ σ = gi κ S θ b := fun κ θ σ h => by
    have h : Ld (κ + S.way.length) (Hs e (κ + S.way.length) (cx κ S θ Γ)) (.fn (gi κ S θ a) (gi κ S θ b)) σ := h
    cases h with
    | fn hp => exact ⟨hp, rfl⟩
  rcases ho with ⟨h1, h2⟩ | ⟨S', rfl, h2⟩
  · exact ⟨((t0, false), o.2), run (by rw [h1]; rfl), .inl ⟨rfl, fun κ θ σ hm h => h2 κ θ hm (inv κ θ σ h).1⟩⟩
  · refine ⟨((toT b, true), cChk S' Γ), run rfl, .inr ⟨b, S', rfl, h2.st.mono (by omega), hf.fn2.stp hI h2.st, by rw [qw_R hI h2.st.inv h2.st.ext, R_fn]; exact q2, fun κ θ hm => .fn (h2.snd κ θ hm), fun κ θ σ hm h => ?_⟩⟩
    obtain ⟨h3, rfl⟩ := inv κ θ σ h
    obtain ⟨θ', m', a'⟩ := h2.cmp κ θ hm h3
    exact ⟨θ', m', hf.fn2.agree hI h2.st.ext hm m' a', a'⟩
theorem leads_ev {e : Tm} (hb : ClH e) : ∀ (q : Nat) {S : AS} {Γ : List Ty} {K X C : Nat} (x : E) (φ : Ty), qw (R S.sv φ) = q → Ctx S Γ e K X C → IsE e x → IP S S.way φ → q ≤ K → nowA S.sv φ = φ → Rm S (e.size * C + C + X + 2 + q) →
    ∃ o, Ev (fun f => Md.leadsO f (cChk S Γ) (toT φ) x (S.way.length : Int)) o ∧ ReL S Γ e φ (e.size * C + 5 * X + 4 + q) o := by
  intro q
  induction q with
  | zero =>
    intro S Γ K X C x φ hq hc hx hf hK hna hR
    have hI := hc.inv
    have no : (toT φ).kind ≠ 4 → (toT φ).kind ≠ 6 → (toT φ).kind ≠ 3 → (∀ κ θ P σ, Ld (κ + S.way.length) P (gi κ S θ φ) σ → False) → ∃ o, Ev (fun f => Md.leadsO f (cChk S Γ) (toT φ) x (S.way.length : Int)) o ∧ ReL S Γ e φ (e.size * C + 5 * X + 4 + 0) o := fun h4 h6 h3 h =>
      ⟨((t0, false), cChk S Γ), Ev.succ (fun f => leadsO_no h4 h6 h3) Ev.pure, .inl ⟨rfl, fun κ θ σ _ hh => h κ θ _ σ hh⟩⟩
    cases φ with
    | all a => rw [R_all] at hq; simp only [qw] at hq; omega
    | var n => exact absurd hf.lcl (Nat.not_lt_zero _)
    | nat =>
      exact no (by decide) (by decide) (by decide) fun κ θ P σ h => by
        have h : Ld (κ + S.way.length) P .nat σ := h
        cases h
    | fr i =>
      exact no (by show (5 : Int) ≠ 4; decide) (by show (5 : Int) ≠ 6; decide) (by show (5 : Int) ≠ 3; decide) fun κ θ P σ h => by
        have h : Ld (κ + S.way.length) P (.fr (κ + S.lev i)) σ := h
        cases h
    | fn a b =>
      obtain ⟨o, hev, ho⟩ := leads_fn hb x hc hx hf (by omega) (hR.mono (by omega))
      refine ⟨o, hev, ?_⟩
      rcases ho with h | ⟨t, S', h1, h2⟩
      · exact .inl h
      · exact .inr ⟨t, S', h1, h2.st.mono (by omega), h2.ip, h2.qwb, h2.snd, h2.cmp⟩
    | ho h =>
      have hd := now_free hI.ok hna
      obtain ⟨v, hG, hT⟩ := splT hI hf hd (hR.mono (by omega))
      have hq0 : qw (R (S.spl h v).sv (.fn (.ho S.dp.length) (.ho (S.dp.length + 1)))) = 0 := qw_ff hT.st.inv.ok _ _
      obtain ⟨o, hev, ho⟩ := leads_fn hb x (hc.stp hT.st) hx hT.ip (by rw [hq0]; omega) (hT.st.room hR (by omega))
      rw [hT.st.way] at hev
      have inv : ∀ κ θ σ, Mod κ S θ → Ld (κ + S.way.length) (Hs e (κ + S.way.length) (cx κ S θ Γ)) (gi κ S θ (.ho h)) σ → ∃ θ1, Mod κ (S.spl h v) θ1 ∧ (∀ i, i < S.dp.length → θ1 i = θ i) ∧ Ld (κ + (S.spl h v).way.length) (Hs e (κ + (S.spl h v).way.length) (cx κ (S.spl h v) θ1 Γ)) (gi κ (S.spl h v) θ1 (.fn (.ho S.dp.length) (.ho (S.dp.length + 1)))) σ := fun κ θ σ hm hh => by
        obtain ⟨a, b, e1⟩ : ∃ a b, θ h = .fn a b := by
          have hp := (hm.gnd h v hG).p
          have hh : Ld (κ + S.way.length) (Hs e (κ + S.way.length) (cx κ S θ Γ)) (θ h) σ := hh
          generalize θ h = u at hh hp
          cases hh with
          | fn _ => exact ⟨_, _, rfl⟩
          | all _ _ => exact hp.elim
        obtain ⟨θ1, m1, ag, z0, z1⟩ := hm.spl hI hG e1
        refine ⟨θ1, m1, ag, ?_⟩
        rw [cx_agree hI hT.st.ext hc.ips hm m1 ag, hT.back m1, ag h (hI.lt hG)]
        exact hh
      refine ⟨o, Ev.succ (fun f => leadsO_ho) (Ev.congr (G := fun f => Md.leadsO f (cChk (S.spl h v) Γ) (toT (.fn (.ho S.dp.length) (.ho (S.dp.length + 1)))) x (S.way.length : Int)) (fun f => by show (split (cSol false S) (toT (.ho h))).bind _ = _; rw [hT.run]; rfl) hev), ?_⟩
      rcases ho with ⟨h1, h2⟩ | ⟨t, S', h1, h2⟩
      · refine .inl ⟨h1, fun κ θ σ hm hh => ?_⟩
        obtain ⟨θ1, m1, _, h3⟩ := inv κ θ σ hm hh
        exact h2 κ θ1 σ m1 h3
      · refine .inr ⟨t, S', h1, (hT.st.trans h2.st).mono (by omega), h2.ip, by have := h2.qwb; rw [hq0] at this; omega, fun κ θ hm => ?_, fun κ θ σ hm hh => ?_⟩
        · have := h2.snd κ θ hm
          rw [gi_ext h2.st.ext hT.ip.frs, hT.back (hm.back hT.st.inv h2.st.ext)] at this
          exact this
        · obtain ⟨θ1, m1, ag, h3⟩ := inv κ θ σ hm hh
          obtain ⟨θ', m', e', a'⟩ := h2.cmp κ θ1 σ m1 h3
          exact ⟨θ', m', e', fun i hi => (a' i (hT.st.lt hI hi)).trans (ag i hi)⟩
  | succ q ih =>
    intro S Γ K X C x φ hq hc hx hf hK hna hR
    have hI := hc.inv
    cases hall : isAll φ with
    | false =>
      -- a function: quantifiers inside
      have hfn : ∃ a b, φ = .fn a b := by
        cases φ with
        | all a => cases hall
        | fn a b => exact ⟨a, b, rfl⟩
        | var n => rw [R_var] at hq; cases hq
        | nat => rw [R_nat] at hq; cases hq
        | fr i => rw [R_fr] at hq; cases hq
        | ho h => rw [qw_ho hI.ok] at hq; cases hq
      obtain ⟨a, b, rfl⟩ := hfn
      obtain ⟨o, hev, ho⟩ := leads_fn hb x hc hx hf (by omega) (hR.mono (by omega))
      refine ⟨o, hev, ?_⟩
      rcases ho with h | ⟨t, S', h1, h2⟩
      · exact .inl h
      · exact .inr ⟨t, S', h1, h2.st.mono (by omega), h2.ip, h2.qwb, h2.snd, h2.cmp⟩
    | true =>
      cases φ with
      | all a1 =>
        have hS1 := Stp.pushH hI
        have hI1 := hS1.inv
        have hE1 := hS1.ext
        have hG1 : (S.push S.way.length (some S.way)).G[S.dp.length]? = some (some S.way) := get_push hI S.way.length (some S.way)
        have hl1 : (S.push S.way.length (some S.way)).lev S.dp.length = S.way.length := lev_push' (S := S) (d := S.way.length) (o := some S.way)
        have hca : IP (S.push S.way.length (some S.way)) (S.push S.way.length (some S.way)).way (.ho S.dp.length) := push_ip hI
        have ha' := (hf.stp hI hS1).put hI1 hca
        have hqa : qw (R S.sv (.all a1)) = qw (R S.sv a1) + 1 := by rw [R_all]; rfl
        have hqp : qw (R S.sv (Ty.put (.ho S.dp.length) 0 a1)) = qw (R S.sv a1) := by rw [R_put hI.ok, R_free hI.new_free, qw_put (by trivial)]
        have hqn : qw (R (S.push S.way.length (some S.way)).sv (nowA (S.push S.way.length (some S.way)).sv (Ty.put (.ho S.dp.length) 0 a1))) = q := by rw [R_now hI1.ok]; show qw (R S.sv _) = _; rw [hqp]; omega
        have hnq : nq a1 < lim := by
          have h1 := nq_R hI a1
          have h2 := nq_qw (R S.sv a1)
          have := hR.1
          omega
        obtain ⟨o, hev, ho⟩ := ih x (nowA (S.push S.way.length (some S.way)).sv (Ty.put (.ho S.dp.length) 0 a1)) hqn (hc.stp hS1) hx (ha'.now hI1) (by omega) (now_now fun i e => now_free hI1.ok e) (hS1.room hR (by omega))
        have hap : ∀ {κ : Nat} {S2 : AS} {θ : Nat → Ty}, Mod κ S2 θ → Ext S S2 → gi κ S2 θ (Ty.put (.ho S.dp.length) 0 a1) = Ty.put (θ S.dp.length) 0 (gi κ S2 θ a1) := fun {κ S2 θ} hm he =>
          inst_put (allF.triv fun _ => trivial) (allH.mono (t := a1) (fun i ⟨v, hv⟩ => (hm.gnd i v (he.get hv)).c) (hf.hos hI))
        have hnw : ∀ {κ : Nat} {S2 : AS} {θ : Nat → Ty}, Mod κ S2 θ → Ext (S.push S.way.length (some S.way)) S2 → gi κ S2 θ (nowA (S.push S.way.length (some S.way)).sv (Ty.put (.ho S.dp.length) 0 a1)) = gi κ S2 θ (Ty.put (.ho S.dp.length) 0 a1) := fun {κ S2 θ} hm he => by
          rw [gi_ext he (ha'.now hI1).frs, (hm.back hI1 he).now hI1, ← gi_ext he ha'.frs]
        refine ⟨o, Ev.succ (fun f => leadsO_all) (Ev.congr (G := fun f => (Md.now f (csv (S.push S.way.length (some S.way)).sv) (toT (Ty.put (.ho S.dp.length) 0 a1))).bind fun u => Md.leadsO f (cChk (S.push S.way.length (some S.way)) Γ) u x (S.way.length : Int)) (fun f => ?_) (Ev.bind (now_ev hI1.ok _) hev)), ?_⟩
        · show (newer (cSol false S) 6 (S.way.length : Int)).bind _ = _
          rw [newer_ho (v := S.way) (by have := hR.1; omega) (by have := hR.2.1; omega), Option.bind_some, opn_eq hnq, Option.bind_some]; rfl
        · have inv : ∀ κ θ σ, Mod κ S θ → Ld (κ + S.way.length) (Hs e (κ + S.way.length) (cx κ S θ Γ)) (gi κ S θ (.all a1)) σ → ∃ θ1, Mod κ (S.push S.way.length (some S.way)) θ1 ∧ (∀ i, i < S.dp.length → θ1 i = θ i) ∧
              Ld (κ + S.way.length) (Hs e (κ + S.way.length) (cx κ (S.push S.way.length (some S.way)) θ1 Γ)) (gi κ (S.push S.way.length (some S.way)) θ1 (nowA (S.push S.way.length (some S.way)).sv (Ty.put (.ho S.dp.length) 0 a1))) σ := fun κ θ σ hm hh => by
            have hh : Ld (κ + S.way.length) (Hs e (κ + S.way.length) (cx κ S θ Γ)) (.all (gi κ S θ a1)) σ := hh
            cases hh with
            | @all _ τ _ hτ hh =>
              have hag : ∀ i, i < S.dp.length → (fun i => if i = S.dp.length then τ else θ i) i = θ i := fun i hi => if_neg (by omega)
              have hm1 : Mod κ (S.push S.way.length (some S.way)) (fun i => if i = S.dp.length then τ else θ i) := hm.push hI S.way.length (some S.way) hag fun v _ => by rw [if_pos rfl]; exact hτ
              refine ⟨_, hm1, hag, ?_⟩
              rw [hnw hm1 (Ext.refl _), hap hm1 hE1, cx_agree hI hE1 hc.ips hm hm1 hag]
              have e1 : gi κ (S.push S.way.length (some S.way)) (fun i => if i = S.dp.length then τ else θ i) (.all a1) = gi κ S θ (.all a1) := hf.agree hI hE1 hm hm1 hag
              have e2 : gi κ (S.push S.way.length (some S.way)) (fun i => if i = S.dp.length then τ else θ i) a1 = gi κ S θ a1 := Ty.all.inj e1
              rw [e2]
              show Ld _ _ (Ty.put (if S.dp.length = S.dp.length then τ else _) 0 _) _
              rw [if_pos rfl]; exact hh
          rcases ho with ⟨h1, h2⟩ | ⟨t, S', h1, h2⟩
          · refine .inl ⟨h1, fun κ θ σ hm hh => ?_⟩
            obtain ⟨θ1, m1, _, h3⟩ := inv κ θ σ hm hh
            exact h2 κ θ1 σ m1 h3
          · refine .inr ⟨t, S', h1, (hS1.trans h2.st).mono (by omega), h2.ip, by have := h2.qwb; rw [hqn] at this; omega, fun κ θ hm => ?_, fun κ θ σ hm hh => ?_⟩
            · have k := h2.snd κ θ hm
              rw [hnw hm h2.st.ext, hap hm (hE1.trans h2.st.ext)] at k
              have hg := hm.gnd _ _ (h2.st.ext.get hG1)
              have hl := h2.st.ext.ho _ _ hG1
              rw [hl1] at hl
              exact .all (hg.mono (Nat.add_le_add_left hl κ)) k
            · obtain ⟨θ1, m1, ag, h3⟩ := inv κ θ σ hm hh
              obtain ⟨θ', m', e', a'⟩ := h2.cmp κ θ1 σ m1 h3
              exact ⟨θ', m', e', fun i hi => (a' i (hS1.lt hI hi)).trans (ag i hi)⟩
      | _ => cases hall

/-! ### gives -/
theorem cl_var (k : Nat) : ClG (.var k) := by
  intro S Γ K X C x hc hx hR
  have hlim : lim = 1099511627776 := rfl
  have hI := hc.inv
  have hk : k < Γ.length := hc.ok
  have hlen : Γ.length + 1 < lim := hc.len
  have hget : Γ[k]? = some Γ[k] := List.getElem?_eq_getElem hk
  have hmem : Γ[k] ∈ Γ := List.getElem_mem hk
  refine ⟨((toT Γ[k], true), cChk S Γ), Ev.succ (fun f => g_var hx.1) (Ev.congr (fun f => ?_) Ev.pure), .inr ⟨Γ[k], S, rfl, (Stp.refl hI).mono (Nat.zero_le _), hc.ips _ hmem, ?_, fun κ θ hm => ?_, fun κ θ σ hm h => ?_⟩⟩
  · have hn : nth (cChk S Γ).types (w64 (w64 (((cChk S Γ).types.length : Int) - 1) - x.num)) = some (toT Γ[k]) := by
      rw [hx.2, cChk_len, w64_id (x := (Γ.length : Int) - 1) (by omega) (by omega), w64_id (by omega) (by omega)]
      unfold nth
      rw [if_pos (by omega), show ((Γ.length : Int) - 1 - (k : Int)).toNat = Γ.length - 1 - k by omega]
      show (Γ.map toT).reverse[Γ.length - 1 - k]? = _
      rw [List.getElem?_reverse (by rw [List.length_map]; omega), List.length_map, show Γ.length - 1 - (Γ.length - 1 - k) = k by omega, List.getElem?_map, hget]; rfl
    rw [hn]
  · have := hc.qws _ hmem
    omega
  · show (Γ.map (gi κ S θ))[k]? = _
    rw [List.getElem?_map, hget]; rfl
  · have h : (Γ.map (gi κ S θ))[k]? = some σ := h
    rw [List.getElem?_map, hget] at h
    exact ⟨θ, hm, Option.some.inj h, fun _ _ => rfl⟩
theorem cl_nat : ClG .nat := by
  intro S Γ K X C x hc hx hR
  have hI := hc.inv
  refine ⟨((toT .nat, true), cChk S Γ), Ev.succ (fun f => g_nat hx) (Ev.congr (fun f => rfl) Ev.pure), .inr ⟨.nat, S, rfl, (Stp.refl hI).mono (Nat.zero_le _), ?_, ?_, fun κ θ hm => rfl, fun κ θ σ hm h => ⟨θ, hm, (show σ = .nat from h).symm, fun _ _ => rfl⟩⟩⟩
  · unfold IP; rw [R_nat]; exact ⟨trivial, trivial, trivial⟩
  · rw [R_nat]; exact Nat.zero_le _
theorem cl_lam {e : Tm} (hb : ClH e) : ClG (.lam e) := by
  intro S Γ K X C x hc hx hR
  have hI := hc.inv
  obtain ⟨hk, y, hy, hxy⟩ := hx
  have hX : K + 15 * (e.size + 1) ≤ X := hc.hX
  have hC := hc.hC
  have hlen : Γ.length + (e.size + 1) < lim := hc.len
  have hs1 : (Tm.lam e).size * C = e.size * C + C := by show (e.size + 1) * C = _; rw [Nat.add_mul, Nat.one_mul]
  rw [hs1] at hR ⊢
  obtain ⟨R1, R2, R3⟩ := id hR
  have hS1 := Stp.pushH hI
  have hS2 := Stp.pushH hS1.inv
  have hd1 : (S.push S.way.length (some S.way)).dp.length = S.dp.length + 1 := by simp [AS.push]
  generalize hT1 : S.push S.way.length (some S.way) = T1 at hS1 hS2 hd1
  generalize hT2 : T1.push T1.way.length (some T1.way) = T2 at hS2
  have hw1 : T1.way = S.way := hS1.way
  have hw2 : T2.way = S.way := hS2.way.trans hw1
  have hS := hS1.trans hS2
  have ipa : IP T2 T2.way (.ho S.dp.length) := by
    have h1 : IP T1 T1.way (.ho S.dp.length) := by rw [hw1, ← hT1]; exact push_ip hI
    exact h1.stp hS1.inv hS2
  have ipb : IP T2 T2.way (.ho T1.dp.length) := by rw [hw2, ← hw1, ← hT2]; exact push_ip hS1.inv
  have hGa : T2.G[S.dp.length]? = some (some S.way) := hS2.ext.get (by rw [← hT1]; exact get_push hI _ _)
  have hGb : T2.G[T1.dp.length]? = some (some T1.way) := by rw [← hT2]; exact get_push hS1.inv _ _
  have hla : T2.lev S.dp.length ≤ S.way.length := by
    have h1 : T1.lev S.dp.length = S.way.length := by rw [← hT1]; exact lev_push' (S := S) (d := S.way.length) (o := some S.way)
    have h2 := hS2.ext.ho S.dp.length S.way (by rw [← hT1]; exact get_push hI _ _)
    omega
  have hlb : T2.lev T1.dp.length ≤ S.way.length := by rw [← hT2, lev_push', hw1]; exact Nat.le_refl _
  have hc2 : Ctx T2 (.ho S.dp.length :: Γ) e K X C := ⟨hS2.inv, IPs.cons ipa (hc.ips.stp hI hS), hc.ok, fun u hu => by
    rcases List.mem_cons.1 hu with rfl | hu
    · rw [qw_ho hS2.inv.ok]; exact Nat.zero_le _
    · exact qws_stp hI hc.qws hS u hu, hc.k12, by omega, hC, by rw [List.length_cons]; omega⟩
  obtain ⟨o, hev, ho⟩ := hb y (.ho T1.dp.length) hc2 hxy ipb (by rw [qw_ho hS2.inv.ok]; exact Nat.zero_le _) (hS.room hR (by rw [qw_ho hS2.inv.ok]; omega))
  rw [hw2] at hev
  have run : Ev (fun f => Md.gives f (cChk S Γ) x (S.way.length : Int)) ((toT (.fn (.ho S.dp.length) (.ho T1.dp.length)), o.1), { o.2 with types := (cChk S Γ).types }) := by
    refine Ev.succ (fun f => g_lam hk hy) (Ev.congr (G := fun f => (Md.has f (cChk T2 (.ho S.dp.length :: Γ)) y (toT (.ho T1.dp.length)) (S.way.length : Int)).bind fun r => some ((.mk 3 0 [toT (.ho S.dp.length), toT (.ho T1.dp.length)], r.1), { r.2 with types := (cChk S Γ).types })) (fun f => ?_) (Ev.bind hev Ev.pure))
    have n1 : Md.newer (cSol false S) 6 (S.way.length : Int) = some (toT (.ho S.dp.length), cSol false T1) := by rw [newer_ho (v := S.way) (by omega) (by omega), ← hT1]; rfl
    have n2 : Md.newer (cSol false T1) 6 (S.way.length : Int) = some (toT (.ho T1.dp.length), cSol false T2) := by rw [newer_ho (v := T1.way) (by omega) (by rw [hw1]; omega), ← hT2, ← hw1]; rfl
    show (newer (cSol false S) 6 (S.way.length : Int)).bind _ = _
    rw [n1, Option.bind_some]
    show (newer (cSol false T1) 6 (S.way.length : Int)).bind _ = _
    rw [n2, Option.bind_some]
    refine (if_neg (by rw [cChk_len]; omega)).trans ?_
    rw [show ({ types := (cChk S Γ).types ++ [toT (.ho S.dp.length)], s := cSol false T2 } : Chk) = cChk T2 (.ho S.dp.length :: Γ) from cChk_cons]
  have fwd : ∀ κ θ σ, Mod κ S θ → Gv (.lam e) (κ + S.way.length) (cx κ S θ Γ) σ → ∃ θ2, Mod κ T2 θ2 ∧ (∀ i, i < S.dp.length → θ2 i = θ i) ∧ σ = .fn (θ2 S.dp.length) (θ2 T1.dp.length) ∧ Hs e (κ + T2.way.length) (cx κ T2 θ2 (.ho S.dp.length :: Γ)) (gi κ T2 θ2 (.ho T1.dp.length)) := fun κ θ σ hm h => by
    obtain ⟨a, b, rfl, ha, hb', h⟩ := h
    have m1 : Mod κ T1 (fun i => if i = S.dp.length then a else θ i) := by
      rw [← hT1]
      exact hm.push hI S.way.length (some S.way) (fun i hi => if_neg (by omega)) fun v _ => by rw [if_pos rfl]; exact ha
    have m2 : Mod κ T2 (fun i => if i = T1.dp.length then b else if i = S.dp.length then a else θ i) := by
      rw [← hT2]
      exact m1.push hS1.inv T1.way.length (some T1.way) (fun i hi => if_neg (by omega)) fun v _ => by rw [if_pos rfl, hw1]; exact hb'
    have ag : ∀ i, i < S.dp.length → (fun i => if i = T1.dp.length then b else if i = S.dp.length then a else θ i) i = θ i := fun i hi => (if_neg (by omega)).trans (if_neg (by omega))
    have ea : (fun i => if i = T1.dp.length then b else if i = S.dp.length then a else θ i) S.dp.length = a := (if_neg (by omega)).trans (if_pos rfl)
    have eb : (fun i => if i = T1.dp.length then b else if i = S.dp.length then a else θ i) T1.dp.length = b := if_pos rfl
    have e3 : ∀ x y : Ty, x = a → y = b → Ty.fn a b = Ty.fn x y := fun x y h1 h2 => by rw [h1, h2]
    refine ⟨_, m2, ag, e3 _ _ ea eb, ?_⟩
    have e1 : cx κ T2 (fun i => if i = T1.dp.length then b else if i = S.dp.length then a else θ i) (.ho S.dp.length :: Γ) = a :: cx κ S θ Γ := by
      rw [← cx_agree hI hS.ext hc.ips hm m2 ag]
      show gi κ T2 _ (.ho S.dp.length) :: _ = _
      have : gi κ T2 (fun i => if i = T1.dp.length then b else if i = S.dp.length then a else θ i) (.ho S.dp.length) = a := ea
      rw [this]; rfl
    have e2 : gi κ T2 (fun i => if i = T1.dp.length then b else if i = S.dp.length then a else θ i) (.ho T1.dp.length) = b := eb
    rw [e1, e2, hw2]; exact h
  refine ⟨_, run, ?_⟩
  rcases ho with ⟨h1, h2⟩ | ⟨S', rfl, h2⟩
  · refine .inl ⟨h1, fun κ θ σ hm h => ?_⟩
    obtain ⟨θ2, m2, _, _, h3⟩ := fwd κ θ σ hm h
    exact h2 κ θ2 m2 h3
  · have hst := hS.trans h2.st
    refine .inr ⟨.fn (.ho S.dp.length) (.ho T1.dp.length), S', rfl, hst.mono (by rw [qw_ho hS2.inv.ok]; omega), ?_, ?_, fun κ θ hm => ?_, fun κ θ σ hm h => ?_⟩
    · have i1 := ipa.stp hS2.inv h2.st
      have i2 := ipb.stp hS2.inv h2.st
      unfold IP; rw [R_fn]; exact ⟨⟨i1.c, i2.c⟩, ⟨i1.f, i2.f⟩, ⟨i1.h, i2.h⟩⟩
    · rw [qw_ff h2.st.inv.ok]; exact Nat.zero_le _
    · have ga := hm.gnd _ _ (h2.st.ext.get hGa)
      have gb := hm.gnd _ _ (h2.st.ext.get hGb)
      have la := h2.st.ext.ho _ _ hGa
      have lb := h2.st.ext.ho _ _ hGb
      have k := h2.snd κ θ hm
      rw [hw2] at k
      exact ⟨_, _, rfl, ga.mono (by omega), gb.mono (by omega), k⟩
    · obtain ⟨θ2, m2, ag, rfl, h3⟩ := fwd κ θ σ hm h
      obtain ⟨θ', m', a'⟩ := h2.cmp κ θ2 m2 h3
      refine ⟨θ', m', ?_, fun i hi => (a' i (hS.lt hI hi)).trans (ag i hi)⟩
      show Ty.fn (θ' S.dp.length) (θ' T1.dp.length) = _
      rw [a' S.dp.length (hS2.inv.lt hGa), a' T1.dp.length (hS2.inv.lt hGb)]
theorem cl_typed {e : Tm} {A : Ty} (hb : ClG e) : ClG (.typed A e) := by
  intro S Γ K X C x hc hx hR
  have hI := hc.inv
  obtain ⟨hk, hty, y, hy, hxy⟩ := hx
  have hok : Ann A ∧ e.ok (Γ.length + 1) := hc.ok
  have hX : K + 15 * (e.size + 1) ≤ X := hc.hX
  have hC := hc.hC
  have hlen : Γ.length + (e.size + 1) < lim := hc.len
  have hs1 : (Tm.typed A e).size * C = e.size * C + C := by show (e.size + 1) * C = _; rw [Nat.add_mul, Nat.one_mul]
  rw [hs1] at hR ⊢
  have hqA := hok.1.1.qwR S.sv
  have hA12 := hok.1.2
  have hk12 := hc.k12
  have hc1 : Ctx S (A :: Γ) e K X C := ⟨hI, IPs.cons (hok.1.1.ip S S.way) hc.ips, hok.2, fun u hu => by
    rcases List.mem_cons.1 hu with rfl | hu
    · omega
    · exact hc.qws u hu, hk12, by omega, hC, by rw [List.length_cons]; omega⟩
  obtain ⟨o, hev, ho⟩ := hb y hc1 hxy (hR.mono (by omega))
  have run : Ev (fun f => Md.gives f (cChk S Γ) x (S.way.length : Int)) ((.mk 3 0 [x.ty, o.1.1], o.1.2), { o.2 with types := (cChk S Γ).types }) := by
    refine Ev.succ (fun f => g_typed hk hy) (Ev.congr (fun f => if_neg (by rw [cChk_len]; omega)) ?_)
    have e0 : ({ cChk S Γ with types := (cChk S Γ).types ++ [x.ty] } : Chk) = cChk S (A :: Γ) := by rw [hty]; exact cChk_cons
    rw [e0]
    exact Ev.bind hev Ev.pure
  have hcA : ∀ {κ : Nat} {S : AS} {θ : Nat → Ty}, cx κ S θ (A :: Γ) = A :: cx κ S θ Γ := fun {κ S θ} => by show gi κ S θ A :: _ = _; rw [hok.1.1.gi]; rfl
  refine ⟨_, run, ?_⟩
  rcases ho with ⟨h1, h2⟩ | ⟨t, S', rfl, h2⟩
  · refine .inl ⟨h1, fun κ θ σ hm h => ?_⟩
    obtain ⟨b, rfl, h⟩ := h
    exact h2 κ θ b hm (by rw [hcA]; exact h)
  · refine .inr ⟨.fn A t, S', by rw [hty]; rfl, h2.st.mono (by omega), ?_, ?_, fun κ θ hm => ?_, fun κ θ σ hm h => ?_⟩
    · have i1 := hok.1.1.ip S' S'.way
      have i2 := h2.ip
      unfold IP; rw [R_fn]; exact ⟨⟨i1.c, i2.c⟩, ⟨i1.f, i2.f⟩, ⟨i1.h, i2.h⟩⟩
    · rw [R_fn]
      have h3 := qw_fnle (R S'.sv A) (R S'.sv t)
      have h4 := hok.1.1.qwR S'.sv
      have h5 := h2.qwb
      show _ ≤ K + 15 * (e.size + 1)
      omega
    · have k := h2.snd κ θ hm
      rw [hcA] at k
      exact ⟨gi κ S' θ t, by show Ty.fn (gi κ S' θ A) _ = _; rw [hok.1.1.gi]; rfl, k⟩
    · obtain ⟨b, rfl, h⟩ := h
      obtain ⟨θ', m', e', a'⟩ := h2.cmp κ θ b hm (by rw [hcA]; exact h)
      exact ⟨θ', m', by show Ty.fn (gi κ S' θ' A) (gi κ S' θ' t) = _; rw [hok.1.1.gi, e'], a'⟩
theorem cl_app {f a : Tm} (hf : ClG f) (ha : ClH a) : ClG (.app f a) := by
  intro S Γ K X C x hc hx hR
  have hI := hc.inv
  obtain ⟨hk, y, z, hy, hfy, haz⟩ := hx
  have hok : f.ok Γ.length ∧ a.ok Γ.length := hc.ok
  have hX : K + 15 * (f.size + a.size + 1) ≤ X := hc.hX
  have hC := hc.hC
  have hlen : Γ.length + (f.size + a.size + 1) < lim := hc.len
  have hk12 := hc.k12
  have hs1 : (Tm.app f a).size * C = f.size * C + a.size * C + C := by show (f.size + a.size + 1) * C = _; rw [Nat.add_mul, Nat.add_mul, Nat.one_mul]
  rw [hs1] at hR ⊢
  obtain ⟨o, hev, ho⟩ := hf y (⟨hI, hc.ips, hok.1, hc.qws, hk12, by omega, hC, by omega⟩ : Ctx S Γ f K X C) hfy (hR.mono (by omega))
  have run : ∀ {G : Nat → Option ((T × Bool) × Chk)} {r : (T × Bool) × Chk}, (∀ n, (if o.1.2 = false then some ((t0, false), o.2) else Md.leads n o.2 o.1.1 z (S.way.length : Int)) = G n) → Ev G r → Ev (fun n => Md.gives n (cChk S Γ) x (S.way.length : Int)) r := fun {G r} e h =>
    Ev.succ (fun n => g_app hk hy) (Ev.bind hev (Ev.congr e h))
  rcases ho with ⟨h1, h2⟩ | ⟨φ, S1, rfl, h2⟩
  · refine ⟨((t0, false), o.2), run (G := fun _ => some ((t0, false), o.2)) (fun n => if_pos h1) Ev.pure, .inl ⟨rfl, fun κ θ σ hm h => ?_⟩⟩
    obtain ⟨φ, h3, _⟩ := h
    exact h2 κ θ φ hm h3
  · have hqf := h2.qwb
    have hI1 := h2.st.inv
    have hc1 : Ctx S1 Γ a (K + 15 * f.size) X C := ⟨hI1, hc.ips.stp hI h2.st, hok.2, fun u hu => by have := qws_stp hI hc.qws h2.st u hu; omega, by omega, by omega, hC, by omega⟩
    obtain ⟨o2, hev2, ho2⟩ := leads_ev ha (qw (R S1.sv φ)) z (nowA S1.sv φ) (by rw [R_now hI1.ok]) hc1 haz (h2.ip.now hI1) hqf (now_now fun i e => now_free hI1.ok e) (h2.st.room hR (by omega))
    rw [h2.st.way] at hev2
    refine ⟨o2, run (fun n => (if_neg (fun h => Bool.noConfusion h))) (Ev.succ (fun n => leads_eq) (Ev.bind (now_ev hI1.ok φ) hev2)), ?_⟩
    have fwd : ∀ κ θ σ, Mod κ S θ → Gv (.app f a) (κ + S.way.length) (cx κ S θ Γ) σ → ∃ θ1, Mod κ S1 θ1 ∧ (∀ i, i < S.dp.length → θ1 i = θ i) ∧ Ld (κ + S1.way.length) (Hs a (κ + S1.way.length) (cx κ S1 θ1 Γ)) (gi κ S1 θ1 (nowA S1.sv φ)) σ := fun κ θ σ hm h => by
      obtain ⟨ψ, h3, h4⟩ := h
      obtain ⟨θ1, m1, e1, a1⟩ := h2.cmp κ θ ψ hm h3
      refine ⟨θ1, m1, a1, ?_⟩
      rw [m1.now hI1, e1, cx_agree hI h2.st.ext hc.ips hm m1 a1, h2.st.way]
      exact h4
    rcases ho2 with ⟨h3, h4⟩ | ⟨t, S2, rfl, h4⟩
    · refine .inl ⟨h3, fun κ θ σ hm h => ?_⟩
      obtain ⟨θ1, m1, _, h5⟩ := fwd κ θ σ hm h
      exact h4 κ θ1 σ m1 h5
    · have hst := h2.st.trans h4.st
      refine .inr ⟨t, S2, rfl, hst.mono (by omega), h4.ip, ?_, fun κ θ hm => ?_, fun κ θ σ hm h => ?_⟩
      · have := h4.qwb
        rw [R_now hI1.ok] at this
        show _ ≤ K + 15 * (f.size + a.size + 1)
        omega
      · have hm1 := hm.back hI1 h4.st.ext
        have k1 := h2.snd κ θ hm1
        have k2 := h4.snd κ θ hm
        rw [gi_ext h4.st.ext (h2.ip.now hI1).frs, hm1.now hI1, h2.st.way] at k2
        rw [cx_back h2.st.ext hc.ips, ← cx_back hst.ext hc.ips] at k1
        exact ⟨_, k1, k2⟩
      · obtain ⟨θ1, m1, ag, h5⟩ := fwd κ θ σ hm h
        obtain ⟨θ', m', e', a'⟩ := h4.cmp κ θ1 σ m1 h5
        exact ⟨θ', m', e', fun i hi => (a' i (h2.st.lt hI hi)).trans (ag i hi)⟩
theorem cl_has {e : Tm} {A : Ty} (hb : ClH e) : ClG (.has e A) := by
  intro S Γ K X C x hc hx hR
  have hI := hc.inv
  obtain ⟨hk, hty, y, hy, hxy⟩ := hx
  have hok : Ann A ∧ e.ok Γ.length := hc.ok
  have hX : K + 15 * (e.size + 1) ≤ X := hc.hX
  have hC := hc.hC
  have hlen : Γ.length + (e.size + 1) < lim := hc.len
  have hs1 : (Tm.has e A).size * C = e.size * C + C := by show (e.size + 1) * C = _; rw [Nat.add_mul, Nat.one_mul]
  rw [hs1] at hR ⊢
  have hqA := hok.1.1.qwR S.sv
  have hA12 := hok.1.2
  have hk12 := hc.k12
  obtain ⟨o, hev, ho⟩ := hb y A (⟨hI, hc.ips, hok.2, hc.qws, hk12, by omega, hC, by omega⟩ : Ctx S Γ e K X C) hxy (hok.1.1.ip S S.way) (by omega) (hR.mono (by omega))
  have run : Ev (fun f => Md.gives f (cChk S Γ) x (S.way.length : Int)) ((x.ty, o.1), o.2) := by
    refine Ev.succ (fun f => g_has hk hy) ?_
    rw [hty]
    exact Ev.bind hev Ev.pure
  refine ⟨_, run, ?_⟩
  rcases ho with ⟨h1, h2⟩ | ⟨S', rfl, h2⟩
  · refine .inl ⟨h1, fun κ θ σ hm h => h2 κ θ hm (by rw [hok.1.1.gi]; exact h.2)⟩
  · refine .inr ⟨A, S', by rw [hty], h2.st.mono (by omega), hok.1.1.ip S' S'.way, ?_, fun κ θ hm => ?_, fun κ θ σ hm h => ?_⟩
    · have h4 := hok.1.1.qwR S'.sv
      show _ ≤ K + 15 * (e.size + 1)
      omega
    · have k := h2.snd κ θ hm
      rw [hok.1.1.gi] at k ⊢
      exact ⟨rfl, k⟩
    · obtain ⟨θ', m', a'⟩ := h2.cmp κ θ hm (by rw [hok.1.1.gi]; exact h.2)
      exact ⟨θ', m', by rw [hok.1.1.gi]; exact h.1.symm, a'⟩
theorem cl : ∀ (e : Tm), ClG e ∧ ClH e
  | .var k => ⟨cl_var k, has_front (base_non rfl (cl_var k))⟩
  | .nat => ⟨cl_nat, has_front (base_non rfl cl_nat)⟩
  | .lam e => ⟨cl_lam (cl e).2, has_front (base_lam (cl e).2)⟩
  | .typed _ e => ⟨cl_typed (cl e).1, has_front (base_non rfl (cl_typed (cl e).1))⟩
  | .app f a => ⟨cl_app (cl f).1 (cl a).2, has_front (base_non rfl (cl_app (cl f).1 (cl a).2))⟩
  | .has e _ => ⟨cl_has (cl e).2, has_front (base_non rfl (cl_has (cl e).2))⟩
/-! ### right terms -/
def IsR : Tm → E → Prop
  | .var k, e => e = .mk 1 (k : Int) [] t0
  | .nat, e => ∃ n : Int, (0 ≤ n ∧ n ≤ 1000) ∧ e = .mk 2 n [] t0
  | .lam b, e => ∃ x, e = .mk 3 0 [x] t0 ∧ IsR b x
  | .typed A b, e => ∃ x, e = .mk 4 0 [x] (toT A) ∧ IsR b x
  | .app f a, e => ∃ x y, e = .mk 5 0 [x, y] t0 ∧ IsR f x ∧ IsR a y
  | .has b A, e => ∃ x, e = .mk 6 0 [x] (toT A) ∧ IsR b x
theorem IsR.isE : ∀ {m : Tm} {e : E}, IsR m e → IsE m e
  | .var k, e, h => by rw [show e = .mk 1 (k : Int) [] t0 from h]; exact ⟨rfl, rfl⟩
  | .nat, e, h => by obtain ⟨n, _, rfl⟩ := h; exact rfl
  | .lam b, e, h => by obtain ⟨x, rfl, h⟩ := h; exact ⟨rfl, x, rfl, h.isE⟩
  | .typed A b, e, h => by obtain ⟨x, rfl, h⟩ := h; exact ⟨rfl, rfl, x, rfl, h.isE⟩
  | .app f a, e, h => by obtain ⟨x, y, rfl, h1, h2⟩ := h; exact ⟨rfl, x, y, rfl, h1.isE, h2.isE⟩
  | .has b A, e, h => by obtain ⟨x, rfl, h⟩ := h; exact ⟨rfl, rfl, x, rfl, h.isE⟩
theorem ann_right {A : Ty} (h : Ann A) : Md.right (toT A) 0 = 0 := by
  obtain ⟨r1, r2⟩ := ct_rgt h.1
  exact rgt_right (Int.le_refl _) (by decide) (by have := h.2; omega) r1
theorem annotated_no : annotated t0 false = 0 := by decide
theorem annotated_ty {A : Ty} (h : Ann A) : annotated (toT A) true = 0 := ann_right h
theorem good_step {k num vars many : Int} {ks : List E} {ty : T} (hm : many ≠ 20) (h2 : ¬ (k < 1 ∨ k > 6 ∨ num < 0 ∨ num > 1073741824 ∨ (num > 0 ∧ k > 2))) (h3 : ks.length = needKids k) (h4 : annotated ty (typed k) = 0) (h5 : ¬ (k = 1 ∧ num ≥ vars)) :
    goodE (.mk k num ks ty) vars many = goodL ks (if binds k then w64 (vars + 1) else vars) (w64 (many + 1)) := by
  unfold goodE
  rw [if_neg hm, if_neg h2, if_neg (fun h => h h3), if_neg (fun h => h h4), if_neg h5]
theorem goodL1 {x : E} {v m : Int} {r : Int × Int} (h : goodE x v m = r) (h0 : r.1 = 0) : goodL [x] v m = r := by
  unfold goodL; dsimp only
  rw [h, if_pos h0]; unfold goodL; obtain ⟨a, b⟩ := r; simp only at h0; rw [h0]
theorem goodL2 {x y : E} {v m : Int} {r r2 : Int × Int} (h : goodE x v m = r) (h0 : r.1 = 0) (h2 : goodE y v r.2 = r2) (h20 : r2.1 = 0) : goodL [x, y] v m = r2 := by
  unfold goodL; dsimp only
  rw [h, if_pos h0]; exact goodL1 h2 h20
theorem good_tm : ∀ {m : Tm} {e : E} {n : Nat} {many : Int}, IsR m e → m.ok n → 0 ≤ many → many + (m.size : Int) ≤ 20 → n + m.size ≤ 1000 → goodE e (n : Int) many = (0, many + (m.size : Int))
  | .var k, e, n, many, h, hk, h0, h1, hn => by
    rw [show e = .mk 1 (k : Int) [] t0 from h]
    have hk : k < n := hk
    have h1 : many + ((1 : Nat) : Int) ≤ 20 := h1
    rw [good_step (by omega) (by omega) rfl annotated_no (by omega)]
    unfold goodL
    rw [w64_id (by omega) (by omega)]; rfl
  | .nat, e, n, many, h, hk, h0, h1, hn => by
    obtain ⟨i, hi, rfl⟩ := h
    have h1 : many + ((1 : Nat) : Int) ≤ 20 := h1
    rw [good_step (by omega) (by omega) rfl annotated_no (by omega)]
    unfold goodL
    rw [w64_id (by omega) (by omega)]; rfl
  | .lam b, e, n, many, h, hk, h0, h1, hn => by
    obtain ⟨x, rfl, hx⟩ := h
    have h1 : many + ((b.size + 1 : Nat) : Int) ≤ 20 := h1
    have hsz : (Tm.lam b).size = b.size + 1 := rfl
    have ih := good_tm (m := b) (n := n + 1) (many := many + 1) hx hk (by omega) (by omega) (by omega)
    rw [good_step (by omega) (by omega) rfl annotated_no (by omega), show binds 3 = true from rfl, if_pos rfl, w64_id (by omega) (by omega), w64_id (by omega) (by omega)]
    refine (goodL1 (r := (0, many + ((b.size + 1 : Nat) : Int))) ?_ rfl)
    rw [show ((n : Int) + 1) = ((n + 1 : Nat) : Int) by omega, ih]; congr 1; omega
  | .typed A b, e, n, many, h, hk, h0, h1, hn => by
    obtain ⟨x, rfl, hx⟩ := h
    have h1 : many + ((b.size + 1 : Nat) : Int) ≤ 20 := h1
    have hsz : (Tm.typed A b).size = b.size + 1 := rfl
    have ih := good_tm (m := b) (n := n + 1) (many := many + 1) hx hk.2 (by omega) (by omega) (by omega)
    rw [good_step (by omega) (by omega) rfl (annotated_ty hk.1) (by omega), show binds 4 = true from rfl, if_pos rfl, w64_id (by omega) (by omega), w64_id (by omega) (by omega)]
    refine (goodL1 (r := (0, many + ((b.size + 1 : Nat) : Int))) ?_ rfl)
    rw [show ((n : Int) + 1) = ((n + 1 : Nat) : Int) by omega, ih]; congr 1; omega
  | .app f a, e, n, many, h, hk, h0, h1, hn => by
    obtain ⟨x, y, rfl, hx, hy⟩ := h
    have h1 : many + ((f.size + a.size + 1 : Nat) : Int) ≤ 20 := h1
    have hsz : (Tm.app f a).size = f.size + a.size + 1 := rfl
    have ih1 := good_tm (m := f) (n := n) (many := many + 1) hx hk.1 (by omega) (by omega) (by omega)
    have ih2 := good_tm (m := a) (n := n) (many := many + 1 + (f.size : Int)) hy hk.2 (by omega) (by omega) (by omega)
    rw [good_step (by omega) (by omega) rfl annotated_no (by omega), show binds 5 = false from rfl, if_neg (by decide), w64_id (by omega) (by omega)]
    refine goodL2 ih1 rfl (r2 := (0, many + ((f.size + a.size + 1 : Nat) : Int))) ?_ rfl
    rw [ih2]; congr 1; omega
  | .has b A, e, n, many, h, hk, h0, h1, hn => by
    obtain ⟨x, rfl, hx⟩ := h
    have h1 : many + ((b.size + 1 : Nat) : Int) ≤ 20 := h1
    have hsz : (Tm.has b A).size = b.size + 1 := rfl
    have ih := good_tm (m := b) (n := n) (many := many + 1) hx hk.2 (by omega) (by omega) (by omega)
    rw [good_step (by omega) (by omega) rfl (annotated_ty hk.1) (by omega), show binds 6 = false from rfl, if_neg (by decide), w64_id (by omega) (by omega)]
    refine (goodL1 (r := (0, many + ((b.size + 1 : Nat) : Int))) ?_ rfl)
    rw [ih]; congr 1; omega
/-- types of free variables -/
def Tys (Γ : List Ty) : Prop := Γ.length ≤ 6 ∧ ∀ t ∈ Γ, Ann t
theorem closed_tys : ∀ {Γ : List Ty}, (∀ t ∈ Γ, Ann t) → Md.closed (Γ.map toT) = 0
  | [], _ => rfl
  | t :: Γ, h => by
    rw [List.map_cons]; unfold Md.closed
    rw [if_pos (ann_right (h t (List.mem_cons_self ..)))]
    exact closed_tys fun u hu => h u (List.mem_cons_of_mem _ hu)
theorem Good_tm {Γ : List Ty} {m : Tm} {e : E} (hΓ : Tys Γ) (hm : IsR m e) (hk : m.ok Γ.length) (hs : m.size ≤ 20) : Md.Good (Γ.map toT) e = 0 := by
  unfold Md.Good
  have hl := hΓ.1
  rw [List.length_map, if_neg (by omega), closed_tys hΓ.2, if_neg (by decide), good_tm hm hk (Int.le_refl _) (by omega) (by omega)]

/-! ### the solver, from nothing -/
theorem chk_eq (Γ : List Ty) : chk (Γ.map toT) = cChk S0 Γ := rfl
theorem top_ctx {Γ : List Ty} {m : Tm} (hΓ : Tys Γ) (hk : m.ok Γ.length) (hs : m.size ≤ 20) : Ctx S0 Γ m 12 312 1876 :=
  ⟨S0_inv, fun t ht => (hΓ.2 t ht).1.ip S0 _, hk, fun t ht => Nat.le_trans ((hΓ.2 t ht).1.qwR _) (hΓ.2 t ht).2, Nat.le_refl _, by omega, rfl, by have := hΓ.1; have hlim : lim = 1099511627776 := rfl; omega⟩
theorem S0_room {n : Nat} (h : n < lim) : Rm S0 n := ⟨by show 0 + n < lim; omega, by show 0 + n < lim; omega, by show 0 + n < lim; omega⟩
theorem cx_tys {κ : Nat} {S : AS} {θ : Nat → Ty} {Γ : List Ty} (hΓ : Tys Γ) : cx κ S θ Γ = Γ := by
  unfold cx
  have : Γ.map (gi κ S θ) = Γ.map id := List.map_congr_left fun t ht => (hΓ.2 t ht).1.gi
  rw [this, List.map_id]
theorem top_gives {Γ : List Ty} {m : Tm} {e : E} (hΓ : Tys Γ) (hm : IsR m e) (hk : m.ok Γ.length) (hs : m.size ≤ 20) :
    ∃ o, Ev (fun f => Md.gives f (cChk S0 Γ) e 0) o ∧ ReG S0 Γ m 12 (m.size * 1876) o :=
  (cl m).1 e (top_ctx hΓ hk hs) hm.isE (S0_room (by
    have hlim : lim = 1099511627776 := rfl
    have : m.size * 1876 ≤ 20 * 1876 := Nat.mul_le_mul_right _ hs
    omega))
theorem top_has {Γ : List Ty} {m : Tm} {e : E} {y : Ty} (hΓ : Tys Γ) (hm : IsR m e) (hk : m.ok Γ.length) (hs : m.size ≤ 20) (hy : Ann y) :
    ∃ o, Ev (fun f => Md.has f (cChk S0 Γ) e (toT y) 0) o ∧ (o.1 = true ↔ Hs m 0 Γ y) ∧ (o.1 = true → ∃ S', o = (true, cChk S' Γ) ∧ Inv S') := by
  have hq : qw (R S0.sv y) ≤ 12 := Nat.le_trans (hy.1.qwR _) hy.2
  obtain ⟨o, hev, ho⟩ := (cl m).2 (S := S0) e y (top_ctx hΓ hk hs) hm.isE (hy.1.ip S0 _) hq (S0_room (by
    have hlim : lim = 1099511627776 := rfl
    have : m.size * 1876 ≤ 20 * 1876 := Nat.mul_le_mul_right _ hs
    omega))
  refine ⟨o, hev, ?_⟩
  rcases ho with ⟨h1, h2⟩ | ⟨S', rfl, h2⟩
  · refine ⟨⟨fun h => (by rw [h1] at h; cases h), fun h => (h2 0 (fun _ => .nat) (S0_mod _ _) (by rw [cx_tys hΓ, hy.1.gi]; exact h)).elim⟩, fun h => by rw [h1] at h; cases h⟩
  · refine ⟨⟨fun _ => ?_, fun _ => rfl⟩, fun _ => ⟨S', rfl, h2.st.inv⟩⟩
    have := h2.snd 0 _ (Mod.dflt h2.st.inv)
    rw [cx_tys hΓ, hy.1.gi] at this
    exact this

/-! ### numbers of holes -/
def nb : List (Nat × Nat) → Ty → List (Nat × Nat)
  | hs, .fn a b => nb (nb hs a) b
  | hs, .all a => nb hs a
  | hs, .ho i => if (hs.lookup i).isNone then hs ++ [(i, hs.length)] else hs
  | hs, _ => hs
theorem numbered_eq {f : Nat} {sv : List (Int × T)} {t : T} {hs : List (Int × Int)} {many : Int} : Md.numbered (f + 1) sv t hs many = (Md.now f sv t).bind fun t =>
      Md.numberedL f sv t.kids (if t.kind = 6 ∧ (lkp hs t.num).isNone then hs ++ [(t.num, (hs.length : Int))] else hs) (w64 (many + 1)) := by rw [Md.numbered]
theorem numberedL_nil {f : Nat} {sv : List (Int × T)} {hs : List (Int × Int)} {many : Int} : Md.numberedL (f + 1) sv [] hs many = some (hs, many) := by rw [Md.numberedL]
theorem numberedL_cons {f : Nat} {sv : List (Int × T)} {k : T} {ks : List T} {hs : List (Int × Int)} {many : Int} : Md.numberedL (f + 1) sv (k :: ks) hs many = if many > 200 then some (hs, many) else (Md.numbered f sv k hs many).bind fun r => Md.numberedL f sv ks r.1 r.2 := by rw [Md.numberedL]
structure NbR (hs : List (Nat × Nat)) (many : Nat) (t : Ty) (hs' : List (Nat × Nat)) (many' : Nat) : Prop where
  lt : many < many'
  le : many' ≤ 201
  len : hs'.length + many ≤ hs.length + many'
  full : many' ≤ 200 → many' = many + sz t ∧ hs' = nb hs t
  up : many' ≤ many + sz t
theorem chs_len (hs : List (Nat × Nat)) : (chs hs).length = hs.length := by simp [chs]
theorem numbered_ev {sv : List (Nat × Ty)} (hok : Ok sv) : ∀ (z : Nat) (t : Ty) (hs : List (Nat × Nat)) (many : Nat), Ty.sz (R sv t) ≤ z → many ≤ 200 → ∃ (hs' : List (Nat × Nat)) (many' : Nat), Ev (fun f => Md.numbered f (csv sv) (toT t) (chs hs) (many : Int)) (chs hs', (many' : Int)) ∧ NbR hs many (R sv t) hs' many' := by
  intro z
  induction z with
  | zero => intro t hs many hz; exfalso; revert hz; cases R sv t <;> simp [Ty.sz]
  | succ z ih =>
    intro t hs many hz hm
    have hnow := now_ev hok t
    rw [R_head hok t] at hz ⊢
    have hfree : ∀ i, nowA sv t = .ho i → i ∉ dom sv := fun i e => now_free hok e
    have hw : w64 ((many : Int) + 1) = ((many + 1 : Nat) : Int) := by rw [w64_id (by omega) (by omega)]; omega
    -- a kid, or the end
    have kid : ∀ (k : Ty) (ks : List T) (hs1 : List (Nat × Nat)) (m1 : Nat), Ty.sz (R sv k) ≤ z → m1 ≤ 200 → ∃ (hs2 : List (Nat × Nat)) (m2 : Nat), NbR hs1 m1 (R sv k) hs2 m2 ∧ ∀ r, Ev (fun f => Md.numberedL f (csv sv) ks (chs hs2) (m2 : Int)) r → Ev (fun f => Md.numberedL f (csv sv) (toT k :: ks) (chs hs1) (m1 : Int)) r := fun k ks hs1 m1 hk hm1 => by
      obtain ⟨hs2, m2, h1, h2⟩ := ih k hs1 m1 hk hm1
      exact ⟨hs2, m2, h2, fun r hr => Ev.succ (fun f => numberedL_cons) (Ev.congr (fun f => if_neg (by omega)) (Ev.bind h1 hr))⟩
    have fin : ∀ (hs1 : List (Nat × Nat)) (m1 : Nat), Ev (fun f => Md.numberedL f (csv sv) [] (chs hs1) (m1 : Int)) (chs hs1, (m1 : Int)) := fun hs1 m1 => Ev.succ (fun f => numberedL_nil) Ev.pure
    have over : ∀ (k : T) (ks : List T) (hs1 : List (Nat × Nat)) (m1 : Nat), 200 < m1 → Ev (fun f => Md.numberedL f (csv sv) (k :: ks) (chs hs1) (m1 : Int)) (chs hs1, (m1 : Int)) := fun k ks hs1 m1 h => Ev.succ (fun f => numberedL_cons) (Ev.congr (fun f => if_pos (by omega)) Ev.pure)
    -- a node without Kids
    have leaf : ∀ (u : Ty), toT (nowA sv t) = toT u → (toT u).kids = [] → (∀ i, u ≠ .ho i) → (toT u).kind ≠ 6 → R sv (nowA sv t) = u → sz u = 1 → nb hs u = hs → ∃ (hs' : List (Nat × Nat)) (many' : Nat), Ev (fun f => Md.numbered f (csv sv) (toT t) (chs hs) (many : Int)) (chs hs', (many' : Int)) ∧ NbR hs many (R sv (nowA sv t)) hs' many' := fun u e1 e2 _ e4 e5 e6 e7 => by
      refine ⟨hs, many + 1, Ev.succ (fun f => numbered_eq) (Ev.bind hnow ?_), ?_⟩
      · rw [e1, e2, if_neg (fun h => e4 h.1), hw]
        exact fin hs (many + 1)
      · rw [e5]; exact ⟨by omega, by omega, by omega, fun _ => ⟨by rw [e6], e7.symm⟩, by rw [e6]; exact Nat.le_refl _⟩
    cases e : nowA sv t with
    | nat => rw [e] at leaf; exact leaf .nat rfl rfl (fun i h => by cases h) (by decide) R_nat rfl rfl
    | fr i => rw [e] at leaf; exact leaf (.fr i) rfl rfl (fun i h => by cases h) (by show (5 : Int) ≠ 6; decide) R_fr rfl rfl
    | var i => rw [e] at leaf; exact leaf (.var i) rfl rfl (fun i h => by cases h) (by show (1 : Int) ≠ 6; decide) R_var rfl rfl
    | ho i =>
      rw [e] at hnow
      rw [R_free (hfree i e)]
      have hl : lkp (chs hs) (i : Int) = (hs.lookup i).map fun (n : Nat) => (n : Int) := lkp_chs hs i
      cases hlk : hs.lookup i with
      | none =>
        refine ⟨hs ++ [(i, hs.length)], many + 1, Ev.succ (fun f => numbered_eq) (Ev.bind hnow ?_), by omega, by omega, by rw [List.length_append]; simp; omega, fun _ => ⟨rfl, by simp [nb, hlk]⟩, Nat.le_refl _⟩
        have e1 : (if (toT (.ho i)).kind = 6 ∧ (lkp (chs hs) (toT (.ho i)).num).isNone then chs hs ++ [((toT (.ho i)).num, ((chs hs).length : Int))] else chs hs) = chs (hs ++ [(i, hs.length)]) := by
          rw [if_pos ⟨rfl, by show (lkp (chs hs) (i : Int)).isNone = true; rw [hl, hlk]; rfl⟩]
          simp [chs]
        rw [e1, hw]
        exact fin _ _
      | some n =>
        refine ⟨hs, many + 1, Ev.succ (fun f => numbered_eq) (Ev.bind hnow ?_), by omega, by omega, by omega, fun _ => ⟨rfl, by simp [nb, hlk]⟩, Nat.le_refl _⟩
        have e1 : (if (toT (.ho i)).kind = 6 ∧ (lkp (chs hs) (toT (.ho i)).num).isNone then chs hs ++ [((toT (.ho i)).num, ((chs hs).length : Int))] else chs hs) = chs hs := by
          refine if_neg fun h => ?_
          have h2 : (lkp (chs hs) (i : Int)).isNone = true := h.2
          rw [hl, hlk] at h2; cases h2
        rw [e1, hw]
        exact fin _ _
    | all a =>
      rw [e] at hz hnow; rw [R_all] at hz ⊢; simp only [Ty.sz] at hz
      by_cases h : many + 1 ≤ 200
      · obtain ⟨hs2, m2, h2, hrun⟩ := kid a [] hs (many + 1) (by omega) h
        refine ⟨hs2, m2, Ev.succ (fun f => numbered_eq) (Ev.bind hnow ?_), by have := h2.lt; omega, h2.le, by have := h2.len; omega, fun hm2 => ?_, by have := h2.up; simp only [sz]; omega⟩
        · rw [if_neg (fun h => absurd h.1 (by show ¬ (4 : Int) = 6; decide)), hw]
          exact hrun _ (fin _ _)
        · obtain ⟨x, y⟩ := h2.full hm2
          exact ⟨by simp only [sz]; omega, y⟩
      · refine ⟨hs, many + 1, Ev.succ (fun f => numbered_eq) (Ev.bind hnow ?_), by omega, by omega, by omega, fun hm2 => by omega, by simp only [sz]; omega⟩
        rw [if_neg (fun h => absurd h.1 (by show ¬ (4 : Int) = 6; decide)), hw]
        exact over _ _ _ _ (by omega)
    | fn a b =>
      rw [e] at hz hnow; rw [R_fn] at hz ⊢; simp only [Ty.sz] at hz
      by_cases h : many + 1 ≤ 200
      · obtain ⟨hs2, m2, h2, hrun⟩ := kid a [toT b] hs (many + 1) (by omega) h
        by_cases h3 : m2 ≤ 200
        · obtain ⟨hs3, m3, h4, hrun2⟩ := kid b [] hs2 m2 (by omega) h3
          refine ⟨hs3, m3, Ev.succ (fun f => numbered_eq) (Ev.bind hnow ?_), by have := h2.lt; have := h4.lt; omega, h4.le, by have := h2.len; have := h4.len; omega, fun hm3 => ?_, by have := h2.up; have := h4.up; simp only [sz]; omega⟩
          · rw [if_neg (fun h => absurd h.1 (by show ¬ (3 : Int) = 6; decide)), hw]
            exact hrun _ (hrun2 _ (fin _ _))
          · obtain ⟨x, y⟩ := h2.full h3
            obtain ⟨x2, y2⟩ := h4.full hm3
            exact ⟨by simp only [sz]; omega, by rw [y2, y]; rfl⟩
        · refine ⟨hs2, m2, Ev.succ (fun f => numbered_eq) (Ev.bind hnow ?_), by have := h2.lt; omega, h2.le, by have := h2.len; omega, fun hm2 => by omega, by have := h2.up; simp only [sz]; omega⟩
          rw [if_neg (fun h => absurd h.1 (by show ¬ (3 : Int) = 6; decide)), hw]
          exact hrun _ (over _ _ _ _ (by omega))
      · refine ⟨hs, many + 1, Ev.succ (fun f => numbered_eq) (Ev.bind hnow ?_), by omega, by omega, by omega, fun hm2 => by omega, by simp only [sz]; omega⟩
        rw [if_neg (fun h => absurd h.1 (by show ¬ (3 : Int) = 6; decide)), hw]
        exact over _ _ _ _ (by omega)
/-- numbers of holes: each below how many there are, no two the same -/
structure NbOk (hs : List (Nat × Nat)) : Prop where
  lt : ∀ i n, hs.lookup i = some n → n < hs.length
  inj : ∀ i j n, hs.lookup i = some n → hs.lookup j = some n → i = j
theorem lookup_snoc : ∀ (hs : List (Nat × Nat)) (i n j : Nat), (hs ++ [(i, n)]).lookup j = (hs.lookup j).or (if j = i then some n else none)
  | [], i, n, j => by
    show (match j == i with | true => some n | false => none) = _
    by_cases e : j = i
    · subst e; simp
    · rw [show (j == i) = false by simpa using e, if_neg e]; rfl
  | (k, v) :: hs, i, n, j => by
    show (match j == k with | true => some v | false => (hs ++ [(i, n)]).lookup j) = (match j == k with | true => some v | false => hs.lookup j).or _
    cases j == k
    · exact lookup_snoc hs i n j
    · rfl
theorem nb_mono : ∀ (t : Ty) (hs : List (Nat × Nat)) (i n : Nat), hs.lookup i = some n → (nb hs t).lookup i = some n
  | .fn a b, hs, i, n, h => nb_mono b _ i n (nb_mono a hs i n h)
  | .all a, hs, i, n, h => nb_mono a hs i n h
  | .ho j, hs, i, n, h => by
    simp only [nb]
    split
    · rw [lookup_snoc, h]; rfl
    · exact h
  | .var _, _, _, _, h => h
  | .nat, _, _, _, h => h
  | .fr _, _, _, _, h => h
theorem nb_ok : ∀ (t : Ty) (hs : List (Nat × Nat)), NbOk hs → NbOk (nb hs t)
  | .fn a b, hs, h => nb_ok b _ (nb_ok a hs h)
  | .all a, hs, h => nb_ok a hs h
  | .ho j, hs, h => by
    simp only [nb]
    split
    · rename_i hn
      have hn : hs.lookup j = none := by simpa using hn
      constructor
      · intro i n hi
        rw [lookup_snoc] at hi
        rw [List.length_append]
        cases e : hs.lookup i with
        | some m => rw [e] at hi; cases hi; have := h.lt i n e; omega
        | none =>
          rw [e] at hi
          by_cases e2 : i = j
          · rw [if_pos e2] at hi; cases hi; simp
          · rw [if_neg e2] at hi; cases hi
      · intro i k n hi hk
        rw [lookup_snoc] at hi hk
        cases e : hs.lookup i with
        | some m =>
          rw [e] at hi; cases hi
          cases e2 : hs.lookup k with
          | some m2 => rw [e2] at hk; cases hk; exact h.inj i k n e e2
          | none =>
            rw [e2] at hk
            by_cases e3 : k = j
            · rw [if_pos e3] at hk; cases hk; have := h.lt i _ e; omega
            · rw [if_neg e3] at hk; cases hk
        | none =>
          rw [e] at hi
          by_cases e3 : i = j
          · rw [if_pos e3] at hi; cases hi
            cases e2 : hs.lookup k with
            | some m2 => rw [e2] at hk; cases hk; have := h.lt k _ e2; omega
            | none =>
              rw [e2] at hk
              by_cases e4 : k = j
              · rw [e3, e4]
              · rw [if_neg e4] at hk; cases hk
          · rw [if_neg e3] at hi; cases hi
    · exact h
  | .var _, _, h => h
  | .nat, _, h => h
  | .fr _, _, h => h
theorem nb_all : ∀ (t : Ty) (hs : List (Nat × Nat)), allH (fun i => ∃ n, (nb hs t).lookup i = some n) t
  | .fn a b, hs => ⟨(nb_all a hs).mono fun i ⟨n, h⟩ => ⟨n, nb_mono b _ i n h⟩, nb_all b _⟩
  | .all a, hs => nb_all a hs
  | .ho j, hs => by
    show ∃ n, (nb hs (.ho j)).lookup j = some n
    simp only [nb]
    split
    · rename_i hn
      have hn : hs.lookup j = none := by simpa using hn
      exact ⟨hs.length, by rw [lookup_snoc, hn, if_pos rfl]; rfl⟩
    · rename_i hn
      cases e : hs.lookup j with
      | none => rw [e] at hn; exact absurd rfl hn
      | some n => exact ⟨n, rfl⟩
  | .var _, _ => trivial
  | .nat, _ => trivial
  | .fr _, _ => trivial

/-! ### quantifiers in front -/
def alls : Nat → Ty → Ty
  | 0, t => t
  | n + 1, t => .all (alls n t)
theorem alls_all : ∀ (n : Nat) (t : Ty), alls n (.all t) = .all (alls n t)
  | 0, _ => rfl
  | n + 1, t => by show Ty.all (alls n (.all t)) = _; rw [alls_all n t]; rfl
theorem wrap_alls : ∀ (n : Nat) (t : Ty), wrapAll n (toT t) = toT (alls n t)
  | 0, _ => rfl
  | n + 1, t => by show wrapAll n (toT (.all t)) = _; rw [wrap_alls n (.all t), alls_all]; rfl
theorem put_alls {u : Ty} : ∀ (n : Nat) (t : Ty) (d : Nat), Ty.put u d (alls n t) = alls n (Ty.put u (d + n) t)
  | 0, _, _ => rfl
  | n + 1, t, d => by
    show Ty.all (Ty.put u (d + 1) (alls n t)) = Ty.all (alls n (Ty.put u (d + (n + 1)) t))
    rw [put_alls n t (d + 1), show d + 1 + n = d + (n + 1) by omega]
theorem sz_alls : ∀ (n : Nat) (t : Ty), sz (alls n t) = sz t + n
  | 0, _ => rfl
  | n + 1, t => by show sz (alls n t) + 1 = _; rw [sz_alls n t]; omega
theorem lc_alls {t : Ty} : ∀ (n d : Nat), lc (d + n) t → lc d (alls n t)
  | 0, _, h => h
  | n + 1, d, h => lc_alls n (d + 1) (by rw [show d + 1 + n = d + (n + 1) by omega]; exact h)
theorem CT.alls {t : Ty} {n : Nat} (h : CT n t) : CT 0 (alls n t) := by
  refine ⟨lc_alls n 0 (by rw [Nat.zero_add]; exact h.c), ?_, ?_⟩
  · have h2 := h.f
    clear h
    induction n with
    | zero => exact h2
    | succ n ih => exact ih
  · have h2 := h.h
    clear h
    induction n with
    | zero => exact h2
    | succ n ih => exact ih
/-- the first j holes as types, the others as variables of the quantifiers that are left -/
def wj (hs : List (Nat × Nat)) (τ : Nat → Ty) (j : Nat) : Nat → Ty → Ty
  | d, .ho i => match hs.lookup i with | some n => if n < j then τ n else .var (d + hs.length - 1 - n) | none => .nat
  | d, .fn a b => .fn (wj hs τ j d a) (wj hs τ j d b)
  | d, .all a => .all (wj hs τ j (d + 1) a)
  | _, .var n => .var n
  | _, .nat => .nat
  | _, .fr n => .fr n
theorem wj_put {hs : List (Nat × Nat)} (hok : NbOk hs) {τ : Nat → Ty} (hτ : ∀ n, lc 0 (τ n)) {j : Nat} (hj : j < hs.length) : ∀ (t : Ty) (d : Nat), lc d t → Ty.put (τ j) (d + (hs.length - 1 - j)) (wj hs τ j d t) = wj hs τ (j + 1) d t
  | .fn a b, d, h => by
    show Ty.fn (Ty.put _ _ (wj hs τ j d a)) (Ty.put _ _ (wj hs τ j d b)) = Ty.fn _ _
    rw [wj_put hok hτ hj a d h.1, wj_put hok hτ hj b d h.2]
  | .all a, d, h => by
    show Ty.all (Ty.put _ (d + (hs.length - 1 - j) + 1) (wj hs τ j (d + 1) a)) = Ty.all _
    rw [show d + (hs.length - 1 - j) + 1 = d + 1 + (hs.length - 1 - j) by omega, wj_put hok hτ hj a (d + 1) h]
  | .ho i, d, _ => by
    simp only [wj]
    cases e : hs.lookup i with
    | none => rfl
    | some n =>
      have hn := hok.lt i n e
      by_cases h1 : n < j
      · simp only [h1, if_true, show n < j + 1 from by omega]; exact put_lc (hτ n) (Nat.zero_le _)
      · by_cases h2 : n = j
        · subst h2
          simp only [Nat.lt_irrefl, if_false, show n < n + 1 from by omega, if_true]
          show (if d + hs.length - 1 - n = d + (hs.length - 1 - n) then τ n else _) = _
          rw [if_pos (by omega)]
        · simp only [h1, if_false, show ¬ n < j + 1 from by omega]
          show (if d + hs.length - 1 - n = d + (hs.length - 1 - j) then τ j else _) = _
          rw [if_neg (by omega)]
  | .var m, d, h => by
    have h : m < d := h
    show (if m = d + (hs.length - 1 - j) then τ j else _) = _
    rw [if_neg (by omega)]; rfl
  | .nat, _, _ => rfl
  | .fr _, _, _ => rfl
theorem wj_last {hs : List (Nat × Nat)} (hok : NbOk hs) {τ : Nat → Ty} {φ θ : Nat → Ty} : ∀ (t : Ty) (d : Nat), allF (fun _ => False) t → allH (fun i => ∃ n, hs.lookup i = some n ∧ θ i = τ n) t → wj hs τ hs.length d t = inst φ θ t
  | .fn a b, d, h, g => by show Ty.fn _ _ = Ty.fn _ _; rw [wj_last hok a d h.1 g.1, wj_last hok b d h.2 g.2]
  | .all a, d, h, g => by show Ty.all _ = Ty.all _; rw [wj_last hok a (d + 1) h g]
  | .ho i, d, _, g => by
    obtain ⟨n, h1, h2⟩ : ∃ n, hs.lookup i = some n ∧ θ i = τ n := g
    show (match hs.lookup i with | some n => if n < hs.length then τ n else .var (d + hs.length - 1 - n) | none => .nat) = θ i
    rw [h1]
    show (if n < hs.length then τ n else _) = _
    rw [if_pos (hok.lt i n h1), h2]
  | .var _, _, _, _ => rfl
  | .nat, _, _, _ => rfl
  | .fr _, _, h, _ => h.elim
theorem wj_wr {S : AS} {hs : List (Nat × Nat)} {τ : Nat → Ty} : ∀ (t : Ty) (d : Nat), allF (fun _ => False) t → wj hs τ 0 d t = wr S hs d t
  | .fn a b, d, h => by show Ty.fn _ _ = Ty.fn _ _; rw [wj_wr a d h.1, wj_wr b d h.2]
  | .all a, d, h => by show Ty.all _ = Ty.all _; rw [wj_wr a (d + 1) h]
  | .ho i, d, _ => by
    simp only [wj, wr]
    cases hs.lookup i <;> rfl
  | .var _, _, _ => rfl
  | .nat, _, _ => rfl
  | .fr _, _, h => h.elim
theorem alls_step {hs : List (Nat × Nat)} (hok : NbOk hs) {τ : Nat → Ty} (hτ : ∀ n, lc 0 (τ n)) {j : Nat} (hj : j < hs.length) {t : Ty} (ht : lc 0 t) :
    alls (hs.length - j) (wj hs τ j 0 t) = .all (alls (hs.length - 1 - j) (wj hs τ j 0 t)) ∧ Ty.put (τ j) 0 (alls (hs.length - 1 - j) (wj hs τ j 0 t)) = alls (hs.length - (j + 1)) (wj hs τ (j + 1) 0 t) := by
  constructor
  · rw [show hs.length - j = hs.length - 1 - j + 1 by omega]; rfl
  · rw [put_alls, wj_put hok hτ hj t 0 ht, show hs.length - 1 - j = hs.length - (j + 1) by omega]
/-- the quantifiers opened -/
theorem alls_sub {hs : List (Nat × Nat)} (hok : NbOk hs) {m : Nat} {τ : Nat → Ty} (hτ : ∀ n, Gnd m (τ n)) {t b : Ty} (ht : lc 0 t) (h : SubE m (wj hs τ hs.length 0 t) b) : ∀ (k j : Nat), j + k = hs.length → SubE m (alls (hs.length - j) (wj hs τ j 0 t)) b
  | 0, j, hj => by
    have : j = hs.length := by omega
    subst this; rw [Nat.sub_self]; exact h
  | k + 1, j, hj => by
    obtain ⟨e1, e2⟩ := alls_step hok (fun n => (hτ n).c) (j := j) (by omega) ht
    rw [e1]
    refine SubE.left (hτ j) _ (Nat.le_refl _) ?_
    rw [e2]; exact alls_sub hok hτ ht h k (j + 1) (by omega)
/-- the quantifiers opened with new variables -/
theorem alls_fr {P : Nat → Ty → Prop} {hs : List (Nat × Nat)} (hok : NbOk hs) {t : Ty} (ht : lc 0 t) (h : Fr P hs.length (wj hs Ty.fr hs.length 0 t)) : ∀ (k j : Nat), j + k = hs.length → Fr P j (alls (hs.length - j) (wj hs Ty.fr j 0 t))
  | 0, j, hj => by
    have : j = hs.length := by omega
    subst this; rw [Nat.sub_self]; exact h
  | k + 1, j, hj => by
    obtain ⟨e1, e2⟩ := alls_step hok (τ := Ty.fr) (fun n => trivial) (j := j) (by omega) ht
    rw [e1]
    refine Fr.all ?_
    rw [e2]; exact alls_fr hok ht h k (j + 1) (by omega)

/-! ### an instance with given types for the holes -/
def dfl (κ : Nat) (S : AS) (b : Nat → Ty) (i : Nat) : Ty := inst (fun x => .fr (κ + S.lev x)) b (R S.sv (.ho i))
theorem Mod.dfl {κ : Nat} {S : AS} (hI : Inv S) {b : Nat → Ty} (hb : ∀ i, Gnd κ (b i)) : Mod κ S (dfl κ S b) := by
  refine ⟨fun h v hv => ?_, fun p hp => ?_⟩
  · unfold Sv.dfl
    by_cases hd : h ∈ dom S.sv
    · obtain ⟨v', h1, h2, h3⟩ := hI.lv h hd
      have hl : ∀ x, PF S (v'.take (S.lev h)) x → κ + S.lev x < κ + S.lev h := fun x hx => by
        have := (List.getElem?_eq_some_iff.1 hx.2).1
        rw [List.length_take] at this; omega
      exact ⟨plain_inst (hI.ok.plain h) (allF.triv fun _ => trivial) (allH.triv fun i => (hb i).p), lc_inst h3.c (allF.triv fun _ => trivial) (allH.triv fun i => (hb i).c),
        allF_inst (h3.f.mono fun x hx => hl x hx) (allH.triv fun i => (hb i).l.mono fun _ x => by omega), allH_inst (allF.triv fun _ => trivial) (allH.triv fun i => (hb i).h)⟩
    · rw [R_free hd]; exact (hb h).mono (Nat.le_add_right _ _)
  · obtain ⟨h, u⟩ := p
    show Sv.dfl κ S b h = gi κ S (Sv.dfl κ S b) u
    unfold Sv.dfl gi
    rw [R_mem hI.ok hp, R_eq S.sv u, inst_inst]
    rfl
theorem gi_dfl {κ : Nat} {S : AS} (hI : Inv S) {b : Nat → Ty} (hb : ∀ i, Gnd κ (b i)) (t : Ty) : gi κ S (dfl κ S b) t = inst (fun x => .fr (κ + S.lev x)) b (R S.sv t) := by
  rw [← (Mod.dfl hI hb).R]
  refine inst_congr (allF.triv fun _ => rfl) ((hI.ok.free t).mono fun i hi => ?_)
  show inst _ b (R S.sv (.ho i)) = b i
  rw [R_free hi]; rfl
theorem wr_ct {S : AS} {hs : List (Nat × Nat)} (hok : NbOk hs) : ∀ (t : Ty) (d : Nat), lc d t → allF (fun _ => False) t → CT (d + hs.length) (wr S hs d t)
  | .fn a b, d, h, g => by
    have h1 := wr_ct (S := S) hok a d h.1 g.1
    have h2 := wr_ct (S := S) hok b d h.2 g.2
    exact ⟨⟨h1.c, h2.c⟩, ⟨h1.f, h2.f⟩, ⟨h1.h, h2.h⟩⟩
  | .all a, d, h, g => by
    have h1 := wr_ct (S := S) hok a (d + 1) h g
    rw [show d + 1 + hs.length = d + hs.length + 1 by omega] at h1
    exact ⟨h1.c, h1.f, h1.h⟩
  | .ho i, d, _, _ => by
    simp only [wr]
    cases e : hs.lookup i with
    | none => exact ⟨trivial, trivial, trivial⟩
    | some n =>
      have := hok.lt i n e
      exact ⟨by show d + hs.length - 1 - n < d + hs.length; omega, trivial, trivial⟩
  | .var m, d, h, _ => ⟨by have h : m < d := h; show m < d + hs.length; omega, trivial, trivial⟩
  | .nat, _, _, _ => ⟨trivial, trivial, trivial⟩
  | .fr _, _, _, g => g.elim
theorem wr_plain {S : AS} {hs : List (Nat × Nat)} : ∀ (t : Ty) (d : Nat), Ty.plain t → Ty.plain (wr S hs d t)
  | .fn a b, d, h => ⟨wr_plain a d h.1, wr_plain b d h.2⟩
  | .all _, _, h => h.elim
  | .ho i, d, _ => by
    simp only [wr]
    cases hs.lookup i <;> trivial
  | .var _, _, _ => trivial
  | .nat, _, _ => trivial
  | .fr _, _, _ => trivial
theorem wr_sz {S : AS} {hs : List (Nat × Nat)} : ∀ (t : Ty) (d : Nat), sz (wr S hs d t) = sz t
  | .fn a b, d => by show sz (wr S hs d a) + sz (wr S hs d b) + 1 = _; rw [wr_sz a d, wr_sz b d]; rfl
  | .all a, d => by show sz (wr S hs (d + 1) a) + 1 = _; rw [wr_sz a (d + 1)]; rfl
  | .ho i, d => by
    simp only [wr]
    cases hs.lookup i <;> rfl
  | .var _, _ => rfl
  | .nat, _ => rfl
  | .fr _, _ => rfl
structure SyR (Γ : List Ty) (m : Tm) (y : Ty) : Prop where
  ct : CT 0 y
  own : Hs m 0 Γ y
  gen : ∀ n σ, Gv m n Γ σ → SubE n y σ
  pln : m.bare → (∀ t ∈ Γ, Ty.plain t) → ∃ k u, y = alls k u ∧ Ty.plain u
theorem tys_wf {Γ : List Ty} (h : Tys Γ) (n : Nat) : WFs n Γ := fun t ht => (h.2 t ht).1.wf n
/-- what is written of a type that is given -/
theorem gives_syr {Γ : List Ty} {m : Tm} {K N : Nat} {t : Ty} {S' : AS} (hΓ : Tys Γ) (hk : m.ok Γ.length) (h2 : PoG S0 Γ m K N t S') :
    allF (fun _ => False) (R S'.sv t) ∧ SyR Γ m (alls (nb [] (R S'.sv t)).length (wr S' (nb [] (R S'.sv t)) 0 (R S'.sv t))) := by
  have hI := h2.st.inv
  have hw : S'.way = [] := h2.st.way
  have hip := h2.ip
  rw [hw] at hip
  have hF : allF (fun _ => False) (R S'.sv t) := hip.f.mono fun x hx => by
    have := hx.2
    simp at this
  have hc : lc 0 (R S'.sv t) := hip.c
  refine ⟨hF, ?_⟩
  generalize hr : R S'.sv t = r at hF hc
  have hH : ∀ i, hasH i r = true → ∃ v, S'.G[i]? = some (some v) ∧ S'.lev i = 0 := fun i hi => by
    obtain ⟨v, h3, h4, _⟩ := allH_get (by rw [← hr]; exact hip.h) i hi
    exact ⟨v, h3, by simpa using h4⟩
  have hok : NbOk (nb [] r) := nb_ok r [] ⟨(fun i n h => by cases h), (fun i j n h => by cases h)⟩
  have hall := nb_all r []
  generalize nb [] r = hs at hok hall
  have hout : ∀ τ : Nat → Ty, wr S' hs 0 r = wj hs τ 0 0 r := fun τ => (wj_wr r 0 hF).symm
  refine ⟨?_, ?_, fun n σ h => ?_, fun hb hp => ?_⟩
  · have := wr_ct (S := S') hok r 0 hc hF
    rw [Nat.zero_add] at this
    exact this.alls
  · have hb : ∀ i, Gnd hs.length (match hs.lookup i with | some n => Ty.fr n | none => .nat) := fun i => by
      cases e : hs.lookup i with
      | none => exact Gnd.nat
      | some n => exact Gnd.fr (hok.lt i n e)
    have hsn := h2.snd hs.length _ (Mod.dfl hI hb)
    have hsn : Gv m (hs.length + 0) (cx hs.length S' _ Γ) _ := hsn
    rw [cx_tys hΓ, gi_dfl hI hb, hr, Nat.add_zero] at hsn
    have hwf := gv_wf hk (tys_wf hΓ _) hsn
    have hh : Hs m hs.length Γ _ := gv_hs _ rfl hk (tys_wf hΓ _) hwf hsn (SubE.refl _ (Nat.le_refl _) hwf)
    rw [← wj_last hok (τ := Ty.fr) r 0 hF (hall.mono fun i ⟨n, hn⟩ => ⟨n, hn, by rw [hn]⟩)] at hh
    have := alls_fr hok hc hh hs.length 0 (Nat.zero_add _)
    rw [Nat.sub_zero, ← hout] at this
    exact this
  · obtain ⟨θ', m', e', _⟩ := h2.cmp n (fun _ => .nat) σ (S0_mod _ _) (by show Gv m (n + 0) _ σ; rw [cx_tys hΓ]; exact h)
    have hch : ∀ k : Nat, ∃ u : Ty, Gnd n u ∧ ∀ i, hasH i r = true → hs.lookup i = some k → u = θ' i := fun k => by
      by_cases hx : ∃ i, hasH i r = true ∧ hs.lookup i = some k
      · obtain ⟨i, hi, hl⟩ := hx
        obtain ⟨v, h3, h4⟩ := hH i hi
        have := m'.gnd i v h3
        rw [h4] at this
        exact ⟨θ' i, this, fun j hj hlj => by rw [hok.inj i j k hl hlj]⟩
      · exact ⟨.nat, Gnd.nat, fun i hi hl => absurd ⟨i, hi, hl⟩ hx⟩
    obtain ⟨τ, hτ⟩ := Classical.axiomOfChoice hch
    have e1 : wj hs τ hs.length 0 r = σ := by
      rw [wj_last hok (φ := fun x => .fr (n + S'.lev x)) (θ := θ') r 0 hF (allH_self' fun i hi => by
        obtain ⟨k, hk⟩ := allH_get hall i hi
        exact ⟨k, hk, ((hτ k).2 i hi hk).symm⟩), ← hr]
      have := m'.R t
      unfold gi at this e'
      rw [this, e']
    have hwf := gv_wf hk (tys_wf hΓ n) h
    have := alls_sub hok (fun k => (hτ k).1) hc (by rw [e1]; exact SubE.refl _ (Nat.le_refl _) hwf) hs.length 0 (Nat.zero_add _)
    rw [Nat.sub_zero, ← hout] at this
    exact this
  · refine ⟨_, _, rfl, wr_plain r 0 ?_⟩
    have hsn := h2.snd 0 _ (Mod.dflt hI)
    rw [cx_tys hΓ] at hsn
    have := gv_plain hb hp hsn
    rw [← (Mod.dflt hI).R, hr] at this
    exact plain_uninst this
theorem synth_ev {Γ : List Ty} {m : Tm} {e : E} (hΓ : Tys Γ) (hm : IsR m e) (hk : m.ok Γ.length) (hs : m.size ≤ 20) :
    ∃ r er, Ev (fun f => Md.Synth f (Γ.map toT) e) (r, er) ∧ ((er = 8 ∧ r = t0 ∧ ∀ n σ, Gv m n Γ σ → False) ∨ (er = 11 ∧ r = t0) ∨ (er = 0 ∧ ∃ y, r = toT y ∧ SyR Γ m y ∧ sz y ≤ 200)) := by
  have hlim : lim = 1099511627776 := rfl
  obtain ⟨o, hev, ho⟩ := top_gives hΓ hm hk hs
  have e0 : ∀ f, Md.Synth f (Γ.map toT) e = (Md.gives f (cChk S0 Γ) e 0).bind fun r =>
      if r.1.2 = false then some (t0, (8 : Int))
      else (Md.numbered f r.2.s.solved r.1.1 [] 0).bind fun h =>
        if w64 (h.2 + (h.1.length : Int)) > 200 then some (t0, 11)
        else (Md.written f r.2.s r.1.1 0 (some h.1)).bind fun out => some (wrapAll h.1.length out, 0) := fun f => by
    unfold Md.Synth
    rw [Good_tm hΓ hm hk hs, if_neg (by decide)]; rfl
  rcases ho with ⟨h1, h2⟩ | ⟨t, S', rfl, h2⟩
  · refine ⟨t0, 8, Ev.congr e0 (Ev.bind hev (Ev.congr (fun f => if_pos h1) Ev.pure)), .inl ⟨rfl, rfl, fun n σ h => h2 n (fun _ => .nat) σ (S0_mod _ _) (by show Gv m (n + 0) _ σ; rw [cx_tys hΓ]; exact h)⟩⟩
  · have hI := h2.st.inv
    obtain ⟨hF, hy⟩ := gives_syr hΓ hk h2
    obtain ⟨hs', many', hnb, hN⟩ := numbered_ev hI.ok _ t [] 0 (Nat.le_refl _) (Nat.zero_le _)
    have l1 := hN.le
    have l2 := hN.len
    simp only [List.length_nil] at l2
    have hw : w64 ((many' : Int) + ((chs hs').length : Int)) = ((many' + hs'.length : Nat) : Int) := by rw [chs_len, w64_id (by omega) (by omega)]; omega
    have run : ∀ {G : Nat → Option (T × Int)} {r : T × Int}, (∀ f, (if w64 ((many' : Int) + ((chs hs').length : Int)) > 200 then some (t0, (11 : Int)) else (Md.written f (cSol false S') (toT t) 0 (some (chs hs'))).bind fun out => some (wrapAll (chs hs').length out, 0)) = G f) → Ev G r → Ev (fun f => Md.Synth f (Γ.map toT) e) r := fun {G r} e1 h =>
      Ev.congr e0 (Ev.bind hev (Ev.congr (fun f => if_neg (fun h => Bool.noConfusion h)) (Ev.bind hnb (Ev.congr e1 h))))
    by_cases hbig : 200 < many' + hs'.length
    · exact ⟨t0, 11, run (fun f => if_pos (by rw [hw]; omega)) Ev.pure, .inr (.inl ⟨rfl, rfl⟩)⟩
    · obtain ⟨f1, f2⟩ := hN.full (by omega)
      have hok : NbOk hs' := by rw [f2]; exact nb_ok _ [] ⟨(fun i n h => by cases h), (fun i j n h => by cases h)⟩
      have hn1 := nq_sz1 (R S'.sv t)
      have hwr := written_ev (wt := false) (S := S') (hs := some (chs hs')) (l := hs') hI.ok rfl hok.lt (by omega) _ t 0 (Nat.le_refl _) (by omega) (hF.mono fun _ x => x.elim)
      rw [← f2] at hy
      refine ⟨_, 0, run (fun f => if_neg (by rw [hw]; omega)) (Ev.bind hwr Ev.pure), .inr (.inr ⟨rfl, _, ?_, hy, ?_⟩)⟩
      · show wrapAll (chs hs').length (toT _) = _
        rw [chs_len, wrap_alls]
      · rw [sz_alls, wr_sz]; omega

/-! ### as the laws need it -/
noncomputable def hsB (Γ : List Ty) (m : Tm) (t : T) : Bool := @decide (∃ y, toT y = t ∧ Hs m 0 Γ y) (Classical.propDecidable _)
theorem hsB_true {Γ : List Ty} {m : Tm} {y : Ty} : hsB Γ m (toT y) = true ↔ Hs m 0 Γ y := by
  have : hsB Γ m (toT y) = true ↔ ∃ z, toT z = toT y ∧ Hs m 0 Γ z := by unfold hsB; simp
  rw [this]
  exact ⟨fun ⟨z, e, h⟩ => by rw [toT_inj e] at h; exact h, fun h => ⟨y, rfl, h⟩⟩
theorem usB_sub {x y : Ty} : usB (toT x) (toT y) = true ↔ SubE 0 x y := by
  rw [usB_true]
  constructor
  · rintro ⟨x', y', e1, e2, h⟩
    rw [toT_inj e1, toT_inj e2] at h; exact h
  · exact fun h => ⟨x, y, rfl, rfl, h⟩
/-- plain behind the quantifiers in front -/
inductive Frp : T → Prop
  | base {t : T} : Md.plain t = true → Frp t
  | step {t : T} : Frp t → Frp (.mk 4 0 [t])
theorem frp_alls {u : Ty} (h : Ty.plain u) : ∀ n, Frp (toT (alls n u))
  | 0 => .base (plain_toT.2 h)
  | n + 1 => .step (frp_alls h n)
theorem has_law {Γ : List Ty} {m : Tm} {e : E} (hΓ : Tys Γ) (hm : IsR m e) (hk : m.ok Γ.length) (hs : m.size ≤ 20) {t : T} (ht : rgt 0 t) (nt : nds t ≤ 12) : ∃ f, Md.Has f (Γ.map toT) e t = some (hsB Γ m t, 0) := by
  have hcl := rgt_closed nt ht
  obtain ⟨y, rfl, hy, sy, _⟩ := rgt_ty t (Int.le_refl _) ht
  have hy : CT 0 y := hy
  obtain ⟨o, hev, hiff, _⟩ := top_has hΓ hm hk hs (⟨hy, by omega⟩ : Ann y)
  obtain ⟨f, hf⟩ := hev.get
  refine ⟨f, ?_⟩
  unfold Md.Has
  rw [Good_tm hΓ hm hk hs, if_neg (by decide), hcl, if_neg (by decide), chk_eq]
  rw [show Md.has f (cChk S0 Γ) e (toT y) 0 = some o from hf]
  have : o.1 = hsB Γ m (toT y) := by rw [Bool.eq_iff_iff, hiff, hsB_true]
  rw [← this]; rfl
theorem synth_law {Γ : List Ty} {m : Tm} {e : E} (hΓ : Tys Γ) (hm : IsR m e) (hk : m.ok Γ.length) (hs : m.size ≤ 20) :
    ∃ f r er, Md.Synth f (Γ.map toT) e = some (r, er) ∧ ((er = 8 ∧ r = t0 ∧ (m.isLam = false → ∀ t, rgt 0 t → hsB Γ m t = false)) ∨ (er = 11 ∧ r = t0) ∨
      (er = 0 ∧ rgt 0 r ∧ nds r ≤ 200 ∧ hsB Γ m r = true ∧ (m.isLam = false → ∀ t, rgt 0 t → hsB Γ m t = true → usB r t = true) ∧ (m.bare → (∀ t ∈ Γ, Ty.plain t) → Frp r))) := by
  obtain ⟨r, er, hev, hcase⟩ := synth_ev hΓ hm hk hs
  obtain ⟨f, hf⟩ := hev.get
  refine ⟨f, r, er, hf, ?_⟩
  rcases hcase with ⟨rfl, rfl, h⟩ | h | ⟨rfl, y, rfl, h, hz⟩
  · refine .inl ⟨rfl, rfl, fun hl t ht => ?_⟩
    obtain ⟨y, rfl, hy, _, _⟩ := rgt_ty t (Int.le_refl _) ht
    cases e1 : hsB Γ m (toT y) with
    | false => rfl
    | true =>
      obtain ⟨n, σ, _, h2⟩ := hs_gives hl (hsB_true.1 e1)
      exact (h n σ h2).elim
  · exact .inr (.inl h)
  · obtain ⟨g1, g2⟩ := ct_rgt h.ct
    refine .inr (.inr ⟨rfl, g1, by omega, hsB_true.2 h.own, fun hl t ht h2 => ?_, fun hb hp => ?_⟩)
    · obtain ⟨x, rfl, hx, _, _⟩ := rgt_ty t (Int.le_refl _) ht
      have hx : CT 0 x := hx
      exact usB_sub.2 (hs_gv hl (hsB_true.1 h2) hk (tys_wf hΓ 0) (h.ct.wf 0) (hx.wf 0) fun n σ _ hg => h.gen n σ hg)
    · obtain ⟨k, u, rfl, hu⟩ := h.pln hb hp
      exact frp_alls hu k
theorem mono_law {Γ : List Ty} {m : Tm} (hΓ : Tys Γ) (hk : m.ok Γ.length) {r t : T} (hr : rgt 0 r) (ht : rgt 0 t) (h : hsB Γ m r = true) (hu : usB r t = true) : hsB Γ m t = true := by
  obtain ⟨x, rfl, hx, _, _⟩ := rgt_ty r (Int.le_refl _) hr
  obtain ⟨y, rfl, hy, _, _⟩ := rgt_ty t (Int.le_refl _) ht
  have hx : CT 0 x := hx
  have hy : CT 0 y := hy
  exact hsB_true.2 ((mono m hk).2 rfl (tys_wf hΓ 0) (tys_wf hΓ 0) (Le2.refl (tys_wf hΓ 0)) (hx.wf 0) (hy.wf 0) (usB_sub.1 hu) (hsB_true.1 h))
end Go.Proofs.Ytjgnhhgigickaaa.Sv

namespace Go.Proofs.Ytjgnhhgigickaaa.Wk
open Go Md
set_option maxRecDepth 20000
attribute [local irreducible] endQ

/-- a right term, made -/
def WR (G : GH) (L : LH) (sb lb : Nat) (A : Option Addr) (n c at_ bd : Nat) (l : Int) (pl : Bool) (x : Value) (w' : World) : Prop :=
 ∃ G' e m at' sd', Le G G' ∧ IsExpr G' x e ∧ Sv.IsR m e ∧ m.ok bd ∧ (m.size : Int) ≤ l ∧ (pl = false → m.bare) ∧ at' ≤ at_ + 20 * m.size ∧ St G' ((lb, .cells #[.int .i64 (l - (m.size : Int))] 3) :: (sb, StB A n c at' sd') :: L) w'
theorem isR_var {k : Int} (h : 0 ≤ k) : Sv.IsR (.var k.toNat) (xv k) := by
 show xv k = .mk 1 ((k.toNat : Nat) : Int) [] t0
 rw [Int.toNat_of_nonneg h]
theorem made_ann {t : T} (h : rgt 0 t) (hn : nds t ≤ 12) : ∃ A, Sv.toT A = t ∧ Sv.Ann A ∧ Sv.Ty.sz A = nds t ∧ (plain t = true → Sv.Ty.plain A) := by
 obtain ⟨A, e, hA, hs, hp⟩ := Sv.rgt_ty t (Int.le_refl _) h
 exact ⟨A, e, ⟨hA, by omega⟩, hs, fun h => hp.1 h⟩
theorem isR_sz : ∀ {m : Sv.Tm} {e : E} {n : Nat}, Sv.IsR m e → m.ok n → E.sz e ≤ 30 * m.size
 | .var k, e, _, h, _ => by rw [show e = .mk 1 (k : Int) [] t0 from h]; show E.szs [] + T.sz t0 + 1 ≤ 30 * 1; decide
 | .nat, e, _, h, _ => by obtain ⟨n, _, rfl⟩ := h; show E.szs [] + T.sz t0 + 1 ≤ 30 * 1; decide
 | .lam b, e, _, h, hk => by
  obtain ⟨x, rfl, h⟩ := h
  have := isR_sz h hk
  have e0 : T.sz t0 = 1 := by decide
  show E.sz x + 0 + 1 + T.sz t0 + 1 ≤ 30 * (b.size + 1)
  omega
 | .typed A b, e, _, h, hk => by
  obtain ⟨x, rfl, h⟩ := h
  have := isR_sz h hk.2
  have h1 := sz_nds (Sv.toT A)
  have h2 := (Sv.ct_rgt hk.1.1).2
  have h3 := hk.1.2
  show E.sz x + 0 + 1 + T.sz (Sv.toT A) + 1 ≤ 30 * (b.size + 1)
  omega
 | .app f a, e, _, h, hk => by
  obtain ⟨x, y, rfl, h, h'⟩ := h
  have := isR_sz h hk.1
  have := isR_sz h' hk.2
  have e0 : T.sz t0 = 1 := by decide
  show E.sz x + (E.sz y + 0 + 1) + 1 + T.sz t0 + 1 ≤ 30 * (f.size + a.size + 1)
  omega
 | .has b A, e, _, h, hk => by
  obtain ⟨x, rfl, h⟩ := h
  have := isR_sz h hk.2
  have h1 := sz_nds (Sv.toT A)
  have h2 := (Sv.ct_rgt hk.1.1).2
  have h3 := hk.1.2
  show E.sz x + 0 + 1 + T.sz (Sv.toT A) + 1 ≤ 30 * (b.size + 1)
  omega

theorem c33 : ∀ (N : Nat) {G : GH} {L : LH} {w : World} {sb lb n c at_ bd : Nat} {A : Option Addr} {sd l : Int} {pl : Bool}, l ≤ (N : Int) → 1 ≤ l → l ≤ 100 → (bd : Int) + l ≤ 2000 → (at_ : Int) + 20 * l ≤ 5000 → ByS G A n → n < lim → St G ((lb, .cells #[.int .i64 l] 3) :: (sb, StB A n c at_ sd) :: L) w →
  Cal Try.prog 33 #[.pointer (some ⟨sb, 0, none⟩), .pointer (some ⟨lb, 0, none⟩), .int .i64 ((bd : Nat) : Int), .bool pl] w (WR G L sb lb A n c at_ bd l pl) := by
 intro N
 induction N with
 | zero => intro G L w sb lb n c at_ bd A sd l pl h1 h2; omega
 | succ N ih =>
 intro G L w sb lb n c at_ bd A sd l pl hN hl1 hl2 hwl hat hB hn H
 have hlim : lim = 1099511627776 := rfl
 have hm1 : IntKind.wrap .i64 (l - 1) = l - 1 := wrap_id (by omega) (by omega)
 have hm2 : IntKind.wrap .i64 (l - 1 - 1) = l - 2 := by rw [wrap_id] <;> omega
 refine cal_of_W Try.func33 rfl (Nat.le_of_ble_eq_true e_) ?_;refine W_sr [(.f, 0)] H ?_;refine m_nw oE 8 H (fun b1 w1 H => ?_);refine r_nil ?_;refine W_sr [(.p, 0), (.p, 1), (.l, 2), (.p, 3), (.p, 4), (.f, 5)] H ?_;refine r_s [1] [(.p, 0), (.p, 1), (.l, 2), (.p, 3), (.p, 4)] [(11, pN lb 0), (12, pN lb 0), (13, iN l), (14, iN (IntKind.wrap .i64 (l - 1))), (15, pN lb 0)] (rc_l 1 0 rfl rfl rc_nil) ?_;refine s_1 [(0, iN (IntKind.wrap .i64 (l - 1)))] [iN (IntKind.wrap .i64 (l - 1))] none H (fun w1 H => ?_);refine r_nil ?_;refine W_seq ?_;rw [hm1] at H;refine W_rg [(.p, 0), (.f, 1), (.p, 2)] H ?_;refine r_y [(.p, 0)] [(16, pN sb 0)] ?_;have H := St.swap (A := [(b1, oE), (lb, .cells #[iN (l - 1)] 3)]) (B := [(sb, cS A n c at_ sd)]) (C := L) H;refine m_cl #[pN sb 0, iN 8] (some 17) (c32 hB hn (by omega) H) ?_;rintro _ w1 ⟨k1, ak1, sk1, rfl, hk1a, hk1b, hk1t, H⟩;have H := St.swap (A := [(sb, cS A n c ak1 sk1)]) (B := [(b1, oE), (lb, .cells #[iN (l - 1)] 3)]) (C := L) H
 have H : St G ((b1, oE) :: (lb, .cells #[iN (l - 1)] 3) :: (sb, cS A n c ak1 sk1) :: L) w1 := H
 refine nx H ?_;refine r_z [(9, iN k1)] ?_;refine W_seq ?_;refine W_block ?_;refine W_seqI (fun ρ D w => ∃ (bq3 : Bool), EqS ρ [(0, pN sb 0), (1, pN lb 0), (2, iN (((bd : Nat) : Int))), (3, .bool pl), (8, pN b1 0), (9, iN k1), (18, .bool bq3)] ∧ D = [] ∧ St G ((b1, oE) :: (lb, .cells #[iN (l - 1)] 3) :: (sb, .cells #[.slice A n c, iN (((ak1 : Nat) : Int)), .int .u64 sk1] 96) :: L) w ∧ (bq3 = true ↔ l - 1 ≥ 2 ∧ k1 < 2)) ?_ ?_
 ·skip
  refine W_rg [(.p, 0), (.p, 1), (.l, 2), (.p, 3), (.p, 4), (.p, 5), (.p, 6), (.p, 7), (.p, 8)] H ?_;refine r_s [1] [(.p, 0), (.p, 1), (.l, 2), (.p, 3), (.p, 4)] [(19, pN lb 0), (20, pN lb 0), (21, iN (l - 1)), (22, .bool (decide ((l - 1) ≥ 2))), (23, .bool (decide ((l - 1) ≥ 2)))] (rc_l 1 0 rfl rfl rc_nil) ?_
  rcases Bool.eq_false_or_eq_true (decide ((l - 1) ≥ 2)) with hc2 | hc2
  ·rw [hc2]
   have hp3 := hc2
   simp only [decide_eq_true_eq, decide_eq_false_iff_not, beq_iff_eq, beq_eq_false_iff_ne, bne_iff_ne, bne_eq_false_iff_eq, Bool.not_eq_true', Bool.not_eq_false', Bool.and_eq_true, Bool.and_eq_false_iff, ne_eq] at hp3;refine r_z [(24, iN k1), (25, .bool (decide (k1 < 2))), (26, .bool (decide (k1 < 2))), (18, .bool (decide (k1 < 2)))] ?_
   exact ⟨decide (k1 < 2), ⟨e_, e_, e_, e_, e_, e_, e_, trivial⟩, rfl, H, ⟨fun h => ⟨by omega, by simpa using h⟩, fun h => by simpa using h.2⟩⟩
  rw [hc2]
  have hp4 := hc2
  simp only [decide_eq_true_eq, decide_eq_false_iff_not, beq_iff_eq, beq_eq_false_iff_ne, bne_iff_ne, bne_eq_false_iff_eq, Bool.not_eq_true', Bool.not_eq_false', Bool.and_eq_true, Bool.and_eq_false_iff, ne_eq] at hp4;refine r_z (uD 24 2 [(26, .bool false), (18, .bool false)]) ?_
  exact ⟨false, ⟨e_, e_, e_, e_, e_, e_, e_, trivial⟩, rfl, H, ⟨fun h => (by cases h), fun h => absurd h (by omega)⟩⟩
 clear H; rintro ρ D w1 ⟨bq3, hE5, rfl, H, hq3⟩
 refine W_env hE5 ?_;refine W_cd (b := bq3) (fun hc6 => ?_) (fun hc6 => ?_)
 ·skip
  have hz3 := hq3.1 hc6
  refine W_sr [(.p, 0), (.p, 1), (.l, 2), (.p, 3), (.p, 4), (.f, 5)] H ?_;refine r_s [1] [(.p, 0), (.p, 1), (.l, 2), (.p, 3), (.p, 4)] [(27, pN lb 0), (28, pN lb 0), (29, iN (l - 1)), (30, iN (IntKind.wrap .i64 ((l - 1) - 1))), (31, pN lb 0)] (rc_l 1 0 rfl rfl rc_nil) ?_;refine s_1 [(0, iN (IntKind.wrap .i64 ((l - 1) - 1)))] [iN (IntKind.wrap .i64 ((l - 1) - 1))] none H (fun w1 H => ?_);refine r_nil ?_;refine W_seqI (fun ρ D w => ∃ (GJ : GH) (ea : E) (ma : Sv.Tm) (aj : Nat) (sj : Int) (pA : Option Addr) (pc : Nat) (pB : Option Addr) (pd : Nat) (b10 : Nat), EqS ρ [(0, pN sb 0), (1, pN lb 0), (2, iN (((bd : Nat) : Int))), (3, .bool pl), (8, pN b1 0), (10, pN b10 0)] ∧ D = [] ∧ St GJ ((b10, cE ea pA pc pB pd) :: (b1, oE) :: (lb, .cells #[iN (l - 2 - (ma.size : Int))] 3) :: (sb, .cells #[.slice A n c, iN (((aj : Nat) : Int)), .int .u64 sj] 96) :: L) w ∧ (Le G GJ) ∧ (IsExpr GJ (aE ea pA pc pB pd) ea) ∧ (Sv.IsR ma ea) ∧ (ma.ok bd) ∧ ((ma.size : Int) ≤ l - 2) ∧ (pl = false → ma.bare) ∧ (aj ≤ at_ + 1 + 20 * ma.size)) ?_ ?_
  ·skip
   rw [hm2] at H;refine W_rg [(.p, 0), (.p, 1), (.p, 2), (.p, 3), (.f, 4), (.f, 5), (.f, 6)] H ?_;refine r_y [(.p, 0), (.p, 1), (.p, 2), (.p, 3)] [(32, pN sb 0), (33, pN lb 0), (34, nN bd), (35, .bool pl)] ?_;have H := St.swap (A := [(b1, oE)]) (B := [(lb, .cells #[iN (l - 2)] 3), (sb, cS A n c ak1 sk1)]) (C := L) H;refine m_cl #[pN sb 0, pN lb 0, nN bd, .bool pl] (some 36) (ih (l := l - 2) (bd := bd) (by omega) (by omega) (by omega) (by omega) (by omega) hB hn H) ?_;rintro x1 w1 ⟨G1, e1, m1, at1, sd1, hG1, hx1, hr1, ho1, hd1, hp1, ha1, H⟩;obtain ⟨x1A, x1c, x1B, x1d, rfl, _, _, _⟩ := id hx1.open;have H := fr2 H;refine nx H ?_;refine m_nw oE 10 H (fun b7 w1 H => ?_);refine s_0 [(0, iN e1.kind), (1, iN e1.num), (2, .slice x1A e1.kids.length x1c), (3, iN e1.ty.kind), (4, iN e1.ty.num), (5, .slice x1B e1.ty.kids.length x1d)] [iN e1.kind, iN e1.num, .slice x1A e1.kids.length x1c, iN e1.ty.kind, iN e1.ty.num, .slice x1B e1.ty.kids.length x1d] none H (fun w1 H => ?_);refine r_nil ?_
   exact ⟨G1, e1, m1, at1, sd1, x1A, x1c, x1B, x1d, b7, ⟨e_, e_, e_, e_, e_, e_, trivial⟩, rfl, H, hG1, (hx1), hr1, ho1, hd1, hp1, by omega⟩
  clear H; rintro ρ D w1 ⟨GJ, ea, ma, aj, sj, pA, pc, pB, pd, b10, hE8, rfl, H, hGJ, hta, hra, hoa, hda, hpa, haj⟩
  refine W_env hE8 ?_;refine W_sr [(.p, 0), (.p, 1), (.l, 2), (.p, 3), (.p, 4), (.f, 5)] H ?_;refine r_s [1] [(.p, 0), (.p, 1), (.l, 2), (.p, 3), (.p, 4)] [(37, pN lb 0), (38, pN lb 0), (39, iN (l - 2 - (ma.size : Int))), (40, iN (IntKind.wrap .i64 ((l - 2 - (ma.size : Int)) + 1))), (41, pN lb 0)] (rc_l 2 0 rfl rfl rc_nil) ?_;refine s_2 [(0, iN (IntKind.wrap .i64 ((l - 2 - (ma.size : Int)) + 1)))] [iN (IntKind.wrap .i64 ((l - 2 - (ma.size : Int)) + 1))] none H (fun w1 H => ?_);refine r_nil ?_;refine W_seq ?_
  have hm3 : IntKind.wrap .i64 (l - 2 - (ma.size : Int) + 1) = l - 1 - (ma.size : Int) := by rw [wrap_id] <;> omega
  rw [hm3] at H;refine W_regd [(.l, 0), (.p, 1), (.p, 2), (.p, 3), (.p, 4), (.e, 5), (.f, 6), (.f, 7)] (SS GJ ([(b10, cE ea pA pc pB pd)])) mixed e_ e_ e_ e_ (fun w1 hw1 => ?_)
  have H := H.heap hw1; refine ⟨H.ss' (Le.refl _) (fun p hp => by rw [List.mem_singleton.1 hp]; simp), ?_⟩
  refine r_s [6] [(.l, 0), (.p, 1), (.p, 2), (.p, 3), (.p, 4)] [(42, (aE ea pA pc pB pd)), (43, pN sb 0), (44, pN lb 0), (45, nN bd), (46, .bool pl)] (rc_l 0 0 rfl rfl (rc_l 0 1 rfl rfl (rc_l 0 2 rfl rfl (rc_l 0 3 rfl rfl (rc_l 0 4 rfl rfl (rc_l 0 5 rfl rfl rc_nil)))))) ?_;have H := St.swap (A := [(b10, cE ea pA pc pB pd), (b1, oE)]) (B := [(lb, .cells #[iN (l - 1 - (ma.size : Int))] 3), (sb, cS A n c aj sj)]) (C := L) H;refine m_callE #[pN sb 0, pN lb 0, nN bd, .bool pl] (some 47) e_ (ih (l := l - 1 - (ma.size : Int)) (bd := bd) (by omega) (by omega) (by omega) (by omega) (by omega) (hB.mono (hGJ)) hn H) ?_;rintro x2 w1 ⟨G2, e2, m2, at2, sd2, hG2, hx2, hr2, ho2, hd2, hp2, ha2, H⟩;obtain ⟨x2A, x2c, x2B, x2d, rfl, _, _, _⟩ := id hx2.open;have H := St.swap (A := [(lb, .cells #[iN (l - 1 - (ma.size : Int) - (m2.size : Int))] 3), (sb, cS A n c at2 sd2)]) (B := [(b10, cE ea pA pc pB pd), (b1, oE)]) (C := L) H
  have H : St G2 ((b10, cE ea pA pc pB pd) :: (b1, oE) :: (lb, .cells #[iN (l - 1 - (ma.size : Int) - (m2.size : Int))] 3) :: (sb, cS A n c at2 sd2) :: L) w1 := H
  refine ⟨H.ss' ((Le.refl _).trans hG2) (fun p hp => by rw [List.mem_singleton.1 hp]; simp), ?_⟩;refine m_cl #[(aE ea pA pc pB pd), (aE e2 x2A x2c x2B x2d)] (some 48) (c53 ((hta).mono (hG2)) (hx2) H) ?_;rintro x3 w1 ⟨G3, hG3, hx3, H⟩;obtain ⟨x3A, x3c, x3B, x3d, rfl, _, _, _⟩ := id hx3.open;refine nx H ?_;refine s_1 [(0, iN ((xa ea e2).kind)), (1, iN ((xa ea e2).num)), (2, .slice x3A ((xa ea e2).kids.length) x3c), (3, iN ((xa ea e2).ty.kind)), (4, iN ((xa ea e2).ty.num)), (5, .slice x3B ((xa ea e2).ty.kids.length) x3d)] [iN ((xa ea e2).kind), iN ((xa ea e2).num), .slice x3A ((xa ea e2).kids.length) x3c, iN ((xa ea e2).ty.kind), iN ((xa ea e2).ty.num), .slice x3B ((xa ea e2).ty.kids.length) x3d] none H (fun w1 H => ?_);refine r_nil ?_;refine W_ret ?_;refine q_rt [iN ((xa ea e2).kind), iN ((xa ea e2).num), .slice x3A ((xa ea e2).kids.length) x3c, iN ((xa ea e2).ty.kind), iN ((xa ea e2).ty.num), .slice x3B ((xa ea e2).ty.kids.length) x3d] [(⟨b1, 0, none⟩, iN ((xa ea e2).kind)), (⟨b1, 1, none⟩, iN ((xa ea e2).num)), (⟨b1, 2, none⟩, .slice x3A ((xa ea e2).kids.length) x3c), (⟨b1, 3, none⟩, iN ((xa ea e2).ty.kind)), (⟨b1, 4, none⟩, iN ((xa ea e2).ty.num)), (⟨b1, 5, none⟩, .slice x3B ((xa ea e2).ty.kids.length) x3d)] (.agg #[iN ((xa ea e2).kind), iN ((xa ea e2).num), .slice x3A ((xa ea e2).kids.length) x3c, iN ((xa ea e2).ty.kind), iN ((xa ea e2).ty.num), .slice x3B ((xa ea e2).ty.kids.length) x3d]) (rc_L 1 rfl rfl (rc_L 1 rfl rfl (rc_L 1 rfl rfl (rc_L 1 rfl rfl (rc_L 1 rfl rfl (rc_L 1 rfl rfl rc_nil)))))) H ?_
  have hnd : (.app ma m2 : Sv.Tm).size = ma.size + m2.size + 1 := rfl
  have hlv : l - 1 - (ma.size : Int) - (m2.size : Int) = l - ((.app ma m2 : Sv.Tm).size : Int) := by rw [hnd]; omega
  rw [hlv] at H
  exact ⟨G3, xa ea e2, .app ma m2, at2, _, ((hGJ).trans hG2).trans hG3, (hx3), ⟨_, _, rfl, hra, hr2⟩, ⟨hoa, ho2⟩, by rw [hnd]; omega, (fun h => ⟨hpa h, hp2 h⟩), by rw [hnd]; omega, H.drop [_, _]⟩
 have hz3 := mt hq3.2 (by rw [hc6]; simp)
 refine W_seqI (fun ρ D w => ∃ (bq8 : Bool), EqS ρ [(0, pN sb 0), (1, pN lb 0), (2, iN (((bd : Nat) : Int))), (3, .bool pl), (8, pN b1 0), (9, iN k1), (49, .bool bq8)] ∧ D = [] ∧ St G ((b1, oE) :: (lb, .cells #[iN (l - 1)] 3) :: (sb, .cells #[.slice A n c, iN (((ak1 : Nat) : Int)), .int .u64 sk1] 96) :: L) w ∧ (bq8 = true ↔ l - 1 ≥ 1 ∧ k1 < 4)) ?_ ?_
 ·skip
  refine W_rg [(.p, 0), (.p, 1), (.l, 2), (.p, 3), (.p, 4), (.p, 5), (.p, 6), (.p, 7), (.p, 8)] H ?_;refine r_s [1] [(.p, 0), (.p, 1), (.l, 2), (.p, 3), (.p, 4)] [(50, pN lb 0), (51, pN lb 0), (52, iN (l - 1)), (53, .bool (decide ((l - 1) ≥ 1))), (54, .bool (decide ((l - 1) ≥ 1)))] (rc_l 1 0 rfl rfl rc_nil) ?_
  rcases Bool.eq_false_or_eq_true (decide ((l - 1) ≥ 1)) with hc9 | hc9
  ·rw [hc9]
   have hp10 := hc9
   simp only [decide_eq_true_eq, decide_eq_false_iff_not, beq_iff_eq, beq_eq_false_iff_ne, bne_iff_ne, bne_eq_false_iff_eq, Bool.not_eq_true', Bool.not_eq_false', Bool.and_eq_true, Bool.and_eq_false_iff, ne_eq] at hp10;refine r_z [(55, iN k1), (56, .bool (decide (k1 < 4))), (57, .bool (decide (k1 < 4))), (49, .bool (decide (k1 < 4)))] ?_
   exact ⟨decide (k1 < 4), ⟨e_, e_, e_, e_, e_, e_, e_, trivial⟩, rfl, H, ⟨fun h => ⟨by omega, by simpa using h⟩, fun h => by simpa using h.2⟩⟩
  rw [hc9]
  have hp11 := hc9
  simp only [decide_eq_true_eq, decide_eq_false_iff_not, beq_iff_eq, beq_eq_false_iff_ne, bne_iff_ne, bne_eq_false_iff_eq, Bool.not_eq_true', Bool.not_eq_false', Bool.and_eq_true, Bool.and_eq_false_iff, ne_eq] at hp11;refine r_z (uD 55 2 [(57, .bool false), (49, .bool false)]) ?_
  exact ⟨false, ⟨e_, e_, e_, e_, e_, e_, e_, trivial⟩, rfl, H, ⟨fun h => (by cases h), fun h => absurd h (by omega)⟩⟩
 clear H; rintro ρ D w1 ⟨bq8, hE12, rfl, H, hq8⟩
 refine W_env hE12 ?_;refine W_cd (b := bq8) (fun hc13 => ?_) (fun hc13 => ?_)
 ·skip
  have hz8 := hq8.1 hc13
  refine W_sr [(.p, 0), (.p, 1), (.p, 2), (.p, 3), (.p, 4), (.f, 5), (.f, 6), (.f, 7)] H ?_;refine r_y [(.p, 0), (.p, 1), (.p, 2), (.p, 3), (.p, 4)] [(58, pN sb 0), (59, pN lb 0), (60, nN bd), (61, iN (IntKind.wrap .i64 ((((bd : Nat) : Int)) + 1))), (62, .bool pl)] ?_;have H := St.swap (A := [(b1, oE)]) (B := [(lb, .cells #[iN (l - 1)] 3), (sb, cS A n c ak1 sk1)]) (C := L) H
  have hw1 : IntKind.wrap .i64 (((bd : Nat) : Int) + 1) = ((bd + 1 : Nat) : Int) := by rw [wrap_id] <;> omega
  rw [hw1];refine m_cl #[pN sb 0, pN lb 0, nN (bd + 1), .bool pl] (some 63) (ih (l := l - 1) (bd := bd + 1) (by omega) (by omega) (by omega) (by omega) (by omega) hB hn H) ?_;rintro x4 w1 ⟨G4, e4, m4, at4, sd4, hG4, hx4, hr4, ho4, hd4, hp4, ha4, H⟩;obtain ⟨x4A, x4c, x4B, x4d, rfl, _, _, _⟩ := id hx4.open;have H := fr2 H;refine nx H ?_;refine m_cl #[(aE e4 x4A x4c x4B x4d)] (some 64) (c51 (hx4) H) ?_;rintro x5 w1 ⟨G5, hG5, hx5, H⟩;obtain ⟨x5A, x5c, x5B, x5d, rfl, _, _, _⟩ := id hx5.open;refine nx H ?_;refine s_0 [(0, iN ((xl e4).kind)), (1, iN ((xl e4).num)), (2, .slice x5A ((xl e4).kids.length) x5c), (3, iN ((xl e4).ty.kind)), (4, iN ((xl e4).ty.num)), (5, .slice x5B ((xl e4).ty.kids.length) x5d)] [iN ((xl e4).kind), iN ((xl e4).num), .slice x5A ((xl e4).kids.length) x5c, iN ((xl e4).ty.kind), iN ((xl e4).ty.num), .slice x5B ((xl e4).ty.kids.length) x5d] none H (fun w1 H => ?_);refine r_nil ?_;refine W_ret ?_;refine q_rt [iN ((xl e4).kind), iN ((xl e4).num), .slice x5A ((xl e4).kids.length) x5c, iN ((xl e4).ty.kind), iN ((xl e4).ty.num), .slice x5B ((xl e4).ty.kids.length) x5d] [(⟨b1, 0, none⟩, iN ((xl e4).kind)), (⟨b1, 1, none⟩, iN ((xl e4).num)), (⟨b1, 2, none⟩, .slice x5A ((xl e4).kids.length) x5c), (⟨b1, 3, none⟩, iN ((xl e4).ty.kind)), (⟨b1, 4, none⟩, iN ((xl e4).ty.num)), (⟨b1, 5, none⟩, .slice x5B ((xl e4).ty.kids.length) x5d)] (.agg #[iN ((xl e4).kind), iN ((xl e4).num), .slice x5A ((xl e4).kids.length) x5c, iN ((xl e4).ty.kind), iN ((xl e4).ty.num), .slice x5B ((xl e4).ty.kids.length) x5d]) (rc_L 0 rfl rfl (rc_L 0 rfl rfl (rc_L 0 rfl rfl (rc_L 0 rfl rfl (rc_L 0 rfl rfl (rc_L 0 rfl rfl rc_nil)))))) H ?_
  have hnd : (.lam m4 : Sv.Tm).size = m4.size + 1 := rfl
  have hlv : l - 1 - (m4.size : Int) = l - ((.lam m4 : Sv.Tm).size : Int) := by rw [hnd]; omega
  rw [hlv] at H
  exact ⟨G5, xl e4, .lam m4, at4, _, (hG4).trans hG5, (hx5), ⟨_, rfl, hr4⟩, ho4, by rw [hnd]; omega, (fun h => hp4 h), by rw [hnd]; omega, H.drop [_]⟩
 have hz8 := mt hq8.2 (by rw [hc13]; simp)
 refine W_seqI (fun ρ D w => ∃ (bq10 : Bool), EqS ρ [(0, pN sb 0), (1, pN lb 0), (2, iN (((bd : Nat) : Int))), (3, .bool pl), (8, pN b1 0), (9, iN k1), (65, .bool bq10)] ∧ D = [] ∧ St G ((b1, oE) :: (lb, .cells #[iN (l - 1)] 3) :: (sb, .cells #[.slice A n c, iN (((ak1 : Nat) : Int)), .int .u64 sk1] 96) :: L) w ∧ (bq10 = true ↔ l - 1 ≥ 1 ∧ k1 = 4 ∧ pl = true)) ?_ ?_
 ·skip
  refine W_rg [(.p, 0), (.p, 1), (.l, 2), (.p, 3), (.p, 4), (.p, 5), (.p, 6), (.p, 7), (.p, 8), (.p, 9), (.p, 10), (.p, 11)] H ?_;refine r_s [1] [(.p, 0), (.p, 1), (.l, 2), (.p, 3), (.p, 4)] [(66, pN lb 0), (67, pN lb 0), (68, iN (l - 1)), (69, .bool (decide ((l - 1) ≥ 1))), (70, .bool (decide ((l - 1) ≥ 1)))] (rc_l 1 0 rfl rfl rc_nil) ?_
  rcases Bool.eq_false_or_eq_true (decide ((l - 1) ≥ 1)) with hc14 | hc14
  ·rw [hc14]
   have hp15 := hc14
   simp only [decide_eq_true_eq, decide_eq_false_iff_not, beq_iff_eq, beq_eq_false_iff_ne, bne_iff_ne, bne_eq_false_iff_eq, Bool.not_eq_true', Bool.not_eq_false', Bool.and_eq_true, Bool.and_eq_false_iff, ne_eq] at hp15;refine r_y [(.p, 5), (.p, 6), (.p, 7), (.p, 8)] [(71, iN k1), (72, .bool (k1 == 4)), (73, .bool (k1 == 4)), (74, .bool (k1 == 4))] ?_
   rcases Bool.eq_false_or_eq_true (k1 == 4) with hc16 | hc16
   ·rw [hc16]
    have hp17 := hc16
    simp only [decide_eq_true_eq, decide_eq_false_iff_not, beq_iff_eq, beq_eq_false_iff_ne, bne_iff_ne, bne_eq_false_iff_eq, Bool.not_eq_true', Bool.not_eq_false', Bool.and_eq_true, Bool.and_eq_false_iff, ne_eq] at hp17;refine r_z [(75, .bool pl), (76, .bool pl), (65, .bool pl)] ?_
    exact ⟨pl, ⟨e_, e_, e_, e_, e_, e_, e_, trivial⟩, rfl, H, ⟨fun h => ⟨by omega, by omega, h⟩, fun h => h.2.2⟩⟩
   rw [hc16]
   have hp18 := hc16
   simp only [decide_eq_true_eq, decide_eq_false_iff_not, beq_iff_eq, beq_eq_false_iff_ne, bne_iff_ne, bne_eq_false_iff_eq, Bool.not_eq_true', Bool.not_eq_false', Bool.and_eq_true, Bool.and_eq_false_iff, ne_eq] at hp18;refine r_z [(75, undef), (76, .bool false), (65, .bool false)] ?_
   exact ⟨false, ⟨e_, e_, e_, e_, e_, e_, e_, trivial⟩, rfl, H, ⟨fun h => (by cases h), fun h => absurd h (by omega)⟩⟩
  rw [hc14]
  have hp19 := hc14
  simp only [decide_eq_true_eq, decide_eq_false_iff_not, beq_iff_eq, beq_eq_false_iff_ne, bne_iff_ne, bne_eq_false_iff_eq, Bool.not_eq_true', Bool.not_eq_false', Bool.and_eq_true, Bool.and_eq_false_iff, ne_eq] at hp19;refine r_z (uD 71 2 [(73, .bool false), (74, .bool false), (75, undef), (76, .bool false), (65, .bool false)]) ?_
  exact ⟨false, ⟨e_, e_, e_, e_, e_, e_, e_, trivial⟩, rfl, H, ⟨fun h => (by cases h), fun h => absurd h (by omega)⟩⟩
 clear H; rintro ρ D w1 ⟨bq10, hE20, rfl, H, hq10⟩
 refine W_env hE20 ?_;refine W_cd (b := bq10) (fun hc21 => ?_) (fun hc21 => ?_)
 ·skip
  have hz10 := hq10.1 hc21
  have hpl := hz10.2.2
  refine W_sr [(.p, 0), (.f, 1), (.p, 2), (.p, 3), (.p, 4), (.p, 5), (.p, 6), (.f, 7), (.f, 8), (.f, 9)] H ?_;refine r_y [(.p, 0)] [(77, pN sb 0)] ?_;have H := St.swap (A := [(b1, oE), (lb, .cells #[iN (l - 1)] 3)]) (B := [(sb, cS A n c ak1 sk1)]) (C := L) H;refine m_cl #[pN sb 0, iN 7, .bool false] (some 78) (c19 (by decide) (by decide) (by omega) hB hn H) ?_;rintro x6 w1 ⟨G6, t6, at6, sd6, hG6, hx6, hr6, hd6, hp6, ha6, H⟩;obtain ⟨T6, rfl, hA6, hs6, _⟩ := made_ann hr6 (by omega);obtain ⟨xA6, xc6, rfl, _, _⟩ := id hx6.open;have H := St.swap (A := [(sb, cS A n c at6 sd6)]) (B := [(b1, oE), (lb, .cells #[iN (l - 1)] 3)]) (C := L) H
  have H : St G6 ((b1, oE) :: (lb, .cells #[iN (l - 1)] 3) :: (sb, cS A n c at6 sd6) :: L) w1 := H
  refine nx H ?_;refine r_y [(.p, 2), (.p, 3), (.p, 4), (.p, 5), (.p, 6)] [(79, pN sb 0), (80, pN lb 0), (81, nN bd), (82, iN (IntKind.wrap .i64 ((((bd : Nat) : Int)) + 1))), (83, .bool pl)] ?_;have H := St.swap (A := [(b1, oE)]) (B := [(lb, .cells #[iN (l - 1)] 3), (sb, cS A n c at6 sd6)]) (C := L) H
  have hw1 : IntKind.wrap .i64 (((bd : Nat) : Int) + 1) = ((bd + 1 : Nat) : Int) := by rw [wrap_id] <;> omega
  rw [hw1];refine m_cl #[pN sb 0, pN lb 0, nN (bd + 1), .bool pl] (some 84) (ih (l := l - 1) (bd := bd + 1) (by omega) (by omega) (by omega) (by omega) (by omega) (hB.mono (hG6)) hn H) ?_;rintro x7 w1 ⟨G7, e7, m7, at7, sd7, hG7, hx7, hr7, ho7, hd7, hp7, ha7, H⟩;obtain ⟨x7A, x7c, x7B, x7d, rfl, _, _, _⟩ := id hx7.open;have H := fr2 H;refine nx H ?_;refine m_cl #[.agg #[iN ((Sv.toT T6).kind), iN ((Sv.toT T6).num), .slice xA6 ((Sv.toT T6).kids.length) xc6], (aE e7 x7A x7c x7B x7d)] (some 85) (c54 ((hx6).mono (hG7)) (hx7) H) ?_;rintro x8 w1 ⟨G8, hG8, hx8, H⟩;obtain ⟨x8A, x8c, x8B, x8d, rfl, _, _, _⟩ := id hx8.open;refine nx H ?_;refine s_0 [(0, iN ((xt ((Sv.toT T6)) e7).kind)), (1, iN ((xt ((Sv.toT T6)) e7).num)), (2, .slice x8A ((xt ((Sv.toT T6)) e7).kids.length) x8c), (3, iN ((xt ((Sv.toT T6)) e7).ty.kind)), (4, iN ((xt ((Sv.toT T6)) e7).ty.num)), (5, .slice x8B ((xt ((Sv.toT T6)) e7).ty.kids.length) x8d)] [iN ((xt ((Sv.toT T6)) e7).kind), iN ((xt ((Sv.toT T6)) e7).num), .slice x8A ((xt ((Sv.toT T6)) e7).kids.length) x8c, iN ((xt ((Sv.toT T6)) e7).ty.kind), iN ((xt ((Sv.toT T6)) e7).ty.num), .slice x8B ((xt ((Sv.toT T6)) e7).ty.kids.length) x8d] none H (fun w1 H => ?_);refine r_nil ?_;refine W_ret ?_;refine q_rt [iN ((xt ((Sv.toT T6)) e7).kind), iN ((xt ((Sv.toT T6)) e7).num), .slice x8A ((xt ((Sv.toT T6)) e7).kids.length) x8c, iN ((xt ((Sv.toT T6)) e7).ty.kind), iN ((xt ((Sv.toT T6)) e7).ty.num), .slice x8B ((xt ((Sv.toT T6)) e7).ty.kids.length) x8d] [(⟨b1, 0, none⟩, iN ((xt ((Sv.toT T6)) e7).kind)), (⟨b1, 1, none⟩, iN ((xt ((Sv.toT T6)) e7).num)), (⟨b1, 2, none⟩, .slice x8A ((xt ((Sv.toT T6)) e7).kids.length) x8c), (⟨b1, 3, none⟩, iN ((xt ((Sv.toT T6)) e7).ty.kind)), (⟨b1, 4, none⟩, iN ((xt ((Sv.toT T6)) e7).ty.num)), (⟨b1, 5, none⟩, .slice x8B ((xt ((Sv.toT T6)) e7).ty.kids.length) x8d)] (.agg #[iN ((xt ((Sv.toT T6)) e7).kind), iN ((xt ((Sv.toT T6)) e7).num), .slice x8A ((xt ((Sv.toT T6)) e7).kids.length) x8c, iN ((xt ((Sv.toT T6)) e7).ty.kind), iN ((xt ((Sv.toT T6)) e7).ty.num), .slice x8B ((xt ((Sv.toT T6)) e7).ty.kids.length) x8d]) (rc_L 0 rfl rfl (rc_L 0 rfl rfl (rc_L 0 rfl rfl (rc_L 0 rfl rfl (rc_L 0 rfl rfl (rc_L 0 rfl rfl rc_nil)))))) H ?_
  have hnd : (.typed T6 m7 : Sv.Tm).size = m7.size + 1 := rfl
  have hlv : l - 1 - (m7.size : Int) = l - ((.typed T6 m7 : Sv.Tm).size : Int) := by rw [hnd]; omega
  rw [hlv] at H
  exact ⟨G8, xt ((Sv.toT T6)) e7, .typed T6 m7, at7, _, ((hG6).trans hG7).trans hG8, (hx8), ⟨_, rfl, hr7⟩, ⟨hA6, ho7⟩, by rw [hnd]; omega, (fun h => by rw [hpl] at h; cases h), by rw [hnd]; omega, H.drop [_]⟩
 have hz10 := mt hq10.2 (by rw [hc21]; simp)
 refine W_seqI (fun ρ D w => ∃ (bq12 : Bool), EqS ρ [(0, pN sb 0), (1, pN lb 0), (2, iN (((bd : Nat) : Int))), (3, .bool pl), (8, pN b1 0), (9, iN k1), (86, .bool bq12)] ∧ D = [] ∧ St G ((b1, oE) :: (lb, .cells #[iN (l - 1)] 3) :: (sb, .cells #[.slice A n c, iN (((ak1 : Nat) : Int)), .int .u64 sk1] 96) :: L) w ∧ (bq12 = true ↔ l - 1 ≥ 1 ∧ k1 = 5 ∧ pl = true)) ?_ ?_
 ·skip
  refine W_rg [(.p, 0), (.p, 1), (.l, 2), (.p, 3), (.p, 4), (.p, 5), (.p, 6), (.p, 7), (.p, 8), (.p, 9), (.p, 10), (.p, 11)] H ?_;refine r_s [1] [(.p, 0), (.p, 1), (.l, 2), (.p, 3), (.p, 4)] [(87, pN lb 0), (88, pN lb 0), (89, iN (l - 1)), (90, .bool (decide ((l - 1) ≥ 1))), (91, .bool (decide ((l - 1) ≥ 1)))] (rc_l 1 0 rfl rfl rc_nil) ?_
  rcases Bool.eq_false_or_eq_true (decide ((l - 1) ≥ 1)) with hc22 | hc22
  ·rw [hc22]
   have hp23 := hc22
   simp only [decide_eq_true_eq, decide_eq_false_iff_not, beq_iff_eq, beq_eq_false_iff_ne, bne_iff_ne, bne_eq_false_iff_eq, Bool.not_eq_true', Bool.not_eq_false', Bool.and_eq_true, Bool.and_eq_false_iff, ne_eq] at hp23;refine r_y [(.p, 5), (.p, 6), (.p, 7), (.p, 8)] [(92, iN k1), (93, .bool (k1 == 5)), (94, .bool (k1 == 5)), (95, .bool (k1 == 5))] ?_
   rcases Bool.eq_false_or_eq_true (k1 == 5) with hc24 | hc24
   ·rw [hc24]
    have hp25 := hc24
    simp only [decide_eq_true_eq, decide_eq_false_iff_not, beq_iff_eq, beq_eq_false_iff_ne, bne_iff_ne, bne_eq_false_iff_eq, Bool.not_eq_true', Bool.not_eq_false', Bool.and_eq_true, Bool.and_eq_false_iff, ne_eq] at hp25;refine r_z [(96, .bool pl), (97, .bool pl), (86, .bool pl)] ?_
    exact ⟨pl, ⟨e_, e_, e_, e_, e_, e_, e_, trivial⟩, rfl, H, ⟨fun h => ⟨by omega, by omega, h⟩, fun h => h.2.2⟩⟩
   rw [hc24]
   have hp26 := hc24
   simp only [decide_eq_true_eq, decide_eq_false_iff_not, beq_iff_eq, beq_eq_false_iff_ne, bne_iff_ne, bne_eq_false_iff_eq, Bool.not_eq_true', Bool.not_eq_false', Bool.and_eq_true, Bool.and_eq_false_iff, ne_eq] at hp26;refine r_z [(96, undef), (97, .bool false), (86, .bool false)] ?_
   exact ⟨false, ⟨e_, e_, e_, e_, e_, e_, e_, trivial⟩, rfl, H, ⟨fun h => (by cases h), fun h => absurd h (by omega)⟩⟩
  rw [hc22]
  have hp27 := hc22
  simp only [decide_eq_true_eq, decide_eq_false_iff_not, beq_iff_eq, beq_eq_false_iff_ne, bne_iff_ne, bne_eq_false_iff_eq, Bool.not_eq_true', Bool.not_eq_false', Bool.and_eq_true, Bool.and_eq_false_iff, ne_eq] at hp27;refine r_z (uD 92 2 [(94, .bool false), (95, .bool false), (96, undef), (97, .bool false), (86, .bool false)]) ?_
  exact ⟨false, ⟨e_, e_, e_, e_, e_, e_, e_, trivial⟩, rfl, H, ⟨fun h => (by cases h), fun h => absurd h (by omega)⟩⟩
 clear H; rintro ρ D w1 ⟨bq12, hE28, rfl, H, hq12⟩
 refine W_env hE28 ?_;refine W_cd (b := bq12) (fun hc29 => ?_) (fun hc29 => ?_)
 ·skip
  have hz12 := hq12.1 hc29
  have hpl := hz12.2.2
  refine W_sr [(.p, 0), (.p, 1), (.p, 2), (.p, 3), (.f, 4), (.p, 5), (.f, 6), (.f, 7), (.f, 8)] H ?_;refine r_y [(.p, 0), (.p, 1), (.p, 2), (.p, 3)] [(98, pN sb 0), (99, pN lb 0), (100, nN bd), (101, .bool pl)] ?_;have H := St.swap (A := [(b1, oE)]) (B := [(lb, .cells #[iN (l - 1)] 3), (sb, cS A n c ak1 sk1)]) (C := L) H;refine m_cl #[pN sb 0, pN lb 0, nN bd, .bool pl] (some 102) (ih (l := l - 1) (bd := bd) (by omega) (by omega) (by omega) (by omega) (by omega) hB hn H) ?_;rintro x9 w1 ⟨G9, e9, m9, at9, sd9, hG9, hx9, hr9, ho9, hd9, hp9, ha9, H⟩;obtain ⟨x9A, x9c, x9B, x9d, rfl, _, _, _⟩ := id hx9.open;have H := fr2 H;refine nx H ?_;refine r_y [(.p, 5)] [(103, pN sb 0)] ?_;have H := St.swap (A := [(b1, oE), (lb, .cells #[iN (l - 1 - (m9.size : Int))] 3)]) (B := [(sb, cS A n c at9 sd9)]) (C := L) H;refine m_cl #[pN sb 0, iN 7, .bool false] (some 104) (c19 (by decide) (by decide) (by omega) (hB.mono (hG9)) hn H) ?_;rintro x10 w1 ⟨G10, t10, at10, sd10, hG10, hx10, hr10, hd10, hp10, ha10, H⟩;obtain ⟨T10, rfl, hA10, hs10, _⟩ := made_ann hr10 (by omega);obtain ⟨xA10, xc10, rfl, _, _⟩ := id hx10.open;have H := St.swap (A := [(sb, cS A n c at10 sd10)]) (B := [(b1, oE), (lb, .cells #[iN (l - 1 - (m9.size : Int))] 3)]) (C := L) H
  have H : St G10 ((b1, oE) :: (lb, .cells #[iN (l - 1 - (m9.size : Int))] 3) :: (sb, cS A n c at10 sd10) :: L) w1 := H
  refine nx H ?_;refine m_cl #[(aE e9 x9A x9c x9B x9d), .agg #[iN ((Sv.toT T10).kind), iN ((Sv.toT T10).num), .slice xA10 ((Sv.toT T10).kids.length) xc10]] (some 105) (c31 ((hx9).mono (hG10)) (hx10) H) ?_;rintro x11 w1 ⟨G11, hG11, hx11, H⟩;obtain ⟨x11A, x11c, x11B, x11d, rfl, _, _, _⟩ := id hx11.open;refine nx H ?_;refine s_0 [(0, iN ((xh e9 ((Sv.toT T10))).kind)), (1, iN ((xh e9 ((Sv.toT T10))).num)), (2, .slice x11A ((xh e9 ((Sv.toT T10))).kids.length) x11c), (3, iN ((xh e9 ((Sv.toT T10))).ty.kind)), (4, iN ((xh e9 ((Sv.toT T10))).ty.num)), (5, .slice x11B ((xh e9 ((Sv.toT T10))).ty.kids.length) x11d)] [iN ((xh e9 ((Sv.toT T10))).kind), iN ((xh e9 ((Sv.toT T10))).num), .slice x11A ((xh e9 ((Sv.toT T10))).kids.length) x11c, iN ((xh e9 ((Sv.toT T10))).ty.kind), iN ((xh e9 ((Sv.toT T10))).ty.num), .slice x11B ((xh e9 ((Sv.toT T10))).ty.kids.length) x11d] none H (fun w1 H => ?_);refine r_nil ?_;refine W_ret ?_;refine q_rt [iN ((xh e9 ((Sv.toT T10))).kind), iN ((xh e9 ((Sv.toT T10))).num), .slice x11A ((xh e9 ((Sv.toT T10))).kids.length) x11c, iN ((xh e9 ((Sv.toT T10))).ty.kind), iN ((xh e9 ((Sv.toT T10))).ty.num), .slice x11B ((xh e9 ((Sv.toT T10))).ty.kids.length) x11d] [(⟨b1, 0, none⟩, iN ((xh e9 ((Sv.toT T10))).kind)), (⟨b1, 1, none⟩, iN ((xh e9 ((Sv.toT T10))).num)), (⟨b1, 2, none⟩, .slice x11A ((xh e9 ((Sv.toT T10))).kids.length) x11c), (⟨b1, 3, none⟩, iN ((xh e9 ((Sv.toT T10))).ty.kind)), (⟨b1, 4, none⟩, iN ((xh e9 ((Sv.toT T10))).ty.num)), (⟨b1, 5, none⟩, .slice x11B ((xh e9 ((Sv.toT T10))).ty.kids.length) x11d)] (.agg #[iN ((xh e9 ((Sv.toT T10))).kind), iN ((xh e9 ((Sv.toT T10))).num), .slice x11A ((xh e9 ((Sv.toT T10))).kids.length) x11c, iN ((xh e9 ((Sv.toT T10))).ty.kind), iN ((xh e9 ((Sv.toT T10))).ty.num), .slice x11B ((xh e9 ((Sv.toT T10))).ty.kids.length) x11d]) (rc_L 0 rfl rfl (rc_L 0 rfl rfl (rc_L 0 rfl rfl (rc_L 0 rfl rfl (rc_L 0 rfl rfl (rc_L 0 rfl rfl rc_nil)))))) H ?_
  have hnd : (.has m9 T10 : Sv.Tm).size = m9.size + 1 := rfl
  have hlv : l - 1 - (m9.size : Int) = l - ((.has m9 T10 : Sv.Tm).size : Int) := by rw [hnd]; omega
  rw [hlv] at H
  exact ⟨G11, xh e9 ((Sv.toT T10)), .has m9 T10, at10, _, ((hG9).trans hG10).trans hG11, (hx11), ⟨_, rfl, hr9⟩, ⟨hA10, ho9⟩, by rw [hnd]; omega, (fun h => by rw [hpl] at h; cases h), by rw [hnd]; omega, H.drop [_]⟩
 have hz12 := mt hq12.2 (by rw [hc29]; simp)
 refine W_seqI (fun ρ D w => ∃ (bq14 : Bool), EqS ρ [(0, pN sb 0), (1, pN lb 0), (2, iN (((bd : Nat) : Int))), (3, .bool pl), (8, pN b1 0), (9, iN k1), (106, .bool bq14)] ∧ D = [] ∧ St G ((b1, oE) :: (lb, .cells #[iN (l - 1)] 3) :: (sb, .cells #[.slice A n c, iN (((ak1 : Nat) : Int)), .int .u64 sk1] 96) :: L) w ∧ (bq14 = true ↔ (bd : Int) > 0 ∧ k1 ≠ 7)) ?_ ?_
 ·skip
  refine W_rg [(.p, 0), (.p, 1), (.p, 2), (.p, 3), (.p, 4), (.p, 5), (.p, 6)] H ?_;refine r_y [(.p, 0), (.p, 1), (.p, 2)] [(107, nN bd), (108, .bool (decide ((((bd : Nat) : Int)) > 0))), (109, .bool (decide ((((bd : Nat) : Int)) > 0)))] ?_
  rcases Bool.eq_false_or_eq_true (decide ((((bd : Nat) : Int)) > 0)) with hc30 | hc30
  ·rw [hc30]
   have hp31 := hc30
   simp only [decide_eq_true_eq, decide_eq_false_iff_not, beq_iff_eq, beq_eq_false_iff_ne, bne_iff_ne, bne_eq_false_iff_eq, Bool.not_eq_true', Bool.not_eq_false', Bool.and_eq_true, Bool.and_eq_false_iff, ne_eq] at hp31;refine r_z [(110, iN k1), (111, .bool (k1 != 7)), (112, .bool (k1 != 7)), (106, .bool (k1 != 7))] ?_
   exact ⟨k1 != 7, ⟨e_, e_, e_, e_, e_, e_, e_, trivial⟩, rfl, H, ⟨fun h => ⟨by omega, by simpa using h⟩, fun h => by simpa using h.2⟩⟩
  rw [hc30]
  have hp32 := hc30
  simp only [decide_eq_true_eq, decide_eq_false_iff_not, beq_iff_eq, beq_eq_false_iff_ne, bne_iff_ne, bne_eq_false_iff_eq, Bool.not_eq_true', Bool.not_eq_false', Bool.and_eq_true, Bool.and_eq_false_iff, ne_eq] at hp32;refine r_z (uD 110 2 [(112, .bool false), (106, .bool false)]) ?_
  exact ⟨false, ⟨e_, e_, e_, e_, e_, e_, e_, trivial⟩, rfl, H, ⟨fun h => (by cases h), fun h => absurd h (by omega)⟩⟩
 clear H; rintro ρ D w1 ⟨bq14, hE33, rfl, H, hq14⟩
 refine W_env hE33 ?_;refine W_cd (b := bq14) (fun hc34 => ?_) (fun hc34 => ?_)
 ·skip
  have hz14 := hq14.1 hc34
  refine W_sr [(.p, 0), (.p, 1), (.f, 2), (.f, 3), (.f, 4)] H ?_;refine r_y [(.p, 0), (.p, 1)] [(113, pN sb 0), (114, nN bd)] ?_;have H := St.swap (A := [(b1, oE), (lb, .cells #[iN (l - 1)] 3)]) (B := [(sb, cS A n c ak1 sk1)]) (C := L) H;refine m_cl #[pN sb 0, nN bd] (some 115) (c32 hB hn (by omega) H) ?_;rintro _ w1 ⟨k2, ak2, sk2, rfl, hk2a, hk2b, hk2t, H⟩;have H := St.swap (A := [(sb, cS A n c ak2 sk2)]) (B := [(b1, oE), (lb, .cells #[iN (l - 1)] 3)]) (C := L) H
  have H : St G ((b1, oE) :: (lb, .cells #[iN (l - 1)] 3) :: (sb, cS A n c ak2 sk2) :: L) w1 := H
  refine nx H ?_;refine m_cl #[iN k2] (some 116) (c52  H) ?_;rintro x12 w1 ⟨G12, hG12, hx12, H⟩;obtain ⟨x12A, x12c, x12B, x12d, rfl, _, _, _⟩ := id hx12.open;refine nx H ?_;refine s_0 [(0, iN ((xv k2).kind)), (1, iN ((xv k2).num)), (2, .slice x12A ((xv k2).kids.length) x12c), (3, iN ((xv k2).ty.kind)), (4, iN ((xv k2).ty.num)), (5, .slice x12B ((xv k2).ty.kids.length) x12d)] [iN ((xv k2).kind), iN ((xv k2).num), .slice x12A ((xv k2).kids.length) x12c, iN ((xv k2).ty.kind), iN ((xv k2).ty.num), .slice x12B ((xv k2).ty.kids.length) x12d] none H (fun w1 H => ?_);refine r_nil ?_;refine W_ret ?_;refine q_rt [iN ((xv k2).kind), iN ((xv k2).num), .slice x12A ((xv k2).kids.length) x12c, iN ((xv k2).ty.kind), iN ((xv k2).ty.num), .slice x12B ((xv k2).ty.kids.length) x12d] [(⟨b1, 0, none⟩, iN ((xv k2).kind)), (⟨b1, 1, none⟩, iN ((xv k2).num)), (⟨b1, 2, none⟩, .slice x12A ((xv k2).kids.length) x12c), (⟨b1, 3, none⟩, iN ((xv k2).ty.kind)), (⟨b1, 4, none⟩, iN ((xv k2).ty.num)), (⟨b1, 5, none⟩, .slice x12B ((xv k2).ty.kids.length) x12d)] (.agg #[iN ((xv k2).kind), iN ((xv k2).num), .slice x12A ((xv k2).kids.length) x12c, iN ((xv k2).ty.kind), iN ((xv k2).ty.num), .slice x12B ((xv k2).ty.kids.length) x12d]) (rc_L 0 rfl rfl (rc_L 0 rfl rfl (rc_L 0 rfl rfl (rc_L 0 rfl rfl (rc_L 0 rfl rfl (rc_L 0 rfl rfl rc_nil)))))) H ?_
  have hkv := hk2b (by omega)
  have hnd : (.var k2.toNat : Sv.Tm).size = 1 := rfl
  have hlv : l - 1 = l - ((.var k2.toNat : Sv.Tm).size : Int) := by rw [hnd]; omega
  rw [hlv] at H
  exact ⟨G12, xv k2, .var k2.toNat, ak2, _, hG12, (hx12), isR_var hkv.1, (by show k2.toNat < bd; omega), by rw [hnd]; omega, (fun _ => trivial), by rw [hnd]; omega, H.drop [_]⟩
 have hz14 := mt hq14.2 (by rw [hc34]; simp)
 refine W_skip ?_;refine W_sr [(.p, 0), (.f, 1), (.f, 2), (.f, 3)] H ?_;refine r_y [(.p, 0)] [(117, pN sb 0)] ?_;have H := St.swap (A := [(b1, oE), (lb, .cells #[iN (l - 1)] 3)]) (B := [(sb, cS A n c ak1 sk1)]) (C := L) H;refine m_cl #[pN sb 0, iN 9] (some 118) (c32 hB hn (by omega) H) ?_;rintro _ w1 ⟨k3, ak3, sk3, rfl, hk3a, hk3b, hk3t, H⟩;have H := St.swap (A := [(sb, cS A n c ak3 sk3)]) (B := [(b1, oE), (lb, .cells #[iN (l - 1)] 3)]) (C := L) H
 have H : St G ((b1, oE) :: (lb, .cells #[iN (l - 1)] 3) :: (sb, cS A n c ak3 sk3) :: L) w1 := H
 refine nx H ?_;refine m_cl #[iN k3] (some 119) (c55  H) ?_;rintro x13 w1 ⟨G13, hG13, hx13, H⟩;obtain ⟨x13A, x13c, x13B, x13d, rfl, _, _, _⟩ := id hx13.open;refine nx H ?_;refine s_0 [(0, iN ((xn k3).kind)), (1, iN ((xn k3).num)), (2, .slice x13A ((xn k3).kids.length) x13c), (3, iN ((xn k3).ty.kind)), (4, iN ((xn k3).ty.num)), (5, .slice x13B ((xn k3).ty.kids.length) x13d)] [iN ((xn k3).kind), iN ((xn k3).num), .slice x13A ((xn k3).kids.length) x13c, iN ((xn k3).ty.kind), iN ((xn k3).ty.num), .slice x13B ((xn k3).ty.kids.length) x13d] none H (fun w1 H => ?_);refine r_nil ?_;refine W_ret ?_;refine q_rt [iN ((xn k3).kind), iN ((xn k3).num), .slice x13A ((xn k3).kids.length) x13c, iN ((xn k3).ty.kind), iN ((xn k3).ty.num), .slice x13B ((xn k3).ty.kids.length) x13d] [(⟨b1, 0, none⟩, iN ((xn k3).kind)), (⟨b1, 1, none⟩, iN ((xn k3).num)), (⟨b1, 2, none⟩, .slice x13A ((xn k3).kids.length) x13c), (⟨b1, 3, none⟩, iN ((xn k3).ty.kind)), (⟨b1, 4, none⟩, iN ((xn k3).ty.num)), (⟨b1, 5, none⟩, .slice x13B ((xn k3).ty.kids.length) x13d)] (.agg #[iN ((xn k3).kind), iN ((xn k3).num), .slice x13A ((xn k3).kids.length) x13c, iN ((xn k3).ty.kind), iN ((xn k3).ty.num), .slice x13B ((xn k3).ty.kids.length) x13d]) (rc_L 0 rfl rfl (rc_L 0 rfl rfl (rc_L 0 rfl rfl (rc_L 0 rfl rfl (rc_L 0 rfl rfl (rc_L 0 rfl rfl rc_nil)))))) H ?_
 have hkv := hk3b (by omega)
 have hnd : (.nat : Sv.Tm).size = 1 := rfl
 have hlv : l - 1 = l - ((.nat : Sv.Tm).size : Int) := by rw [hnd]; omega
 rw [hlv] at H
 exact ⟨G13, xn k3, .nat, ak3, _, hG13, (hx13), ⟨_, by omega, rfl⟩, trivial, by rw [hnd]; omega, (fun _ => trivial), by rw [hnd]; omega, H.drop [_]⟩

theorem c28 {G : GH} {L : LH} {w : World} {sb n c at_ : Nat} {A : Option Addr} {sd l : Int} {pl : Bool} (hl1 : 1 ≤ l) (hl2 : l ≤ 20) (hat : at_ ≤ 100) (hB : ByS G A n) (hn : n < lim) (H : St G ((sb, StB A n c at_ sd) :: L) w) :
  Cal Try.prog 28 #[.pointer (some ⟨sb, 0, none⟩), .int .i64 l, .bool pl] w fun x w' => ∃ G' lA lc x0 e, ∃ Γ : List Sv.Ty, ∃ m at' sd', Le G G' ∧ x = .tuple #[.slice lA (Γ.map Sv.toT).length lc, x0] ∧ (Γ.map Sv.toT).length ≤ lc ∧ IsPolys G' lA (Γ.map Sv.toT) ∧ IsExpr G' x0 e ∧ Sv.IsR m e ∧ m.ok Γ.length ∧ (m.size : Int) ≤ l ∧ (pl = false → m.bare) ∧ (∀ t ∈ Γ, Sv.Ann t) ∧ Γ.length ≤ 3 ∧ at' ≤ at_ + 500 ∧ St G' ((sb, StB A n c at' sd') :: L) w' := by
 have hlim : lim = 1099511627776 := rfl
 refine cal_of_W Try.func28 rfl (Nat.le_of_ble_eq_true e_) ?_;refine W_sr [(.p, 0), (.f, 1)] H ?_;refine r_y [(.p, 0)] [(6, .slice none 0 0)] ?_;refine m_nw oE 7 H (fun b1 w1 H => ?_);refine r_nil ?_;refine W_sr [(.p, 0)] H ?_;refine r_z [(8, .slice none 0 0)] ?_;refine W_seq ?_;refine W_sr [(.p, 0), (.f, 1), (.p, 2)] H ?_;refine r_y [(.p, 0)] [(10, pN sb 0)] ?_;have H := St.swap (A := [(b1, oE)]) (B := [(sb, cS A n c at_ sd)]) (C := L) H;refine m_cl #[pN sb 0, iN 4] (some 11) (c32 hB hn (by omega) H) ?_;rintro _ w1 ⟨k1, ak, sk, rfl, _, hk1b, hkt, H⟩
 have hk1 := hk1b (by decide)
 have H : St G ((sb, cS A n c ak sk) :: (b1, oE) :: L) w1 := H
 refine nx H ?_;refine r_z [(12, iN 0)] ?_;refine W_block ?_;refine W_loop (fun m ρ D w => ∃ (k : Nat) (G1 : GH) (kv : Value) (cs : List Value) (Lp : LH) (Γ : List Sv.Ty) (at2 : Nat) (sd2 : Int), EqS ρ [(0, pN sb 0), (1, iN l), (2, .bool pl), (7, pN b1 0), (8, kv), (11, iN k1), (12, iN (((k : Nat) : Int)))] ∧ D = [] ∧ St G1 ((sb, .cells #[.slice A n c, iN (((at2 : Nat) : Int)), .int .u64 sd2] 96) :: (b1, oE) :: Lp ++ L) w ∧ (Le G G1) ∧ (OS 24 3 kv k cs Lp) ∧ (PoL G1 cs (Γ.map Sv.toT)) ∧ (Γ.length = k) ∧ (∀ t ∈ Γ, Sv.Ann t) ∧ (at2 ≤ at_ + 1 + 18 * k) ∧ ((k : Int) ≤ k1) ∧ k1.toNat - k = m) (k1.toNat - 0) ⟨0, G, .slice none 0 0, [], [], [], ak, sk, ⟨e_, e_, e_, e_, e_, e_, e_, trivial⟩, rfl, H, Le.refl _, OS.nil 24 3, trivial, rfl, (fun t ht => by cases ht), (by omega), (by omega), rfl⟩ ?_
 clear H; rintro m2 ρ D w1 ⟨k, G1, kv, cs, Lp, Γ, at2, sd2, hE3, rfl, H, hG1, hos, hty, hgl, hga, hat2, hkk, hm4⟩
 refine W_env hE3 ?_;refine W_sr [(.p, 0)] H ?_;refine r_z [(13, .bool (decide ((((k : Nat) : Int)) < k1)))] ?_;refine W_seq ?_;refine W_cd (b := decide ((((k : Nat) : Int)) < k1)) (fun hc5 => ?_) (fun hc5 => ?_)
 ·skip
  have hlt : (k : Int) < k1 := of_decide_eq_true hc5
  refine W_skip ?_;refine W_seq ?_;refine W_block ?_;refine W_rg [(.p, 0), (.p, 1), (.f, 2), (.f, 3), (.f, 4), (.p, 5)] H ?_;refine r_y [(.p, 0), (.p, 1)] [(14, kv), (15, pN sb 0)] ?_;refine m_cl #[pN sb 0, iN 9, .bool false] (some 16) (c19 (by decide) (by decide) (by omega) (hB.mono hG1) hn H) ?_;rintro x1 w1 ⟨G2, t1, at3, sd3, hG2, hx, hr, hd, _, ha, H⟩;obtain ⟨T1, rfl, hA1, _, _⟩ := made_ann hr (by omega);obtain ⟨xA, xc, rfl, _, _⟩ := id hx.open;refine nx H ?_;refine m_new (.cells #[iN ((Sv.toT T1).kind), iN ((Sv.toT T1).num), .slice xA ((Sv.toT T1).kids.length) xc] 24) (fun b6 => sN b6 0 1 1) (some 17) (fun b => by kernel_rfl) H (fun b6 w1 H => ?_);refine m_append (v := kv) (sb := b6) (so := 0) (m := 1) (mc := 1) el22 [(b6, .cells #[iN ((Sv.toT T1).kind), iN ((Sv.toT T1).num), .slice xA ((Sv.toT T1).kids.length) xc] 24), (sb, cS A n c at3 sd3), (b1, oE)] [iN ((Sv.toT T1).kind), iN ((Sv.toT T1).num), .slice xA ((Sv.toT T1).kids.length) xc] (d := (some 18)) (show opAt _ _ _ = some (.call { callee := .builtin .append, args := #[(.tmp 14), (.tmp 17)], argTypes := #[22, 22] }, _) by kernel_rfl) e_ e_ hos H (by first | rfl | (simp; done)) (src_L 0 H rfl) e_ (by decide) (by omega) (by omega) (fun kv2 Lp2 w1 hos2 H => ?_);obtain ⟨nb, nc, rfl⟩ := hos2.shape (by omega);refine r_z [(8, sN nb 0 ((k + 1)) nc)] ?_;refine W_rg (pL 2) H ?_;refine r_z [(19, iN (IntKind.wrap .i64 ((((k : Nat) : Int)) + 1))), (12, iN (IntKind.wrap .i64 ((((k : Nat) : Int)) + 1)))] ?_
  exact ⟨_, (by omega), k + 1, G2, sN nb 0 (k + 1) nc, cs ++ [iN (Sv.toT T1).kind, iN (Sv.toT T1).num, .slice xA (Sv.toT T1).kids.length xc], Lp2, Γ ++ [T1], at3, sd3, ⟨e_, e_, e_, e_, e_, e_, (by rw [← wrap_succ (k := k) (by omega)]; kernel_rfl), trivial⟩, rfl, (H.drop [_]), (hG1.trans hG2), hos2, (by rw [List.map_append]; exact (hty.mono hG2).snoc hx), (by rw [List.length_append, hgl]; rfl), (fun t ht => by rcases List.mem_append.1 ht with ht | ht; exact hga t ht; rw [List.mem_singleton.1 ht]; exact hA1), (by omega), (by omega), rfl⟩
 have hge : ¬ (k : Int) < k1 := of_decide_eq_false hc5
 refine W_exit ?_;refine W_seq ?_;have H := St.swap (A := [(sb, cS A n c at2 sd2), (b1, oE)]) (B := Lp) (C := L) H;obtain ⟨G2, hG2, hF8, H⟩ := H.freeze Lp;obtain ⟨rA, rc, rfl, hrc, hrk⟩ := hos.polys (ts := Γ.map Sv.toT) (hty.mono hG2) (by simp; omega) hF8
 have hgm : (Γ.map Sv.toT).length = Γ.length := List.length_map ..
 have H : St G2 ((sb, cS A n c at2 sd2) :: (b1, oE) :: L) _ := H
 refine W_rg [(.p, 0), (.f, 1), (.f, 2)] H ?_;refine r_y [(.p, 0)] [(20, iN l)] ?_;refine m_nw (.cells #[iN 0] 3) 9 H (fun b7 w1 H => ?_);refine s_0 [(0, iN l)] [iN l] none H (fun w1 H => ?_);refine r_nil ?_;refine W_sr [(.p, 0), (.p, 1), (.p, 2), (.p, 3), (.p, 4), (.f, 5), (.p, 6), (.f, 7)] H ?_;refine r_y [(.p, 0), (.p, 1), (.p, 2), (.p, 3), (.p, 4)] [(21, .slice rA ((Γ.map Sv.toT).length) rc), (22, pN sb 0), (23, .slice rA ((Γ.map Sv.toT).length) rc), (24, nN ((Γ.map Sv.toT).length)), (25, .bool pl)] ?_;refine m_cl #[pN sb 0, pN b7 0, nN ((Γ.map Sv.toT).length), .bool pl] (some 26) (c33 l.toNat (bd := (Γ.map Sv.toT).length) (by omega) hl1 (by omega) (by omega) (by omega) ((hB.mono hG1).mono hG2) hn H) ?_;rintro x1 w1 ⟨G3, e1, m1, at3, sd3, hG3, hx, hr, ho, hd, hp, ha, H⟩;obtain ⟨x1A, x1c, x1B, x1d, rfl, _, _, _⟩ := id hx.open;have H := H.drop [_]
 have H : St G3 ((sb, cS A n c at3 sd3) :: (b1, oE) :: L) w1 := H
 refine nx H ?_;refine r_y [(.p, 6)] [(6, .slice rA ((Γ.map Sv.toT).length) rc)] ?_;refine s_1 [(0, iN e1.kind), (1, iN e1.num), (2, .slice x1A e1.kids.length x1c), (3, iN e1.ty.kind), (4, iN e1.ty.num), (5, .slice x1B e1.ty.kids.length x1d)] [iN e1.kind, iN e1.num, .slice x1A e1.kids.length x1c, iN e1.ty.kind, iN e1.ty.num, .slice x1B e1.ty.kids.length x1d] none H (fun w1 H => ?_);refine r_nil ?_;refine W_ret ?_;refine q_rt [iN e1.kind, iN e1.num, .slice x1A e1.kids.length x1c, iN e1.ty.kind, iN e1.ty.num, .slice x1B e1.ty.kids.length x1d] [(⟨b1, 0, none⟩, iN e1.kind), (⟨b1, 1, none⟩, iN e1.num), (⟨b1, 2, none⟩, .slice x1A e1.kids.length x1c), (⟨b1, 3, none⟩, iN e1.ty.kind), (⟨b1, 4, none⟩, iN e1.ty.num), (⟨b1, 5, none⟩, .slice x1B e1.ty.kids.length x1d)] (.tuple #[.slice rA ((Γ.map Sv.toT).length) rc, (aE e1 x1A x1c x1B x1d)]) (rc_L 1 rfl rfl (rc_L 1 rfl rfl (rc_L 1 rfl rfl (rc_L 1 rfl rfl (rc_L 1 rfl rfl (rc_L 1 rfl rfl rc_nil)))))) H ?_
 have H := (St.swap (A := [(sb, cS A n c at3 sd3)]) (B := [(b1, cE e1 x1A x1c x1B x1d)]) (C := L) H).drop [_]
 exact ⟨G3, rA, rc, _, e1, Γ, m1, at3, sd3, (hG1.trans hG2).trans hG3, rfl, hrc, hrk.mono hG3, hx, hr, by rw [← hgm]; exact ho, hd, hp, hga, by omega, by omega, H⟩

theorem c30 {f : Nat} {G : GH} {L : LH} {w : World} {A : Option Addr} {c : Nat} {v va : Value} {l : List T} {e : E} {t : T} {r : Bool} {er : Int} (hks : IsPolys G A l) (hc : l.length ≤ c) (hlsz : T.szs l < lim) (hv : IsExpr G v e) (hsz : E.sz e < lim) (hva : IsPoly G va t) (htz : T.sz t + 1 < lim) (H : St G L w) (h : Md.Has f l e t = some (r, er)) :
  Cal Try.prog 30 #[.slice A l.length c, v, va] w fun x w' => ∃ G', Le G G' ∧ x = .tuple #[.bool r, .int .i64 er] ∧ St G' L w' := by
 have hlim : lim = 1099511627776 := rfl
 obtain ⟨eA, ec, eB, ed, rfl, hec, heks, hety⟩ := id hv.open
 unfold Md.Has at h
 obtain ⟨tA, tc, rfl, htc, htk⟩ := id hva.open;refine cal_of_W Try.func30 rfl (Nat.le_of_ble_eq_true e_) ?_;refine W_sr [(.f, 0), (.f, 1), (.p, 2), (.p, 3)] H ?_;refine m_nw (cE e eA ec eB ed) 4 H (fun b1 w1 H => ?_);refine m_nw (cT t tA tc) 5 H (fun b2 w1 H => ?_);refine r_z [(6, .bool false), (7, iN 0)] ?_;refine W_seq ?_;refine W_sr [(.p, 0), (.l, 1), (.f, 2), (.p, 3)] H ?_;refine r_s [6] [(.p, 0), (.l, 1)] [(10, .slice A l.length c), (11, (aE e eA ec eB ed))] (rc_l 1 0 rfl rfl (rc_l 1 1 rfl rfl (rc_l 1 2 rfl rfl (rc_l 1 3 rfl rfl (rc_l 1 4 rfl rfl (rc_l 1 5 rfl rfl rc_nil)))))) ?_;refine m_cl #[.slice A l.length c, (aE e eA ec eB ed)] (some 12) (c68 (n := 0) hks hc hlsz hv hsz H) ?_;rintro _ w1 ⟨G1, hG1, rfl, H⟩;refine nx H ?_;refine r_z [(8, iN (Md.Good l e))] ?_;refine W_sr (pL 2) H ?_;refine r_z [(13, iN (Md.Good l e)), (14, .bool ((Md.Good l e) != 0))] ?_;refine W_cd (b := (Md.Good l e) != 0) (fun hc3 => ?_) (fun hc3 => ?_)
 ·skip
  rw [if_pos (show Md.Good l e ≠ 0 by simpa using hc3)] at h; simp only [o_j, p_j] at h; obtain ⟨rfl, rfl⟩ := h
  refine W_sr (pL 3) H ?_;refine r_z [(15, iN (Md.Good l e)), (6, .bool false), (7, iN (Md.Good l e))] ?_;refine W_ret ?_;refine q_rt [] [] (.tuple #[.bool false, iN (Md.Good l e)]) rc_nil H ?_
  exact ⟨G1, hG1, rfl, H.drop [_, _]⟩
 rw [if_neg (show ¬ Md.Good l e ≠ 0 by simpa using hc3)] at h;refine W_skip ?_;refine W_seq ?_;refine W_sr [(.l, 0), (.f, 1), (.f, 2), (.p, 3)] H ?_;refine r_s [3] [(.l, 0)] [(16, (aT t tA tc))] (rc_l 0 0 rfl rfl (rc_l 0 1 rfl rfl (rc_l 0 2 rfl rfl rc_nil))) ?_;refine m_new (cT t tA tc) (fun b4 => sN b4 0 1 1) (some 17) (fun b => by kernel_rfl) H (fun b4 w1 H => ?_);obtain ⟨G2, hG2, hF5, H⟩ := St.freeze [_] H
 have hfs := hF5 _ (.head _)
 have hcl56 := c56 (ts := [t]) (c := 1) (polys_of (cs := [.int .i64 t.kind, .int .i64 t.num, .slice tA t.kids.length tc]) ⟨(hva.mono hG1).mono hG2, trivial⟩ hfs) (Nat.le_refl _) (by rw [T.sz1]; omega) H
 refine m_cl #[sN b4 0 1 1] (some 18) (hcl56) ?_;rintro _ w1 ⟨G2', hG2', rfl, H⟩;replace hfs := hG2' _ _ hfs;refine nx H ?_;refine r_z [(9, iN (closed [t]))] ?_;refine W_sr (pL 2) H ?_;refine r_z [(19, iN (closed [t])), (20, .bool ((closed [t]) != 0))] ?_;refine W_cd (b := (closed [t]) != 0) (fun hc6 => ?_) (fun hc6 => ?_)
 ·skip
  rw [if_pos (show closed [t] ≠ 0 by simpa using hc6)] at h; simp only [o_j, p_j] at h; obtain ⟨rfl, rfl⟩ := h
  refine W_sr (pL 3) H ?_;refine r_z [(21, iN (closed [t])), (6, .bool false), (7, iN (closed [t]))] ?_;refine W_ret ?_;refine q_rt [] [] (.tuple #[.bool false, iN (closed [t])]) rc_nil H ?_
  exact ⟨G2', (hG1.trans hG2).trans hG2', rfl, H.drop [_, _]⟩
 rw [if_neg (show ¬ closed [t] ≠ 0 by simpa using hc6)] at h; obtain ⟨⟨r0, c3⟩, hr0, h⟩ := Option.bind_eq_some_iff.1 h; simp only [o_j, p_j] at h; obtain ⟨rfl, rfl⟩ := h
 refine W_skip ?_;refine W_seq ?_;refine W_regd [(.p, 0), (.l, 2), (.l, 3), (.e, 1), (.e, 4), (.f, 5), (.p, 6), (.p, 7)] (SS G2' ([(b2, cT t tA tc), (b1, cE e eA ec eB ed)])) mixed e_ e_ e_ e_ (fun w1 hw1 => ?_)
 have H := H.heap hw1; refine ⟨H.ss' (Le.refl _) (fun p hp => by simp only [List.mem_cons, List.not_mem_nil, or_false] at hp; rcases hp with rfl | rfl <;> simp), ?_⟩
 refine r_s [6, 3] [(.p, 0), (.l, 2), (.l, 3)] [(22, .slice A l.length c), (24, (aE e eA ec eB ed)), (25, (aT t tA tc))] (rc_l 1 0 rfl rfl (rc_l 1 1 rfl rfl (rc_l 1 2 rfl rfl (rc_l 1 3 rfl rfl (rc_l 1 4 rfl rfl (rc_l 1 5 rfl rfl (rc_l 0 0 rfl rfl (rc_l 0 1 rfl rfl (rc_l 0 2 rfl rfl rc_nil))))))))) ?_;refine m_callE #[.slice A l.length c] (some 23) e_ (c69 (((hks.mono hG1).mono hG2).mono hG2') hc hlsz H) ?_;rintro _ w1 ⟨G3, cb, sb, κ, rfl, hG3, hC, H⟩;replace hfs := hG3 _ _ hfs
 have H : St G3 ((b2, cT t tA tc) :: (b1, cE e eA ec eB ed) :: (κ ++ L)) w1 := St.swap (A := κ) (B := [(b2, cT t tA tc), (b1, cE e eA ec eB ed)]) (C := L) H
 refine ⟨H.ss' ((Le.refl _).trans hG3) (fun p hp => by simp only [List.mem_cons, List.not_mem_nil, or_false] at hp; rcases hp with rfl | rfl <;> simp), ?_⟩;refine m_callE #[(aT t tA tc)] (some 26) e_ (c66 lim t (by omega) (Nat.le_refl _) ((((hva.mono hG1).mono hG2).mono hG2').mono hG3) H) ?_;rintro v1 w1 ⟨G4, hG4, htt, H⟩;replace hfs := hG4 _ _ hfs;obtain ⟨ttb, _, _, rfl, _⟩ := id htt.open;refine ⟨H.ss' (((Le.refl _).trans hG3).trans hG4) (fun p hp => by simp only [List.mem_cons, List.not_mem_nil, or_false] at hp; rcases hp with rfl | rfl <;> simp), ?_⟩;have H := St.swap (A := [(b2, cT t tA tc), (b1, cE e eA ec eB ed)]) (B := κ) (C := L) H;refine m_cl #[pN cb 0, (aE e eA ec eB ed), pN ttb 0, iN 0] (some 27) ((pall _).2.1 (hC.mono hG4) H (((((hv.mono hG1).mono hG2).mono hG2').mono hG3).mono hG4) hsz htt hr0) ?_;rintro _ w1 ⟨G5, κ5, rfl, hG5, hC5, H⟩;have H := H.drop κ5
 have H : St G5 ((b2, cT t tA tc) :: (b1, cE e eA ec eB ed) :: L) w1 := H
 refine nx H ?_;refine r_z [(6, .bool r0), (7, iN 0)] ?_;refine W_ret ?_;refine q_rt [] [] (.tuple #[.bool r0, iN 0]) rc_nil H ?_
 exact ⟨G5, ((((hG1.trans hG2).trans hG2').trans hG3).trans hG4).trans hG5, rfl, H.drop [_, _]⟩

mutual
theorem qn_nds : ∀ (t : T), qn t ≤ nds t
 | .mk k n ks => by rw [nds_mk]; unfold qn; have := qns_ndss ks; split <;> omega
theorem qns_ndss : ∀ (ts : List T), qns ts ≤ ndss ts
 | [] => Nat.le_refl _
 | t :: ts => by rw [ndss_cons]; unfold qns; have := qn_nds t; have := qns_ndss ts; omega
end
theorem tys_szs : ∀ {Γ : List Sv.Ty}, (∀ t ∈ Γ, Sv.Ann t) → T.szs (Γ.map Sv.toT) ≤ 25 * Γ.length
 | [], _ => Nat.le_refl _
 | t :: Γ, h => by
  have h1 := tys_szs (Γ := Γ) fun u hu => h u (List.mem_cons_of_mem _ hu)
  have h2 := h t (List.mem_cons_self ..)
  have h3 := sz_nds (Sv.toT t)
  have h4 := (Sv.ct_rgt h2.1).2
  have h5 := h2.2
  show T.sz (Sv.toT t) + T.szs (Γ.map Sv.toT) + 1 ≤ 25 * (Γ.length + 1)
  omega

theorem c8 {G : GH} {L : LH} {w : World} {A0 A1 : Option Addr} {n0 c0 n1 c1 : Nat} (hB0 : ByS G A0 n0) (hc0 : n0 ≤ c0) (hB1 : ByS G A1 n1) (hc1 : n1 ≤ c1) (H : St G L w) :
  Cal Try.prog 8 #[.slice A0 n0 c0, .slice A1 n1 c1] w fun x w' => x = .bool true ∧ St G L w' := by
 have hlim : lim = 1099511627776 := rfl
 refine cal_of_W Try.func8 rfl (Nat.le_of_ble_eq_true e_) ?_;refine W_sr [(.p, 0)] H ?_;refine r_z [(4, .bool false)] ?_;refine W_sr [(.p, 0), (.f, 1), (.f, 2), (.p, 3), (.p, 4), (.p, 5), (.f, 6), (.p, 7), (.f, 8)] H ?_;refine r_y [(.p, 0)] [(15, .slice A0 n0 c0)] ?_;refine m_cl #[.slice A0 n0 c0] (some 16) (c20 (hB0) hc0 H) ?_;rintro _ w1 ⟨G1, sb0, B0, m0, d0, hG1, rfl, hC0, hm0, H⟩;refine nx H ?_;refine m_cl #[pN sb0 0, iN 14, .bool true] (some 17) (c28 (at_ := 0) (by decide) (by decide) (by decide) (hC0) hm0 H) ?_;rintro _ w1 ⟨G2, lA, lc, x0, e1, Γ, mt, at28, sd28, hG2, rfl, hlc, hks, hx1, hr1, ho1, hz1, _, hga, hgl, _, H⟩;obtain ⟨x1A, x1c, x1B, x1d, rfl, _, _, _⟩ := id hx1.open;have H := H.drop [_]
 have hΓ : Sv.Tys Γ := ⟨by omega, hga⟩
 have hlsz : T.szs (Γ.map Sv.toT) < lim := by have h0 := tys_szs hga; omega
 have hez : E.sz e1 < lim := by have h0 := isR_sz hr1 ho1; omega
 have H : St G2 (L) _ := H
 refine nx H ?_;refine r_y [(.p, 3), (.p, 4), (.p, 5)] [(14, .tuple #[.slice lA ((Γ.map Sv.toT).length) lc, (aE e1 x1A x1c x1B x1d)]), (18, .slice lA ((Γ.map Sv.toT).length) lc), (19, (aE e1 x1A x1c x1B x1d))] ?_;refine m_nw oE 6 H (fun b1 w1 H => ?_);refine r_y [(.p, 7)] [(5, .slice lA ((Γ.map Sv.toT).length) lc)] ?_;refine s_0 [(0, iN e1.kind), (1, iN e1.num), (2, .slice x1A e1.kids.length x1c), (3, iN e1.ty.kind), (4, iN e1.ty.num), (5, .slice x1B e1.ty.kids.length x1d)] [iN e1.kind, iN e1.num, .slice x1A e1.kids.length x1c, iN e1.ty.kind, iN e1.ty.num, .slice x1B e1.ty.kids.length x1d] none H (fun w1 H => ?_);refine r_nil ?_;refine W_sr [(.p, 0), (.f, 1), (.p, 2)] H ?_;refine r_y [(.p, 0)] [(20, .slice A1 n1 c1)] ?_;refine m_cl #[.slice A1 n1 c1] (some 21) (c20 ((hB1).mono ((hG1).trans hG2)) hc1 H) ?_;rintro _ w1 ⟨G3, sb1, B1, m1, d1, hG3, rfl, hC1, hm1, H⟩;refine nx H ?_;refine r_z [(7, pN sb1 0)] ?_;refine W_sr [(.p, 0), (.l, 1), (.f, 2), (.p, 3), (.p, 4), (.p, 5), (.f, 6), (.f, 7), (.p, 8)] H ?_;refine r_s [6] [(.p, 0), (.l, 1)] [(23, .slice lA ((Γ.map Sv.toT).length) lc), (24, (aE e1 x1A x1c x1B x1d))] (rc_l 1 0 rfl rfl (rc_l 1 1 rfl rfl (rc_l 1 2 rfl rfl (rc_l 1 3 rfl rfl (rc_l 1 4 rfl rfl (rc_l 1 5 rfl rfl rc_nil)))))) ?_;obtain ⟨fs, r, er, hsy, hcase⟩ := Sv.synth_law hΓ hr1 ho1 (by omega);refine m_cl #[.slice lA ((Γ.map Sv.toT).length) lc, (aE e1 x1A x1c x1B x1d)] (some 25) (c29 ((hks).mono (hG3)) hlc hlsz ((hx1).mono (hG3)) hez H hsy) ?_;rintro _ w1 ⟨G4, x0, hG4, rfl, hxr, H⟩
 rcases hcase with ⟨rfl, rfl, hno⟩ | ⟨rfl, rfl⟩ | ⟨rfl, hrr, hnr, hhr, hgr, hpr⟩
 ·skip
  obtain ⟨xAr, xcr, rfl, _, _⟩ := id hxr.open;refine nx H ?_;refine r_y [(.p, 3), (.p, 4), (.p, 5)] [(22, .tuple #[(aT t0 xAr xcr), iN 8]), (26, (aT t0 xAr xcr)), (27, iN 8)] ?_;refine m_nw oT 8 H (fun b2 w1 H => ?_);refine s_0 [(0, iN t0.kind), (1, iN t0.num), (2, .slice xAr t0.kids.length xcr)] [iN t0.kind, iN t0.num, .slice xAr t0.kids.length xcr] none H (fun w1 H => ?_);refine r_z [(9, iN 8)] ?_;refine W_seq ?_;refine W_sr (pL 2) H ?_;refine r_z [(28, iN 8), (29, .bool true)] ?_;refine W_cT ?_;refine W_sr [(.p, 0), (.p, 1), (.p, 2), (.p, 3), (.p, 4), (.p, 5), (.p, 6), (.f, 7), (.p, 8), (.p, 9)] H ?_;refine r_y [(.p, 0), (.p, 1), (.p, 2), (.p, 3), (.p, 4), (.p, 5), (.p, 6)] [(30, iN 8), (31, .bool true), (32, .bool true), (33, undef), (34, undef), (35, .bool true), (36, .bool true)] ?_;refine m_cl #[] (some 37) (c12 H) ?_;rintro _ w1 ⟨rfl, H⟩;refine nx H ?_;refine r_z [(38, .bool true), (4, .bool true)] ?_;refine W_ret ?_;refine q_rt [] [] (.bool true) rc_nil H ?_;replace H := H.weak ((((hG1).trans hG2).trans hG3).trans hG4)
  exact ⟨rfl, H.drop [_, _, _]⟩
 ·skip
  obtain ⟨xAr, xcr, rfl, _, _⟩ := id hxr.open;refine nx H ?_;refine r_y [(.p, 3), (.p, 4), (.p, 5)] [(22, .tuple #[(aT t0 xAr xcr), iN 11]), (26, (aT t0 xAr xcr)), (27, iN 11)] ?_;refine m_nw oT 8 H (fun b3 w1 H => ?_);refine s_0 [(0, iN t0.kind), (1, iN t0.num), (2, .slice xAr t0.kids.length xcr)] [iN t0.kind, iN t0.num, .slice xAr t0.kids.length xcr] none H (fun w1 H => ?_);refine r_z [(9, iN 11)] ?_;refine W_seq ?_;refine W_sr (pL 2) H ?_;refine r_z [(28, iN 11), (29, .bool true)] ?_;refine W_cT ?_;refine W_sr [(.p, 0), (.p, 1), (.p, 2), (.p, 3), (.p, 4), (.p, 5), (.p, 6), (.f, 7), (.p, 8), (.p, 9)] H ?_;refine r_y [(.p, 0), (.p, 1), (.p, 2), (.p, 3), (.p, 4), (.p, 5), (.p, 6)] [(30, iN 11), (31, .bool false), (32, .bool false), (33, iN 11), (34, .bool true), (35, .bool true), (36, .bool true)] ?_;refine m_cl #[] (some 37) (c12 H) ?_;rintro _ w1 ⟨rfl, H⟩;refine nx H ?_;refine r_z [(38, .bool true), (4, .bool true)] ?_;refine W_ret ?_;refine q_rt [] [] (.bool true) rc_nil H ?_;replace H := H.weak ((((hG1).trans hG2).trans hG3).trans hG4)
  exact ⟨rfl, H.drop [_, _, _]⟩
 obtain ⟨xAr, xcr, rfl, _, _⟩ := id hxr.open
 have hzr : T.sz r ≤ 400 := by have h0 := sz_nds r; omega
 refine nx H ?_;refine r_y [(.p, 3), (.p, 4), (.p, 5)] [(22, .tuple #[(aT r xAr xcr), iN 0]), (26, (aT r xAr xcr)), (27, iN 0)] ?_;refine m_nw oT 8 H (fun b4 w1 H => ?_);refine s_0 [(0, iN r.kind), (1, iN r.num), (2, .slice xAr r.kids.length xcr)] [iN r.kind, iN r.num, .slice xAr r.kids.length xcr] none H (fun w1 H => ?_);refine r_z [(9, iN 0)] ?_;refine W_seq ?_;refine W_sr (pL 2) H ?_;refine r_z [(28, iN 0), (29, .bool false)] ?_;refine W_cF ?_;refine W_skip ?_;refine W_seq ?_;refine W_sr [(.l, 0), (.f, 1), (.p, 2)] H ?_;refine r_s [3] [(.l, 0)] [(39, (aT r xAr xcr))] (rc_l 0 0 rfl rfl (rc_l 0 1 rfl rfl (rc_l 0 2 rfl rfl rc_nil))) ?_;refine m_cl #[(aT r xAr xcr)] (some 40) (c24 _ (Nat.lt_succ_self _) (by omega) (by omega) (hxr) H) ?_;rintro _ w1 ⟨rfl, H⟩;refine nx H ?_;refine r_z [(41, .bool (decide ((((nds r : Nat) : Int)) > 12)))] ?_;refine W_cd (b := decide ((((nds r : Nat) : Int)) > 12)) (fun hc5 => ?_) (fun hc5 => ?_)
 ·skip
  refine W_sr [(.f, 0), (.p, 1)] H ?_;refine m_cl #[] (some 42) (c12 H) ?_;rintro _ w1 ⟨rfl, H⟩;refine nx H ?_;refine r_z [(4, .bool true)] ?_;refine W_ret ?_;refine q_rt [] [] (.bool true) rc_nil H ?_;replace H := H.weak ((((hG1).trans hG2).trans hG3).trans hG4)
  exact ⟨rfl, H.drop [_, _, _]⟩
 have hn12 : nds r ≤ 12 := by have := of_decide_eq_false hc5; omega
 have hqr := qn_nds r
 refine W_skip ?_;refine W_seq ?_;refine W_block ?_;have H := fr2 H;have H := fr2 H;have H := fr2 H;refine W_loop (fun m ρ D w => ∃ (GL : GH) (tb : T) (xA : Option Addr) (xc : Nat) (at2 : Nat) (sd2 : Int), EqS ρ [(5, .slice lA ((Γ.map Sv.toT).length) lc), (6, pN b1 0), (7, pN sb1 0), (8, pN b4 0)] ∧ D = [] ∧ St GL ((b4, cT tb xA xc) :: (sb1, .cells #[.slice B1 m1 d1, iN (((at2 : Nat) : Int)), .int .u64 sd2] 96) :: (b1, cE e1 x1A x1c x1B x1d) :: L) w ∧ (Le G4 GL) ∧ (IsPoly GL (aT tb xA xc) tb) ∧ (rgt 0 tb) ∧ (nds tb ≤ 12) ∧ (Sv.hsB Γ mt tb = true) ∧ (at2 + 6 * qn tb ≤ 400) ∧ qn tb = m) (qn r) ⟨G4, r, xAr, xcr, 0, 88172645463325252, ⟨e_, e_, e_, e_, trivial⟩, rfl, H, Le.refl _, (hxr), hrr, hn12, hhr, (by omega), rfl⟩ ?_
 clear H; rintro m6 ρ D w1 ⟨GL, tb, xA, xc, at2, sd2, hE7, rfl, H, hGL, hxb, hrb, hnb, hhb, hat, hm8⟩
 refine W_env hE7 ?_;refine W_seq ?_;refine W_sr [(.p, 0), (.l, 1), (.p, 2)] H ?_;refine r_x [1] [(43, pN b4 0), (44, iN tb.kind), (45, .bool (tb.kind == 4))] (rc_l 0 0 rfl rfl rc_nil) ?_;refine W_cd (b := tb.kind == 4) (fun hc9 => ?_) (fun hc9 => ?_)
 ·skip
  refine W_skip ?_;refine W_block ?_;refine W_seq ?_;have H := fr1 H;refine W_regT (.fork [(.l, 0), (.p, 1)] 2 (.fork [] 3 (.run [(.p, 4), (.p, 5), (.p, 6), (.e, 7), (.f, 8), (.p, 9)]) 7 (.run [(.e, 3), (.p, 4), (.p, 5), (.p, 6), (.f, 8), (.p, 9)])) 7 (.run [(.e, 2), (.e, 3), (.p, 4), (.p, 5), (.p, 6), (.f, 8), (.p, 9)])) 8 (SS GL ([(b4, cT tb xA xc)])) mixed e_ e_ e_ e_ (fun w1 hw1 => ?_)
  have H := H.heap hw1; refine ⟨H.ss' (Le.refl _) (fun p hp => by rw [List.mem_singleton.1 hp]; simp), ?_⟩
  unfold RunT
  refine r_x [3] [(47, (aT tb xA xc)), (48, pN sb1 0)] (rc_l 0 0 rfl rfl (rc_l 0 1 rfl rfl (rc_l 0 2 rfl rfl rc_nil))) ?_;refine ⟨?_, ?_⟩
  ·skip
   refine m_callE #[pN sb1 0, iN 3, .bool true] (some 49) e_ (c19 (at_ := at2) (by decide) (by decide) (by omega) ((hC1).mono ((hG4).trans hGL)) hm1 H) ?_;rintro x1 w1 ⟨G5, tu, attu, sdtu, hG5, hxtu, hrtu, hntu, hptu, hatu, H⟩;obtain ⟨xAtu, xctu, rfl, _, _⟩ := id hxtu.open;refine ⟨H.ss' ((Le.refl _).trans hG5) (fun p hp => by rw [List.mem_singleton.1 hp]; simp), ?_⟩;refine r_nil ?_
   unfold RunT
   refine r_nil ?_;refine ⟨?_, ?_⟩
   ·skip
    have h4b : tb.kind = 4 := by simpa using hc9
    have hstk := H
    have hptu := hptu rfl
    obtain ⟨fo, ro, eo, hop1, hrz, hcase⟩ := Sv.opens_law hrb hnb h4b hrtu hptu (by omega)
    have hzb : T.sz tb ≤ 24 := by have b := sz_nds tb; omega
    have hzu : T.sz tu ≤ 24 := by have b := sz_nds tu; omega
    refine m_callE #[(aT tb xA xc), (aT tu xAtu xctu)] (some 50) e_ (c35 ((hxb).mono (hG5)) (hxtu) (by omega) hrz hstk hop1) ?_;rintro _ w1 ⟨G6, x0, Fo, hG6, rfl, hxo, H⟩;obtain ⟨G7, hG7, hFo, H⟩ := St.freeze Fo H
    have hxo := hxo.poly hFo
    obtain ⟨xAo, xco, rfl, _, _⟩ := id hxo.open
    rcases hcase with rfl | ⟨rfl, hro, hno, huo, hqo⟩
    ·refine ⟨H.ss' ((((Le.refl _).trans hG5).trans hG6).trans hG7) (fun p hp => by rw [List.mem_singleton.1 hp]; simp), ?_⟩;refine r_nil ?_
     unfold RunT
     refine r_y [(.p, 4), (.p, 5), (.p, 6)] [(46, .tuple #[(aT ro xAo xco), iN 2]), (51, (aT ro xAo xco)), (52, iN 2)] ?_;refine m_newE oT (fun b10 => pN b10 0) (some 10) (fun b => by kernel_rfl) H (fun _ _ h => h.ss' ((((Le.refl _).trans hG5).trans hG6).trans hG7) (fun p hp => by rw [List.mem_singleton.1 hp]; simp)) (fun b10 w1 H => ?_);refine s_0 [(0, iN ro.kind), (1, iN ro.num), (2, .slice xAo ro.kids.length xco)] [iN ro.kind, iN ro.num, .slice xAo ro.kids.length xco] none H (fun w1 H => ?_);refine r_z [(11, iN 2)] ?_;refine W_seq ?_;refine W_sr (pL 2) H ?_;refine r_z [(53, iN 2), (54, .bool true)] ?_;refine W_cT ?_;refine W_sr [(.p, 0), (.p, 1), (.p, 2), (.f, 3), (.p, 4), (.p, 5)] H ?_;refine r_y [(.p, 0), (.p, 1), (.p, 2)] [(55, iN 2), (56, .bool true), (57, .bool true)] ?_;refine m_cl #[] (some 58) (c12 H) ?_;rintro _ w1 ⟨rfl, H⟩;refine nx H ?_;refine r_z [(59, .bool true), (4, .bool true)] ?_;refine W_ret ?_;refine q_rt [] [] (.bool true) rc_nil H ?_;replace H := H.weak ((((((((hG1).trans hG2).trans hG3).trans hG4).trans hGL).trans hG5).trans hG6).trans hG7)
     exact ⟨rfl, H.drop [_, _, _, _]⟩
    refine ⟨H.ss' ((((Le.refl _).trans hG5).trans hG6).trans hG7) (fun p hp => by rw [List.mem_singleton.1 hp]; simp), ?_⟩;refine r_nil ?_
    unfold RunT
    refine r_y [(.p, 4), (.p, 5), (.p, 6)] [(46, .tuple #[(aT ro xAo xco), iN 0]), (51, (aT ro xAo xco)), (52, iN 0)] ?_;refine m_newE oT (fun b11 => pN b11 0) (some 10) (fun b => by kernel_rfl) H (fun _ _ h => h.ss' ((((Le.refl _).trans hG5).trans hG6).trans hG7) (fun p hp => by rw [List.mem_singleton.1 hp]; simp)) (fun b11 w1 H => ?_);refine s_0 [(0, iN ro.kind), (1, iN ro.num), (2, .slice xAo ro.kids.length xco)] [iN ro.kind, iN ro.num, .slice xAo ro.kids.length xco] none H (fun w1 H => ?_);refine r_z [(11, iN 0)] ?_;refine W_seq ?_;refine W_sr (pL 2) H ?_;refine r_z [(53, iN 0), (54, .bool false)] ?_;refine W_cF ?_;refine W_skip ?_;refine W_sr [(.l, 0), (.f, 1)] H ?_;refine r_s [3] [(.l, 0)] [(60, (aT ro xAo xco))] (rc_l 0 0 rfl rfl (rc_l 0 1 rfl rfl (rc_l 0 2 rfl rfl rc_nil))) ?_;refine s_2 [(0, iN ro.kind), (1, iN ro.num), (2, .slice xAo ro.kids.length xco)] [iN ro.kind, iN ro.num, .slice xAo ro.kids.length xco] none H (fun w1 H => ?_);refine r_nil ?_;refine W_sr [(.p, 0), (.l, 1), (.l, 2), (.f, 3), (.p, 4), (.p, 5), (.p, 6), (.p, 7), (.p, 8)] H ?_;refine r_s [6, 3] [(.p, 0), (.l, 1), (.l, 2)] [(62, .slice lA ((Γ.map Sv.toT).length) lc), (63, (aE e1 x1A x1c x1B x1d)), (64, (aT ro xAo xco))] (rc_l 3 0 rfl rfl (rc_l 3 1 rfl rfl (rc_l 3 2 rfl rfl (rc_l 3 3 rfl rfl (rc_l 3 4 rfl rfl (rc_l 3 5 rfl rfl (rc_l 2 0 rfl rfl (rc_l 2 1 rfl rfl (rc_l 2 2 rfl rfl rc_nil))))))))) ?_;obtain ⟨fh, hha⟩ := Sv.has_law hΓ hr1 ho1 (by omega) hro hno
    have hzt : T.sz (ro) + 1 < lim := by have h0 := sz_nds (ro); omega
    refine m_cl #[.slice lA ((Γ.map Sv.toT).length) lc, (aE e1 x1A x1c x1B x1d), (aT ro xAo xco)] (some 65) (c30 ((hks).mono ((((((hG3).trans hG4).trans hGL).trans hG5).trans hG6).trans hG7)) hlc hlsz ((hx1).mono ((((((hG3).trans hG4).trans hGL).trans hG5).trans hG6).trans hG7)) hez (hxo) hzt H hha) ?_;rintro _ w1 ⟨G8, hG8, rfl, H⟩;refine nx H ?_
    have hhn : Sv.hsB Γ mt ro = true := Sv.mono_law hΓ ho1 hrb hro hhb huo
    rw [hhn];refine r_z [(61, .tuple #[.bool true, iN 0]), (66, .bool true), (67, iN 0), (12, .bool true), (13, iN 0)] ?_;refine W_sr (pL 6) H ?_;refine r_z [(68, iN 0), (69, .bool false), (70, .bool false), (71, .bool true), (72, .bool false), (73, .bool false)] ?_;refine W_cF ?_;refine W_skip ?_;have H := fr3 H;have H := fr2 H;have H := fr3 H
    have H := (St.swap (A := [(b4, cT ro xAo xco), (sb1, cS B1 m1 d1 attu sdtu), (b1, cE e1 x1A x1c x1B x1d)]) (B := [(b11, cT ro xAo xco)]) (C := L) H).drop [(b11, cT ro xAo xco)]
    have H : St G8 ((b4, cT ro xAo xco) :: (sb1, cS B1 m1 d1 attu sdtu) :: (b1, cE e1 x1A x1c x1B x1d) :: L) _ := H
    exact ⟨_, (by omega), G8, ro, xAo, xco, attu, sdtu, ⟨e_, e_, e_, e_, trivial⟩, rfl, H, ((((hGL).trans hG5).trans hG6).trans hG7).trans hG8, ((hxo).mono (hG8)), hro, hno, hhn, (by omega), rfl⟩
   refine m_newE oT (fun b12 => pN b12 0) (some 10) (fun b => by kernel_rfl) H (fun _ _ h => h.ss' ((Le.refl _).trans hG5) (fun p hp => by rw [List.mem_singleton.1 hp]; simp)) (fun b12 w1 H => ?_);refine r_nil ?_
   unfold RunT
   have h4b : tb.kind = 4 := by simpa using hc9
   have hstk := H
   have hptu := hptu rfl
   obtain ⟨fo, ro, eo, hop1, hrz, hcase⟩ := Sv.opens_law hrb hnb h4b hrtu hptu (by omega)
   have hzb : T.sz tb ≤ 24 := by have b := sz_nds tb; omega
   have hzu : T.sz tu ≤ 24 := by have b := sz_nds tu; omega
   refine m_callE #[(aT tb xA xc), (aT tu xAtu xctu)] (some 50) e_ (c35 ((hxb).mono (hG5)) (hxtu) (by omega) hrz hstk hop1) ?_;rintro _ w1 ⟨G9, x0, Fo, hG9, rfl, hxo, H⟩;obtain ⟨G10, hG10, hFo, H⟩ := St.freeze Fo H
   have hxo := hxo.poly hFo
   obtain ⟨xAo, xco, rfl, _, _⟩ := id hxo.open
   rcases hcase with rfl | ⟨rfl, hro, hno, huo, hqo⟩
   ·refine ⟨H.ss' ((((Le.refl _).trans hG5).trans hG9).trans hG10) (fun p hp => by rw [List.mem_singleton.1 hp]; simp), ?_⟩;refine r_y [(.p, 4), (.p, 5), (.p, 6)] [(46, .tuple #[(aT ro xAo xco), iN 2]), (51, (aT ro xAo xco)), (52, iN 2)] ?_;refine s_0 [(0, iN ro.kind), (1, iN ro.num), (2, .slice xAo ro.kids.length xco)] [iN ro.kind, iN ro.num, .slice xAo ro.kids.length xco] none H (fun w1 H => ?_);refine r_z [(11, iN 2)] ?_;refine W_seq ?_;refine W_sr (pL 2) H ?_;refine r_z [(53, iN 2), (54, .bool true)] ?_;refine W_cT ?_;refine W_sr [(.p, 0), (.p, 1), (.p, 2), (.f, 3), (.p, 4), (.p, 5)] H ?_;refine r_y [(.p, 0), (.p, 1), (.p, 2)] [(55, iN 2), (56, .bool true), (57, .bool true)] ?_;refine m_cl #[] (some 58) (c12 H) ?_;rintro _ w1 ⟨rfl, H⟩;refine nx H ?_;refine r_z [(59, .bool true), (4, .bool true)] ?_;refine W_ret ?_;refine q_rt [] [] (.bool true) rc_nil H ?_;replace H := H.weak ((((((((hG1).trans hG2).trans hG3).trans hG4).trans hGL).trans hG5).trans hG9).trans hG10)
    exact ⟨rfl, H.drop [_, _, _, _]⟩
   refine ⟨H.ss' ((((Le.refl _).trans hG5).trans hG9).trans hG10) (fun p hp => by rw [List.mem_singleton.1 hp]; simp), ?_⟩;refine r_y [(.p, 4), (.p, 5), (.p, 6)] [(46, .tuple #[(aT ro xAo xco), iN 0]), (51, (aT ro xAo xco)), (52, iN 0)] ?_;refine s_0 [(0, iN ro.kind), (1, iN ro.num), (2, .slice xAo ro.kids.length xco)] [iN ro.kind, iN ro.num, .slice xAo ro.kids.length xco] none H (fun w1 H => ?_);refine r_z [(11, iN 0)] ?_;refine W_seq ?_;refine W_sr (pL 2) H ?_;refine r_z [(53, iN 0), (54, .bool false)] ?_;refine W_cF ?_;refine W_skip ?_;refine W_sr [(.l, 0), (.f, 1)] H ?_;refine r_s [3] [(.l, 0)] [(60, (aT ro xAo xco))] (rc_l 0 0 rfl rfl (rc_l 0 1 rfl rfl (rc_l 0 2 rfl rfl rc_nil))) ?_;refine s_2 [(0, iN ro.kind), (1, iN ro.num), (2, .slice xAo ro.kids.length xco)] [iN ro.kind, iN ro.num, .slice xAo ro.kids.length xco] none H (fun w1 H => ?_);refine r_nil ?_;refine W_sr [(.p, 0), (.l, 1), (.l, 2), (.f, 3), (.p, 4), (.p, 5), (.p, 6), (.p, 7), (.p, 8)] H ?_;refine r_s [6, 3] [(.p, 0), (.l, 1), (.l, 2)] [(62, .slice lA ((Γ.map Sv.toT).length) lc), (63, (aE e1 x1A x1c x1B x1d)), (64, (aT ro xAo xco))] (rc_l 3 0 rfl rfl (rc_l 3 1 rfl rfl (rc_l 3 2 rfl rfl (rc_l 3 3 rfl rfl (rc_l 3 4 rfl rfl (rc_l 3 5 rfl rfl (rc_l 2 0 rfl rfl (rc_l 2 1 rfl rfl (rc_l 2 2 rfl rfl rc_nil))))))))) ?_;obtain ⟨fh, hha⟩ := Sv.has_law hΓ hr1 ho1 (by omega) hro hno
   have hzt : T.sz (ro) + 1 < lim := by have h0 := sz_nds (ro); omega
   refine m_cl #[.slice lA ((Γ.map Sv.toT).length) lc, (aE e1 x1A x1c x1B x1d), (aT ro xAo xco)] (some 65) (c30 ((hks).mono ((((((hG3).trans hG4).trans hGL).trans hG5).trans hG9).trans hG10)) hlc hlsz ((hx1).mono ((((((hG3).trans hG4).trans hGL).trans hG5).trans hG9).trans hG10)) hez (hxo) hzt H hha) ?_;rintro _ w1 ⟨G11, hG11, rfl, H⟩;refine nx H ?_
   have hhn : Sv.hsB Γ mt ro = true := Sv.mono_law hΓ ho1 hrb hro hhb huo
   rw [hhn];refine r_z [(61, .tuple #[.bool true, iN 0]), (66, .bool true), (67, iN 0), (12, .bool true), (13, iN 0)] ?_;refine W_sr (pL 6) H ?_;refine r_z [(68, iN 0), (69, .bool false), (70, .bool false), (71, .bool true), (72, .bool false), (73, .bool false)] ?_;refine W_cF ?_;refine W_skip ?_;have H := fr3 H;have H := fr2 H;have H := fr3 H
   have H := (St.swap (A := [(b4, cT ro xAo xco), (sb1, cS B1 m1 d1 attu sdtu), (b1, cE e1 x1A x1c x1B x1d)]) (B := [(b12, cT ro xAo xco)]) (C := L) H).drop [(b12, cT ro xAo xco)]
   have H : St G11 ((b4, cT ro xAo xco) :: (sb1, cS B1 m1 d1 attu sdtu) :: (b1, cE e1 x1A x1c x1B x1d) :: L) _ := H
   exact ⟨_, (by omega), G11, ro, xAo, xco, attu, sdtu, ⟨e_, e_, e_, e_, trivial⟩, rfl, H, ((((hGL).trans hG5).trans hG9).trans hG10).trans hG11, ((hxo).mono (hG11)), hro, hno, hhn, (by omega), rfl⟩
  refine m_newE oT (fun b13 => pN b13 0) (some 10) (fun b => by kernel_rfl) H (fun _ _ h => h.ss' (Le.refl _) (fun p hp => by rw [List.mem_singleton.1 hp]; simp)) (fun b13 w1 H => ?_);refine r_nil ?_
  unfold RunT
  have H := fr1 H;refine m_callE #[pN sb1 0, iN 3, .bool true] (some 49) e_ (c19 (at_ := at2) (by decide) (by decide) (by omega) ((hC1).mono ((hG4).trans hGL)) hm1 H) ?_;rintro x1 w1 ⟨G12, tu, attu, sdtu, hG12, hxtu, hrtu, hntu, hptu, hatu, H⟩;obtain ⟨xAtu, xctu, rfl, _, _⟩ := id hxtu.open;refine ⟨H.ss' ((Le.refl _).trans hG12) (fun p hp => by rw [List.mem_singleton.1 hp]; simp), ?_⟩
  have h4b : tb.kind = 4 := by simpa using hc9
  have hstk := H
  have hptu := hptu rfl
  obtain ⟨fo, ro, eo, hop1, hrz, hcase⟩ := Sv.opens_law hrb hnb h4b hrtu hptu (by omega)
  have hzb : T.sz tb ≤ 24 := by have b := sz_nds tb; omega
  have hzu : T.sz tu ≤ 24 := by have b := sz_nds tu; omega
  refine m_callE #[(aT tb xA xc), (aT tu xAtu xctu)] (some 50) e_ (c35 ((hxb).mono (hG12)) (hxtu) (by omega) hrz hstk hop1) ?_;rintro _ w1 ⟨G13, x0, Fo, hG13, rfl, hxo, H⟩;obtain ⟨G14, hG14, hFo, H⟩ := St.freeze Fo H
  have hxo := hxo.poly hFo
  obtain ⟨xAo, xco, rfl, _, _⟩ := id hxo.open
  rcases hcase with rfl | ⟨rfl, hro, hno, huo, hqo⟩
  ·refine ⟨H.ss' ((((Le.refl _).trans hG12).trans hG13).trans hG14) (fun p hp => by rw [List.mem_singleton.1 hp]; simp), ?_⟩;refine r_y [(.p, 4), (.p, 5), (.p, 6)] [(46, .tuple #[(aT ro xAo xco), iN 2]), (51, (aT ro xAo xco)), (52, iN 2)] ?_;refine s_1 [(0, iN ro.kind), (1, iN ro.num), (2, .slice xAo ro.kids.length xco)] [iN ro.kind, iN ro.num, .slice xAo ro.kids.length xco] none H (fun w1 H => ?_);refine r_z [(11, iN 2)] ?_;refine W_seq ?_;refine W_sr (pL 2) H ?_;refine r_z [(53, iN 2), (54, .bool true)] ?_;refine W_cT ?_;refine W_sr [(.p, 0), (.p, 1), (.p, 2), (.f, 3), (.p, 4), (.p, 5)] H ?_;refine r_y [(.p, 0), (.p, 1), (.p, 2)] [(55, iN 2), (56, .bool true), (57, .bool true)] ?_;refine m_cl #[] (some 58) (c12 H) ?_;rintro _ w1 ⟨rfl, H⟩;refine nx H ?_;refine r_z [(59, .bool true), (4, .bool true)] ?_;refine W_ret ?_;refine q_rt [] [] (.bool true) rc_nil H ?_;replace H := H.weak ((((((((hG1).trans hG2).trans hG3).trans hG4).trans hGL).trans hG12).trans hG13).trans hG14)
   exact ⟨rfl, H.drop [_, _, _, _]⟩
  refine ⟨H.ss' ((((Le.refl _).trans hG12).trans hG13).trans hG14) (fun p hp => by rw [List.mem_singleton.1 hp]; simp), ?_⟩;refine r_y [(.p, 4), (.p, 5), (.p, 6)] [(46, .tuple #[(aT ro xAo xco), iN 0]), (51, (aT ro xAo xco)), (52, iN 0)] ?_;refine s_1 [(0, iN ro.kind), (1, iN ro.num), (2, .slice xAo ro.kids.length xco)] [iN ro.kind, iN ro.num, .slice xAo ro.kids.length xco] none H (fun w1 H => ?_);refine r_z [(11, iN 0)] ?_;refine W_seq ?_;refine W_sr (pL 2) H ?_;refine r_z [(53, iN 0), (54, .bool false)] ?_;refine W_cF ?_;refine W_skip ?_;refine W_sr [(.l, 0), (.f, 1)] H ?_;refine r_s [3] [(.l, 0)] [(60, (aT ro xAo xco))] (rc_l 1 0 rfl rfl (rc_l 1 1 rfl rfl (rc_l 1 2 rfl rfl rc_nil))) ?_;refine s_2 [(0, iN ro.kind), (1, iN ro.num), (2, .slice xAo ro.kids.length xco)] [iN ro.kind, iN ro.num, .slice xAo ro.kids.length xco] none H (fun w1 H => ?_);refine r_nil ?_;refine W_sr [(.p, 0), (.l, 1), (.l, 2), (.f, 3), (.p, 4), (.p, 5), (.p, 6), (.p, 7), (.p, 8)] H ?_;refine r_s [6, 3] [(.p, 0), (.l, 1), (.l, 2)] [(62, .slice lA ((Γ.map Sv.toT).length) lc), (63, (aE e1 x1A x1c x1B x1d)), (64, (aT ro xAo xco))] (rc_l 3 0 rfl rfl (rc_l 3 1 rfl rfl (rc_l 3 2 rfl rfl (rc_l 3 3 rfl rfl (rc_l 3 4 rfl rfl (rc_l 3 5 rfl rfl (rc_l 2 0 rfl rfl (rc_l 2 1 rfl rfl (rc_l 2 2 rfl rfl rc_nil))))))))) ?_;obtain ⟨fh, hha⟩ := Sv.has_law hΓ hr1 ho1 (by omega) hro hno
  have hzt : T.sz (ro) + 1 < lim := by have h0 := sz_nds (ro); omega
  refine m_cl #[.slice lA ((Γ.map Sv.toT).length) lc, (aE e1 x1A x1c x1B x1d), (aT ro xAo xco)] (some 65) (c30 ((hks).mono ((((((hG3).trans hG4).trans hGL).trans hG12).trans hG13).trans hG14)) hlc hlsz ((hx1).mono ((((((hG3).trans hG4).trans hGL).trans hG12).trans hG13).trans hG14)) hez (hxo) hzt H hha) ?_;rintro _ w1 ⟨G15, hG15, rfl, H⟩;refine nx H ?_
  have hhn : Sv.hsB Γ mt ro = true := Sv.mono_law hΓ ho1 hrb hro hhb huo
  rw [hhn];refine r_z [(61, .tuple #[.bool true, iN 0]), (66, .bool true), (67, iN 0), (12, .bool true), (13, iN 0)] ?_;refine W_sr (pL 6) H ?_;refine r_z [(68, iN 0), (69, .bool false), (70, .bool false), (71, .bool true), (72, .bool false), (73, .bool false)] ?_;refine W_cF ?_;refine W_skip ?_;have H := fr3 H;have H := fr1 H;have H := fr3 H
  have H := (St.swap (A := [(b4, cT ro xAo xco), (sb1, cS B1 m1 d1 attu sdtu), (b1, cE e1 x1A x1c x1B x1d)]) (B := [(b13, cT ro xAo xco)]) (C := L) H).drop [(b13, cT ro xAo xco)]
  have H : St G15 ((b4, cT ro xAo xco) :: (sb1, cS B1 m1 d1 attu sdtu) :: (b1, cE e1 x1A x1c x1B x1d) :: L) _ := H
  exact ⟨_, (by omega), G15, ro, xAo, xco, attu, sdtu, ⟨e_, e_, e_, e_, trivial⟩, rfl, H, ((((hGL).trans hG12).trans hG13).trans hG14).trans hG15, ((hxo).mono (hG15)), hro, hno, hhn, (by omega), rfl⟩
 refine W_exit ?_;refine W_sr [(.f, 0), (.p, 1)] H ?_;refine m_cl #[] (some 74) (c12 H) ?_;rintro _ w1 ⟨rfl, H⟩;refine nx H ?_;refine r_z [(4, .bool true)] ?_;refine W_ret ?_;refine q_rt [] [] (.bool true) rc_nil H ?_;replace H := H.weak (((((hG1).trans hG2).trans hG3).trans hG4).trans hGL)
 exact ⟨rfl, H.drop [_, _, _]⟩

end Go.Proofs.Ytjgnhhgigickaaa.Wk

namespace Go.Proofs.Ytjgnhhgigickaaa
open Go.ChangeShapes Go.WideShapes Go.ChangeAt Go.RowKit

theorem ownG : ownKnob Try.prog.godebug = none := by kernel_rfl

set_option maxRecDepth 100000 in
theorem general_lifted (os : Os) (started : os.Started) (H : Type) (enc : TypeId × Value → H) :
    ReturnsInHanded {} Try.checked os 8 .any (Rows.rankGeneralSpec.pre6 enc Try.prog Try.f8 Rows.rankGeneralRow.domain false) (Rows.rankGeneralSpec.post enc Try.prog Try.f8 false true false false) := by
  refine returnsInHanded_of_change (C := Try.checked) ownG started (by kernel_rfl) Try.func8
    (ChangeSpec.witness6 (enc := enc) (C := Try.checked) false ⟨#[], #[.slice none 0 0, .slice none 0 0], []⟩ 8 (by kernel_rfl) (by kernel_rfl) (by kernel_rfl) (by kernel_rfl)) ?_
  intro W base args ds gs before hval0 hW _ _
  have hval : ∀ (j : Nat) t v, Try.f8.params[j]? = some t → args[j]? = some v → Value.okWide Try.prog W .any base t v := hval0
  have hW' := hW
  obtain ⟨p, q, hA0, hV, rfl, _, _⟩ := hW
  have hA : DataW.TrodAll enc Try.prog W 0 (fun _ => true) true Try.f8.params.toList args.toList ds p := hA0
  rw [Try.params8] at hA hval
  obtain ⟨v0, v1, d0, d1, p0, p1, rfl, rfl, rfl, h0, h1⟩ := trodAll_two hA
  obtain ⟨rfl, rfl⟩ := trodVars_none hV
  obtain ⟨A0, n0, c0, rfl, hB0, hc0⟩ := Wk.read_bytes (hval 0 35 v0 rfl rfl) h0
  obtain ⟨A1, n1, c1, rfl, hB1, hc1⟩ := Wk.read_bytes (hval 1 35 v1 rfl rfl) h1
  have hlt : ∀ x ∈ (p0 ++ p1), x.block < W.heap.size := fun x hx => by simpa using hW'.lt x (by simpa using hx)
  refine (Wk.c8 hB0 hc0 hB1 hc1 (Wk.WG.st W)).mono fun v W' ⟨hv, hs⟩ => ?_
  subst hv
  simp only [List.append_nil] at hW'
  refine Wk.post_true hW' rfl rfl rfl rfl rfl ?_ hs
  have := trodAll_mk2 (Wk.trod_kept (by kernel_rfl) (of_decide_eq_true (by kernel_rfl)) h0 hs fun x hx => hlt x (by simp [hx])) (Wk.trod_kept (by kernel_rfl) (of_decide_eq_true (by kernel_rfl)) h1 hs fun x hx => hlt x (by simp [hx]))
  simpa [List.append_assoc] using this

theorem general_holds : Rows.RankGeneralSaid :=
  OpenClaim.holds_of_wide 8 Try.f8 rfl rfl rfl rfl rfl rfl rfl ⟨rfl, rfl, rfl, rfl, rfl⟩ rfl rfl rfl rfl rfl (by kernel_rfl) Try.func8 (by kernel_rfl)
    (of_decide_eq_true (by kernel_rfl)) (by unfold Func.isWrapper; first | (rw [if_pos (by decide +kernel)]; kernel_rfl) | (rw [if_neg (by decide +kernel)]; exact ⟨rfl, rfl⟩))
    (fun os started H enc _ => general_lifted os started H enc)
#print axioms general_holds
end Go.Proofs.Ytjgnhhgigickaaa
