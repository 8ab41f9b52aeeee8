/- The texts W21 W22 W23 W24 K13 M1 W25 K14 W26 W27 W28, joined by wip/tools/squeeze.py: contracts of the given program's functions and plain laws. Conditions: each theorem's own. -/
import Derived.Test.YtjgnhhgigickaaaF3
import Derived.Laws.BytesString
import Derived.Laws.RangeString
import Derived.Laws.IdiomStrings
set_option linter.all false


namespace Go.Proofs.Ytjgnhhgigickaaa.Wk
open Go Md
set_option maxRecDepth 20000
attribute [local irreducible] endQ

theorem c107 {f : Nat} (hH : PH f) {G : GH} {κ R : LH} {w : World} {cb sb b3 b4 b5 : Nat} {mb : MB} {c c' : Chk} {vt : Value} {e : E} {t : T} {dp : Int} {b0 : Bool} {eA eB : Option Addr} {ec ed : Nat} (hC : IsChk G cb sb mb c κ) (H : St G (κ ++ R) w) (h3 : G b3 = some (.cells #[.pointer (some ⟨cb, 0, none⟩)] 109 (0, 0))) (h4 : G b4 = some (.cells #[.int .i64 e.kind, .int .i64 e.num, .slice eA e.kids.length ec, .int .i64 e.ty.kind, .int .i64 e.ty.num, .slice eB e.ty.kids.length ed] 52 (0, 0))) (h5 : G b5 = some (.cells #[.int .i64 dp] 3 (0, 0)))
  (hv : IsExpr G (.agg #[.int .i64 e.kind, .int .i64 e.num, .slice eA e.kids.length ec, .int .i64 e.ty.kind, .int .i64 e.ty.num, .slice eB e.ty.kids.length ed]) e) (hsz : E.sz e < lim) (ht : IsTyp G vt t) (hin : has f c e t (w64 (dp + 1)) = some (b0, c')) :
  Cal Try.prog 107 #[vt, .pointer (some ⟨b3, 0, none⟩), .pointer (some ⟨b4, 0, none⟩), .pointer (some ⟨b5, 0, none⟩)] w fun r w' => ∃ G' κ', r = .bool b0 ∧ Le G G' ∧ IsChk G' cb sb mb c' κ' ∧ St G' (κ' ++ R) w' := by
 refine cal_of_W Try.func107 rfl (Nat.le_of_ble_eq_true e_) ?_;refine W_sr [(.p, 0)] H ?_;refine r_z [(5, .bool false)] ?_;refine W_sr [(.l, 0), (.l, 1), (.p, 2), (.l, 3), (.p, 4), (.f, 5), (.p, 6)] H ?_;refine r_s [1, 6, 1] [(.l, 0), (.l, 1), (.p, 2), (.l, 3), (.p, 4)] [(6, pN cb 0), (7, (aE e eA ec eB ed)), (8, vt), (9, iN dp), (10, iN (IntKind.wrap .i64 (dp + 1)))] (rc_g 0 h3 rfl (rc_g 0 h4 rfl (rc_g 1 h4 rfl (rc_g 2 h4 rfl (rc_g 3 h4 rfl (rc_g 4 h4 rfl (rc_g 5 h4 rfl (rc_g 0 h5 rfl rc_nil)))))))) ?_;refine m_cl #[pN cb 0, (aE e eA ec eB ed), vt, iN (IntKind.wrap .i64 (dp + 1))] (some 11) (hH hC H hv hsz ht hin) ?_;rintro _ w1 ⟨G2, κ2, rfl, hG2, hC2, H⟩;refine nx H ?_;refine r_z [(5, .bool b0)] ?_;refine W_ret ?_;refine q_rt [] [] (.bool b0) rc_nil H ?_
 exact ⟨G2, κ2, rfl, hG2, hC2, H⟩

theorem c110 {f : Nat} (hH : PH f) {G : GH} {κ R : LH} {w : World} {cb sb tb b3 b4 b6 b5 : Nat} {mb : MB} {c c' : Chk} {e q : E} {t p : T} {dp : Int} {b0 : Bool} {eA eB : Option Addr} {ec ed : Nat} (hC : IsChk G cb sb mb c κ) (H : St G (κ ++ R) w) (h3 : G b3 = some (.cells #[.pointer (some ⟨cb, 0, none⟩)] 109 (0, 0))) (h4 : G b4 = some (.cells #[.int .i64 e.kind, .int .i64 e.num, .slice eA e.kids.length ec, .int .i64 e.ty.kind, .int .i64 e.ty.num, .slice eB e.ty.kids.length ed] 52 (0, 0))) (h5 : G b5 = some (.cells #[.int .i64 dp] 3 (0, 0)))
  (h6 : G b6 = some (.cells #[.pointer (some ⟨tb, 0, none⟩)] 106 (0, 0))) (heks : IsExprs G eA e.kids) (hq : e.kids[0]? = some q) (hsz : E.sz e < lim) (ht : IsTyp G (.pointer (some ⟨tb, 0, none⟩)) t) (hp : t.kids[1]? = some p) (hin : has f c q p dp = some (b0, c')) :
  Cal Try.prog 110 #[.pointer (some ⟨b3, 0, none⟩), .pointer (some ⟨b4, 0, none⟩), .pointer (some ⟨b6, 0, none⟩), .pointer (some ⟨b5, 0, none⟩)] w fun r w' => ∃ G' κ', r = .bool b0 ∧ Le G G' ∧ IsChk G' cb sb mb c' κ' ∧ St G' (κ' ++ R) w' := by
 have hl0 : 0 < e.kids.length := (List.getElem?_eq_some_iff.1 hq).1
 have hlt1 : 1 < t.kids.length := (List.getElem?_eq_some_iff.1 hp).1
 have hqs := E.sz_kid hq
 have hstk := H
 obtain ⟨eb, eo, qA, qc, qB, qd, rfl, hq0, hq1, hq2, hq3, hq4, hq5, hqe⟩ := (heks).elem hq;have H := hstk
 obtain ⟨_, tA1, tc2, e6, htb3, htc4, htk5⟩ := ht.open; cases e6
 have hstk := H
 obtain ⟨xb, xo, pb, rfl, hpc, hpt⟩ := htk5.elem hp;have H := hstk;refine cal_of_W Try.func110 rfl (Nat.le_of_ble_eq_true e_) ?_;refine W_sr [(.p, 0)] H ?_;refine r_z [(4, .bool false)] ?_;refine W_seq ?_;refine W_rgd [(.l, 0), (.p, 1), (.l, 2), (.p, 3), (.l, 4), (.l, 5), (.p, 6), (.p, 7), (.l, 8), (.p, 9), (.l, 10), (.l, 11), (.f, 12), (.p, 13)] H (fun w1 H => ?_);refine r_s [1, 1] [(.l, 0), (.p, 1), (.l, 2)] [(5, pN cb 0), (6, pN b4 2), (7, sN eb eo e.kids.length ec)] (rc_g 0 h3 rfl (rc_g 2 h4 rfl rc_nil)) ?_;refine m_idx (sz := 6) (b := eb) (off := eo) (n := e.kids.length) (c := ec) (k := 0) (some 8) (show opAt _ _ _ = some (.indexAddr 50 (.tmp 7) (.const (iN 0)), _) by kernel_rfl) e_ e_ Try.underlying50 sz52 hl0 ?_;refine r_s [6, 1, 1] [(.l, 4), (.l, 5), (.p, 6), (.p, 7), (.l, 8)] [(9, (aE q qA qc qB qd)), (10, pN tb 0), (11, pN tb 0), (12, pN tb 2), (13, sN xb xo t.kids.length tc2)] (rc_C hq0 (rc_C hq1 (rc_C hq2 (rc_C hq3 (rc_C hq4 (rc_C hq5 (rc_g 0 h6 rfl (rc_g 2 htb3 rfl rc_nil)))))))) ?_;refine m_idx (sz := 1) (b := xb) (off := xo) (n := t.kids.length) (c := tc2) (k := 1) (some 14) (show opAt _ _ _ = some (.indexAddr 102 (.tmp 13) (.const (iN 1)), _) by kernel_rfl) e_ e_ Try.underlying102 sz106 hlt1 ?_;refine r_s [1, 1] [(.l, 10), (.l, 11)] [(15, pN pb 0), (16, iN dp)] (rc_C hpc (rc_g 0 h5 rfl rc_nil)) ?_;refine m_cl #[pN cb 0, (aE q qA qc qB qd), pN pb 0, iN dp] (some 17) (hH hC H hqe (by omega) hpt hin) ?_;rintro _ w1 ⟨G2, κ2, rfl, hG2, hC2, H⟩;refine nx H ?_;refine r_z [(4, .bool b0)] ?_;refine W_ret ?_;refine q_rt [] [] (.bool b0) rc_nil H ?_
 exact ⟨G2, κ2, rfl, hG2, hC2, H⟩

theorem c73 {f : Nat} (hH : ∀ g, g < f → PH g) (hG : ∀ g, g < f → PG g) : PH f := by
 intro G κ R w cb sb mb c c' v vt e t0_ dp b0 hC H hv hsz ht hin
 have hlim : lim = 1099511627776 := rfl
 obtain _ | f := f
 ·cases hin
 unfold has at hin
 obtain ⟨t, ht1, hin⟩ := Option.bind_eq_some_iff.1 hin;obtain ⟨eA, ec, eB, ed, rfl, hec, heks, hety⟩ := id hv.open;obtain ⟨vb, _, _, rfl, _⟩ := id ht.open;refine cal_of_W Try.func73 rfl (Nat.le_of_ble_eq_true e_) ?_;refine W_sr [(.f, 0), (.f, 1), (.f, 2), (.f, 3), (.p, 4)] H ?_;refine m_nw (.cells #[pN cb 0] 109) 4 H (fun b1 w1 H => ?_);refine m_nw (cE e eA ec eB ed) 5 H (fun b2 w1 H => ?_);refine m_nw (.cells #[pN vb 0] 106) 6 H (fun b3 w1 H => ?_);refine m_nw (.cells #[iN dp] 3) 7 H (fun b4 w1 H => ?_);refine r_z [(8, .bool false)] ?_;refine W_seq ?_
 have hstk := H
 obtain ⟨tv, cs, Lt, σ, rfl, hos, hty, hS⟩ := id hC
 have H : St G ((b4, .cells #[iN dp] 3) :: (b3, .cells #[pN vb 0] 106) :: (b2, cE e eA ec eB ed) :: (b1, .cells #[pN cb 0] 109) :: (cb, .cells #[tv, pN sb 0] 119) :: (Lt ++ (σ ++ R))) w1 := by simpa [List.append_assoc] using hstk
 refine W_rgd [(.l, 0), (.p, 1), (.p, 2), (.l, 3), (.l, 4), (.f, 5), (.f, 6)] H (fun w1 H => ?_);refine r_s [1, 1, 1] [(.l, 0), (.p, 1), (.p, 2), (.l, 3), (.l, 4)] [(11, pN cb 0), (12, pN cb 0), (13, pN cb 1), (14, pN sb 0), (15, pN vb 0)] (rc_l 3 0 rfl rfl (rc_l 4 1 rfl rfl (rc_l 1 0 rfl rfl rc_nil))) ?_;have H := St.swap (A := [(b4, .cells #[iN dp] 3), (b3, .cells #[pN vb 0] 106), (b2, cE e eA ec eB ed), (b1, .cells #[pN cb 0] 109), (cb, .cells #[tv, pN sb 0] 119)] ++ Lt) (B := σ) (C := R) (by simpa [List.append_assoc] using H);refine m_cl #[pN sb 0, pN vb 0] (some 16) (c101 hS H ht ht1) ?_;rintro v1 w1 ⟨htt, H⟩
 have H : St G ((b4, .cells #[iN dp] 3) :: (b3, .cells #[pN vb 0] 106) :: (b2, cE e eA ec eB ed) :: (b1, .cells #[pN cb 0] 109) :: (cb, .cells #[tv, pN sb 0] 119) :: (Lt ++ (σ ++ R))) w1 := by
  have h2 := St.swap (A := σ) (B := [(b4, .cells #[.int .i64 dp] 3), (b3, .cells #[.pointer (some ⟨vb, 0, none⟩)] 106), (b2, .cells #[.int .i64 e.kind, .int .i64 e.num, .slice eA e.kids.length ec, .int .i64 e.ty.kind, .int .i64 e.ty.num, .slice eB e.ty.kids.length ed] 52), (b1, .cells #[.pointer (some ⟨cb, 0, none⟩)] 109), (cb, .cells #[tv, .pointer (some ⟨sb, 0, none⟩)] 119)] ++ Lt) (C := R) H
  simpa [List.append_assoc] using h2
 refine nx H ?_;obtain ⟨tb5, tA6, tc7, rfl, htb8, htc9, htk10⟩ := htt.open
 have htt2 : IsTyp G (.pointer (some ⟨tb5, 0, none⟩)) t := IsTyp.mk htb8 htc9 htk10
 refine s_1 [(0, pN tb5 0)] [pN tb5 0] none H (fun w1 H => ?_);refine r_nil ?_;refine W_seq ?_;refine W_block ?_;refine W_sr [(.l, 0), (.p, 1), (.p, 2), (.l, 3), (.p, 4), (.p, 5)] H ?_;refine r_x [1, 1] [(18, pN tb5 0), (19, pN tb5 0), (20, pN tb5 0), (21, iN t.kind), (22, .bool (t.kind == 4)), (17, .bool (t.kind == 4))] (rc_l 1 0 rfl rfl (rc_g 0 htb8 rfl rc_nil)) ?_;refine W_cd (b := t.kind == 4) (fun hc12 => ?_) (fun hc12 => ?_)
 ·skip
  rw [if_pos (show t.kind = 4 by simpa using hc12)] at hin
  obtain ⟨⟨fv, s1⟩, hn, hin⟩ := Option.bind_eq_some_iff.1 hin; simp only at hin
  obtain ⟨u, ho, hin⟩ := Option.bind_eq_some_iff.1 hin
  obtain ⟨⟨x0, c3⟩, hx, hin⟩ := Option.bind_eq_some_iff.1 hin; simp only [o_j, p_j] at hin; obtain ⟨rfl, rfl⟩ := hin
  refine W_seq ?_;obtain ⟨G1, hG1, hF13, H⟩ := St.freeze [_, _, _, _] H;replace htb8 := hG1 _ _ htb8
  have hf7 := hF13 _ (.head _)
  have hf6 := hF13 _ (.tail _ (.head _))
  have hf5 := hF13 _ (.tail _ (.tail _ (.head _)))
  have hf4 := hF13 _ (.tail _ (.tail _ (.tail _ (.head _))))
  refine W_rgd [(.l, 0), (.p, 1), (.p, 2), (.l, 3), (.l, 4), (.l, 5), (.p, 6), (.f, 7), (.p, 8)] H (fun w1 H => ?_);refine r_s [1, 1, 1, 1] [(.l, 0), (.p, 1), (.p, 2), (.l, 3), (.l, 4), (.l, 5), (.p, 6)] [(23, pN cb 0), (24, pN cb 0), (25, pN cb 1), (26, pN sb 0), (27, pN tb5 0), (28, iN dp), (29, .func (.func 107) #[] #[pN b1 0, pN b2 0, pN b4 0])] (rc_g 0 hf4 rfl (rc_l 0 1 rfl rfl (rc_g 0 hf6 rfl (rc_g 0 hf7 rfl rc_nil)))) ?_;have H := St.swap (A := [(cb, .cells #[tv, pN sb 0] 119)] ++ Lt) (B := σ) (C := R) (by simpa [List.append_assoc] using H)
  have hdo : ∀ {G2 : GH} {σ2 : LH} {ub : Nat} {w2 : World}, Le G1 G2 → IsSol G2 sb mb { s1 with way := c.s.way ++ [fv] } σ2 → IsTyp G2 (.pointer (some ⟨ub, 0, none⟩)) u → St G2 (σ2 ++ (([(cb, .cells #[tv, .pointer (some ⟨sb, 0, none⟩)] 119)] ++ Lt) ++ R)) w2 →
    Cal Try.prog 107 #[.pointer (some ⟨ub, 0, none⟩), .pointer (some ⟨b1, 0, none⟩), .pointer (some ⟨b2, 0, none⟩), .pointer (some ⟨b4, 0, none⟩)] w2 fun r w3 => ∃ G3 σ3 R3, r = .bool x0 ∧ Le G2 G3 ∧ IsSol G3 sb mb c3.s σ3 ∧ (fun (G : GH) (R2 : LH) => ∃ tv3 cs3 Lt3, R2 = ((cb, .cells #[tv3, .pointer (some ⟨sb, 0, none⟩)] 119) :: Lt3) ++ R ∧ OS 106 1 tv3 c3.types.length cs3 Lt3 ∧ TyL G cs3 c3.types) G3 R3 ∧ St G3 (σ3 ++ R3) w3 := by
   intro G2 σ2 ub w2 hle hS2 hu hst2
   have hC2 : IsChk G2 cb sb mb { c with s := { s1 with way := c.s.way ++ [fv] } } ((cb, .cells #[tv, .pointer (some ⟨sb, 0, none⟩)] 119) :: (Lt ++ σ2)) := ⟨tv, cs, Lt, σ2, rfl, hos, (hty.mono hG1).mono hle, hS2⟩
   have hst3 : St G2 (((cb, .cells #[tv, .pointer (some ⟨sb, 0, none⟩)] 119) :: (Lt ++ σ2)) ++ R) w2 := by
    have h2 := St.swap (A := σ2) (B := [(cb, .cells #[tv, .pointer (some ⟨sb, 0, none⟩)] 119)] ++ Lt) (C := R) hst2
    simpa [List.append_assoc] using h2
   refine (c107 (hH f (by omega)) hC2 hst3 (hle _ _ hf4) (hle _ _ hf5) (hle _ _ hf7) ((hv.mono hG1).mono hle) hsz hu hx).mono ?_;rintro r w3 ⟨G3, κ3, rfl, h1, ⟨tv3, cs3, Lt3, σ3, rfl, h5, h6, h7⟩, h4⟩;refine ⟨G3, σ3, _, rfl, h1, h7, ⟨tv3, cs3, Lt3, rfl, h5, h6⟩, ?_⟩
   have h2 := St.swap (A := (cb, .cells #[tv3, .pointer (some ⟨sb, 0, none⟩)] 119) :: Lt3) (B := σ3) (C := R) (by simpa [List.append_assoc] using h4)
   exact h2
  refine m_cl #[pN sb 0, pN tb5 0, iN dp, .func (.func 107) #[] #[pN b1 0, pN b2 0, pN b4 0]] (some 30) (c102_107 (Z := fun (G : GH) (R2 : LH) => ∃ tv3 cs3 Lt3, R2 = ((cb, .cells #[tv3, pN sb 0] 119) :: Lt3) ++ R ∧ OS 106 1 tv3 c3.types.length cs3 Lt3 ∧ TyL G cs3 c3.types) (hS.mono hG1) H (htt2.mono hG1) hn ho hdo) ?_;rintro _ w1 ⟨G5, σ5, _, rfl, hG5, hS5, ⟨tv3, cs3, Lt3, rfl, hos5, hty5⟩, H⟩;refine nx H ?_;refine r_z [(8, .bool x0)] ?_;refine W_ret ?_;refine q_rt [] [] (.bool x0) rc_nil H ?_;refine ⟨G5, (cb, .cells #[tv3, pN sb 0] 119) :: (Lt3 ++ σ5), rfl, hG1.trans hG5, ⟨tv3, cs3, Lt3, σ5, rfl, hos5, hty5, hS5⟩, ?_⟩
  have h2 := St.swap (A := σ5) (B := (cb, .cells #[tv3, .pointer (some ⟨sb, 0, none⟩)] 119) :: Lt3) (C := R) H
  simpa [List.append_assoc] using h2
 rw [if_neg (show ¬t.kind = 4 by simpa using hc12)] at hin;refine W_sr [(.p, 0), (.l, 1), (.p, 2), (.p, 3), (.l, 4), (.p, 5), (.p, 6), (.l, 7), (.p, 8), (.p, 9), (.p, 10)] H ?_;refine r_s [1] [(.p, 0), (.l, 1), (.p, 2), (.p, 3)] [(32, pN b2 0), (33, iN e.kind), (34, .bool (e.kind == 3)), (35, .bool (e.kind == 3))] (rc_l 2 0 rfl rfl rc_nil) ?_
 rcases Bool.eq_false_or_eq_true (e.kind == 3) with hc14 | hc14
 ·rw [hc14];rw [if_pos (show e.kind = 3 by simpa using hc14)] at hin;refine r_x [1, 1] [(36, pN tb5 0), (37, pN tb5 0), (38, pN tb5 0), (39, iN t.kind), (40, .bool (t.kind == 6)), (41, .bool (t.kind == 6)), (31, .bool (t.kind == 6))] (rc_l 1 0 rfl rfl (rc_g 0 htb8 rfl rc_nil)) ?_;refine W_cd (b := t.kind == 6) (fun hc15 => ?_) (fun hc15 => ?_)
  ·skip
   rw [if_pos (show t.kind = 6 by simpa using hc15)] at hin
   obtain ⟨⟨su, s2⟩, hsp, hin⟩ := Option.bind_eq_some_iff.1 hin; simp only at hin
   refine W_rgd [(.l, 0), (.p, 1), (.p, 2), (.l, 3), (.l, 4), (.f, 5), (.f, 6)] H (fun w1 H => ?_);refine r_s [1, 1, 1] [(.l, 0), (.p, 1), (.p, 2), (.l, 3), (.l, 4)] [(42, pN cb 0), (43, pN cb 0), (44, pN cb 1), (45, pN sb 0), (46, pN tb5 0)] (rc_l 3 0 rfl rfl (rc_l 4 1 rfl rfl (rc_l 1 0 rfl rfl rc_nil))) ?_;have H := St.swap (A := [(b4, .cells #[iN dp] 3), (b3, .cells #[pN tb5 0] 106), (b2, cE e eA ec eB ed), (b1, .cells #[pN cb 0] 109), (cb, .cells #[tv, pN sb 0] 119)] ++ Lt) (B := σ) (C := R) (by simpa [List.append_assoc] using H);refine m_cl #[pN sb 0, pN tb5 0] (some 47) (c108 hS H htt2 hsp) ?_;rintro v1 w1 ⟨G2, σ2, hG2, hS2, hsu, H⟩;replace htb8 := hG2 _ _ htb8
   have H : St G2 ((b4, .cells #[iN dp] 3) :: (b3, .cells #[pN tb5 0] 106) :: (b2, cE e eA ec eB ed) :: (b1, .cells #[pN cb 0] 109) :: (cb, .cells #[tv, pN sb 0] 119) :: (Lt ++ (σ2 ++ R))) w1 := by
    have h2 := St.swap (A := σ2) (B := [(b4, .cells #[.int .i64 dp] 3), (b3, .cells #[.pointer (some ⟨tb5, 0, none⟩)] 106), (b2, .cells #[.int .i64 e.kind, .int .i64 e.num, .slice eA e.kids.length ec, .int .i64 e.ty.kind, .int .i64 e.ty.num, .slice eB e.ty.kids.length ed] 52), (b1, .cells #[.pointer (some ⟨cb, 0, none⟩)] 109), (cb, .cells #[tv, .pointer (some ⟨sb, 0, none⟩)] 119)] ++ Lt) (C := R) H
    simpa [List.append_assoc] using h2
   refine nx H ?_;obtain ⟨tb16, tA17, tc18, rfl, htb19, htc20, htk21⟩ := hsu.open
   have hsu2 : IsTyp G2 (.pointer (some ⟨tb16, 0, none⟩)) su := IsTyp.mk htb19 htc20 htk21
   refine s_1 [(0, pN tb16 0)] [pN tb16 0] none H (fun w1 H => ?_);refine r_nil ?_;refine W_seq ?_;refine W_sr [(.p, 0), (.l, 1), (.p, 2)] H ?_;refine r_x [1] [(48, pN b2 0), (49, iN e.kind), (50, .bool (e.kind == 3))] (rc_l 2 0 rfl rfl rc_nil) ?_
   have hd23 : (e.kind == 3) = true := hc14
   refine W_condT (by refine Eq.trans (b := .bool (e.kind == 3)) ?_ (congrArg Value.bool hd23); kernel_rfl) ?_;refine W_seq ?_;obtain ⟨G3, hG3, hF24, H⟩ := St.freeze [_, _, _, _] H;replace htb8 := hG3 _ _ htb8;replace htb19 := hG3 _ _ htb19
   have hf7 := hF24 _ (.head _)
   have hf6 := hF24 _ (.tail _ (.head _))
   have hf5 := hF24 _ (.tail _ (.tail _ (.head _)))
   have hf4 := hF24 _ (.tail _ (.tail _ (.tail _ (.head _))))
   have hle13 : Le G G3 := hG2.trans hG3
   have hcur := hsu2.mono hG3
   have hSc := hS2.mono hG3
   have hC3 : IsChk G3 cb sb mb { c with s := s2 } ((cb, .cells #[tv, .pointer (some ⟨sb, 0, none⟩)] 119) :: (Lt ++ σ2)) := ⟨tv, cs, Lt, σ2, rfl, hos, hty.mono hle13, hSc⟩
   refine W_rgd [(.l, 0), (.p, 1), (.p, 2), (.l, 3), (.p, 4), (.p, 5), (.l, 6), (.l, 7), (.p, 8), (.p, 9), (.l, 10), (.p, 11), (.l, 12), (.p, 13), (.f, 14), (.p, 15), (.p, 16)] H (fun w1 H => ?_);refine r_s [1, 1] [(.l, 0), (.p, 1), (.p, 2), (.l, 3), (.p, 4), (.p, 5)] [(51, pN tb16 0), (52, pN tb16 0), (53, pN tb16 0), (54, iN su.kind), (55, .bool (su.kind == 3)), (56, .bool (su.kind == 3))] (rc_g 0 hf6 rfl (rc_g 0 htb19 rfl rc_nil)) ?_
   rcases Bool.eq_false_or_eq_true (su.kind == 3) with hc25 | hc25
   ·rw [hc25]
    obtain _ | f := f
    ·cases hin
    unfold hasL at hin
    rw [if_neg (show ¬ su.kind ≠ 3 by simpa using hc25)] at hin
    split at hin
    case h_2 => cases hin
    rename_i p0 p1 _ q _ hkp hkq
    split at hin
    case isTrue => cases hin
    rename_i htl
    obtain ⟨⟨x0, c3⟩, hx, hin⟩ := Option.bind_eq_some_iff.1 hin; simp only [o_j, p_j] at hin; obtain ⟨rfl, rfl⟩ := hin
    have hty3 := (types_inv f).2.2.2.1 _ _ _ _ _ _ hx
    have hq : e.kids[0]? = some q := by rw [hkq]; rfl
    have hp0 : su.kids[0]? = some p0 := by rw [hkp]; rfl
    have hp1 : su.kids[1]? = some p1 := by rw [hkp]; rfl
    have hlp : 0 < su.kids.length := by rw [hkp]; simp
    have hstk := H
    obtain ⟨xb, xo, p0b, hxA, hp0c, hp0t⟩ := (htk21.mono hG3).elem hp0;have H := hstk;subst hxA;refine r_s [1, 1, 1] [(.l, 6), (.l, 7), (.p, 8), (.p, 9), (.l, 10)] [(57, pN cb 0), (58, pN tb16 0), (59, pN tb16 0), (60, pN tb16 2), (61, sN xb xo su.kids.length tc18)] (rc_g 0 hf4 rfl (rc_g 0 hf6 rfl (rc_g 2 htb19 rfl rc_nil))) ?_;refine m_idx (sz := 1) (b := xb) (off := xo) (n := su.kids.length) (c := tc18) (k := 0) (some 62) (show opAt _ _ _ = some (.indexAddr 102 (.tmp 61) (.const (iN 0)), _) by kernel_rfl) e_ e_ Try.underlying102 sz106 hlp ?_;refine r_s [1] [(.l, 12), (.p, 13)] [(63, pN p0b 0), (64, .func (.func 110) #[] #[pN b1 0, pN b2 0, pN b3 0, pN b4 0])] (rc_C hp0c rc_nil) ?_
    have H : St G3 (((cb, .cells #[tv, pN sb 0] 119) :: (Lt ++ σ2)) ++ R) w1 := by simpa [List.append_assoc] using H
    have hdo : ∀ {G5 : GH} {κ1 : LH} {w2 : World}, Le G3 G5 → IsChk G5 cb sb mb { c with s := s2, types := c.types ++ [p0] } κ1 → St G5 (κ1 ++ R) w2 →
      Cal Try.prog 110 #[.pointer (some ⟨b1, 0, none⟩), .pointer (some ⟨b2, 0, none⟩), .pointer (some ⟨b3, 0, none⟩), .pointer (some ⟨b4, 0, none⟩)] w2 fun x w3 => ∃ G6 κ2 R2, x = .bool x0 ∧ Le G5 G6 ∧ IsChk G6 cb sb mb c3 κ2 ∧ (fun (_ : GH) (R2 : LH) => R = R2) G6 R2 ∧ St G6 (κ2 ++ R2) w3 := by
     intro G5 κ1 w2 hle hC5 hst5;refine (c110 (hH f (by omega)) hC5 hst5 (hle _ _ hf4) (hle _ _ hf5) (hle _ _ hf7) (hle _ _ hf6) (heks.mono (hle13.trans hle)) hq hsz (hcur.mono hle) hp1 hx).mono ?_;rintro x w3 ⟨G6, κ2, rfl, h1, h2, h3⟩
     exact ⟨G6, κ2, R, rfl, h1, h2, rfl, h3⟩
    refine m_cl #[pN cb 0, pN p0b 0, .func (.func 110) #[] #[pN b1 0, pN b2 0, pN b3 0, pN b4 0]] (some 65) (c109_110 (Z := fun _ R2 => R = R2) hC3 H hp0t (Nat.lt_of_not_le htl) hty3 hdo) ?_;rintro _ w1 ⟨G5, κ5, R2, rfl, hG5, hC5, hR, H⟩;subst hR;refine nx H ?_;refine r_z [(66, .bool x0), (8, .bool x0)] ?_;refine W_ret ?_;refine q_rt [] [] (.bool x0) rc_nil H ?_
    exact ⟨G5, κ5, rfl, hle13.trans hG5, hC5, H⟩
   rw [hc25]
   obtain _ | f := f
   ·cases hin
   unfold hasL at hin
   rw [if_pos (show su.kind ≠ 3 by simpa using hc25)] at hin; simp only [o_j, p_j] at hin; obtain ⟨rfl, rfl⟩ := hin
   refine r_z (uD 57 9 [(66, .bool false), (8, .bool false)]) ?_;refine W_ret ?_;refine q_rt [] [] (.bool false) rc_nil H ?_
   exact ⟨G3, ((cb, .cells #[tv, pN sb 0] 119) :: (Lt ++ σ2)), rfl, hle13, hC3, by simpa [List.append_assoc] using H⟩
  rw [if_neg (show ¬t.kind = 6 by simpa using hc15)] at hin;refine W_skip ?_;refine W_seq ?_;refine W_sr [(.p, 0), (.l, 1), (.p, 2)] H ?_;refine r_x [1] [(48, pN b2 0), (49, iN e.kind), (50, .bool (e.kind == 3))] (rc_l 2 0 rfl rfl rc_nil) ?_
  have hd26 : (e.kind == 3) = true := hc14
  refine W_condT (by refine Eq.trans (b := .bool (e.kind == 3)) ?_ (congrArg Value.bool hd26); kernel_rfl) ?_;refine W_seq ?_;obtain ⟨G3, hG3, hF27, H⟩ := St.freeze [_, _, _, _] H;replace htb8 := hG3 _ _ htb8
  have hf7 := hF27 _ (.head _)
  have hf6 := hF27 _ (.tail _ (.head _))
  have hf5 := hF27 _ (.tail _ (.tail _ (.head _)))
  have hf4 := hF27 _ (.tail _ (.tail _ (.tail _ (.head _))))
  have hle13 : Le G G3 := hG3
  have hcur := htt2.mono hG3
  have hSc := hS.mono hG3
  have hC3 : IsChk G3 cb sb mb c ((cb, .cells #[tv, .pointer (some ⟨sb, 0, none⟩)] 119) :: (Lt ++ σ)) := ⟨tv, cs, Lt, σ, rfl, hos, hty.mono hle13, hSc⟩
  refine W_rgd [(.l, 0), (.p, 1), (.p, 2), (.l, 3), (.p, 4), (.p, 5), (.l, 6), (.l, 7), (.p, 8), (.p, 9), (.l, 10), (.p, 11), (.l, 12), (.p, 13), (.f, 14), (.p, 15), (.p, 16)] H (fun w1 H => ?_);refine r_s [1, 1] [(.l, 0), (.p, 1), (.p, 2), (.l, 3), (.p, 4), (.p, 5)] [(51, pN tb5 0), (52, pN tb5 0), (53, pN tb5 0), (54, iN t.kind), (55, .bool (t.kind == 3)), (56, .bool (t.kind == 3))] (rc_g 0 hf6 rfl (rc_g 0 htb8 rfl rc_nil)) ?_
  rcases Bool.eq_false_or_eq_true (t.kind == 3) with hc28 | hc28
  ·rw [hc28]
   obtain _ | f := f
   ·cases hin
   unfold hasL at hin
   rw [if_neg (show ¬ t.kind ≠ 3 by simpa using hc28)] at hin
   split at hin
   case h_2 => cases hin
   rename_i p0 p1 _ q _ hkp hkq
   split at hin
   case isTrue => cases hin
   rename_i htl
   obtain ⟨⟨x0, c3⟩, hx, hin⟩ := Option.bind_eq_some_iff.1 hin; simp only [o_j, p_j] at hin; obtain ⟨rfl, rfl⟩ := hin
   have hty3 := (types_inv f).2.2.2.1 _ _ _ _ _ _ hx
   have hq : e.kids[0]? = some q := by rw [hkq]; rfl
   have hp0 : t.kids[0]? = some p0 := by rw [hkp]; rfl
   have hp1 : t.kids[1]? = some p1 := by rw [hkp]; rfl
   have hlp : 0 < t.kids.length := by rw [hkp]; simp
   have hstk := H
   obtain ⟨xb, xo, p0b, hxA, hp0c, hp0t⟩ := (htk10.mono hG3).elem hp0;have H := hstk;subst hxA;refine r_s [1, 1, 1] [(.l, 6), (.l, 7), (.p, 8), (.p, 9), (.l, 10)] [(57, pN cb 0), (58, pN tb5 0), (59, pN tb5 0), (60, pN tb5 2), (61, sN xb xo t.kids.length tc7)] (rc_g 0 hf4 rfl (rc_g 0 hf6 rfl (rc_g 2 htb8 rfl rc_nil))) ?_;refine m_idx (sz := 1) (b := xb) (off := xo) (n := t.kids.length) (c := tc7) (k := 0) (some 62) (show opAt _ _ _ = some (.indexAddr 102 (.tmp 61) (.const (iN 0)), _) by kernel_rfl) e_ e_ Try.underlying102 sz106 hlp ?_;refine r_s [1] [(.l, 12), (.p, 13)] [(63, pN p0b 0), (64, .func (.func 110) #[] #[pN b1 0, pN b2 0, pN b3 0, pN b4 0])] (rc_C hp0c rc_nil) ?_
   have H : St G3 (((cb, .cells #[tv, pN sb 0] 119) :: (Lt ++ σ)) ++ R) w1 := by simpa [List.append_assoc] using H
   have hdo : ∀ {G5 : GH} {κ1 : LH} {w2 : World}, Le G3 G5 → IsChk G5 cb sb mb { c with s := c.s, types := c.types ++ [p0] } κ1 → St G5 (κ1 ++ R) w2 →
     Cal Try.prog 110 #[.pointer (some ⟨b1, 0, none⟩), .pointer (some ⟨b2, 0, none⟩), .pointer (some ⟨b3, 0, none⟩), .pointer (some ⟨b4, 0, none⟩)] w2 fun x w3 => ∃ G6 κ2 R2, x = .bool x0 ∧ Le G5 G6 ∧ IsChk G6 cb sb mb c3 κ2 ∧ (fun (_ : GH) (R2 : LH) => R = R2) G6 R2 ∧ St G6 (κ2 ++ R2) w3 := by
    intro G5 κ1 w2 hle hC5 hst5;refine (c110 (hH f (by omega)) hC5 hst5 (hle _ _ hf4) (hle _ _ hf5) (hle _ _ hf7) (hle _ _ hf6) (heks.mono (hle13.trans hle)) hq hsz (hcur.mono hle) hp1 hx).mono ?_;rintro x w3 ⟨G6, κ2, rfl, h1, h2, h3⟩
    exact ⟨G6, κ2, R, rfl, h1, h2, rfl, h3⟩
   refine m_cl #[pN cb 0, pN p0b 0, .func (.func 110) #[] #[pN b1 0, pN b2 0, pN b3 0, pN b4 0]] (some 65) (c109_110 (Z := fun _ R2 => R = R2) hC3 H hp0t (Nat.lt_of_not_le htl) hty3 hdo) ?_;rintro _ w1 ⟨G5, κ5, R2, rfl, hG5, hC5, hR, H⟩;subst hR;refine nx H ?_;refine r_z [(66, .bool x0), (8, .bool x0)] ?_;refine W_ret ?_;refine q_rt [] [] (.bool x0) rc_nil H ?_
   exact ⟨G5, κ5, rfl, hle13.trans hG5, hC5, H⟩
  rw [hc28]
  obtain _ | f := f
  ·cases hin
  unfold hasL at hin
  rw [if_pos (show t.kind ≠ 3 by simpa using hc28)] at hin; simp only [o_j, p_j] at hin; obtain ⟨rfl, rfl⟩ := hin
  refine r_z (uD 57 9 [(66, .bool false), (8, .bool false)]) ?_;refine W_ret ?_;refine q_rt [] [] (.bool false) rc_nil H ?_
  exact ⟨G3, ((cb, .cells #[tv, pN sb 0] 119) :: (Lt ++ σ)), rfl, hle13, hC3, by simpa [List.append_assoc] using H⟩
 rw [hc14];rw [if_neg (show ¬e.kind = 3 by simpa using hc14)] at hin
 obtain ⟨⟨⟨ru, x0⟩, c3⟩, hx, hin⟩ := Option.bind_eq_some_iff.1 hin; simp only at hin
 refine r_z (uD 36 5 [(41, .bool false), (31, .bool false)]) ?_;refine W_cF ?_;refine W_skip ?_;refine W_seq ?_;refine W_sr [(.p, 0), (.l, 1), (.p, 2)] H ?_;refine r_x [1] [(48, pN b2 0), (49, iN e.kind), (50, .bool (e.kind == 3))] (rc_l 2 0 rfl rfl rc_nil) ?_
 have hd29 : (e.kind == 3) = false := hc14
 refine W_condF (by refine Eq.trans (b := .bool (e.kind == 3)) ?_ (congrArg Value.bool hd29); kernel_rfl) ?_;refine W_skip ?_;refine W_sr [(.l, 0), (.l, 1), (.l, 2), (.f, 3), (.p, 4), (.p, 5), (.p, 6), (.p, 7), (.p, 8)] H ?_;refine r_s [1, 6, 1] [(.l, 0), (.l, 1), (.l, 2)] [(68, pN cb 0), (69, (aE e eA ec eB ed)), (70, iN dp)] (rc_l 3 0 rfl rfl (rc_l 2 0 rfl rfl (rc_l 2 1 rfl rfl (rc_l 2 2 rfl rfl (rc_l 2 3 rfl rfl (rc_l 2 4 rfl rfl (rc_l 2 5 rfl rfl (rc_l 0 0 rfl rfl rc_nil)))))))) ?_
 have hC2 : IsChk G cb sb mb c ((cb, .cells #[tv, .pointer (some ⟨sb, 0, none⟩)] 119) :: (Lt ++ σ)) := ⟨tv, cs, Lt, σ, rfl, hos, hty, hS⟩
 have H := St.swap (A := [(b4, .cells #[iN dp] 3), (b3, .cells #[pN tb5 0] 106), (b2, cE e eA ec eB ed), (b1, .cells #[pN cb 0] 109)]) (B := (cb, .cells #[tv, pN sb 0] 119) :: (Lt ++ σ)) (C := R) (by simpa [List.append_assoc] using H);refine m_cl #[pN cb 0, (aE e eA ec eB ed), iN dp] (some 71) (hG f (by omega) hC2 H hv hsz hx) ?_;rintro _ w1 ⟨G2, κ2, pa, rfl, hG2, hC2, hpa, H⟩;replace htb8 := hG2 _ _ htb8;replace htt2 := htt2.mono hG2;obtain ⟨tv2, cs2, Lt2, σ2, rfl, hos2, hty2, hS2⟩ := id hC2
 have H : St G2 ((b4, .cells #[iN dp] 3) :: (b3, .cells #[pN tb5 0] 106) :: (b2, cE e eA ec eB ed) :: (b1, .cells #[pN cb 0] 109) :: (cb, .cells #[tv2, pN sb 0] 119) :: (Lt2 ++ (σ2 ++ R))) w1 := by
  have h2 := St.swap (A := (cb, .cells #[tv2, .pointer (some ⟨sb, 0, none⟩)] 119) :: (Lt2 ++ σ2)) (B := [(b4, .cells #[.int .i64 dp] 3), (b3, .cells #[.pointer (some ⟨tb5, 0, none⟩)] 106), (b2, .cells #[.int .i64 e.kind, .int .i64 e.num, .slice eA e.kids.length ec, .int .i64 e.ty.kind, .int .i64 e.ty.num, .slice eB e.ty.kids.length ed] 52), (b1, .cells #[.pointer (some ⟨cb, 0, none⟩)] 109)]) (C := R) (by simpa [List.append_assoc] using H)
  simpa [List.append_assoc] using h2
 cases x0
 ·skip
  rw [if_neg (by simp)] at hin; simp only [o_j, p_j] at hin; obtain ⟨rfl, rfl⟩ := hin
  refine nx H ?_;refine r_z [(67, .tuple #[.pointer pa, .bool false]), (72, .pointer pa), (73, .bool false), (9, .pointer pa), (10, .bool false)] ?_;refine W_seq ?_;refine W_rgd [(.p, 0), (.p, 1), (.l, 2), (.p, 3), (.p, 4), (.l, 5), (.p, 6), (.l, 7), (.l, 8), (.f, 9), (.p, 10), (.p, 11)] H (fun w1 H => ?_);refine r_z [(74, .bool false), (75, .bool false), (76, undef), (77, undef), (78, undef), (79, undef), (80, undef), (81, undef), (82, undef), (83, undef), (84, .bool false), (8, .bool false)] ?_;refine W_ret ?_;refine q_rt [] [] (.bool false) rc_nil H ?_
  exact ⟨G2, _, rfl, hG2, hC2, by simpa [List.append_assoc] using H.drop [_, _, _, _]⟩
 rw [if_pos rfl] at hin
 obtain ⟨⟨y0, s3⟩, hy, hin⟩ := Option.bind_eq_some_iff.1 hin; simp only [o_j, p_j] at hin; obtain ⟨rfl, rfl⟩ := hin
 refine nx H ?_;refine r_z [(67, .tuple #[.pointer pa, .bool true]), (72, .pointer pa), (73, .bool true), (9, .pointer pa), (10, .bool true)] ?_;refine W_seq ?_;refine W_rgd [(.p, 0), (.p, 1), (.l, 2), (.p, 3), (.p, 4), (.l, 5), (.p, 6), (.l, 7), (.l, 8), (.f, 9), (.p, 10), (.p, 11)] H (fun w1 H => ?_);refine r_s [1, 1, 1, 1] [(.p, 0), (.p, 1), (.l, 2), (.p, 3), (.p, 4), (.l, 5), (.p, 6), (.l, 7), (.l, 8)] [(74, .bool true), (75, .bool true), (76, pN cb 0), (77, pN cb 0), (78, pN cb 1), (79, pN sb 0), (80, .pointer pa), (81, pN tb5 0), (82, iN dp)] (rc_l 3 0 rfl rfl (rc_l 4 1 rfl rfl (rc_l 1 0 rfl rfl (rc_l 0 0 rfl rfl rc_nil)))) ?_;have H := St.swap (A := [(b4, .cells #[iN dp] 3), (b3, .cells #[pN tb5 0] 106), (b2, cE e eA ec eB ed), (b1, .cells #[pN cb 0] 109), (cb, .cells #[tv2, pN sb 0] 119)] ++ Lt2) (B := σ2) (C := R) (by simpa [List.append_assoc] using H);refine m_cl #[pN sb 0, .pointer pa, pN tb5 0, iN dp] (some 83) (c65 _ hS2 H (hpa rfl) htt2 hy) ?_;rintro _ w1 ⟨G3, σ3, rfl, hG3, hS3, H⟩;replace htb8 := hG3 _ _ htb8
 have H : St G3 ((b4, .cells #[iN dp] 3) :: (b3, .cells #[pN tb5 0] 106) :: (b2, cE e eA ec eB ed) :: (b1, .cells #[pN cb 0] 109) :: (cb, .cells #[tv2, pN sb 0] 119) :: (Lt2 ++ (σ3 ++ R))) w1 := by
  have h2 := St.swap (A := σ3) (B := [(b4, .cells #[.int .i64 dp] 3), (b3, .cells #[.pointer (some ⟨tb5, 0, none⟩)] 106), (b2, .cells #[.int .i64 e.kind, .int .i64 e.num, .slice eA e.kids.length ec, .int .i64 e.ty.kind, .int .i64 e.ty.num, .slice eB e.ty.kids.length ed] 52), (b1, .cells #[.pointer (some ⟨cb, 0, none⟩)] 109), (cb, .cells #[tv2, .pointer (some ⟨sb, 0, none⟩)] 119)] ++ Lt2) (C := R) H
  simpa [List.append_assoc] using h2
 refine nx H ?_;refine r_z [(84, .bool y0), (8, .bool y0)] ?_;refine W_ret ?_;refine q_rt [] [] (.bool y0) rc_nil H ?_
 exact ⟨G3, (cb, .cells #[tv2, pN sb 0] 119) :: (Lt2 ++ σ3), rfl, hG2.trans hG3, ⟨tv2, cs2, Lt2, σ3, rfl, hos2, hty2.mono hG3, hS3⟩, by simpa [List.append_assoc] using H.drop [_, _, _, _]⟩

theorem c131 {f : Nat} (hH : ∀ g, g < f → PH g) : PLd f := by
 intro G κ R w cb sb mb c c' v vt x t0_ dp r b0 hC H hv hsz ht hin
 obtain _ | f := f
 ·cases hin
 unfold leads at hin
 obtain ⟨t, ht1, hin⟩ := Option.bind_eq_some_iff.1 hin;obtain ⟨xA, xc, xB, xd, rfl, hxc, hxks, hxty⟩ := id hv.open;obtain ⟨vb, _, _, rfl, _⟩ := id ht.open;refine cal_of_W Try.func131 rfl (Nat.le_of_ble_eq_true e_) ?_;refine W_sr [(.f, 0), (.p, 1), (.p, 2)] H ?_;refine m_nw (cE x xA xc xB xd) 6 H (fun b1 w1 H => ?_);refine r_z [(8, .pointer none), (9, .bool false)] ?_;refine W_scope ?_;refine W_seq ?_;obtain ⟨G1, hG1, hF2, H⟩ := St.freeze [_] H
 have hf6 := hF2 _ (.head _)
 have hstk := H
 obtain ⟨tv, cs, Lt, σ, rfl, hos, hty, hS⟩ := id (hC.mono hG1)
 have H : St G1 ((cb, .cells #[tv, pN sb 0] 119) :: (Lt ++ (σ ++ R))) w1 := by simpa [List.append_assoc] using hstk
 refine W_rg [(.p, 0), (.p, 1), (.p, 2), (.l, 3), (.p, 4), (.f, 5), (.p, 6)] H ?_;refine r_s [1] [(.p, 0), (.p, 1), (.p, 2), (.l, 3), (.p, 4)] [(10, pN cb 0), (11, pN cb 0), (12, pN cb 1), (13, pN sb 0), (14, pN vb 0)] (rc_l 0 1 rfl rfl rc_nil) ?_;have H := St.swap (A := [(cb, .cells #[tv, pN sb 0] 119)] ++ Lt) (B := σ) (C := R) (by simpa [List.append_assoc] using H);refine m_cl #[pN sb 0, pN vb 0] (some 15) (c101 hS H (ht.mono hG1) ht1) ?_;rintro v1 w1 ⟨htt, H⟩
 have H : St G1 ((cb, .cells #[tv, pN sb 0] 119) :: (Lt ++ (σ ++ R))) w1 := by
  have h2 := St.swap (A := σ) (B := [(cb, .cells #[tv, .pointer (some ⟨sb, 0, none⟩)] 119)] ++ Lt) (C := R) H
  simpa [List.append_assoc] using h2
 obtain ⟨tb1, _, _, rfl, _⟩ := id htt.open;refine nx H ?_;refine r_z [(1, pN tb1 0)] ?_;refine W_seq ?_;refine W_label ?_;refine W_seq ?_;refine W_block ?_;refine W_loop (fun m ρ D w => ∃ (G2 : GH) (σ1 : LH) (s1 : Sol) (t1 : T) (tb1 : Nat) (f1 : Nat), EqS ρ [(0, pN cb 0), (1, pN tb1 0), (3, iN dp), (6, pN b1 0)] ∧ D = [] ∧ St G2 ((cb, .cells #[tv, pN sb 0] 119) :: (Lt ++ (σ1 ++ R))) w ∧ (IsSol G2 sb mb s1 σ1) ∧ (IsTyp G2 (pN tb1 0) t1) ∧ (Le G1 G2) ∧ (leadsO f1 { c with s := s1 } t1 x dp = some ((r, b0), c')) ∧ (f1 ≤ f) ∧ f1 = m) (f) ⟨G1, σ, c.s, t, tb1, f, ⟨e_, e_, e_, e_, trivial⟩, rfl, H, hS, htt, Le.refl _, hin, Nat.le_refl _, rfl⟩ ?_
 clear H; rintro m3 ρ D w1 ⟨G2, σ1, s1, t1, tb1, f1, hE4, rfl, H, hS1, htt1, hle, hin, hf1, hm5⟩
 refine W_env hE4 ?_
 obtain ⟨_, tA6, tc7, e11, htb8, htc9, htk10⟩ := htt1.open; cases e11
 refine W_block ?_;refine W_sr [(.p, 0), (.p, 1), (.p, 2), (.l, 3)] H ?_;refine r_x [1] [(16, pN tb1 0), (17, pN tb1 0), (18, pN tb1 0), (19, iN t1.kind)] (rc_g 0 htb8 rfl rc_nil) ?_;refine W_block ?_;refine W_sr (pL 2) H ?_;refine r_z [(21, .bool (t1.kind == 4)), (20, .bool (t1.kind == 4))] ?_;refine W_cd (b := t1.kind == 4) (fun hc12 => ?_) (fun hc12 => ?_)
 ·skip
  obtain _ | f1 := f1
  ·cases hin
  unfold leadsO at hin
  rw [if_pos (show t1.kind = 4 by simpa using hc12)] at hin
  obtain ⟨⟨hv3, s3⟩, hn, hin⟩ := Option.bind_eq_some_iff.1 hin; simp only at hin
  obtain ⟨u3, ho, hin⟩ := Option.bind_eq_some_iff.1 hin;obtain ⟨u4, hu4, hin⟩ := Option.bind_eq_some_iff.1 hin;refine W_regd [(.p, 0), (.p, 1), (.p, 2), (.l, 3), (.p, 4), (.p, 5), (.p, 6), (.l, 7), (.p, 8), (.p, 9), (.p, 10), (.p, 11), (.l, 12), (.p, 13), (.e, 14), (.e, 15), (.f, 16), (.p, 17)] (SS G2 ([(cb, .cells #[tv, pN sb 0] 119)])) mixed e_ e_ e_ e_ (fun w1 hw1 => ?_)
  have H := H.heap hw1; refine ⟨H.ss' (Le.refl _) (fun p hp => by rw [List.mem_singleton.1 hp]; simp), ?_⟩
  refine r_s [1, 1, 1] [(.p, 0), (.p, 1), (.p, 2), (.l, 3), (.p, 4), (.p, 5), (.p, 6), (.l, 7), (.p, 8), (.p, 9), (.p, 10), (.p, 11), (.l, 12), (.p, 13)] [(22, pN cb 0), (23, pN cb 0), (24, pN cb 1), (25, pN sb 0), (26, pN cb 0), (27, pN cb 0), (28, pN cb 1), (29, pN sb 0), (30, pN tb1 0), (31, pN cb 0), (32, pN cb 0), (33, pN cb 1), (34, pN sb 0), (35, iN dp)] (rc_l 0 1 rfl rfl (rc_l 0 1 rfl rfl (rc_l 0 1 rfl rfl rc_nil))) ?_;have H := St.swap (A := [(cb, .cells #[tv, pN sb 0] 119)] ++ Lt) (B := σ1) (C := R) (by simpa [List.append_assoc] using H);refine m_callE #[pN sb 0, iN 6, iN dp] (some 36) e_ (c100 hS1 H hn) ?_;rintro v1 w1 ⟨G3, σ3, hG3, hS3, hh3, H⟩;replace htb8 := hG3 _ _ htb8
  have H : St G3 ((cb, .cells #[tv, pN sb 0] 119) :: (Lt ++ (σ3 ++ R))) w1 := by
   have h2 := St.swap (A := σ3) (B := [(cb, .cells #[tv, .pointer (some ⟨sb, 0, none⟩)] 119)] ++ Lt) (C := R) H
   simpa [List.append_assoc] using h2
  obtain ⟨hb3, _, _, rfl, _⟩ := id hh3.open;refine ⟨H.ss' ((Le.refl _).trans hG3) (fun p hp => by rw [List.mem_singleton.1 hp]; simp), ?_⟩;refine m_callE #[pN sb 0, pN tb1 0, pN hb3 0] (some 37) e_ (c104 H (htt1.mono hG3) hh3 ho) ?_;rintro v1 w1 ⟨G4, hG4, ho4, H⟩;replace htb8 := hG4 _ _ htb8;obtain ⟨ob4, _, _, rfl, _⟩ := id ho4.open;refine ⟨H.ss' (((Le.refl _).trans hG3).trans hG4) (fun p hp => by rw [List.mem_singleton.1 hp]; simp), ?_⟩;have H := St.swap (A := [(cb, .cells #[tv, pN sb 0] 119)] ++ Lt) (B := σ3) (C := R) (by simpa [List.append_assoc] using H);refine m_cl #[pN sb 0, pN ob4 0] (some 38) (c101 (hS3.mono hG4) H ho4 hu4) ?_;rintro v1 w1 ⟨ht4, H⟩
  have H : St G4 ((cb, .cells #[tv, pN sb 0] 119) :: (Lt ++ (σ3 ++ R))) w1 := by
   have h2 := St.swap (A := σ3) (B := [(cb, .cells #[tv, .pointer (some ⟨sb, 0, none⟩)] 119)] ++ Lt) (C := R) H
   simpa [List.append_assoc] using h2
  obtain ⟨tb4, _, _, rfl, _⟩ := id ht4.open;refine nx H ?_;refine r_z [(1, pN tb4 0)] ?_
  exact ⟨_, (by omega), G4, σ3, s3, u4, tb4, f1, ⟨e_, e_, e_, e_, trivial⟩, rfl, H, (hS3.mono hG4), ht4, ((hle.trans hG3).trans hG4), hin, (by omega), rfl⟩
 obtain _ | f1 := f1
 ·cases hin
 unfold leadsO at hin
 rw [if_neg (show ¬t1.kind = 4 by simpa using hc12)] at hin;refine W_sr (pL 2) H ?_;refine r_z [(40, .bool (t1.kind == 6)), (39, .bool (t1.kind == 6))] ?_;refine W_cd (b := t1.kind == 6) (fun hc13 => ?_) (fun hc13 => ?_)
 ·skip
  rw [if_pos (show t1.kind = 6 by simpa using hc13)] at hin
  obtain ⟨⟨u4, s3⟩, hsp, hin⟩ := Option.bind_eq_some_iff.1 hin; simp only at hin
  refine W_rg [(.p, 0), (.p, 1), (.p, 2), (.l, 3), (.p, 4), (.f, 5), (.p, 6)] H ?_;refine r_s [1] [(.p, 0), (.p, 1), (.p, 2), (.l, 3), (.p, 4)] [(41, pN cb 0), (42, pN cb 0), (43, pN cb 1), (44, pN sb 0), (45, pN tb1 0)] (rc_l 0 1 rfl rfl rc_nil) ?_;have H := St.swap (A := [(cb, .cells #[tv, pN sb 0] 119)] ++ Lt) (B := σ1) (C := R) (by simpa [List.append_assoc] using H);refine m_cl #[pN sb 0, pN tb1 0] (some 46) (c108 hS1 H htt1 hsp) ?_;rintro v1 w1 ⟨G3, σ3, hG3, hS3, hh3, H⟩;replace htb8 := hG3 _ _ htb8
  have H : St G3 ((cb, .cells #[tv, pN sb 0] 119) :: (Lt ++ (σ3 ++ R))) w1 := by
   have h2 := St.swap (A := σ3) (B := [(cb, .cells #[tv, .pointer (some ⟨sb, 0, none⟩)] 119)] ++ Lt) (C := R) H
   simpa [List.append_assoc] using h2
  obtain ⟨sb3, _, _, rfl, _⟩ := id hh3.open;refine nx H ?_;refine r_z [(1, pN sb3 0)] ?_
  exact ⟨_, (by omega), G3, σ3, s3, u4, sb3, f1, ⟨e_, e_, e_, e_, trivial⟩, rfl, H, hS3, hh3, (hle.trans hG3), hin, (by omega), rfl⟩
 rw [if_neg (show ¬t1.kind = 6 by simpa using hc13)] at hin;refine W_exit ?_;refine W_seq ?_;refine W_seq ?_
 have hf62 := hle _ _ hf6
 have hC2 : IsChk G2 cb sb mb { c with s := s1 } ((cb, .cells #[tv, .pointer (some ⟨sb, 0, none⟩)] 119) :: (Lt ++ σ1)) := ⟨tv, cs, Lt, σ1, rfl, hos, (hty.mono hle), hS1⟩
 refine W_rgd [(.p, 0), (.p, 1), (.p, 2), (.l, 3), (.p, 4), (.p, 5), (.p, 6), (.l, 7), (.p, 8), (.p, 9), (.p, 10), (.l, 11), (.p, 12), (.l, 13), (.p, 14), (.f, 15), (.p, 16), (.p, 17)] H (fun w1 H => ?_);refine r_s [1] [(.p, 0), (.p, 1), (.p, 2), (.l, 3), (.p, 4), (.p, 5)] [(47, pN tb1 0), (48, pN tb1 0), (49, pN tb1 0), (50, iN t1.kind), (51, .bool (t1.kind != 3)), (52, .bool (t1.kind != 3))] (rc_g 0 htb8 rfl rc_nil) ?_
 rcases Bool.eq_false_or_eq_true (t1.kind != 3) with hc14 | hc14
 ·rw [hc14]
  rw [if_pos (show t1.kind ≠ 3 by simpa using hc14)] at hin; simp only [o_j, p_j] at hin; obtain ⟨⟨rfl, rfl⟩, rfl⟩ := hin
  refine r_z (uD 53 11 [(64, .bool true)]) ?_;refine W_cT ?_;refine W_sr (pL 2) H ?_;refine r_z [(8, .pointer none), (9, .bool false)] ?_;refine W_ret ?_;refine q_rt [] [] (.tuple #[.pointer none, .bool false]) rc_nil H ?_
  exact ⟨G2, _, none, rfl, hG1.trans hle, hC2, (fun h => by cases h), by simpa [List.append_assoc] using H⟩
 rw [hc14];rw [if_neg (show ¬ t1.kind ≠ 3 by simpa using hc14)] at hin
 split at hin
 case h_2 => cases hin
 rename_i p0 p1 _ hkp
 obtain ⟨⟨x0, c3⟩, hx, hin⟩ := Option.bind_eq_some_iff.1 hin; simp only at hin
 have hp0 : t1.kids[0]? = some p0 := by rw [hkp]; rfl
 have hp1 : t1.kids[1]? = some p1 := by rw [hkp]; rfl
 have hlp0 : 0 < t1.kids.length := by rw [hkp]; simp
 have hlp1 : 1 < t1.kids.length := by rw [hkp]; simp
 have hstk := H
 obtain ⟨yb, yo, p0b, rfl, hp0c, hp0t⟩ := htk10.elem hp0
 obtain ⟨_, _, p1b, hx1, hp1c, hp1t⟩ := htk10.elem hp1; cases hx1
 have H := hstk;refine r_s [6, 1] [(.p, 6), (.l, 7), (.p, 8), (.p, 9), (.p, 10), (.l, 11)] [(53, pN cb 0), (54, (aE x xA xc xB xd)), (55, pN tb1 0), (56, pN tb1 0), (57, pN tb1 2), (58, sN yb yo t1.kids.length tc7)] (rc_g 0 hf62 rfl (rc_g 1 hf62 rfl (rc_g 2 hf62 rfl (rc_g 3 hf62 rfl (rc_g 4 hf62 rfl (rc_g 5 hf62 rfl (rc_g 2 htb8 rfl rc_nil))))))) ?_;refine m_idx (sz := 1) (b := yb) (off := yo) (n := t1.kids.length) (c := tc7) (k := 0) (some 59) (show opAt _ _ _ = some (.indexAddr 102 (.tmp 58) (.const (iN 0)), _) by kernel_rfl) e_ e_ Try.underlying102 sz106 hlp0 ?_;refine r_s [1] [(.l, 13), (.p, 14)] [(60, pN p0b 0), (61, iN dp)] (rc_C hp0c rc_nil) ?_
 have H : St G2 (((cb, .cells #[tv, pN sb 0] 119) :: (Lt ++ σ1)) ++ R) w1 := by simpa [List.append_assoc] using H
 refine m_cl #[pN cb 0, (aE x xA xc xB xd), pN p0b 0, iN dp] (some 62) (hH f1 (by omega) hC2 H ((hv.mono hG1).mono hle) hsz hp0t hx) ?_;rintro _ w1 ⟨G3, κ3, rfl, hG3, hC3, H⟩;replace htb8 := hG3 _ _ htb8;replace hf62 := hG3 _ _ hf62;replace hp0c := hp0c.mono hG3;replace hp1c := hp1c.mono hG3;cases x0
 ·skip
  rw [if_neg (by simp)] at hin; simp only [o_j, p_j] at hin; obtain ⟨⟨rfl, rfl⟩, rfl⟩ := hin
  refine nx H ?_;refine r_z [(63, .bool true), (64, .bool true)] ?_;refine W_cT ?_;refine W_sr (pL 2) H ?_;refine r_z [(8, .pointer none), (9, .bool false)] ?_;refine W_ret ?_;refine q_rt [] [] (.tuple #[.pointer none, .bool false]) rc_nil H ?_
  exact ⟨G3, κ3, none, rfl, (hG1.trans hle).trans hG3, hC3, (fun h => by cases h), H⟩
 rw [if_pos rfl] at hin; simp only [o_j, p_j] at hin; obtain ⟨⟨rfl, rfl⟩, rfl⟩ := hin
 refine nx H ?_;refine r_z [(63, .bool false), (64, .bool false)] ?_;refine W_cF ?_;refine W_skip ?_;refine W_sr [(.p, 0), (.p, 1), (.p, 2), (.l, 3), (.p, 4), (.l, 5), (.p, 6), (.p, 7)] H ?_;refine r_s [1] [(.p, 0), (.p, 1), (.p, 2), (.l, 3)] [(65, pN tb1 0), (66, pN tb1 0), (67, pN tb1 2), (68, sN yb yo t1.kids.length tc7)] (rc_g 2 htb8 rfl rc_nil) ?_;refine m_idx (sz := 1) (b := yb) (off := yo) (n := t1.kids.length) (c := tc7) (k := 1) (some 69) (show opAt _ _ _ = some (.indexAddr 102 (.tmp 68) (.const (iN 1)), _) by kernel_rfl) e_ e_ Try.underlying102 sz106 hlp1 ?_;refine r_x [1] [(70, pN p1b 0), (8, pN p1b 0), (9, .bool true)] (rc_C hp1c rc_nil) ?_;refine W_ret ?_;refine q_rt [] [] (.tuple #[pN p1b 0, .bool true]) rc_nil H ?_
 exact ⟨G3, κ3, _, rfl, (hG1.trans hle).trans hG3, hC3, (fun _ => hp1t.mono hG3), H⟩

theorem c106 {G : GH} {L : LH} {w : World} (H : St G L w) : Cal Try.prog 106 #[] w fun x w' => x = .agg #[.func (.func 122) #[] #[], .func (.func 124) #[] #[], .func (.func 125) #[] #[], .func (.func 128) #[] #[], .func (.func 130) #[] #[], .func (.func 132) #[] #[]] ∧ St G L w' := by
 refine cal_of_W Try.func106 rfl (Nat.le_of_ble_eq_true e_) ?_;refine W_sr [(.f, 0)] H ?_;refine m_nw (.cells #[.nilFunc, .nilFunc, .nilFunc, .nilFunc, .nilFunc, .nilFunc] 156) 0 H (fun b1 w1 H => ?_);refine r_nil ?_;refine W_sr [(.p, 0), (.p, 1), (.p, 2), (.p, 3), (.p, 4), (.p, 5), (.p, 6), (.f, 7)] H ?_;refine r_y [(.p, 0), (.p, 1), (.p, 2), (.p, 3), (.p, 4), (.p, 5), (.p, 6)] [(1, .agg #[.func (.func 122) #[] #[]]), (2, .agg #[.func (.func 124) #[] #[]]), (3, .agg #[.func (.func 125) #[] #[]]), (4, .agg #[.func (.func 128) #[] #[]]), (5, .agg #[.func (.func 130) #[] #[]]), (6, .agg #[.func (.func 132) #[] #[]]), (7, .agg #[.func (.func 122) #[] #[], .func (.func 124) #[] #[], .func (.func 125) #[] #[], .func (.func 128) #[] #[], .func (.func 130) #[] #[], .func (.func 132) #[] #[]])] ?_;refine s_0 [(0, .func (.func 122) #[] #[]), (1, .func (.func 124) #[] #[]), (2, .func (.func 125) #[] #[]), (3, .func (.func 128) #[] #[]), (4, .func (.func 130) #[] #[]), (5, .func (.func 132) #[] #[])] [.func (.func 122) #[] #[], .func (.func 124) #[] #[], .func (.func 125) #[] #[], .func (.func 128) #[] #[], .func (.func 130) #[] #[], .func (.func 132) #[] #[]] none H (fun w1 H => ?_);refine r_nil ?_;refine W_ret ?_;refine q_rt [.func (.func 122) #[] #[], .func (.func 124) #[] #[], .func (.func 125) #[] #[], .func (.func 128) #[] #[], .func (.func 130) #[] #[], .func (.func 132) #[] #[]] [(⟨b1, 0, none⟩, .func (.func 122) #[] #[]), (⟨b1, 1, none⟩, .func (.func 124) #[] #[]), (⟨b1, 2, none⟩, .func (.func 125) #[] #[]), (⟨b1, 3, none⟩, .func (.func 128) #[] #[]), (⟨b1, 4, none⟩, .func (.func 130) #[] #[]), (⟨b1, 5, none⟩, .func (.func 132) #[] #[])] (.agg #[.func (.func 122) #[] #[], .func (.func 124) #[] #[], .func (.func 125) #[] #[], .func (.func 128) #[] #[], .func (.func 130) #[] #[], .func (.func 132) #[] #[]]) (rc_L 0 rfl rfl (rc_L 0 rfl rfl (rc_L 0 rfl rfl (rc_L 0 rfl rfl (rc_L 0 rfl rfl (rc_L 0 rfl rfl rc_nil)))))) H ?_
 exact ⟨rfl, H.drop [_]⟩

theorem c70 {f : Nat} (hH : ∀ g, g < f → PH g) (hG : ∀ g, g < f → PG g) (hL : ∀ g, g < f → PLd g) : PG f := by
 intro G κ R w cb sb mb c c' v e dp r b0 hC H hv hsz hin
 obtain _ | f := f
 ·cases hin
 have hkk : e.kind = 1 ∨ e.kind = 2 ∨ e.kind = 3 ∨ e.kind = 4 ∨ e.kind = 5 ∨ e.kind = 6 := by
  by_cases h : e.kind = 1 ∨ e.kind = 2 ∨ e.kind = 3 ∨ e.kind = 4 ∨ e.kind = 5 ∨ e.kind = 6
  ·exact h
  ·rw [gives_eq, if_neg (by omega), if_neg (by omega), if_neg (by omega), if_neg (by omega), if_neg (by omega), if_neg (by omega)] at hin; cases hin
 obtain ⟨eA, ec, eB, ed, rfl, hec, heks, hety⟩ := id hv.open;refine cal_of_W Try.func70 rfl (Nat.le_of_ble_eq_true e_) ?_;refine W_sr [(.f, 0), (.p, 1), (.p, 2)] H ?_;refine m_nw (cE e eA ec eB ed) 4 H (fun b1 w1 H => ?_);refine r_z [(6, .pointer none), (7, .bool false)] ?_;refine W_seq ?_;obtain ⟨G1, hG1, hF2, H⟩ := St.freeze [_] H
 have hf4 := hF2 _ (.head _)
 rcases hkk with hk | hk | hk | hk | hk | hk
 ·unfold cE at hf4;rw [hk] at hf4
  have hev : IsExpr G1 (.agg #[.int .i64 1, .int .i64 e.num, .slice eA e.kids.length ec, .int .i64 e.ty.kind, .int .i64 e.ty.num, .slice eB e.ty.kids.length ed]) e := by have := hv.mono hG1; rw [hk] at this; exact this
  refine W_rgd [(.p, 1), (.l, 2), (.p, 3), (.p, 6), (.l, 7), (.p, 8), (.e, 0), (.p, 4), (.p, 5), (.f, 9), (.p, 10), (.p, 11), (.p, 12), (.p, 13)] H (fun w1 H => ?_);refine r_s [1, 6] [(.p, 1), (.l, 2), (.p, 3), (.p, 6), (.l, 7), (.p, 8)] [(9, pN b1 0), (10, iN 1), (11, iN 0), (14, pN cb 0), (15, .agg #[iN 1, iN e.num, .slice eA e.kids.length ec, iN e.ty.kind, iN e.ty.num, .slice eB e.ty.kids.length ed]), (16, iN dp)] (rc_g 0 hf4 rfl (rc_g 0 hf4 rfl (rc_g 1 hf4 rfl (rc_g 2 hf4 rfl (rc_g 3 hf4 rfl (rc_g 4 hf4 rfl (rc_g 5 hf4 rfl rc_nil))))))) ?_;refine m_callE #[] (some 8) e_ (c106 H) ?_;rintro _ w1 ⟨rfl, H⟩;refine ⟨H.ss' (Le.refl _) (fun _ hp => hp), ?_⟩;refine r_y [(.p, 4), (.p, 5)] [(12, .agg #[.func (.func 122) #[] #[]]), (13, .func (.func 122) #[] #[])] ?_;refine m_cl #[pN cb 0, .agg #[iN 1, iN e.num, .slice eA e.kids.length ec, iN e.ty.kind, iN e.ty.num, .slice eB e.ty.kids.length ed], iN dp] (some 17) (c122  (hC.mono hG1) H hev hsz hk hin) ?_;rintro _ w1 ⟨G2, κ2, pa, rfl, hG2, hC2, hpa, H⟩;refine nx H ?_;refine r_z [(18, .pointer pa), (19, .bool b0), (6, .pointer pa), (7, .bool b0)] ?_;refine W_ret ?_;refine q_rt [] [] (.tuple #[.pointer pa, .bool b0]) rc_nil H ?_
  exact ⟨G2, κ2, pa, rfl, hG1.trans hG2, hC2, hpa, H⟩
 ·unfold cE at hf4;rw [hk] at hf4
  have hev : IsExpr G1 (.agg #[.int .i64 2, .int .i64 e.num, .slice eA e.kids.length ec, .int .i64 e.ty.kind, .int .i64 e.ty.num, .slice eB e.ty.kids.length ed]) e := by have := hv.mono hG1; rw [hk] at this; exact this
  refine W_rgd [(.p, 1), (.l, 2), (.p, 3), (.p, 6), (.l, 7), (.p, 8), (.e, 0), (.p, 4), (.p, 5), (.f, 9), (.p, 10), (.p, 11), (.p, 12), (.p, 13)] H (fun w1 H => ?_);refine r_s [1, 6] [(.p, 1), (.l, 2), (.p, 3), (.p, 6), (.l, 7), (.p, 8)] [(9, pN b1 0), (10, iN 2), (11, iN 1), (14, pN cb 0), (15, .agg #[iN 2, iN e.num, .slice eA e.kids.length ec, iN e.ty.kind, iN e.ty.num, .slice eB e.ty.kids.length ed]), (16, iN dp)] (rc_g 0 hf4 rfl (rc_g 0 hf4 rfl (rc_g 1 hf4 rfl (rc_g 2 hf4 rfl (rc_g 3 hf4 rfl (rc_g 4 hf4 rfl (rc_g 5 hf4 rfl rc_nil))))))) ?_;refine m_callE #[] (some 8) e_ (c106 H) ?_;rintro _ w1 ⟨rfl, H⟩;refine ⟨H.ss' (Le.refl _) (fun _ hp => hp), ?_⟩;refine r_y [(.p, 4), (.p, 5)] [(12, .agg #[.func (.func 124) #[] #[]]), (13, .func (.func 124) #[] #[])] ?_;refine m_cl #[pN cb 0, .agg #[iN 2, iN e.num, .slice eA e.kids.length ec, iN e.ty.kind, iN e.ty.num, .slice eB e.ty.kids.length ed], iN dp] (some 17) (c124  (hC.mono hG1) H hev hsz hk hin) ?_;rintro _ w1 ⟨G2, κ2, pa, rfl, hG2, hC2, hpa, H⟩;refine nx H ?_;refine r_z [(18, .pointer pa), (19, .bool b0), (6, .pointer pa), (7, .bool b0)] ?_;refine W_ret ?_;refine q_rt [] [] (.tuple #[.pointer pa, .bool b0]) rc_nil H ?_
  exact ⟨G2, κ2, pa, rfl, hG1.trans hG2, hC2, hpa, H⟩
 ·unfold cE at hf4;rw [hk] at hf4
  have hev : IsExpr G1 (.agg #[.int .i64 3, .int .i64 e.num, .slice eA e.kids.length ec, .int .i64 e.ty.kind, .int .i64 e.ty.num, .slice eB e.ty.kids.length ed]) e := by have := hv.mono hG1; rw [hk] at this; exact this
  refine W_rgd [(.p, 1), (.l, 2), (.p, 3), (.p, 6), (.l, 7), (.p, 8), (.e, 0), (.p, 4), (.p, 5), (.f, 9), (.p, 10), (.p, 11), (.p, 12), (.p, 13)] H (fun w1 H => ?_);refine r_s [1, 6] [(.p, 1), (.l, 2), (.p, 3), (.p, 6), (.l, 7), (.p, 8)] [(9, pN b1 0), (10, iN 3), (11, iN 2), (14, pN cb 0), (15, .agg #[iN 3, iN e.num, .slice eA e.kids.length ec, iN e.ty.kind, iN e.ty.num, .slice eB e.ty.kids.length ed]), (16, iN dp)] (rc_g 0 hf4 rfl (rc_g 0 hf4 rfl (rc_g 1 hf4 rfl (rc_g 2 hf4 rfl (rc_g 3 hf4 rfl (rc_g 4 hf4 rfl (rc_g 5 hf4 rfl rc_nil))))))) ?_;refine m_callE #[] (some 8) e_ (c106 H) ?_;rintro _ w1 ⟨rfl, H⟩;refine ⟨H.ss' (Le.refl _) (fun _ hp => hp), ?_⟩;refine r_y [(.p, 4), (.p, 5)] [(12, .agg #[.func (.func 125) #[] #[]]), (13, .func (.func 125) #[] #[])] ?_;refine m_cl #[pN cb 0, .agg #[iN 3, iN e.num, .slice eA e.kids.length ec, iN e.ty.kind, iN e.ty.num, .slice eB e.ty.kids.length ed], iN dp] (some 17) (c125 hH (hC.mono hG1) H hev hsz hk hin) ?_;rintro _ w1 ⟨G2, κ2, pa, rfl, hG2, hC2, hpa, H⟩;refine nx H ?_;refine r_z [(18, .pointer pa), (19, .bool b0), (6, .pointer pa), (7, .bool b0)] ?_;refine W_ret ?_;refine q_rt [] [] (.tuple #[.pointer pa, .bool b0]) rc_nil H ?_
  exact ⟨G2, κ2, pa, rfl, hG1.trans hG2, hC2, hpa, H⟩
 ·unfold cE at hf4;rw [hk] at hf4
  have hev : IsExpr G1 (.agg #[.int .i64 4, .int .i64 e.num, .slice eA e.kids.length ec, .int .i64 e.ty.kind, .int .i64 e.ty.num, .slice eB e.ty.kids.length ed]) e := by have := hv.mono hG1; rw [hk] at this; exact this
  refine W_rgd [(.p, 1), (.l, 2), (.p, 3), (.p, 6), (.l, 7), (.p, 8), (.e, 0), (.p, 4), (.p, 5), (.f, 9), (.p, 10), (.p, 11), (.p, 12), (.p, 13)] H (fun w1 H => ?_);refine r_s [1, 6] [(.p, 1), (.l, 2), (.p, 3), (.p, 6), (.l, 7), (.p, 8)] [(9, pN b1 0), (10, iN 4), (11, iN 3), (14, pN cb 0), (15, .agg #[iN 4, iN e.num, .slice eA e.kids.length ec, iN e.ty.kind, iN e.ty.num, .slice eB e.ty.kids.length ed]), (16, iN dp)] (rc_g 0 hf4 rfl (rc_g 0 hf4 rfl (rc_g 1 hf4 rfl (rc_g 2 hf4 rfl (rc_g 3 hf4 rfl (rc_g 4 hf4 rfl (rc_g 5 hf4 rfl rc_nil))))))) ?_;refine m_callE #[] (some 8) e_ (c106 H) ?_;rintro _ w1 ⟨rfl, H⟩;refine ⟨H.ss' (Le.refl _) (fun _ hp => hp), ?_⟩;refine r_y [(.p, 4), (.p, 5)] [(12, .agg #[.func (.func 128) #[] #[]]), (13, .func (.func 128) #[] #[])] ?_;refine m_cl #[pN cb 0, .agg #[iN 4, iN e.num, .slice eA e.kids.length ec, iN e.ty.kind, iN e.ty.num, .slice eB e.ty.kids.length ed], iN dp] (some 17) (c128 hG (hC.mono hG1) H hev hsz hk hin) ?_;rintro _ w1 ⟨G2, κ2, pa, rfl, hG2, hC2, hpa, H⟩;refine nx H ?_;refine r_z [(18, .pointer pa), (19, .bool b0), (6, .pointer pa), (7, .bool b0)] ?_;refine W_ret ?_;refine q_rt [] [] (.tuple #[.pointer pa, .bool b0]) rc_nil H ?_
  exact ⟨G2, κ2, pa, rfl, hG1.trans hG2, hC2, hpa, H⟩
 ·unfold cE at hf4;rw [hk] at hf4
  have hev : IsExpr G1 (.agg #[.int .i64 5, .int .i64 e.num, .slice eA e.kids.length ec, .int .i64 e.ty.kind, .int .i64 e.ty.num, .slice eB e.ty.kids.length ed]) e := by have := hv.mono hG1; rw [hk] at this; exact this
  refine W_rgd [(.p, 1), (.l, 2), (.p, 3), (.p, 6), (.l, 7), (.p, 8), (.e, 0), (.p, 4), (.p, 5), (.f, 9), (.p, 10), (.p, 11), (.p, 12), (.p, 13)] H (fun w1 H => ?_);refine r_s [1, 6] [(.p, 1), (.l, 2), (.p, 3), (.p, 6), (.l, 7), (.p, 8)] [(9, pN b1 0), (10, iN 5), (11, iN 4), (14, pN cb 0), (15, .agg #[iN 5, iN e.num, .slice eA e.kids.length ec, iN e.ty.kind, iN e.ty.num, .slice eB e.ty.kids.length ed]), (16, iN dp)] (rc_g 0 hf4 rfl (rc_g 0 hf4 rfl (rc_g 1 hf4 rfl (rc_g 2 hf4 rfl (rc_g 3 hf4 rfl (rc_g 4 hf4 rfl (rc_g 5 hf4 rfl rc_nil))))))) ?_;refine m_callE #[] (some 8) e_ (c106 H) ?_;rintro _ w1 ⟨rfl, H⟩;refine ⟨H.ss' (Le.refl _) (fun _ hp => hp), ?_⟩;refine r_y [(.p, 4), (.p, 5)] [(12, .agg #[.func (.func 130) #[] #[]]), (13, .func (.func 130) #[] #[])] ?_;refine m_cl #[pN cb 0, .agg #[iN 5, iN e.num, .slice eA e.kids.length ec, iN e.ty.kind, iN e.ty.num, .slice eB e.ty.kids.length ed], iN dp] (some 17) (c130 hG hL (hC.mono hG1) H hev hsz hk hin) ?_;rintro _ w1 ⟨G2, κ2, pa, rfl, hG2, hC2, hpa, H⟩;refine nx H ?_;refine r_z [(18, .pointer pa), (19, .bool b0), (6, .pointer pa), (7, .bool b0)] ?_;refine W_ret ?_;refine q_rt [] [] (.tuple #[.pointer pa, .bool b0]) rc_nil H ?_
  exact ⟨G2, κ2, pa, rfl, hG1.trans hG2, hC2, hpa, H⟩
 unfold cE at hf4;rw [hk] at hf4
 have hev : IsExpr G1 (.agg #[.int .i64 6, .int .i64 e.num, .slice eA e.kids.length ec, .int .i64 e.ty.kind, .int .i64 e.ty.num, .slice eB e.ty.kids.length ed]) e := by have := hv.mono hG1; rw [hk] at this; exact this
 refine W_rgd [(.p, 1), (.l, 2), (.p, 3), (.p, 6), (.l, 7), (.p, 8), (.e, 0), (.p, 4), (.p, 5), (.f, 9), (.p, 10), (.p, 11), (.p, 12), (.p, 13)] H (fun w1 H => ?_);refine r_s [1, 6] [(.p, 1), (.l, 2), (.p, 3), (.p, 6), (.l, 7), (.p, 8)] [(9, pN b1 0), (10, iN 6), (11, iN 5), (14, pN cb 0), (15, .agg #[iN 6, iN e.num, .slice eA e.kids.length ec, iN e.ty.kind, iN e.ty.num, .slice eB e.ty.kids.length ed]), (16, iN dp)] (rc_g 0 hf4 rfl (rc_g 0 hf4 rfl (rc_g 1 hf4 rfl (rc_g 2 hf4 rfl (rc_g 3 hf4 rfl (rc_g 4 hf4 rfl (rc_g 5 hf4 rfl rc_nil))))))) ?_;refine m_callE #[] (some 8) e_ (c106 H) ?_;rintro _ w1 ⟨rfl, H⟩;refine ⟨H.ss' (Le.refl _) (fun _ hp => hp), ?_⟩;refine r_y [(.p, 4), (.p, 5)] [(12, .agg #[.func (.func 132) #[] #[]]), (13, .func (.func 132) #[] #[])] ?_;refine m_cl #[pN cb 0, .agg #[iN 6, iN e.num, .slice eA e.kids.length ec, iN e.ty.kind, iN e.ty.num, .slice eB e.ty.kids.length ed], iN dp] (some 17) (c132 hH (hC.mono hG1) H hev hsz hk hin) ?_;rintro _ w1 ⟨G2, κ2, pa, rfl, hG2, hC2, hpa, H⟩;refine nx H ?_;refine r_z [(18, .pointer pa), (19, .bool b0), (6, .pointer pa), (7, .bool b0)] ?_;refine W_ret ?_;refine q_rt [] [] (.tuple #[.pointer pa, .bool b0]) rc_nil H ?_
 exact ⟨G2, κ2, pa, rfl, hG1.trans hG2, hC2, hpa, H⟩
theorem pall : ∀ f, PG f ∧ PH f ∧ PLd f := by
 intro f
 induction f using Nat.strongRecOn with
 | _ f ih =>
 exact ⟨c70 (fun g hg => (ih g hg).2.1) (fun g hg => (ih g hg).1) (fun g hg => (ih g hg).2.2), c73 (fun g hg => (ih g hg).2.1) (fun g hg => (ih g hg).1), c131 (fun g hg => (ih g hg).2.1)⟩

theorem numbered_eq (f : Nat) (sv : List (Int × T)) (t : T) (hs : List (Int × Int)) (many : Int) : numbered (f + 1) sv t hs many = (now f sv t).bind fun t => numberedL f sv t.kids (if t.kind = 6 ∧ (lkp hs t.num).isNone then hs ++ [(t.num, (hs.length : Int))] else hs) (w64 (many + 1)) := by rw [numbered]
theorem c71 : ∀ (f : Nat) {G : GH} {κ R : LH} {w : World} {cb sb hp mb_ : Nat} {mb : MB} {c : Chk} {v : Value} {t : T} {hs hs' : List (Int × Int)} {many many' : Int} {es : Array MapEntry} {ck : Nat}, IsChk G cb sb mb c κ → MapR es (hs.map fun p => (p.1, Value.int .i64 p.2)) →
  St G ((hp, .map es ck) :: (mb_, .cells #[.int .i64 many] 3) :: (κ ++ R)) w → IsTyp G v t → numbered f c.s.solved t hs many = some (hs', many') →
  Cal Try.prog 71 #[.pointer (some ⟨cb, 0, none⟩), v, .map (some hp), .pointer (some ⟨mb_, 0, none⟩)] w fun _ w' => ∃ es' ck', MapR es' (hs'.map fun p => (p.1, Value.int .i64 p.2)) ∧ St G ((hp, .map es' ck') :: (mb_, .cells #[.int .i64 many'] 3) :: (κ ++ R)) w' := by
 intro f
 induction f using Nat.strongRecOn with
 | _ f ih =>
 intro G κ R w cb sb hp mb_ mb c v t hs hs' many many' es ck hC hM H ht hin
 obtain _ | f := f
 ·cases hin
 rw [numbered_eq] at hin;obtain ⟨u, hu, hin⟩ := Option.bind_eq_some_iff.1 hin;obtain ⟨vb, _, _, rfl, _⟩ := id ht.open;obtain ⟨tv, cs, Lt, σ, rfl, hos, hty, hS⟩ := id hC
 have H : St G ((hp, .map es ck) :: (mb_, .cells #[iN many] 3) :: (cb, .cells #[tv, pN sb 0] 119) :: (Lt ++ (σ ++ R))) w := by simpa [List.append_assoc] using H
 refine cal_of_W Try.func71 rfl (Nat.le_of_ble_eq_true e_) ?_;refine W_sr [(.p, 0), (.p, 1), (.p, 2), (.l, 3), (.p, 4), (.f, 5), (.p, 6)] H ?_;refine r_s [1] [(.p, 0), (.p, 1), (.p, 2), (.l, 3), (.p, 4)] [(12, pN cb 0), (13, pN cb 0), (14, pN cb 1), (15, pN sb 0), (16, pN vb 0)] (rc_l 2 1 rfl rfl rc_nil) ?_;have H := St.swap (A := [(hp, .map es ck), (mb_, .cells #[iN many] 3), (cb, .cells #[tv, pN sb 0] 119)] ++ Lt) (B := σ) (C := R) (by simpa [List.append_assoc] using H);refine m_cl #[pN sb 0, pN vb 0] (some 17) (c101 hS H ht hu) ?_;rintro v1 w1 ⟨hr, H⟩
 have H : St G ((hp, .map es ck) :: (mb_, .cells #[iN many] 3) :: (cb, .cells #[tv, pN sb 0] 119) :: (Lt ++ (σ ++ R))) w1 := by
  have h2 := St.swap (A := σ) (B := [(hp, .map es ck), (mb_, .cells #[.int .i64 many] 3), (cb, .cells #[tv, .pointer (some ⟨sb, 0, none⟩)] 119)] ++ Lt) (C := R) H
  simpa [List.append_assoc] using h2
 refine nx H ?_;obtain ⟨tb1, tA2, tc3, rfl, htb4, htc5, htk6⟩ := hr.open;refine r_z [(1, pN tb1 0)] ?_;refine W_sr [(.p, 0), (.p, 1), (.l, 2), (.p, 3), (.p, 4), (.f, 5)] H ?_;refine r_s [1] [(.p, 0), (.p, 1), (.l, 2), (.p, 3), (.p, 4)] [(18, pN mb_ 0), (19, pN mb_ 0), (20, iN many), (21, iN (IntKind.wrap .i64 (many + 1))), (22, pN mb_ 0)] (rc_l 1 0 rfl rfl rc_nil) ?_;refine s_1 [(0, iN (IntKind.wrap .i64 (many + 1)))] [iN (IntKind.wrap .i64 (many + 1))] none H (fun w1 H => ?_);refine r_nil ?_;refine W_seq ?_;refine W_sr [(.p, 0), (.p, 1), (.p, 2), (.p, 3), (.l, 4), (.l, 5), (.p, 6), (.p, 7), (.p, 8), (.p, 9), (.p, 10)] H ?_;refine r_s [1] [(.p, 0), (.p, 1), (.p, 2), (.p, 3), (.l, 4)] [(24, .map (some hp)), (25, pN tb1 0), (26, pN tb1 0), (27, pN tb1 1), (28, iN u.num)] (rc_g 1 htb4 rfl rc_nil) ?_
 have hlm := lkp_map (Value.int .i64) hs u.num
 rcases hlk : lkp hs u.num with _ | hn
 ·skip
  rw [hlk] at hin hlm; simp only [Option.map_none, Option.map_some] at hlm
  refine m_look (z := iN 0) (k := u.num) (r := hp) (d := (some 29)) 0 (show opAt _ _ _ = some (.lookup 113 (.tmp 24) (.tmp 28) true, _) by kernel_rfl) e_ e_ Try.underlying113 Try.underlying3 e_ rfl hM (res := none) hlm ?_;refine r_z [(23, .tuple #[iN 0, .bool false]), (30, iN 0), (31, .bool false), (8, iN 0), (9, .bool false)] ?_;refine W_sr [(.p, 0), (.p, 1), (.p, 2), (.l, 3), (.p, 4), (.p, 5), (.p, 6), (.p, 7), (.p, 8)] H ?_;refine r_s [1] [(.p, 0), (.p, 1), (.p, 2), (.l, 3), (.p, 4), (.p, 5)] [(32, pN tb1 0), (33, pN tb1 0), (34, pN tb1 0), (35, iN u.kind), (36, .bool (u.kind == 6)), (37, .bool (u.kind == 6))] (rc_g 0 htb4 rfl rc_nil) ?_
  rcases Bool.eq_false_or_eq_true (u.kind == 6) with hc8 | hc8
  ·rw [hc8]
   have hk6 : u.kind = 6 := by simpa using hc8
   rw [if_pos ⟨hk6, rfl⟩] at hin;refine r_z [(38, .bool false), (39, .bool true), (40, .bool true)] ?_;refine W_cT ?_;refine W_rgd [(.p, 0), (.p, 1), (.p, 2), (.p, 3), (.l, 4), (.p, 5), (.l, 6), (.f, 7)] H (fun w1 H => ?_);refine r_s [1] [(.p, 0), (.p, 1), (.p, 2), (.p, 3), (.l, 4), (.p, 5)] [(41, .map (some hp)), (42, pN tb1 0), (43, pN tb1 0), (44, pN tb1 1), (45, iN u.num), (46, .map (some hp))] (rc_g 1 htb4 rfl rc_nil) ?_
   have hll : es.size = hs.length := by rw [hM.len]; simp
   refine m_lenMap (r := hp) (n := hs.length) (d := (some 47)) (show opAt _ _ _ = some (.call { callee := .builtin .len, args := #[(.tmp 46)], argTypes := #[113] }, _) by kernel_rfl) e_ Try.underlying113 (fun w2 hS2 => hS2.2 _ (.head _)) hll ?_;refine m_insert (L' := (hp, .map (es.push { key := iN u.num, val := nN hs.length, born := ck }) (ck + 1)) :: (mb_, .cells #[iN (IntKind.wrap .i64 (many + 1))] 3) :: (cb, .cells #[tv, pN sb 0] 119) :: (Lt ++ (σ ++ R))) (k := u.num) (v := nN hs.length) (r := hp) (d := none) 0 (show opAt _ _ _ = some (.mapUpdate 113 (.tmp 41) (.tmp 45) (.tmp 47), _) by kernel_rfl) e_ e_ e_ Try.underlying113 Try.underlying3 H rfl hM hlm rfl (fun w1 H => ?_);refine r_nil ?_;refine W_seq ?_
   have hM1 : MapR (es.push { key := .int .i64 u.num, val := .int .i64 ((hs.length : Nat) : Int), born := ck }) ((hs ++ [(u.num, (hs.length : Int))]).map fun p => (p.1, Value.int .i64 p.2)) := by
    rw [List.map_append]; exact hM.push _ _ _
   refine W_rg [(.p, 0), (.p, 1), (.p, 2), (.l, 3), (.p, 4), (.p, 5)] H ?_;refine r_x [1] [(48, pN tb1 0), (49, pN tb1 0), (50, pN tb1 2), (51, .slice tA2 u.kids.length tc3), (52, nN u.kids.length), (53, iN 0)] (rc_g 2 htb4 rfl rc_nil) ?_;refine W_block ?_;refine W_loop (fun m ρ D w => ∃ (k : Nat) (f1 : Nat) (hs1 : List (Int × Int)) (m1 : Int) (es1 : Array MapEntry) (ck1 : Nat), EqS ρ [(0, pN cb 0), (2, .map (some hp)), (3, pN mb_ 0), (51, .slice tA2 u.kids.length tc3), (52, iN (((u.kids.length : Nat) : Int))), (53, iN (((k : Nat) : Int)))] ∧ D = [] ∧ St G ((hp, .map es1 ck1) :: (mb_, .cells #[iN m1] 3) :: (cb, .cells #[tv, pN sb 0] 119) :: (Lt ++ (σ ++ R))) w ∧ (numberedL f1 c.s.solved (u.kids.drop k) hs1 m1 = some (hs', many')) ∧ (MapR es1 (hs1.map fun p => (p.1, Value.int .i64 p.2))) ∧ (f1 ≤ f) ∧ (k ≤ u.kids.length) ∧ u.kids.length - k = m) (u.kids.length - 0) ⟨0, f, (hs ++ [(u.num, (hs.length : Int))]), w64 (many + 1), (es.push { key := iN u.num, val := iN ((hs.length : Nat) : Int), born := ck }), (ck + 1), ⟨e_, e_, e_, e_, e_, e_, trivial⟩, rfl, H, hin, hM1, Nat.le_refl _, Nat.zero_le _, rfl⟩ ?_
   clear H; rintro m9 ρ D w1 ⟨k, f1, hs1, m1, es1, ck1, hE10, rfl, H, hin, hM1, hf1, hkk, hm11⟩
   refine W_env hE10 ?_;refine W_sr [(.p, 0)] H ?_;refine r_z [(54, .bool (decide ((((k : Nat) : Int)) < (((u.kids.length : Nat) : Int)))))] ?_;refine W_seq ?_;refine W_cd (b := decide ((((k : Nat) : Int)) < (((u.kids.length : Nat) : Int)))) (fun hc12 => ?_) (fun hc12 => ?_)
   ·skip
    have hlt : k < u.kids.length := by have := of_decide_eq_true hc12; omega
    obtain ⟨q, hq⟩ := get_of_lt hlt
    have hstk := H
    obtain ⟨eb, eo, qb, rfl, hc0, hqt⟩ := htk6.elem hq
    have H := hstk; clear hstk
    obtain _ | f1 := f1
    ·cases hin
    unfold numberedL at hin
    rw [drop_cons hq] at hin; simp only at hin
    refine W_skip ?_;refine W_seq ?_;refine W_block ?_;refine W_sr [(.p, 0), (.l, 1), (.p, 2)] H ?_;refine m_idx (sz := 1) (b := eb) (off := eo) (n := u.kids.length) (c := tc3) (k := k) (some 55) (show opAt _ _ _ = some (.indexAddr 102 (.tmp 51) (.tmp 53), _) by kernel_rfl) e_ e_ Try.underlying102 sz106 hlt ?_;refine r_x [1] [(56, pN qb 0), (11, pN qb 0)] (rc_C hc0 rc_nil) ?_;refine W_seq ?_;refine W_sr [(.p, 0), (.p, 1), (.l, 2), (.p, 3)] H ?_;refine r_x [1] [(57, pN mb_ 0), (58, pN mb_ 0), (59, iN m1), (60, .bool (decide (m1 > 200)))] (rc_l 1 0 rfl rfl rc_nil) ?_;refine W_cd (b := decide (m1 > 200)) (fun hc13 => ?_) (fun hc13 => ?_)
    ·skip
     rw [if_pos (by simpa using hc13)] at hin; simp only [o_j, p_j] at hin; obtain ⟨rfl, rfl⟩ := hin
     refine W_ret ?_;refine q_rt [] [] (.tuple #[]) rc_nil H ?_
     exact ⟨es1, ck1, hM1, by simpa [List.append_assoc] using H⟩
    rw [if_neg (by simpa using hc13)] at hin; obtain ⟨⟨hs2, m2⟩, hr, hin⟩ := Option.bind_eq_some_iff.1 hin; simp only at hin
    refine W_skip ?_;refine W_rg [(.p, 0), (.p, 1), (.p, 2), (.p, 3), (.f, 4)] H ?_;refine r_y [(.p, 0), (.p, 1), (.p, 2), (.p, 3)] [(61, pN cb 0), (62, pN qb 0), (63, .map (some hp)), (64, pN mb_ 0)] ?_;refine m_cl #[pN cb 0, pN qb 0, .map (some hp), pN mb_ 0] (some 65) (ih f1 (by omega) hC hM1 (by simpa [List.append_assoc] using H) hqt hr) ?_;rintro vx w1 ⟨es2, ck2, hM2, H⟩
    have H : St G ((hp, .map es2 ck2) :: (mb_, .cells #[iN m2] 3) :: (cb, .cells #[tv, pN sb 0] 119) :: (Lt ++ (σ ++ R))) w1 := by simpa [List.append_assoc] using H
    refine nx H ?_;refine r_nil ?_;refine W_rg (pL 2) H ?_;refine r_z [(66, iN (IntKind.wrap .i64 ((((k : Nat) : Int)) + 1))), (53, iN (IntKind.wrap .i64 ((((k : Nat) : Int)) + 1)))] ?_
    exact ⟨_, (by omega), k + 1, f1, hs2, m2, es2, ck2, ⟨e_, e_, e_, e_, e_, (by rw [← wrap_succ (k := k) (by omega)]; kernel_rfl), trivial⟩, rfl, H, hin, hM2, (by omega), hlt, rfl⟩
   have hge : k = u.kids.length := by have := of_decide_eq_false hc12; omega
   obtain _ | f1 := f1
   ·cases hin
   unfold numberedL at hin
   rw [List.drop_of_length_le (by omega)] at hin
   simp only [o_j, p_j] at hin; obtain ⟨rfl, rfl⟩ := hin
   refine W_exit ?_;refine q_end [] [] (.tuple #[]) e_ rc_nil H ?_
   exact ⟨es1, ck1, hM1, by simpa [List.append_assoc] using H⟩
  rw [hc8]
  have hk6 : ¬ u.kind = 6 := by simpa using hc8
  rw [if_neg (fun hx => hk6 hx.1)] at hin;refine r_z (uD 38 2 [(40, .bool false)]) ?_;refine W_cF ?_;refine W_skip ?_;refine W_sr [(.p, 0), (.p, 1), (.p, 2), (.l, 3), (.p, 4), (.p, 5)] H ?_;refine r_x [1] [(48, pN tb1 0), (49, pN tb1 0), (50, pN tb1 2), (51, .slice tA2 u.kids.length tc3), (52, nN u.kids.length), (53, iN 0)] (rc_g 2 htb4 rfl rc_nil) ?_;refine W_block ?_;refine W_loop (fun m ρ D w => ∃ (k : Nat) (f1 : Nat) (hs1 : List (Int × Int)) (m1 : Int) (es1 : Array MapEntry) (ck1 : Nat), EqS ρ [(0, pN cb 0), (2, .map (some hp)), (3, pN mb_ 0), (51, .slice tA2 u.kids.length tc3), (52, iN (((u.kids.length : Nat) : Int))), (53, iN (((k : Nat) : Int)))] ∧ D = [] ∧ St G ((hp, .map es1 ck1) :: (mb_, .cells #[iN m1] 3) :: (cb, .cells #[tv, pN sb 0] 119) :: (Lt ++ (σ ++ R))) w ∧ (numberedL f1 c.s.solved (u.kids.drop k) hs1 m1 = some (hs', many')) ∧ (MapR es1 (hs1.map fun p => (p.1, Value.int .i64 p.2))) ∧ (f1 ≤ f) ∧ (k ≤ u.kids.length) ∧ u.kids.length - k = m) (u.kids.length - 0) ⟨0, f, hs, w64 (many + 1), es, ck, ⟨e_, e_, e_, e_, e_, e_, trivial⟩, rfl, H, hin, hM, Nat.le_refl _, Nat.zero_le _, rfl⟩ ?_
  clear H; rintro m14 ρ D w1 ⟨k, f1, hs1, m1, es1, ck1, hE15, rfl, H, hin, hM1, hf1, hkk, hm16⟩
  refine W_env hE15 ?_;refine W_sr [(.p, 0)] H ?_;refine r_z [(54, .bool (decide ((((k : Nat) : Int)) < (((u.kids.length : Nat) : Int)))))] ?_;refine W_seq ?_;refine W_cd (b := decide ((((k : Nat) : Int)) < (((u.kids.length : Nat) : Int)))) (fun hc17 => ?_) (fun hc17 => ?_)
  ·skip
   have hlt : k < u.kids.length := by have := of_decide_eq_true hc17; omega
   obtain ⟨q, hq⟩ := get_of_lt hlt
   have hstk := H
   obtain ⟨eb, eo, qb, rfl, hc0, hqt⟩ := htk6.elem hq
   have H := hstk; clear hstk
   obtain _ | f1 := f1
   ·cases hin
   unfold numberedL at hin
   rw [drop_cons hq] at hin; simp only at hin
   refine W_skip ?_;refine W_seq ?_;refine W_block ?_;refine W_sr [(.p, 0), (.l, 1), (.p, 2)] H ?_;refine m_idx (sz := 1) (b := eb) (off := eo) (n := u.kids.length) (c := tc3) (k := k) (some 55) (show opAt _ _ _ = some (.indexAddr 102 (.tmp 51) (.tmp 53), _) by kernel_rfl) e_ e_ Try.underlying102 sz106 hlt ?_;refine r_x [1] [(56, pN qb 0), (11, pN qb 0)] (rc_C hc0 rc_nil) ?_;refine W_seq ?_;refine W_sr [(.p, 0), (.p, 1), (.l, 2), (.p, 3)] H ?_;refine r_x [1] [(57, pN mb_ 0), (58, pN mb_ 0), (59, iN m1), (60, .bool (decide (m1 > 200)))] (rc_l 1 0 rfl rfl rc_nil) ?_;refine W_cd (b := decide (m1 > 200)) (fun hc18 => ?_) (fun hc18 => ?_)
   ·skip
    rw [if_pos (by simpa using hc18)] at hin; simp only [o_j, p_j] at hin; obtain ⟨rfl, rfl⟩ := hin
    refine W_ret ?_;refine q_rt [] [] (.tuple #[]) rc_nil H ?_
    exact ⟨es1, ck1, hM1, by simpa [List.append_assoc] using H⟩
   rw [if_neg (by simpa using hc18)] at hin; obtain ⟨⟨hs2, m2⟩, hr, hin⟩ := Option.bind_eq_some_iff.1 hin; simp only at hin
   refine W_skip ?_;refine W_rg [(.p, 0), (.p, 1), (.p, 2), (.p, 3), (.f, 4)] H ?_;refine r_y [(.p, 0), (.p, 1), (.p, 2), (.p, 3)] [(61, pN cb 0), (62, pN qb 0), (63, .map (some hp)), (64, pN mb_ 0)] ?_;refine m_cl #[pN cb 0, pN qb 0, .map (some hp), pN mb_ 0] (some 65) (ih f1 (by omega) hC hM1 (by simpa [List.append_assoc] using H) hqt hr) ?_;rintro vx w1 ⟨es2, ck2, hM2, H⟩
   have H : St G ((hp, .map es2 ck2) :: (mb_, .cells #[iN m2] 3) :: (cb, .cells #[tv, pN sb 0] 119) :: (Lt ++ (σ ++ R))) w1 := by simpa [List.append_assoc] using H
   refine nx H ?_;refine r_nil ?_;refine W_rg (pL 2) H ?_;refine r_z [(66, iN (IntKind.wrap .i64 ((((k : Nat) : Int)) + 1))), (53, iN (IntKind.wrap .i64 ((((k : Nat) : Int)) + 1)))] ?_
   exact ⟨_, (by omega), k + 1, f1, hs2, m2, es2, ck2, ⟨e_, e_, e_, e_, e_, (by rw [← wrap_succ (k := k) (by omega)]; kernel_rfl), trivial⟩, rfl, H, hin, hM2, (by omega), hlt, rfl⟩
  have hge : k = u.kids.length := by have := of_decide_eq_false hc17; omega
  obtain _ | f1 := f1
  ·cases hin
  unfold numberedL at hin
  rw [List.drop_of_length_le (by omega)] at hin
  simp only [o_j, p_j] at hin; obtain ⟨rfl, rfl⟩ := hin
  refine W_exit ?_;refine q_end [] [] (.tuple #[]) e_ rc_nil H ?_
  exact ⟨es1, ck1, hM1, by simpa [List.append_assoc] using H⟩
 rw [hlk] at hin hlm; simp only [Option.map_none, Option.map_some] at hlm
 refine m_look (z := iN 0) (k := u.num) (r := hp) (d := (some 29)) 0 (show opAt _ _ _ = some (.lookup 113 (.tmp 24) (.tmp 28) true, _) by kernel_rfl) e_ e_ Try.underlying113 Try.underlying3 e_ rfl hM (res := some (iN hn)) hlm ?_;refine r_z [(23, .tuple #[iN hn, .bool true]), (30, iN hn), (31, .bool true), (8, iN hn), (9, .bool true)] ?_;refine W_sr [(.p, 0), (.p, 1), (.p, 2), (.l, 3), (.p, 4), (.p, 5), (.p, 6), (.p, 7), (.p, 8)] H ?_;refine r_s [1] [(.p, 0), (.p, 1), (.p, 2), (.l, 3), (.p, 4), (.p, 5)] [(32, pN tb1 0), (33, pN tb1 0), (34, pN tb1 0), (35, iN u.kind), (36, .bool (u.kind == 6)), (37, .bool (u.kind == 6))] (rc_g 0 htb4 rfl rc_nil) ?_
 rcases Bool.eq_false_or_eq_true (u.kind == 6) with hc19 | hc19
 ·rw [hc19]
  have hk6 : u.kind = 6 := by simpa using hc19
  rw [if_neg (fun hx => by cases hx.2)] at hin;refine r_z [(38, .bool true), (39, .bool false), (40, .bool false)] ?_;refine W_cF ?_;refine W_skip ?_;refine W_sr [(.p, 0), (.p, 1), (.p, 2), (.l, 3), (.p, 4), (.p, 5)] H ?_;refine r_x [1] [(48, pN tb1 0), (49, pN tb1 0), (50, pN tb1 2), (51, .slice tA2 u.kids.length tc3), (52, nN u.kids.length), (53, iN 0)] (rc_g 2 htb4 rfl rc_nil) ?_;refine W_block ?_;refine W_loop (fun m ρ D w => ∃ (k : Nat) (f1 : Nat) (hs1 : List (Int × Int)) (m1 : Int) (es1 : Array MapEntry) (ck1 : Nat), EqS ρ [(0, pN cb 0), (2, .map (some hp)), (3, pN mb_ 0), (51, .slice tA2 u.kids.length tc3), (52, iN (((u.kids.length : Nat) : Int))), (53, iN (((k : Nat) : Int)))] ∧ D = [] ∧ St G ((hp, .map es1 ck1) :: (mb_, .cells #[iN m1] 3) :: (cb, .cells #[tv, pN sb 0] 119) :: (Lt ++ (σ ++ R))) w ∧ (numberedL f1 c.s.solved (u.kids.drop k) hs1 m1 = some (hs', many')) ∧ (MapR es1 (hs1.map fun p => (p.1, Value.int .i64 p.2))) ∧ (f1 ≤ f) ∧ (k ≤ u.kids.length) ∧ u.kids.length - k = m) (u.kids.length - 0) ⟨0, f, hs, w64 (many + 1), es, ck, ⟨e_, e_, e_, e_, e_, e_, trivial⟩, rfl, H, hin, hM, Nat.le_refl _, Nat.zero_le _, rfl⟩ ?_
  clear H; rintro m20 ρ D w1 ⟨k, f1, hs1, m1, es1, ck1, hE21, rfl, H, hin, hM1, hf1, hkk, hm22⟩
  refine W_env hE21 ?_;refine W_sr [(.p, 0)] H ?_;refine r_z [(54, .bool (decide ((((k : Nat) : Int)) < (((u.kids.length : Nat) : Int)))))] ?_;refine W_seq ?_;refine W_cd (b := decide ((((k : Nat) : Int)) < (((u.kids.length : Nat) : Int)))) (fun hc23 => ?_) (fun hc23 => ?_)
  ·skip
   have hlt : k < u.kids.length := by have := of_decide_eq_true hc23; omega
   obtain ⟨q, hq⟩ := get_of_lt hlt
   have hstk := H
   obtain ⟨eb, eo, qb, rfl, hc0, hqt⟩ := htk6.elem hq
   have H := hstk; clear hstk
   obtain _ | f1 := f1
   ·cases hin
   unfold numberedL at hin
   rw [drop_cons hq] at hin; simp only at hin
   refine W_skip ?_;refine W_seq ?_;refine W_block ?_;refine W_sr [(.p, 0), (.l, 1), (.p, 2)] H ?_;refine m_idx (sz := 1) (b := eb) (off := eo) (n := u.kids.length) (c := tc3) (k := k) (some 55) (show opAt _ _ _ = some (.indexAddr 102 (.tmp 51) (.tmp 53), _) by kernel_rfl) e_ e_ Try.underlying102 sz106 hlt ?_;refine r_x [1] [(56, pN qb 0), (11, pN qb 0)] (rc_C hc0 rc_nil) ?_;refine W_seq ?_;refine W_sr [(.p, 0), (.p, 1), (.l, 2), (.p, 3)] H ?_;refine r_x [1] [(57, pN mb_ 0), (58, pN mb_ 0), (59, iN m1), (60, .bool (decide (m1 > 200)))] (rc_l 1 0 rfl rfl rc_nil) ?_;refine W_cd (b := decide (m1 > 200)) (fun hc24 => ?_) (fun hc24 => ?_)
   ·skip
    rw [if_pos (by simpa using hc24)] at hin; simp only [o_j, p_j] at hin; obtain ⟨rfl, rfl⟩ := hin
    refine W_ret ?_;refine q_rt [] [] (.tuple #[]) rc_nil H ?_
    exact ⟨es1, ck1, hM1, by simpa [List.append_assoc] using H⟩
   rw [if_neg (by simpa using hc24)] at hin; obtain ⟨⟨hs2, m2⟩, hr, hin⟩ := Option.bind_eq_some_iff.1 hin; simp only at hin
   refine W_skip ?_;refine W_rg [(.p, 0), (.p, 1), (.p, 2), (.p, 3), (.f, 4)] H ?_;refine r_y [(.p, 0), (.p, 1), (.p, 2), (.p, 3)] [(61, pN cb 0), (62, pN qb 0), (63, .map (some hp)), (64, pN mb_ 0)] ?_;refine m_cl #[pN cb 0, pN qb 0, .map (some hp), pN mb_ 0] (some 65) (ih f1 (by omega) hC hM1 (by simpa [List.append_assoc] using H) hqt hr) ?_;rintro vx w1 ⟨es2, ck2, hM2, H⟩
   have H : St G ((hp, .map es2 ck2) :: (mb_, .cells #[iN m2] 3) :: (cb, .cells #[tv, pN sb 0] 119) :: (Lt ++ (σ ++ R))) w1 := by simpa [List.append_assoc] using H
   refine nx H ?_;refine r_nil ?_;refine W_rg (pL 2) H ?_;refine r_z [(66, iN (IntKind.wrap .i64 ((((k : Nat) : Int)) + 1))), (53, iN (IntKind.wrap .i64 ((((k : Nat) : Int)) + 1)))] ?_
   exact ⟨_, (by omega), k + 1, f1, hs2, m2, es2, ck2, ⟨e_, e_, e_, e_, e_, (by rw [← wrap_succ (k := k) (by omega)]; kernel_rfl), trivial⟩, rfl, H, hin, hM2, (by omega), hlt, rfl⟩
  have hge : k = u.kids.length := by have := of_decide_eq_false hc23; omega
  obtain _ | f1 := f1
  ·cases hin
  unfold numberedL at hin
  rw [List.drop_of_length_le (by omega)] at hin
  simp only [o_j, p_j] at hin; obtain ⟨rfl, rfl⟩ := hin
  refine W_exit ?_;refine q_end [] [] (.tuple #[]) e_ rc_nil H ?_
  exact ⟨es1, ck1, hM1, by simpa [List.append_assoc] using H⟩
 rw [hc19]
 have hk6 : ¬ u.kind = 6 := by simpa using hc19
 rw [if_neg (fun hx => hk6 hx.1)] at hin;refine r_z (uD 38 2 [(40, .bool false)]) ?_;refine W_cF ?_;refine W_skip ?_;refine W_sr [(.p, 0), (.p, 1), (.p, 2), (.l, 3), (.p, 4), (.p, 5)] H ?_;refine r_x [1] [(48, pN tb1 0), (49, pN tb1 0), (50, pN tb1 2), (51, .slice tA2 u.kids.length tc3), (52, nN u.kids.length), (53, iN 0)] (rc_g 2 htb4 rfl rc_nil) ?_;refine W_block ?_;refine W_loop (fun m ρ D w => ∃ (k : Nat) (f1 : Nat) (hs1 : List (Int × Int)) (m1 : Int) (es1 : Array MapEntry) (ck1 : Nat), EqS ρ [(0, pN cb 0), (2, .map (some hp)), (3, pN mb_ 0), (51, .slice tA2 u.kids.length tc3), (52, iN (((u.kids.length : Nat) : Int))), (53, iN (((k : Nat) : Int)))] ∧ D = [] ∧ St G ((hp, .map es1 ck1) :: (mb_, .cells #[iN m1] 3) :: (cb, .cells #[tv, pN sb 0] 119) :: (Lt ++ (σ ++ R))) w ∧ (numberedL f1 c.s.solved (u.kids.drop k) hs1 m1 = some (hs', many')) ∧ (MapR es1 (hs1.map fun p => (p.1, Value.int .i64 p.2))) ∧ (f1 ≤ f) ∧ (k ≤ u.kids.length) ∧ u.kids.length - k = m) (u.kids.length - 0) ⟨0, f, hs, w64 (many + 1), es, ck, ⟨e_, e_, e_, e_, e_, e_, trivial⟩, rfl, H, hin, hM, Nat.le_refl _, Nat.zero_le _, rfl⟩ ?_
 clear H; rintro m25 ρ D w1 ⟨k, f1, hs1, m1, es1, ck1, hE26, rfl, H, hin, hM1, hf1, hkk, hm27⟩
 refine W_env hE26 ?_;refine W_sr [(.p, 0)] H ?_;refine r_z [(54, .bool (decide ((((k : Nat) : Int)) < (((u.kids.length : Nat) : Int)))))] ?_;refine W_seq ?_;refine W_cd (b := decide ((((k : Nat) : Int)) < (((u.kids.length : Nat) : Int)))) (fun hc28 => ?_) (fun hc28 => ?_)
 ·skip
  have hlt : k < u.kids.length := by have := of_decide_eq_true hc28; omega
  obtain ⟨q, hq⟩ := get_of_lt hlt
  have hstk := H
  obtain ⟨eb, eo, qb, rfl, hc0, hqt⟩ := htk6.elem hq
  have H := hstk; clear hstk
  obtain _ | f1 := f1
  ·cases hin
  unfold numberedL at hin
  rw [drop_cons hq] at hin; simp only at hin
  refine W_skip ?_;refine W_seq ?_;refine W_block ?_;refine W_sr [(.p, 0), (.l, 1), (.p, 2)] H ?_;refine m_idx (sz := 1) (b := eb) (off := eo) (n := u.kids.length) (c := tc3) (k := k) (some 55) (show opAt _ _ _ = some (.indexAddr 102 (.tmp 51) (.tmp 53), _) by kernel_rfl) e_ e_ Try.underlying102 sz106 hlt ?_;refine r_x [1] [(56, pN qb 0), (11, pN qb 0)] (rc_C hc0 rc_nil) ?_;refine W_seq ?_;refine W_sr [(.p, 0), (.p, 1), (.l, 2), (.p, 3)] H ?_;refine r_x [1] [(57, pN mb_ 0), (58, pN mb_ 0), (59, iN m1), (60, .bool (decide (m1 > 200)))] (rc_l 1 0 rfl rfl rc_nil) ?_;refine W_cd (b := decide (m1 > 200)) (fun hc29 => ?_) (fun hc29 => ?_)
  ·skip
   rw [if_pos (by simpa using hc29)] at hin; simp only [o_j, p_j] at hin; obtain ⟨rfl, rfl⟩ := hin
   refine W_ret ?_;refine q_rt [] [] (.tuple #[]) rc_nil H ?_
   exact ⟨es1, ck1, hM1, by simpa [List.append_assoc] using H⟩
  rw [if_neg (by simpa using hc29)] at hin; obtain ⟨⟨hs2, m2⟩, hr, hin⟩ := Option.bind_eq_some_iff.1 hin; simp only at hin
  refine W_skip ?_;refine W_rg [(.p, 0), (.p, 1), (.p, 2), (.p, 3), (.f, 4)] H ?_;refine r_y [(.p, 0), (.p, 1), (.p, 2), (.p, 3)] [(61, pN cb 0), (62, pN qb 0), (63, .map (some hp)), (64, pN mb_ 0)] ?_;refine m_cl #[pN cb 0, pN qb 0, .map (some hp), pN mb_ 0] (some 65) (ih f1 (by omega) hC hM1 (by simpa [List.append_assoc] using H) hqt hr) ?_;rintro vx w1 ⟨es2, ck2, hM2, H⟩
  have H : St G ((hp, .map es2 ck2) :: (mb_, .cells #[iN m2] 3) :: (cb, .cells #[tv, pN sb 0] 119) :: (Lt ++ (σ ++ R))) w1 := by simpa [List.append_assoc] using H
  refine nx H ?_;refine r_nil ?_;refine W_rg (pL 2) H ?_;refine r_z [(66, iN (IntKind.wrap .i64 ((((k : Nat) : Int)) + 1))), (53, iN (IntKind.wrap .i64 ((((k : Nat) : Int)) + 1)))] ?_
  exact ⟨_, (by omega), k + 1, f1, hs2, m2, es2, ck2, ⟨e_, e_, e_, e_, e_, (by rw [← wrap_succ (k := k) (by omega)]; kernel_rfl), trivial⟩, rfl, H, hin, hM2, (by omega), hlt, rfl⟩
 have hge : k = u.kids.length := by have := of_decide_eq_false hc28; omega
 obtain _ | f1 := f1
 ·cases hin
 unfold numberedL at hin
 rw [List.drop_of_length_le (by omega)] at hin
 simp only [o_j, p_j] at hin; obtain ⟨rfl, rfl⟩ := hin
 refine W_exit ?_;refine q_end [] [] (.tuple #[]) e_ rc_nil H ?_
 exact ⟨es1, ck1, hM1, by simpa [List.append_assoc] using H⟩

theorem St.swapU {G : GH} {A B C : LH} {w : World} (P : LH) (h : St G (P ++ (A ++ (B ++ C))) w) : St G (P ++ (B ++ (A ++ C))) w := by
 refine h.perm (List.Perm.append_left P ?_);rw [← List.append_assoc, ← List.append_assoc]
 exact List.Perm.append_right C List.perm_append_comm

theorem numbered_le : ∀ f : Nat, (∀ sv t hs many hs' many', 0 ≤ many → many ≤ 200 → numbered f sv t hs many = some (hs', many') → many ≤ many' ∧ many' ≤ 201 ∧ (hs'.length : Int) ≤ hs.length + (many' - many)) ∧
  (∀ sv ts hs many hs' many', 0 ≤ many → many ≤ 201 → numberedL f sv ts hs many = some (hs', many') → many ≤ many' ∧ many' ≤ 201 ∧ (hs'.length : Int) ≤ hs.length + (many' - many))
 | 0 => ⟨fun _ _ _ _ _ _ _ _ h => (by cases h), fun _ _ _ _ _ _ _ _ h => (by cases h)⟩
 | f + 1 => by
  obtain ⟨h1, h2⟩ := numbered_le f;refine ⟨fun sv t hs many hs' many' ha hb h => ?_, fun sv ts hs many hs' many' ha hb h => ?_⟩
  ·rw [numbered_eq] at h;obtain ⟨u, _, h⟩ := Option.bind_eq_some_iff.1 h
   have hw : w64 (many + 1) = many + 1 := wrap_id (by omega) (by omega)
   rw [hw] at h
   have h3 := h2 _ _ _ _ _ _ (by omega) (by omega) h
   split at h3
   ·simp only [List.length_append, List.length_cons, List.length_nil] at h3; omega
   ·omega
  unfold numberedL at h
  cases ts with
  | nil => simp only [o_j, p_j] at h; obtain ⟨rfl, rfl⟩ := h; omega
  | cons k ks =>
   simp only at h
   split at h
   ·simp only [o_j, p_j] at h; obtain ⟨rfl, rfl⟩ := h; omega
   obtain ⟨⟨hs2, m2⟩, hr, h⟩ := Option.bind_eq_some_iff.1 h
   have h3 := h1 _ _ _ _ _ _ ha (by omega) hr
   have h4 := h2 _ _ _ _ _ _ (by omega) (by omega) h
   simp only at h4
   omega

theorem c29 {f : Nat} {G : GH} {L : LH} {w : World} {A : Option Addr} {c : Nat} {v : Value} {l : List T} {e : E} {r : T} {er : Int} (hks : IsPolys G A l) (hc : l.length ≤ c) (hlsz : T.szs l < lim) (hv : IsExpr G v e) (hsz : E.sz e < lim) (H : St G L w) (h : Md.Synth f l e = some (r, er)) :
  Cal Try.prog 29 #[.slice A l.length c, v] w fun x w' => ∃ G' x0, Le G G' ∧ x = .tuple #[x0, .int .i64 er] ∧ IsPoly G' x0 r ∧ St G' L w' := by
 have hlim : lim = 1099511627776 := rfl
 obtain ⟨eA, ec, eB, ed, rfl, hec, heks, hety⟩ := id hv.open
 unfold Md.Synth at h
 refine cal_of_W Try.func29 rfl (Nat.le_of_ble_eq_true e_) ?_;refine W_sr [(.f, 0), (.f, 1), (.p, 2)] H ?_;refine m_nw (cE e eA ec eB ed) 3 H (fun b1 w1 H => ?_);refine m_nw oT 4 H (fun b2 w1 H => ?_);refine r_z [(5, iN 0)] ?_;refine W_seq ?_;refine W_sr [(.p, 0), (.l, 1), (.f, 2), (.p, 3)] H ?_;refine r_s [6] [(.p, 0), (.l, 1)] [(13, .slice A l.length c), (14, (aE e eA ec eB ed))] (rc_l 1 0 rfl rfl (rc_l 1 1 rfl rfl (rc_l 1 2 rfl rfl (rc_l 1 3 rfl rfl (rc_l 1 4 rfl rfl (rc_l 1 5 rfl rfl rc_nil)))))) ?_;refine m_cl #[.slice A l.length c, (aE e eA ec eB ed)] (some 15) (c68 (n := 0) hks hc hlsz hv hsz H) ?_;rintro _ w1 ⟨G1, hG1, rfl, H⟩;refine nx H ?_;refine r_z [(6, iN (Good l e))] ?_;refine W_sr (pL 2) H ?_;refine r_z [(16, iN (Good l e)), (17, .bool ((Good l e) != 0))] ?_;refine W_cd (b := (Good l e) != 0) (fun hc3 => ?_) (fun hc3 => ?_)
 ·skip
  rw [if_pos (show Good l e ≠ 0 by simpa using hc3)] at h; simp only [o_j, p_j] at h; obtain ⟨rfl, rfl⟩ := h
  refine W_sr [(.p, 0), (.p, 1), (.f, 2), (.p, 3)] H ?_;refine r_y [(.p, 0), (.p, 1)] [(18, .agg #[iN 0, iN 0, .slice none 0 0]), (19, iN (Good l e))] ?_;refine s_0 [(0, iN 0), (1, iN 0), (2, .slice none 0 0)] [iN 0, iN 0, .slice none 0 0] none H (fun w1 H => ?_);refine r_z [(5, iN (Good l e))] ?_;refine W_ret ?_;refine q_rt [iN 0, iN 0, .slice none 0 0] [(⟨b2, 0, none⟩, iN 0), (⟨b2, 1, none⟩, iN 0), (⟨b2, 2, none⟩, .slice none 0 0)] (.tuple #[.agg #[iN 0, iN 0, .slice none 0 0], iN (Good l e)]) (rc_L 0 rfl rfl (rc_L 0 rfl rfl (rc_L 0 rfl rfl rc_nil))) H ?_
  exact ⟨G1, _, hG1, rfl, IsPoly.mk (t := t0) (Nat.le_refl _) IsPolys.nil, H.drop [_, _]⟩
 rw [if_neg (show ¬ Good l e ≠ 0 by simpa using hc3)] at h; obtain ⟨⟨⟨t1, x0⟩, c3⟩, hgv, h⟩ := Option.bind_eq_some_iff.1 h; simp only at h
 refine W_skip ?_;refine W_seq ?_;have H := St.swap (A := [(b2, oT)]) (B := [(b1, cE e eA ec eB ed)]) H
 have H : St G1 ((b1, cE e eA ec eB ed) :: (b2, oT) :: L) w1 := H
 obtain ⟨G2, hG2, hF4, H⟩ := St.freeze [_] H
 have hf3 := hF4 _ (.head _)
 refine W_rg [(.p, 0), (.f, 1), (.p, 2)] H ?_;refine r_y [(.p, 0)] [(20, .slice A l.length c)] ?_;refine m_cl #[.slice A l.length c] (some 21) (c69 ((hks.mono hG1).mono hG2) hc hlsz H) ?_;rintro _ w1 ⟨G3, cb, sb, κ, rfl, hG3, hC, H⟩;replace hf3 := hG3 _ _ hf3
 have H : St G3 ((b2, oT) :: (κ ++ L)) w1 := St.swap (A := κ) (B := [(b2, oT)]) (C := L) H
 refine nx H ?_;refine r_z [(7, pN cb 0)] ?_;refine W_sr [(.p, 0), (.l, 1), (.f, 2), (.p, 3), (.p, 4), (.p, 5), (.p, 6), (.p, 7)] H ?_;refine r_s [6] [(.p, 0), (.l, 1)] [(23, pN cb 0), (24, (aE e eA ec eB ed))] (rc_g 0 hf3 rfl (rc_g 1 hf3 rfl (rc_g 2 hf3 rfl (rc_g 3 hf3 rfl (rc_g 4 hf3 rfl (rc_g 5 hf3 rfl rc_nil)))))) ?_;have H := St.swap (A := [(b2, oT)]) (B := κ) (C := L) H;refine m_cl #[pN cb 0, (aE e eA ec eB ed), iN 0] (some 25) ((pall _).1 hC H (((hv.mono hG1).mono hG2).mono hG3) hsz hgv) ?_;rintro _ w1 ⟨G4, κ4, pa, rfl, hG4, hC4, hpa, H⟩;replace hf3 := hG4 _ _ hf3
 have H : St G4 ((b2, oT) :: (κ4 ++ L)) w1 := St.swap (A := κ4) (B := [(b2, oT)]) (C := L) H
 cases x0
 ·skip
  rw [if_pos rfl] at h; simp only [o_j, p_j] at h; obtain ⟨rfl, rfl⟩ := h
  refine nx H ?_;refine r_z [(22, .tuple #[.pointer pa, .bool false]), (26, .pointer pa), (27, .bool false), (8, .pointer pa), (9, .bool false)] ?_;refine W_seq ?_;refine W_sr (pL 2) H ?_;refine r_z [(28, .bool false), (29, .bool true)] ?_;refine W_cT ?_;refine W_sr [(.p, 0), (.f, 1), (.p, 2)] H ?_;refine r_y [(.p, 0)] [(30, .agg #[iN 0, iN 0, .slice none 0 0])] ?_;refine s_0 [(0, iN 0), (1, iN 0), (2, .slice none 0 0)] [iN 0, iN 0, .slice none 0 0] none H (fun w1 H => ?_);refine r_z [(5, iN 8)] ?_;refine W_ret ?_;refine q_rt [iN 0, iN 0, .slice none 0 0] [(⟨b2, 0, none⟩, iN 0), (⟨b2, 1, none⟩, iN 0), (⟨b2, 2, none⟩, .slice none 0 0)] (.tuple #[.agg #[iN 0, iN 0, .slice none 0 0], iN 8]) (rc_L 0 rfl rfl (rc_L 0 rfl rfl (rc_L 0 rfl rfl rc_nil))) H ?_
  exact ⟨G4, _, ((hG1.trans hG2).trans hG3).trans hG4, rfl, IsPoly.mk (t := t0) (Nat.le_refl _) IsPolys.nil, (H.drop [_]).drop κ4⟩
 rw [if_neg (by simp)] at h
 obtain ⟨⟨hs, m4⟩, hnm, h⟩ := Option.bind_eq_some_iff.1 h; simp only at h
 have hnl := (numbered_le _).1 _ _ _ _ _ _ (Int.le_refl 0) (by decide) hnm; simp only [List.length_nil] at hnl
 have htt := hpa rfl
 obtain ⟨tb, _, _, hpp, _⟩ := id htt.open; injection hpp with hpp; subst hpp
 refine nx H ?_;refine r_z [(22, .tuple #[pN tb 0, .bool true]), (26, pN tb 0), (27, .bool true), (8, pN tb 0), (9, .bool true)] ?_;refine W_seq ?_;refine W_sr (pL 2) H ?_;refine r_z [(28, .bool true), (29, .bool false)] ?_;refine W_cF ?_;refine W_skip ?_;refine W_sr [(.f, 0), (.f, 1), (.p, 2), (.f, 3)] H ?_;refine m_new (.map #[] 0) (fun b5 => .map (some b5)) (some 31) (fun b => by kernel_rfl) H (fun b5 w1 H => ?_);refine m_nw (.cells #[iN 0] 3) 11 H (fun b6 w1 H => ?_);refine r_y [(.p, 2)] [(10, .map (some b5))] ?_;refine s_0 [(0, iN 0)] [iN 0] none H (fun w1 H => ?_);refine r_nil ?_;refine W_sr [(.p, 0), (.p, 1), (.p, 2), (.f, 3)] H ?_;refine r_y [(.p, 0), (.p, 1), (.p, 2)] [(32, pN cb 0), (33, pN tb 0), (34, .map (some b5))] ?_;have H := St.swap (A := [(b6, .cells #[iN 0] 3)]) (B := [(b5, .map #[] 0)]) H;have H := St.swapU (A := [(b2, oT)]) (B := κ4) (C := L) [(b5, .map #[] 0), (b6, .cells #[iN 0] 3)] H;refine m_cl #[pN cb 0, pN tb 0, .map (some b5), pN b6 0] (some 35) (c71 _ hC4 (hs := []) (es := #[]) (by simp [MapR]) H htt hnm) ?_;rintro vx w1 ⟨es, ck, hM, H⟩
 have H : St G4 ((b5, .map es ck) :: (b6, .cells #[iN m4] 3) :: (b2, oT) :: (κ4 ++ L)) w1 := St.swapU (A := κ4) (B := [(b2, oT)]) (C := L) [(b5, .map es ck), (b6, .cells #[iN m4] 3)] H
 have hll : es.size = hs.length := by rw [hM.len]; simp
 refine nx H ?_;refine r_nil ?_;refine W_seq ?_;refine W_sr [(.l, 0), (.p, 1), (.l, 2), (.p, 3), (.p, 4)] H ?_;refine r_s [1] [(.l, 0), (.p, 1)] [(36, iN m4), (37, .map (some b5))] (rc_l 1 0 rfl rfl rc_nil) ?_;refine m_lenMap (r := b5) (n := hs.length) (d := (some 38)) (show opAt _ _ _ = some (.call { callee := .builtin .len, args := #[(.tmp 37)], argTypes := #[113] }, _) by kernel_rfl) e_ Try.underlying113 (fun w2 hS2 => hS2.2 _ (.head _)) hll ?_;refine r_z [(39, iN (IntKind.wrap .i64 (m4 + (((hs.length : Nat) : Int))))), (40, .bool (decide ((IntKind.wrap .i64 (m4 + (((hs.length : Nat) : Int)))) > 200)))] ?_;refine W_cd (b := decide ((IntKind.wrap .i64 (m4 + (((hs.length : Nat) : Int)))) > 200)) (fun hc7 => ?_) (fun hc7 => ?_)
 ·skip
  rw [if_pos (show w64 (m4 + (hs.length : Int)) > 200 from of_decide_eq_true hc7)] at h; simp only [o_j, p_j] at h; obtain ⟨rfl, rfl⟩ := h
  refine W_sr [(.p, 0), (.f, 1), (.p, 2)] H ?_;refine r_y [(.p, 0)] [(41, .agg #[iN 0, iN 0, .slice none 0 0])] ?_;refine s_2 [(0, iN 0), (1, iN 0), (2, .slice none 0 0)] [iN 0, iN 0, .slice none 0 0] none H (fun w1 H => ?_);refine r_z [(5, iN 11)] ?_;refine W_ret ?_;refine q_rt [iN 0, iN 0, .slice none 0 0] [(⟨b2, 0, none⟩, iN 0), (⟨b2, 1, none⟩, iN 0), (⟨b2, 2, none⟩, .slice none 0 0)] (.tuple #[.agg #[iN 0, iN 0, .slice none 0 0], iN 11]) (rc_L 2 rfl rfl (rc_L 2 rfl rfl (rc_L 2 rfl rfl rc_nil))) H ?_
  exact ⟨G4, _, ((hG1.trans hG2).trans hG3).trans hG4, rfl, IsPoly.mk (t := t0) (Nat.le_refl _) IsPolys.nil, (H.drop [_, _, _]).drop κ4⟩
 rw [if_neg (show ¬ w64 (m4 + (hs.length : Int)) > 200 from of_decide_eq_false hc7)] at h; obtain ⟨ot, how, h⟩ := Option.bind_eq_some_iff.1 h; simp only [o_j, p_j] at h; obtain ⟨rfl, rfl⟩ := h
 refine W_skip ?_;refine W_seq ?_;obtain ⟨G5, hG5, hF5, H⟩ := St.freeze [_] H
 have hfh := hF5 _ (.head _)
 replace hf3 := hG5 _ _ hf3;obtain ⟨tv, cs, Lt, σ, rfl, hos, hty, hS⟩ := hC4.mono hG5
 have H : St G5 ((b6, .cells #[iN m4] 3) :: (b2, oT) :: (cb, .cells #[tv, pN sb 0] 119) :: (Lt ++ (σ ++ L))) w1 := by simpa [List.append_assoc] using H
 refine W_rg [(.p, 0), (.p, 1), (.p, 2), (.l, 3), (.p, 4), (.p, 5), (.f, 6), (.f, 7), (.f, 8)] H ?_;refine r_s [1] [(.p, 0), (.p, 1), (.p, 2), (.l, 3), (.p, 4), (.p, 5)] [(42, pN cb 0), (43, pN cb 0), (44, pN cb 1), (45, pN sb 0), (46, pN tb 0), (47, .map (some b5))] (rc_l 2 1 rfl rfl rc_nil) ?_;have H := St.swap (A := [(b6, .cells #[iN m4] 3), (b2, oT), (cb, .cells #[tv, pN sb 0] 119)] ++ Lt) (B := σ) (C := L) (by simpa [List.append_assoc] using H);refine m_cl #[pN sb 0, pN tb 0, iN 0, .map (some b5)] (some 48) (c72 _ hS H (htt.mono hG5) (hs := some hs) ⟨_, es, ck, rfl, hfh, hM⟩ how) ?_;rintro v1 w1 ⟨G6, hG6, hov, H⟩;replace hf3 := hG6 _ _ hf3
 have H : St G6 ((b6, .cells #[iN m4] 3) :: (b2, oT) :: (cb, .cells #[tv, pN sb 0] 119) :: (Lt ++ (σ ++ L))) w1 := by
  have h2 := St.swap (A := σ) (B := [(b6, .cells #[.int .i64 m4] 3), (b2, .cells #[.int .i64 0, .int .i64 0, .slice none 0 0] 24), (cb, .cells #[tv, .pointer (some ⟨sb, 0, none⟩)] 119)] ++ Lt) (C := L) H
  simpa [List.append_assoc] using h2
 replace hfh := hG6 _ _ hfh;obtain ⟨oA, oc, rfl, hoc, hok⟩ := id hov.open;refine nx H ?_;refine m_nw oT 12 H (fun b8 w1 H => ?_);refine s_0 [(0, iN ot.kind), (1, iN ot.num), (2, .slice oA ot.kids.length oc)] [iN ot.kind, iN ot.num, .slice oA ot.kids.length oc] none H (fun w1 H => ?_);refine r_nil ?_;refine W_seq ?_;refine W_sr [(.p, 0), (.l, 1), (.p, 2)] H ?_;refine r_y [(.p, 0)] [(49, .map (some b5))] ?_;refine m_lenMap (r := b5) (n := hs.length) (d := (some 50)) (show opAt _ _ _ = some (.call { callee := .builtin .len, args := #[(.tmp 49)], argTypes := #[113] }, _) by kernel_rfl) e_ Try.underlying113 (fun w2 hS2 => hS2.1 _ _ hfh) hll ?_;refine r_z [(51, iN 0)] ?_;refine W_block ?_;refine W_loop (fun m ρ D w => ∃ (k : Nat) (G7 : GH) (cu : T) (cA : Option Addr) (cc : Nat), EqS ρ [(4, pN b2 0), (12, pN b8 0), (50, iN (((hs.length : Nat) : Int))), (51, iN (((k : Nat) : Int)))] ∧ D = [] ∧ St G7 ((b8, cT cu cA cc) :: (b6, .cells #[iN m4] 3) :: (b2, oT) :: (cb, .cells #[tv, pN sb 0] 119) :: (Lt ++ (σ ++ L))) w ∧ (Le G6 G7) ∧ (IsPoly G7 (aT cu cA cc) cu) ∧ (wrapAll hs.length ot = wrapAll (hs.length - k) cu) ∧ (k ≤ hs.length) ∧ hs.length - k = m) (hs.length - 0) ⟨0, G6, ot, oA, oc, ⟨e_, e_, e_, e_, trivial⟩, rfl, H, Le.refl _, hov, rfl, Nat.zero_le _, rfl⟩ ?_
 clear H; rintro m9 ρ D w1 ⟨k, G7, cu, cA, cc, hE10, rfl, H, hle, hcu, hwr, hkk, hm11⟩
 refine W_env hE10 ?_;refine W_sr [(.p, 0)] H ?_;refine r_z [(52, .bool (decide ((((k : Nat) : Int)) < (((hs.length : Nat) : Int)))))] ?_;refine W_seq ?_;refine W_cd (b := decide ((((k : Nat) : Int)) < (((hs.length : Nat) : Int)))) (fun hc12 => ?_) (fun hc12 => ?_)
 ·skip
  have hlt : k < hs.length := by have := of_decide_eq_true hc12; omega
  refine W_skip ?_;refine W_seq ?_;refine W_block ?_;refine W_rg [(.l, 0), (.f, 1), (.p, 2), (.f, 3)] H ?_;refine r_s [3] [(.l, 0)] [(53, (aT cu cA cc))] (rc_l 0 0 rfl rfl (rc_l 0 1 rfl rfl (rc_l 0 2 rfl rfl rc_nil))) ?_;refine m_new (cT cu cA cc) (fun b13 => sN b13 0 1 1) (some 54) (fun b => by kernel_rfl) H (fun b13 w1 H => ?_);refine r_y [(.p, 2)] [(55, .agg #[iN 4, iN 0, sN b13 0 1 1])] ?_;refine s_1 [(0, iN 4), (1, iN 0), (2, sN b13 0 1 1)] [iN 4, iN 0, sN b13 0 1 1] none H (fun w1 H => ?_);refine r_nil ?_;obtain ⟨G8, hG8, hF8, H⟩ := St.freeze [_] H
  have hf8 := hF8 _ (.head _)
  refine W_rg (pL 2) H ?_;refine r_z [(56, iN (IntKind.wrap .i64 ((((k : Nat) : Int)) + 1))), (51, iN (IntKind.wrap .i64 ((((k : Nat) : Int)) + 1)))] ?_
  exact ⟨_, (by omega), k + 1, G8, (.mk 4 0 [cu]), some ⟨b13, 0, none⟩, 1, ⟨e_, e_, e_, (by rw [← wrap_succ (k := k) (by omega)]; kernel_rfl), trivial⟩, rfl, H, (hle.trans hG8), (IsPoly.mk (t := .mk 4 0 [cu]) (Nat.le_refl _) (polys_of (cs := [iN cu.kind, iN cu.num, .slice cA cu.kids.length cc]) ⟨hcu.mono hG8, trivial⟩ hf8)), (by rw [hwr, show hs.length - k = (hs.length - (k + 1)) + 1 by omega, wrapAll]), hlt, rfl⟩
 have hge : k = hs.length := by have := of_decide_eq_false hc12; omega
 refine W_exit ?_;refine W_sr [(.l, 0), (.f, 1), (.p, 2)] H ?_;refine r_s [3] [(.l, 0)] [(57, (aT cu cA cc))] (rc_l 0 0 rfl rfl (rc_l 0 1 rfl rfl (rc_l 0 2 rfl rfl rc_nil))) ?_;refine s_2 [(0, iN cu.kind), (1, iN cu.num), (2, .slice cA cu.kids.length cc)] [iN cu.kind, iN cu.num, .slice cA cu.kids.length cc] none H (fun w1 H => ?_);refine r_z [(5, iN 0)] ?_;refine W_ret ?_;refine q_rt [iN cu.kind, iN cu.num, .slice cA cu.kids.length cc] [(⟨b2, 0, none⟩, iN cu.kind), (⟨b2, 1, none⟩, iN cu.num), (⟨b2, 2, none⟩, .slice cA cu.kids.length cc)] (.tuple #[.agg #[iN cu.kind, iN cu.num, .slice cA cu.kids.length cc], iN 0]) (rc_L 2 rfl rfl (rc_L 2 rfl rfl (rc_L 2 rfl rfl rc_nil))) H ?_;refine ⟨G7, _, ((((hG1.trans hG2).trans hG3).trans hG4).trans hG5).trans (hG6.trans hle), rfl, ?_, ?_⟩
 ·rw [hwr, show hs.length - k = 0 by omega]; exact hcu
 exact ((H.drop [_, _, _, _]).drop Lt).drop σ

end Go.Proofs.Ytjgnhhgigickaaa.Wk

namespace Go.Proofs.Ytjgnhhgigickaaa.Wk
open Go Md

def bs (l : List UInt8) : ByteArray := ⟨l.toArray⟩
theorem bs_append (a b : List UInt8) : bs a ++ bs b = bs (a ++ b) := by
  apply ByteArray.ext
  simp [bs]
theorem bs_size (l : List UInt8) : (bs l).size = l.length := rfl
section
variable {P : Program} {ops : Array Oper} {K : Env → World → Prop} {rest : List (Mv × Nat)} {S : World → Prop} {ρ : Env} {w : World} {i : Nat} {G : GH} {L : LH}
theorem m_strAdd {t ty : TypeId} {x y : Operand} {a b : List UInt8} {d : Option Nat} (h : opAt ops i ρ = some (.binOp .add t x y ty, d)) (hx : ev ρ x = .string (bs a)) (hy : ev ρ y = .string (bs b)) (hlen : a.length + b.length < 4611686018427387904)
    (hk : RunD P ops K rest S (updo ρ d (.string (bs (a ++ b)))) w) : RunD P ops K ((.p, i) :: rest) S ρ w := by
  refine m_pF _ h (fun o ho w' => ?_) hk
  have hmax : IntKind.max .i64 = 9223372036854775807 := by decide
  have hn : ¬ ((((bs a).size + (bs b).size : Nat) : Int) > IntKind.max .i64) := by rw [hmax, bs_size, bs_size]; omega
  have hg : (eqGuard .add t x y (.string (bs a)) (.string (bs b))).run P w' = .ok () w' := by simp [eqGuard]
  simp only [execOp, ho, hx, hy]
  simp [hg, binOp, Op.stringOp, Result.andThen, bs_append]
  rw [if_neg (by rw [bs_size, bs_size]; omega)]
end

end Go.Proofs.Ytjgnhhgigickaaa.Wk

namespace Go.Proofs.Ytjgnhhgigickaaa.Md
open Go Wk

/-- byte(x) -/
def byt (x : Int) : UInt8 := UInt8.ofNat (IntKind.wrap .u8 x).toNat
def cap (l : List UInt8) : Option (List UInt8) := if l.length < lim then some l else none

def printed : Nat → T → Int → Option (List UInt8)
  | 0, _, _ => none
  | f + 1, t, n =>
    if t.kind = 2 then some [78]
    else if t.kind = 1 then some [byt (w64 (w64 (w64 (97 + n) - 1) - t.num))]
    else if t.kind = 4 then
      match t.kids with
      | a :: _ => (printed f a (w64 (n + 1))).bind fun s => cap (([97, 108, 108, 32] ++ [byt (w64 (97 + n))] ++ [46, 32]) ++ s)
      | [] => none
    else
      match t.kids with
      | a :: b :: _ => (printed f a n).bind fun s => (printed f b n).bind fun r => cap (((if a.kids.length > 0 then ([40] ++ s) ++ [41] else s) ++ [32, 45, 62, 32]) ++ r)
      | _ => none
def Print (f : Nat) (t : T) : Option (List UInt8 × Int) := if closed [t] ≠ 0 then some ([], closed [t]) else (printed f t 0).bind fun s => some (s, 0)

/-- some letters are read: the first one that is another one stops it -/
def word : List UInt8 → List UInt8 → Nat → Bool × Nat
  | [], _, at_ => (true, at_)
  | c :: w, s, at_ => if s[at_]? = some c then word w s (at_ + 1) else (false, at_)
def next (s : List UInt8) (at_ : Nat) : UInt8 := (s[at_]?).getD 0

mutual
def typ : Nat → List UInt8 → Nat → Int → Bool → Option ((T × Bool) × Nat)
  | 0, _, _, _, _ => none
  | f + 1, s, at_, n, inner =>
    let c := next s at_
    if c = 78 then rest f s (at_ + 1) n inner false (.mk 2 0 [])
    else if c = 40 then
      (typ f s (at_ + 1) n true).bind fun q =>
        if q.1.2 = false ∨ q.1.1.kids.length = 0 then some ((q.1.1, false), q.2)
        else if (word [41] s q.2).1 = false then some ((q.1.1, false), (word [41] s q.2).2)
        else rest f s (word [41] s q.2).2 n inner true q.1.1
    else if c = 97 ∧ n < 26 ∧ (n = 0 ∨ s[at_ + 1]? = some 108) then quantifier f s at_ n inner
    else if c ≥ 97 ∧ ((c - 97).toNat : Int) < n then rest f s (at_ + 1) n inner false (.mk 1 (w64 (w64 (n - 1) - ((c - 97).toNat : Int))) [])
    else some ((t0, false), at_)
/-- behind the first part of a type -/
def rest : Nat → List UInt8 → Nat → Int → Bool → Bool → T → Option ((T × Bool) × Nat)
  | 0, _, _, _, _, _, _ => none
  | f + 1, s, at_, n, inner, must, t =>
    if must = false ∧ (at_ = s.length ∧ inner = false ∨ inner = true ∧ next s at_ = 41) then some ((t, true), at_)
    else if (word [32, 45, 62, 32] s at_).1 = false then some ((t, false), (word [32, 45, 62, 32] s at_).2)
    else (typ f s (word [32, 45, 62, 32] s at_).2 n inner).bind fun q => some ((.mk 3 0 [t, q.1.1], q.1.2), q.2)
def quantifier : Nat → List UInt8 → Nat → Int → Bool → Option ((T × Bool) × Nat)
  | 0, _, _, _, _ => none
  | f + 1, s, at_, n, inner =>
    let a := word [97, 108, 108, 32] s at_
    if a.1 = false then some ((t0, false), a.2)
    else
      let b := word [byt (w64 (97 + n))] s a.2
      if b.1 = false then some ((t0, false), b.2)
      else
        let d := word [46, 32] s b.2
        if d.1 = false then some ((t0, false), d.2)
        else (typ f s d.2 (w64 (n + 1)) inner).bind fun q => some ((.mk 4 0 [q.1.1], q.1.2), q.2)
end
def Parse (f : Nat) (s : List UInt8) : Option ((T × Int) × Int) :=
  if (s.length : Int) > 65536 then some ((t0, 0), 11)
  else (typ f s 0 0 false).bind fun q =>
    if q.1.2 = false then some ((t0, (q.2 : Int)), 4)
    else if closed [q.1.1] ≠ 0 then some ((t0, 0), closed [q.1.1])
    else some ((q.1.1, 0), 0)

end Go.Proofs.Ytjgnhhgigickaaa.Md

namespace Go.Proofs.Ytjgnhhgigickaaa.Wk
open Go Md
set_option maxRecDepth 20000
attribute [local irreducible] endQ

theorem cap_some {l r : List UInt8} (h : cap l = some r) : l.length < lim ∧ r = l := by
 unfold cap at h; split at h
 ·rename_i hl; exact ⟨hl, by simpa using h.symm⟩
 ·cases h
theorem c57 : ∀ (f : Nat) {G : GH} {L : LH} {w : World} {v : Value} {t : T} {n : Int} {r : List UInt8}, IsPoly G v t → Md.printed f t n = some r → St G L w → Cal Try.prog 57 #[v, .int .i64 n] w fun x w' => ∃ G', Le G G' ∧ x = .string (bs r) ∧ St G' L w' := by
 intro f
 induction f with
 | zero => intro G L w v t n r hv h; cases h
 | succ f ih =>
 intro G L w v t n r hv h H
 have hlim : lim = 1099511627776 := rfl
 unfold Md.printed at h
 obtain ⟨tA, tc, rfl, htc, htk⟩ := id hv.open;refine cal_of_W Try.func57 rfl (Nat.le_of_ble_eq_true e_) ?_;refine W_sr [(.f, 0), (.p, 1)] H ?_;refine m_nw (cT t tA tc) 2 H (fun b1 w1 H => ?_);refine r_z [(4, .string (bs []))] ?_;refine W_seq ?_;refine W_sr [(.p, 0), (.l, 1)] H ?_;refine r_x [1] [(6, pN b1 0), (7, iN t.kind)] (rc_l 0 0 rfl rfl rc_nil) ?_;refine W_block ?_;refine W_sr (pL 2) H ?_;refine r_z [(9, .bool (t.kind == 2)), (8, .bool (t.kind == 2))] ?_;refine W_cd (b := t.kind == 2) (fun hc2 => ?_) (fun hc2 => ?_)
 ·skip
  rw [if_pos (show t.kind = 2 by simpa using hc2)] at h
  simp only [Option.some.injEq] at h; subst h
  refine W_sr [(.p, 0)] H ?_;refine r_z [(4, .string (bs [78]))] ?_;refine W_ret ?_;refine q_rt [] [] (.string (bs [78])) rc_nil H ?_
  exact ⟨G, Le.refl _, rfl, H.drop [_]⟩
 rw [if_neg (show ¬t.kind = 2 by simpa using hc2)] at h;refine W_sr (pL 2) H ?_;refine r_z [(11, .bool (t.kind == 1)), (10, .bool (t.kind == 1))] ?_;refine W_cd (b := t.kind == 1) (fun hc3 => ?_) (fun hc3 => ?_)
 ·skip
  rw [if_pos (show t.kind = 1 by simpa using hc3)] at h
  simp only [Option.some.injEq] at h; subst h
  refine W_sr [(.p, 0), (.p, 1), (.p, 2), (.p, 3), (.l, 4), (.p, 5), (.p, 6), (.f, 7), (.l, 8), (.p, 9)] H ?_;refine r_s [1] [(.p, 0), (.p, 1), (.p, 2), (.p, 3), (.l, 4), (.p, 5), (.p, 6)] [(12, iN n), (13, iN (IntKind.wrap .i64 (97 + n))), (14, iN (IntKind.wrap .i64 ((IntKind.wrap .i64 (97 + n)) - 1))), (15, pN b1 1), (16, iN t.num), (17, iN (IntKind.wrap .i64 ((IntKind.wrap .i64 ((IntKind.wrap .i64 (97 + n)) - 1)) - t.num))), (18, .int .u8 (IntKind.wrap .u8 (IntKind.wrap .i64 ((IntKind.wrap .i64 ((IntKind.wrap .i64 (97 + n)) - 1)) - t.num))))] (rc_l 0 1 rfl rfl rc_nil) ?_;refine m_new (.cells #[.int .u8 (IntKind.wrap .u8 (IntKind.wrap .i64 ((IntKind.wrap .i64 ((IntKind.wrap .i64 (97 + n)) - 1)) - t.num)))] 5) (fun b4 => sN b4 0 1 1) (some 19) (fun b => by kernel_rfl) H (fun b4 w1 H => ?_);refine r_x [1] [(20, .string (bs [UInt8.ofNat (IntKind.wrap .u8 (IntKind.wrap .i64 ((IntKind.wrap .i64 ((IntKind.wrap .i64 (97 + n)) - 1)) - t.num))).toNat])), (4, .string (bs [UInt8.ofNat (IntKind.wrap .u8 (IntKind.wrap .i64 ((IntKind.wrap .i64 ((IntKind.wrap .i64 (97 + n)) - 1)) - t.num))).toNat]))] (rc_l 0 0 rfl rfl rc_nil) ?_;refine W_ret ?_;refine q_rt [] [] (.string (bs [UInt8.ofNat (IntKind.wrap .u8 (IntKind.wrap .i64 ((IntKind.wrap .i64 ((IntKind.wrap .i64 (97 + n)) - 1)) - t.num))).toNat])) rc_nil H ?_
  exact ⟨G, Le.refl _, rfl, H.drop [_, _]⟩
 rw [if_neg (show ¬t.kind = 1 by simpa using hc3)] at h;refine W_sr (pL 2) H ?_;refine r_z [(22, .bool (t.kind == 4)), (21, .bool (t.kind == 4))] ?_;refine W_cd (b := t.kind == 4) (fun hc5 => ?_) (fun hc5 => ?_)
 ·skip
  rw [if_pos (show t.kind = 4 by simpa using hc5)] at h
  split at h
  case h_2 => cases h
  rename_i u _ hku
  obtain ⟨su, hsu, h⟩ := Option.bind_eq_some_iff.1 h;obtain ⟨hcap, rfl⟩ := cap_some h
  have hqu : t.kids[0]? = some u := by rw [hku]; rfl
  have hlt0 : 0 < t.kids.length := by rw [hku]; simp
  simp only [List.length_append, List.length_cons, List.length_nil] at hcap
  have hstk := H
  obtain ⟨eb, eo, uA, uc, rfl, hu0, hu1, hu2, hup⟩ := htk.elem hqu;have H := hstk;refine W_seq ?_;obtain ⟨G1, hG1, hF6, H⟩ := St.freeze [_] H;replace hu0 := hu0.mono hG1;replace hu1 := hu1.mono hG1;replace hu2 := hu2.mono hG1
  have hf2 := hF6 _ (.head _)
  refine W_regT (.fork [(.p, 0), (.p, 1), (.p, 2), (.p, 7), (.l, 8), (.p, 9), (.l, 10), (.p, 11), (.p, 12)] 3 (.fork [] 4 (.run [(.p, 5), (.p, 6), (.e, 13), (.p, 14), (.p, 15)]) 13 (.run [(.e, 4), (.p, 5), (.p, 6), (.p, 14), (.p, 15)])) 13 (.run [(.e, 3), (.e, 4), (.p, 5), (.p, 6), (.p, 14), (.p, 15)])) 1000000 (SS G1 ([])) mixed e_ e_ e_ e_ (fun w1 hw1 => ?_)
  have H := H.heap hw1; refine ⟨H.ss' (Le.refl _) (fun p hp => by cases hp), ?_⟩
  unfold RunT
  refine r_s [1] [(.p, 0), (.p, 1), (.p, 2), (.p, 7), (.l, 8)] [(23, iN n), (24, iN (IntKind.wrap .i64 (97 + n))), (25, .int .u8 (IntKind.wrap .u8 (IntKind.wrap .i64 (97 + n)))), (30, pN b1 2), (31, sN eb eo t.kids.length tc)] (rc_g 2 hf2 rfl rc_nil) ?_;refine m_idx (sz := 3) (b := eb) (off := eo) (n := t.kids.length) (c := tc) (k := 0) (some 32) (show opAt _ _ _ = some (.indexAddr 22 (.tmp 31) (.const (iN 0)), _) by kernel_rfl) e_ e_ Try.underlying22 sz24 hlt0 ?_;refine r_x [3] [(33, (aT u uA uc)), (34, iN n), (35, iN (IntKind.wrap .i64 (n + 1)))] (rc_C hu0 (rc_C hu1 (rc_C hu2 rc_nil))) ?_;refine ⟨?_, ?_⟩
  ·skip
   refine m_newE (.cells #[.int .u8 (IntKind.wrap .u8 (IntKind.wrap .i64 (97 + n)))] 5) (fun b7 => sN b7 0 1 1) (some 26) (fun b => by kernel_rfl) H (fun _ _ h => h.ss' (Le.refl _) (fun p hp => by cases hp)) (fun b7 w1 H => ?_);refine r_nil ?_
   unfold RunT
   refine r_nil ?_;refine ⟨?_, ?_⟩
   ·skip
    refine m_ldE [.int .u8 (IntKind.wrap .u8 (IntKind.wrap .i64 (97 + n)))] [(⟨b7, 0, none⟩, .int .u8 (IntKind.wrap .u8 (IntKind.wrap .i64 (97 + n))))] (.string (bs [UInt8.ofNat (IntKind.wrap .u8 (IntKind.wrap .i64 (97 + n))).toNat])) (some 27) e_ (rc_L 0 rfl rfl rc_nil) H (H.ss' (Le.refl _) (fun p hp => by cases hp)) ?_;refine r_nil ?_
    unfold RunT
    refine m_strAdd (a := [97, 108, 108, 32]) (b := [UInt8.ofNat (IntKind.wrap .u8 (IntKind.wrap .i64 (97 + n))).toNat]) (d := (some 28)) (show opAt _ _ _ = some (.binOp .add 9 (.const (.string (bs [97, 108, 108, 32]))) (.tmp 27) 9, _) by kernel_rfl) e_ e_ (by simp only [List.length_append, List.length_cons, List.length_nil]; omega) ?_;refine m_strAdd (a := ([97, 108, 108, 32]) ++ ([UInt8.ofNat (IntKind.wrap .u8 (IntKind.wrap .i64 (97 + n))).toNat])) (b := [46, 32]) (d := (some 29)) (show opAt _ _ _ = some (.binOp .add 9 (.tmp 28) (.const (.string (bs [46, 32]))) 9, _) by kernel_rfl) e_ e_ (by simp only [List.length_append, List.length_cons, List.length_nil]; omega) ?_;refine m_callE #[(aT u uA uc), iN (IntKind.wrap .i64 (n + 1))] (some 36) e_ (ih (hup.mono hG1) hsu H) ?_;rintro _ w1 ⟨Gb, hGb, rfl, H⟩;replace hu0 := hu0.mono hGb;replace hu1 := hu1.mono hGb;replace hu2 := hu2.mono hGb;replace hf2 := hGb _ _ hf2;refine ⟨H.ss' ((Le.refl _).trans hGb) (fun p hp => by cases hp), ?_⟩;refine m_strAdd (a := (([97, 108, 108, 32]) ++ ([UInt8.ofNat (IntKind.wrap .u8 (IntKind.wrap .i64 (97 + n))).toNat])) ++ ([46, 32])) (b := su) (d := (some 37)) (show opAt _ _ _ = some (.binOp .add 9 (.tmp 29) (.tmp 36) 9, _) by kernel_rfl) e_ e_ (by simp only [List.length_append, List.length_cons, List.length_nil]; omega) ?_;refine r_z [(4, .string (bs (((([97, 108, 108, 32]) ++ ([UInt8.ofNat (IntKind.wrap .u8 (IntKind.wrap .i64 (97 + n))).toNat])) ++ ([46, 32])) ++ su)))] ?_;refine W_ret ?_;refine q_rt [] [] (.string (bs (((([97, 108, 108, 32]) ++ ([UInt8.ofNat (IntKind.wrap .u8 (IntKind.wrap .i64 (97 + n))).toNat])) ++ ([46, 32])) ++ su))) rc_nil H ?_
    exact ⟨Gb, hG1.trans hGb, rfl, H.drop [_]⟩
   refine m_callE #[(aT u uA uc), iN (IntKind.wrap .i64 (n + 1))] (some 36) e_ (ih (hup.mono hG1) hsu H) ?_;rintro _ w1 ⟨Gb, hGb, rfl, H⟩;replace hu0 := hu0.mono hGb;replace hu1 := hu1.mono hGb;replace hu2 := hu2.mono hGb;replace hf2 := hGb _ _ hf2;refine ⟨H.ss' ((Le.refl _).trans hGb) (fun p hp => by cases hp), ?_⟩;refine r_nil ?_
   unfold RunT
   refine m_ldE [.int .u8 (IntKind.wrap .u8 (IntKind.wrap .i64 (97 + n)))] [(⟨b7, 0, none⟩, .int .u8 (IntKind.wrap .u8 (IntKind.wrap .i64 (97 + n))))] (.string (bs [UInt8.ofNat (IntKind.wrap .u8 (IntKind.wrap .i64 (97 + n))).toNat])) (some 27) e_ (rc_L 0 rfl rfl rc_nil) H (H.ss' ((Le.refl _).trans hGb) (fun p hp => by cases hp)) ?_;refine m_strAdd (a := [97, 108, 108, 32]) (b := [UInt8.ofNat (IntKind.wrap .u8 (IntKind.wrap .i64 (97 + n))).toNat]) (d := (some 28)) (show opAt _ _ _ = some (.binOp .add 9 (.const (.string (bs [97, 108, 108, 32]))) (.tmp 27) 9, _) by kernel_rfl) e_ e_ (by simp only [List.length_append, List.length_cons, List.length_nil]; omega) ?_;refine m_strAdd (a := ([97, 108, 108, 32]) ++ ([UInt8.ofNat (IntKind.wrap .u8 (IntKind.wrap .i64 (97 + n))).toNat])) (b := [46, 32]) (d := (some 29)) (show opAt _ _ _ = some (.binOp .add 9 (.tmp 28) (.const (.string (bs [46, 32]))) 9, _) by kernel_rfl) e_ e_ (by simp only [List.length_append, List.length_cons, List.length_nil]; omega) ?_;refine m_strAdd (a := (([97, 108, 108, 32]) ++ ([UInt8.ofNat (IntKind.wrap .u8 (IntKind.wrap .i64 (97 + n))).toNat])) ++ ([46, 32])) (b := su) (d := (some 37)) (show opAt _ _ _ = some (.binOp .add 9 (.tmp 29) (.tmp 36) 9, _) by kernel_rfl) e_ e_ (by simp only [List.length_append, List.length_cons, List.length_nil]; omega) ?_;refine r_z [(4, .string (bs (((([97, 108, 108, 32]) ++ ([UInt8.ofNat (IntKind.wrap .u8 (IntKind.wrap .i64 (97 + n))).toNat])) ++ ([46, 32])) ++ su)))] ?_;refine W_ret ?_;refine q_rt [] [] (.string (bs (((([97, 108, 108, 32]) ++ ([UInt8.ofNat (IntKind.wrap .u8 (IntKind.wrap .i64 (97 + n))).toNat])) ++ ([46, 32])) ++ su))) rc_nil H ?_
   exact ⟨Gb, hG1.trans hGb, rfl, H.drop [_]⟩
  refine m_callE #[(aT u uA uc), iN (IntKind.wrap .i64 (n + 1))] (some 36) e_ (ih (hup.mono hG1) hsu H) ?_;rintro _ w1 ⟨Gb, hGb, rfl, H⟩;replace hu0 := hu0.mono hGb;replace hu1 := hu1.mono hGb;replace hu2 := hu2.mono hGb;replace hf2 := hGb _ _ hf2;refine ⟨H.ss' ((Le.refl _).trans hGb) (fun p hp => by cases hp), ?_⟩;refine r_nil ?_
  unfold RunT
  refine m_newE (.cells #[.int .u8 (IntKind.wrap .u8 (IntKind.wrap .i64 (97 + n)))] 5) (fun b8 => sN b8 0 1 1) (some 26) (fun b => by kernel_rfl) H (fun _ _ h => h.ss' ((Le.refl _).trans hGb) (fun p hp => by cases hp)) (fun b8 w1 H => ?_);refine m_ldE [.int .u8 (IntKind.wrap .u8 (IntKind.wrap .i64 (97 + n)))] [(⟨b8, 0, none⟩, .int .u8 (IntKind.wrap .u8 (IntKind.wrap .i64 (97 + n))))] (.string (bs [UInt8.ofNat (IntKind.wrap .u8 (IntKind.wrap .i64 (97 + n))).toNat])) (some 27) e_ (rc_L 0 rfl rfl rc_nil) H (H.ss' ((Le.refl _).trans hGb) (fun p hp => by cases hp)) ?_;refine m_strAdd (a := [97, 108, 108, 32]) (b := [UInt8.ofNat (IntKind.wrap .u8 (IntKind.wrap .i64 (97 + n))).toNat]) (d := (some 28)) (show opAt _ _ _ = some (.binOp .add 9 (.const (.string (bs [97, 108, 108, 32]))) (.tmp 27) 9, _) by kernel_rfl) e_ e_ (by simp only [List.length_append, List.length_cons, List.length_nil]; omega) ?_;refine m_strAdd (a := ([97, 108, 108, 32]) ++ ([UInt8.ofNat (IntKind.wrap .u8 (IntKind.wrap .i64 (97 + n))).toNat])) (b := [46, 32]) (d := (some 29)) (show opAt _ _ _ = some (.binOp .add 9 (.tmp 28) (.const (.string (bs [46, 32]))) 9, _) by kernel_rfl) e_ e_ (by simp only [List.length_append, List.length_cons, List.length_nil]; omega) ?_;refine m_strAdd (a := (([97, 108, 108, 32]) ++ ([UInt8.ofNat (IntKind.wrap .u8 (IntKind.wrap .i64 (97 + n))).toNat])) ++ ([46, 32])) (b := su) (d := (some 37)) (show opAt _ _ _ = some (.binOp .add 9 (.tmp 29) (.tmp 36) 9, _) by kernel_rfl) e_ e_ (by simp only [List.length_append, List.length_cons, List.length_nil]; omega) ?_;refine r_z [(4, .string (bs (((([97, 108, 108, 32]) ++ ([UInt8.ofNat (IntKind.wrap .u8 (IntKind.wrap .i64 (97 + n))).toNat])) ++ ([46, 32])) ++ su)))] ?_;refine W_ret ?_;refine q_rt [] [] (.string (bs (((([97, 108, 108, 32]) ++ ([UInt8.ofNat (IntKind.wrap .u8 (IntKind.wrap .i64 (97 + n))).toNat])) ++ ([46, 32])) ++ su))) rc_nil H ?_
  exact ⟨Gb, hG1.trans hGb, rfl, H.drop [_]⟩
 rw [if_neg (show ¬t.kind = 4 by simpa using hc5)] at h
 split at h
 case h_2 => cases h
 rename_i u p _ hku
 obtain ⟨su, hsu, h⟩ := Option.bind_eq_some_iff.1 h;obtain ⟨sp, hsp, h⟩ := Option.bind_eq_some_iff.1 h;obtain ⟨hcap, rfl⟩ := cap_some h
 have hqu : t.kids[0]? = some u := by rw [hku]; rfl
 have hqp : t.kids[1]? = some p := by rw [hku]; rfl
 have hlt0 : 0 < t.kids.length := by rw [hku]; simp
 have hlt1 : 1 < t.kids.length := by rw [hku]; simp
 have hstk := H
 obtain ⟨eb, eo, uA, uc, rfl, hu0, hu1, hu2, hup⟩ := htk.elem hqu;have H := hstk
 obtain ⟨_, _, pA, pc, hxp, hp0, hp1, hp2, hpp⟩ := htk.elem hqp; cases hxp
 refine W_skip ?_;refine W_sr [(.p, 0), (.l, 1), (.p, 2), (.l, 3), (.p, 4), (.f, 5), (.p, 6)] H ?_;refine r_s [1] [(.p, 0), (.l, 1)] [(38, pN b1 2), (39, sN eb eo t.kids.length tc)] (rc_l 0 2 rfl rfl rc_nil) ?_;refine m_idx (sz := 3) (b := eb) (off := eo) (n := t.kids.length) (c := tc) (k := 0) (some 40) (show opAt _ _ _ = some (.indexAddr 22 (.tmp 39) (.const (iN 0)), _) by kernel_rfl) e_ e_ Try.underlying22 sz24 hlt0 ?_;refine r_s [3] [(.l, 3), (.p, 4)] [(41, (aT u uA uc)), (42, iN n)] (rc_C hu0 (rc_C hu1 (rc_C hu2 rc_nil))) ?_;refine m_cl #[(aT u uA uc), iN n] (some 43) (ih (hup) hsu H) ?_;rintro _ w1 ⟨Ga, hGa, rfl, H⟩;replace hu0 := hu0.mono hGa;replace hu1 := hu1.mono hGa;replace hu2 := hu2.mono hGa;replace hp0 := hp0.mono hGa;replace hp1 := hp1.mono hGa;replace hp2 := hp2.mono hGa;refine nx H ?_;refine r_z [(5, .string (bs su))] ?_;refine W_seq ?_;refine W_sr [(.p, 0), (.l, 1), (.p, 2), (.p, 3), (.l, 4), (.p, 5), (.p, 6)] H ?_;refine r_s [1] [(.p, 0), (.l, 1)] [(44, pN b1 2), (45, sN eb eo t.kids.length tc)] (rc_l 0 2 rfl rfl rc_nil) ?_;refine m_idx (sz := 3) (b := eb) (off := eo) (n := t.kids.length) (c := tc) (k := 0) (some 46) (show opAt _ _ _ = some (.indexAddr 22 (.tmp 45) (.const (iN 0)), _) by kernel_rfl) e_ e_ Try.underlying22 sz24 hlt0 ?_;refine r_x [1] [(47, .pointer (some ⟨eb, eo + 0 * 3 + 2, none⟩)), (48, .slice uA u.kids.length uc), (49, nN u.kids.length), (50, .bool (decide ((((u.kids.length : Nat) : Int)) > 0)))] (rc_C hu2 rc_nil) ?_;refine W_cd (b := decide ((((u.kids.length : Nat) : Int)) > 0)) (fun hc9 => ?_) (fun hc9 => ?_)
 ·skip
  have hul : u.kids.length > 0 := by have := of_decide_eq_true hc9; omega
  rw [if_pos hul] at hcap ⊢;simp only [List.length_append, List.length_cons, List.length_nil] at hcap;refine W_rg [(.p, 0), (.p, 1), (.p, 2), (.p, 3)] H ?_;refine r_y [(.p, 0)] [(51, .string (bs su))] ?_;refine m_strAdd (a := [40]) (b := su) (d := (some 52)) (show opAt _ _ _ = some (.binOp .add 9 (.const (.string (bs [40]))) (.tmp 51) 9, _) by kernel_rfl) e_ e_ (by simp only [List.length_append, List.length_cons, List.length_nil]; omega) ?_;refine m_strAdd (a := ([40]) ++ su) (b := [41]) (d := (some 53)) (show opAt _ _ _ = some (.binOp .add 9 (.tmp 52) (.const (.string (bs [41]))) 9, _) by kernel_rfl) e_ e_ (by simp only [List.length_append, List.length_cons, List.length_nil]; omega) ?_;refine r_z [(5, .string (bs ((([40]) ++ su) ++ ([41]))))] ?_;refine W_sr [(.p, 0), (.p, 1), (.p, 2), (.l, 3), (.p, 4), (.l, 5), (.p, 6), (.f, 7), (.p, 8), (.p, 9)] H ?_;refine r_y [(.p, 0)] [(54, .string (bs ((([40]) ++ su) ++ ([41]))))] ?_;refine m_strAdd (a := (([40]) ++ su) ++ ([41])) (b := [32, 45, 62, 32]) (d := (some 55)) (show opAt _ _ _ = some (.binOp .add 9 (.tmp 54) (.const (.string (bs [32, 45, 62, 32]))) 9, _) by kernel_rfl) e_ e_ (by simp only [List.length_append, List.length_cons, List.length_nil]; omega) ?_;refine r_s [1] [(.p, 2), (.l, 3)] [(56, pN b1 2), (57, sN eb eo t.kids.length tc)] (rc_l 0 2 rfl rfl rc_nil) ?_;refine m_idx (sz := 3) (b := eb) (off := eo) (n := t.kids.length) (c := tc) (k := 1) (some 58) (show opAt _ _ _ = some (.indexAddr 22 (.tmp 57) (.const (iN 1)), _) by kernel_rfl) e_ e_ Try.underlying22 sz24 hlt1 ?_;refine r_s [3] [(.l, 5), (.p, 6)] [(59, (aT p pA pc)), (60, iN n)] (rc_C hp0 (rc_C hp1 (rc_C hp2 rc_nil))) ?_;refine m_cl #[(aT p pA pc), iN n] (some 61) (ih (hpp.mono hGa) hsp H) ?_;rintro _ w1 ⟨Gb, hGb, rfl, H⟩;replace hu0 := hu0.mono hGb;replace hu1 := hu1.mono hGb;replace hu2 := hu2.mono hGb;replace hp0 := hp0.mono hGb;replace hp1 := hp1.mono hGb;replace hp2 := hp2.mono hGb;refine nx H ?_;refine m_strAdd (a := ((([40]) ++ su) ++ ([41])) ++ ([32, 45, 62, 32])) (b := sp) (d := (some 62)) (show opAt _ _ _ = some (.binOp .add 9 (.tmp 55) (.tmp 61) 9, _) by kernel_rfl) e_ e_ (by simp only [List.length_append, List.length_cons, List.length_nil]; omega) ?_;refine r_z [(4, .string (bs ((((([40]) ++ su) ++ ([41])) ++ ([32, 45, 62, 32])) ++ sp)))] ?_;refine W_ret ?_;refine q_rt [] [] (.string (bs ((((([40]) ++ su) ++ ([41])) ++ ([32, 45, 62, 32])) ++ sp))) rc_nil H ?_
  exact ⟨Gb, hGa.trans hGb, rfl, H.drop [_]⟩
 have hul : ¬u.kids.length > 0 := by have := of_decide_eq_false hc9; omega
 rw [if_neg hul] at hcap ⊢;simp only [List.length_append, List.length_cons, List.length_nil] at hcap;refine W_skip ?_;refine W_sr [(.p, 0), (.p, 1), (.p, 2), (.l, 3), (.p, 4), (.l, 5), (.p, 6), (.f, 7), (.p, 8), (.p, 9)] H ?_;refine r_y [(.p, 0)] [(54, .string (bs su))] ?_;refine m_strAdd (a := su) (b := [32, 45, 62, 32]) (d := (some 55)) (show opAt _ _ _ = some (.binOp .add 9 (.tmp 54) (.const (.string (bs [32, 45, 62, 32]))) 9, _) by kernel_rfl) e_ e_ (by simp only [List.length_append, List.length_cons, List.length_nil]; omega) ?_;refine r_s [1] [(.p, 2), (.l, 3)] [(56, pN b1 2), (57, sN eb eo t.kids.length tc)] (rc_l 0 2 rfl rfl rc_nil) ?_;refine m_idx (sz := 3) (b := eb) (off := eo) (n := t.kids.length) (c := tc) (k := 1) (some 58) (show opAt _ _ _ = some (.indexAddr 22 (.tmp 57) (.const (iN 1)), _) by kernel_rfl) e_ e_ Try.underlying22 sz24 hlt1 ?_;refine r_s [3] [(.l, 5), (.p, 6)] [(59, (aT p pA pc)), (60, iN n)] (rc_C hp0 (rc_C hp1 (rc_C hp2 rc_nil))) ?_;refine m_cl #[(aT p pA pc), iN n] (some 61) (ih (hpp.mono hGa) hsp H) ?_;rintro _ w1 ⟨Gb, hGb, rfl, H⟩;replace hu0 := hu0.mono hGb;replace hu1 := hu1.mono hGb;replace hu2 := hu2.mono hGb;replace hp0 := hp0.mono hGb;replace hp1 := hp1.mono hGb;replace hp2 := hp2.mono hGb;refine nx H ?_;refine m_strAdd (a := su ++ ([32, 45, 62, 32])) (b := sp) (d := (some 62)) (show opAt _ _ _ = some (.binOp .add 9 (.tmp 55) (.tmp 61) 9, _) by kernel_rfl) e_ e_ (by simp only [List.length_append, List.length_cons, List.length_nil]; omega) ?_;refine r_z [(4, .string (bs ((su ++ ([32, 45, 62, 32])) ++ sp)))] ?_;refine W_ret ?_;refine q_rt [] [] (.string (bs ((su ++ ([32, 45, 62, 32])) ++ sp))) rc_nil H ?_
 exact ⟨Gb, hGa.trans hGb, rfl, H.drop [_]⟩

theorem c14 {f : Nat} {G : GH} {L : LH} {w : World} {v : Value} {t : T} {r : List UInt8} {e : Int} (hv : IsPoly G v t) (hsz : T.sz t + 1 < lim) (H : St G L w) (h : Md.Print f t = some (r, e)) :
  Cal Try.prog 14 #[v] w fun x w' => ∃ G', Le G G' ∧ x = .tuple #[.string (bs r), .int .i64 e] ∧ St G' L w' := by
 unfold Md.Print at h
 obtain ⟨tA, tc, rfl, htc, htk⟩ := id hv.open;refine cal_of_W Try.func14 rfl (Nat.le_of_ble_eq_true e_) ?_;refine W_sr [(.f, 0), (.p, 1), (.p, 2)] H ?_;refine m_nw (cT t tA tc) 1 H (fun b1 w1 H => ?_);refine r_z [(2, .string (bs [])), (3, iN 0)] ?_;refine W_seq ?_;refine W_sr [(.l, 0), (.f, 1), (.f, 2), (.p, 3)] H ?_;refine r_s [3] [(.l, 0)] [(5, (aT t tA tc))] (rc_l 0 0 rfl rfl (rc_l 0 1 rfl rfl (rc_l 0 2 rfl rfl rc_nil))) ?_;refine m_new (cT t tA tc) (fun b2 => sN b2 0 1 1) (some 6) (fun b => by kernel_rfl) H (fun b2 w1 H => ?_);obtain ⟨G1, hG1, hF3, H⟩ := St.freeze [_] H
 have hfs := hF3 _ (.head _)
 have hcl56 := c56 (ts := [t]) (c := 1) (polys_of (cs := [.int .i64 t.kind, .int .i64 t.num, .slice tA t.kids.length tc]) ⟨(hv).mono hG1, trivial⟩ hfs) (Nat.le_refl _) (by rw [T.sz1]; omega) H
 refine m_cl #[sN b2 0 1 1] (some 7) (hcl56) ?_;rintro _ w1 ⟨G1', hG1', rfl, H⟩;replace hfs := hG1' _ _ hfs;refine nx H ?_;refine r_z [(4, iN (closed [t]))] ?_;refine W_sr (pL 2) H ?_;refine r_z [(8, iN (closed [t])), (9, .bool ((closed [t]) != 0))] ?_;refine W_cd (b := (closed [t]) != 0) (fun hc4 => ?_) (fun hc4 => ?_)
 ·skip
  have hcl : closed [t] ≠ 0 := by simpa using hc4
  rw [if_pos hcl] at h; simp only [o_j, p_j] at h; obtain ⟨rfl, rfl⟩ := h
  refine W_sr (pL 3) H ?_;refine r_z [(10, iN (closed [t])), (2, .string (bs [])), (3, iN (closed [t]))] ?_;refine W_ret ?_;refine q_rt [] [] (.tuple #[.string (bs []), iN (closed [t])]) rc_nil H ?_
  exact ⟨G1', hG1.trans hG1', rfl, H.drop [_]⟩
 have hcl : ¬ closed [t] ≠ 0 := by simpa using hc4
 rw [if_neg hcl] at h; obtain ⟨r0, hr0, h⟩ := Option.bind_eq_some_iff.1 h; simp only [o_j, p_j] at h; obtain ⟨rfl, rfl⟩ := h
 refine W_skip ?_;refine W_sr [(.l, 0), (.f, 1), (.p, 2), (.p, 3)] H ?_;refine r_s [3] [(.l, 0)] [(11, (aT t tA tc))] (rc_l 0 0 rfl rfl (rc_l 0 1 rfl rfl (rc_l 0 2 rfl rfl rc_nil))) ?_;refine m_cl #[(aT t tA tc), iN 0] (some 12) (c57 _ ((hv.mono hG1).mono hG1') hr0 H) ?_;rintro _ w1 ⟨G2, hG2, rfl, H⟩;refine nx H ?_;refine r_z [(2, .string (bs r0)), (3, iN 0)] ?_;refine W_ret ?_;refine q_rt [] [] (.tuple #[.string (bs r0), iN 0]) rc_nil H ?_
 exact ⟨G2, (hG1.trans hG1').trans hG2, rfl, H.drop [_]⟩

end Go.Proofs.Ytjgnhhgigickaaa.Wk

namespace Go.Proofs.Ytjgnhhgigickaaa.Wk
open Go Md

section
variable {P : Program} {ops : Array Oper} {K : Env → World → Prop} {rest : List (Mv × Nat)} {S : World → Prop} {ρ : Env} {w : World} {i : Nat} {G : GH} {L : LH}

theorem m_strIndex {t : TypeId} {x y : Operand} {l : List UInt8} {k : Nat} {b : UInt8} {d : Option Nat} (h : opAt ops i ρ = some (.index t x y, d)) (hx : ev ρ x = .string (bs l)) (hy : ev ρ y = .int .i64 (k : Int)) (ht : P.underlying t = some .string) (hb : l[k]? = some b)
    (hk : RunD P ops K rest S (updo ρ d (.int .u8 (b.toNat : Int))) w) : RunD P ops K ((.p, i) :: rest) S ρ w := by
  refine m_pF _ h (fun o ho w' => ?_) hk
  have hund := run_und ht w'
  have hbb : (bs l)[k]? = some b := by
    have hlt := (List.getElem?_eq_some_iff.1 hb).1
    have hlt2 : k < (bs l).size := hlt
    rw [getElem?_pos (bs l) k hlt2]
    congr 1
    have := (List.getElem?_eq_some_iff.1 hb).2
    rw [← this]
    rfl
  simp [execOp, ho, hx, hy, Instr.index, asIntOf, hund, Result.andThen, hbb]

theorem m_strSlice {t : TypeId} {x lo hi : Operand} {l : List UInt8} {a b : Nat} {d : Option Nat} (h : opAt ops i ρ = some (.slice t x (some lo) (some hi) none, d)) (hx : ev ρ x = .string (bs l)) (hl : ev ρ lo = .int .i64 (a : Int)) (hh : ev ρ hi = .int .i64 (b : Int))
    (ht : P.underlying t = some .string) (hab : a ≤ b) (hb : b ≤ l.length)
    (hk : RunD P ops K rest S (updo ρ d (.string (bs ((l.take b).drop a)))) w) : RunD P ops K ((.p, i) :: rest) S ρ w := by
  refine m_pF _ h (fun o ho w' => ?_) hk
  have hund := run_und ht w'
  have hs : (bs l).size = l.length := rfl
  have hb1 : (Instr.sliceBound (.int .i64 (b : Int)) l.length .sliceAlen).run P w' = .ok b w' := by
    simp [Instr.sliceBound, asIntOf, hb]
  have hb2 : (Instr.sliceBound (.int .i64 (a : Int)) b .sliceB).run P w' = .ok a w' := by
    simp [Instr.sliceBound, asIntOf, hab]
  have hbs : (Instr.sliceBounds false l.length l.length (some (.int .i64 (a : Int))) (some (.int .i64 (b : Int))) none).run P w' = .ok (a, b, l.length) w' := by
    simp [Instr.sliceBounds, hb1, hb2, Result.andThen]
  have hex : (bs l).extract a b = bs ((l.take b).drop a) := by
    apply ByteArray.ext
    simp [bs, List.drop_take]
  simp only [execOp, ho, hx, Option.map_none, Option.map_some, hl, hh, Instr.sliceAt, Instr.slice]
  simp [hund, hs, hbs, Result.andThen, hex]

theorem m_strBytes {src dst e : TypeId} {x : Operand} {l : List UInt8} {d : Option Nat} (h : opAt ops i ρ = some (.convert src dst x, d)) (hx : ev ρ x = .string (bs l)) (hs : P.underlying src = some .string) (hd : P.underlying dst = some (.slice e)) (he : P.underlying e = some (.int .u8)) (hst : St G L w)
    (hk : ∀ b c row fz w', (∀ (i : Nat) (u : UInt8), l[i]? = some u → row[i]? = some (Value.int .u8 (u.toNat : Int))) → l.length ≤ c → St G ((b, .cells (List.toArray row) e fz) :: L) w' → RunD P ops K rest (SS G ((b, .cells (List.toArray row) e fz) :: L)) (updo ρ d (.slice (some ⟨b, 0, none⟩) l.length c)) w') :
    RunD P ops K ((.f, i) :: rest) S ρ w := by
  refine m_fF h fun o ho => ?_
  have hrun := run_bytes_of_string w src dst e (bs l) hs hd he
  have hcap : l.length ≤ grownCap w (bs l).size 0 e := by
    unfold grownCap; rw [bs_size]; simp [Question.cut]
  generalize hgc : grownCap w (bs l).size 0 e = gc at *
  have hex : (execOp (ev ρ) o).run P w = .ok (.value (.slice (some ⟨w.heap.size, 0, none⟩) (bs l).size gc)) (w.drew.alloc (.cells (bytesRow (bs l) gc) e ((bytesRow (bs l) gc).size, (bytesRow (bs l) gc).size + 1))) := by
    simp [execOp, ho, hx, hrun, Result.andThen]
  have hd' : St G L w.drew := hst.heap ⟨rfl, rfl, rfl⟩
  have hst' := hd'.push (.cells (List.toArray (bytesRow (bs l) gc).toList) e ((bytesRow (bs l) gc).size, (bytesRow (bs l) gc).size + 1))
  refine OpE_ok hex ⟨_, St.ss ?_, hk w.heap.size gc (bytesRow (bs l) gc).toList ((bytesRow (bs l) gc).size, (bytesRow (bs l) gc).size + 1) _ (fun i u hu => ?_) hcap ?_⟩
  · exact hst'
  · have hlt := (List.getElem?_eq_some_iff.1 hu).1
    simp only [bytesRow, bs, Array.toList_append, Array.toList_map]
    rw [List.getElem?_append_left (by simpa using hlt), List.getElem?_map, hu]; rfl
  · exact hst'

theorem m_range {t : TypeId} {x : Operand} {l : List UInt8} {d : Option Nat} (h : opAt ops i ρ = some (.range t x, d)) (hx : ev ρ x = .string (bs l)) (ht : P.underlying t = some .string) (hst : St G L w)
    (hk : ∀ b w', St G ((b, .stringIter (bs l) 0) :: L) w' → RunD P ops K rest (SS G ((b, .stringIter (bs l) 0) :: L)) (updo ρ d (.pointer (some ⟨b, 0, none⟩))) w') : RunD P ops K ((.f, i) :: rest) S ρ w := by
  refine m_fF h fun o ho => ?_
  have hrun := run_range_string (P := P) w t (bs l) ht
  have hex : (execOp (ev ρ) o).run P w = .ok (.value (.pointer (some ⟨w.heap.size, 0, none⟩))) (w.iter (bs l) 0) := by
    simp [execOp, ho, hx, hrun, Result.andThen]
  have hst' := hst.push (.stringIter (bs l) 0)
  exact OpE_ok hex ⟨_, hst'.ss, hk _ _ hst'⟩

/-- the next letter, an ASCII one; or the end -/
theorem m_next {x : Operand} {l : List UInt8} {r pos j : Nat} {d : Option Nat} (h : opAt ops i ρ = some (.next x true, d)) (hx : ev ρ x = .pointer (some ⟨r, 0, none⟩)) (hst : St G L w) (hL : L[j]? = some (r, .stringIter (bs l) pos)) (hascii : ∀ b, b ∈ l → b.toNat < 128)
    (hk1 : ∀ b w', l[pos]? = some b → St G (L.set j (r, .stringIter (bs l) (pos + 1))) w' → RunD P ops K rest (SS G (L.set j (r, .stringIter (bs l) (pos + 1)))) (updo ρ d (.tuple #[.bool true, .int .i64 (pos : Int), .int .i32 (b.toNat : Int)])) w')
    (hk2 : l[pos]? = none → RunD P ops K rest (SS G L) (updo ρ d (.tuple #[.bool false])) w) : RunD P ops K ((.f, i) :: rest) S ρ w := by
  refine m_fF h fun o ho => ?_
  have hr := hst.loc _ (List.mem_of_getElem? hL)
  have hlt := (Array.getElem?_eq_some_iff.1 hr).1
  have hg : (getObj r).run P w = .ok (.stringIter (bs l) pos) w := by simp [getObj, Sem.run, hr]
  have hset : ∀ o', (setObj r o').run P w = .ok () { w with heap := w.heap.setIfInBounds r o' } := fun o' => by simp [setObj, Sem.run, hr]
  by_cases hp : pos < l.length
  · have hb : l[pos]? = some l[pos] := List.getElem?_eq_getElem hp
    have hp2 : pos < (bs l).size := hp
    have e : (bs l)[pos]'hp2 = l[pos] := rfl
    have hdec := decode_ascii (bs l) pos hp2 (by rw [e]; exact hascii _ (List.getElem_mem hp))
    rw [e] at hdec
    have hex : (execOp (ev ρ) o).run P w = .ok (.value (.tuple #[.bool true, .int .i64 (pos : Int), .int .i32 (l[pos].toNat : Int)])) { w with heap := w.heap.setIfInBounds r (.stringIter (bs l) (pos + 1)) } := by
      simp [execOp, ho, hx, Instr.next, Sem.run_bind, hg, Result.andThen, hp2, hdec, hset, goInt]
    have hst' : St G (L.set j (r, .stringIter (bs l) (pos + 1))) { w with heap := w.heap.setIfInBounds r (.stringIter (bs l) (pos + 1)) } :=
      hst.set hL (by simp only [Array.getElem?_setIfInBounds_self_of_lt hlt]) (fun y hy => by simp only [Array.getElem?_setIfInBounds_ne (Ne.symm hy)])
    exact OpE_ok hex ⟨_, hst'.ss, hk1 _ _ hb hst'⟩
  · have hp2 : ¬ pos < (bs l).size := hp
    have hex : (execOp (ev ρ) o).run P w = .ok (.value (.tuple #[.bool false])) w := by
      simp [execOp, ho, hx, Instr.next, Sem.run_bind, hg, Result.andThen, hp2]
    exact OpE_ok hex ⟨_, hst.ss, hk2 (List.getElem?_eq_none (by omega))⟩
end

set_option maxRecDepth 20000
attribute [local irreducible] endQ
theorem c118 {G : GH} {L : LH} {w : World} {bb c : Nat} {row : List Value} {fz : Nat × Nat} {l : List UInt8} (hrow : ∀ (i : Nat) (u : UInt8), l[i]? = some u → row[i]? = some (Value.int .u8 (u.toNat : Int))) (H : St G ((bb, .cells (List.toArray row) 5 fz) :: L) w) :
  Cal Try.prog 118 #[.slice (some ⟨bb, 0, none⟩) l.length c, .int .i64 0] w fun x w' => x = .tuple #[.int .u8 (((l[0]?).getD 0).toNat : Int), .bool (l[0]?).isSome] ∧ St G ((bb, .cells (List.toArray row) 5 fz) :: L) w' := by
 obtain _ | ⟨b, r⟩ := l
 ·skip
  refine cal_of_W Try.func118 rfl (Nat.le_of_ble_eq_true e_) ?_;refine W_sr (pL 2) H ?_;refine r_z [(4, .int .u8 0), (5, .bool false)] ?_;refine W_seq ?_;refine W_sr (pL 8) H ?_;refine r_z [(7, iN 0), (8, .bool false), (9, .bool false), (10, iN 0), (11, sN bb 0 0 c), (12, iN 0), (13, .bool true), (14, .bool true)] ?_;refine W_cT ?_;refine W_sr [(.p, 0)] H ?_;refine r_z [(6, .int .u8 0)] ?_;refine W_sr (pL 3) H ?_;refine r_z [(15, .int .u8 0), (4, .int .u8 0), (5, .bool false)] ?_;refine W_ret ?_;refine q_rt [] [] (.tuple #[.int .u8 0, .bool false]) rc_nil H ?_
  exact ⟨rfl, H⟩
 have hr0 := hrow 0 b rfl
 have hr1 : (List.toArray row)[0 + 0 * 1]? = some (Value.int .u8 (b.toNat : Int)) := by simpa using hr0
 refine cal_of_W Try.func118 rfl (Nat.le_of_ble_eq_true e_) ?_;refine W_sr (pL 2) H ?_;refine r_z [(4, .int .u8 0), (5, .bool false)] ?_;refine W_seq ?_;refine W_sr (pL 8) H ?_;refine r_z [(7, iN 0), (8, .bool false), (9, .bool false), (10, iN 0), (11, sN bb 0 ((r.length + 1)) c), (12, nN (r.length + 1)), (13, .bool (decide ((0 : Int) ≥ ((((r.length + 1) : Nat) : Int))))), (14, .bool (decide ((0 : Int) ≥ ((((r.length + 1) : Nat) : Int)))))] ?_
 have hd1 : (decide ((0 : Int) ≥ ((((r.length + 1) : Nat) : Int)))) = false := decide_eq_false (by omega)
 refine W_condF (by refine Eq.trans (b := .bool (decide ((0 : Int) ≥ ((((r.length + 1) : Nat) : Int))))) ?_ (congrArg Value.bool hd1); kernel_rfl) ?_;refine W_skip ?_;refine W_sr [(.p, 0), (.p, 1), (.p, 2), (.l, 3), (.p, 4), (.p, 5)] H ?_;refine r_y [(.p, 0), (.p, 1)] [(16, sN bb 0 ((r.length + 1)) c), (17, iN 0)] ?_;refine m_idx (sz := 1) (b := bb) (off := 0) (n := ((r.length + 1))) (c := c) (k := 0) (some 18) (show opAt _ _ _ = some (.indexAddr 35 (.tmp 16) (.tmp 17), _) by kernel_rfl) e_ e_ Try.underlying35 sz5 (by omega) ?_;refine r_x [1] [(19, .int .u8 ((b.toNat : Int))), (4, .int .u8 ((b.toNat : Int))), (5, .bool true)] (rc_L 0 rfl hr1 rc_nil) ?_;refine W_ret ?_;refine q_rt [] [] (.tuple #[.int .u8 ((b.toNat : Int)), .bool true]) rc_nil H ?_
 exact ⟨rfl, H⟩

theorem next_eq (s : List UInt8) (at_ : Nat) (h : at_ ≤ s.length) : (((s.take (min (at_ + 1) s.length)).drop at_)[0]?).getD 0 = Md.next s at_ := by
 unfold Md.next
 congr 1
 rw [List.getElem?_drop, List.getElem?_take, Nat.add_zero]
 by_cases hl : at_ < s.length
 ·rw [if_pos (by omega)]
 ·rw [if_neg (by omega), List.getElem?_eq_none (by omega)]
theorem c91 {G : GH} {L : LH} {w : World} {pb at_ : Nat} {s : List UInt8} (hat : at_ ≤ s.length) (hs : s.length < lim) (H : St G ((pb, .cells #[.string (bs s), .int .i64 ((at_ : Nat) : Int)] 87) :: L) w) :
  Cal Try.prog 91 #[.pointer (some ⟨pb, 0, none⟩)] w fun x w' => x = .int .u8 ((Md.next s at_).toNat : Int) ∧ St G ((pb, .cells #[.string (bs s), .int .i64 ((at_ : Nat) : Int)] 87) :: L) w' := by
 have hlim : lim = 1099511627776 := rfl
 have hmin : (if ((s.length : Nat) : Int) < IntKind.wrap .i64 (((at_ : Nat) : Int) + 1) then ((s.length : Nat) : Int) else IntKind.wrap .i64 (((at_ : Nat) : Int) + 1)) = ((min (at_ + 1) s.length : Nat) : Int) := by
  rw [wrap_succ (by omega)]; split <;> omega
 refine cal_of_W Try.func91 rfl (Nat.le_of_ble_eq_true e_) ?_;refine W_sr [(.p, 0)] H ?_;refine r_z [(2, .int .u8 0)] ?_;refine W_seq ?_;refine W_rgd [(.p, 0), (.p, 1), (.p, 2), (.l, 3), (.p, 4), (.p, 5), (.p, 6), (.l, 7), (.p, 8), (.p, 9), (.p, 10), (.l, 11), (.p, 12), (.p, 13), (.p, 14), (.p, 15), (.l, 16), (.p, 17), (.p, 18), (.p, 19), (.f, 20), (.f, 21), (.p, 22), (.p, 23), (.p, 24), (.p, 25), (.p, 26)] H (fun w1 H => ?_);refine r_s [1, 1, 1, 1] [(.p, 0), (.p, 1), (.p, 2), (.l, 3), (.p, 4), (.p, 5), (.p, 6), (.l, 7), (.p, 8), (.p, 9), (.p, 10), (.l, 11), (.p, 12), (.p, 13), (.p, 14), (.p, 15), (.l, 16), (.p, 17), (.p, 18)] [(6, pN pb 0), (7, pN pb 0), (8, pN pb 0), (9, .string (bs s)), (10, pN pb 0), (11, pN pb 0), (12, pN pb 1), (13, nN at_), (14, pN pb 0), (15, pN pb 0), (16, pN pb 1), (17, nN at_), (18, iN (IntKind.wrap .i64 ((((at_ : Nat) : Int)) + 1))), (19, pN pb 0), (20, pN pb 0), (21, pN pb 0), (22, .string (bs s)), (23, nN s.length), (24, iN (if (((s.length : Nat) : Int)) < (IntKind.wrap .i64 ((((at_ : Nat) : Int)) + 1)) then ((s.length : Nat) : Int) else IntKind.wrap .i64 ((((at_ : Nat) : Int)) + 1)))] (rc_l 0 0 rfl rfl (rc_l 0 1 rfl rfl (rc_l 0 1 rfl rfl (rc_l 0 0 rfl rfl rc_nil)))) ?_;refine m_strSlice (l := s) (a := at_) (b := min (at_ + 1) s.length) (d := (some 25)) (show opAt _ _ _ = some (.slice 9 (.tmp 9) (some (.tmp 13)) (some (.tmp 24)) none, _) by kernel_rfl) e_ e_ (by rw [← hmin]; kernel_rfl) Try.underlying9 (by omega) (by omega) ?_;refine m_strBytes (l := ((s.take (min (at_ + 1) s.length)).drop at_)) (d := (some 26)) (show opAt _ _ _ = some (.convert 9 35 (.tmp 25), _) by kernel_rfl) e_ Try.underlying9 Try.underlying35 Try.underlying5 H (fun bb bc row fz w1 hrow hbc H => ?_);refine m_cl #[sN bb 0 (((s.take (min (at_ + 1) s.length)).drop at_).length) bc, iN 0] (some 27) (c118 hrow H) ?_;rintro _ w1 ⟨rfl, H⟩;refine nx H ?_;refine r_z [(5, .tuple #[.int .u8 ((((((s.take (min (at_ + 1) s.length)).drop at_)[0]?).getD 0).toNat : Int)), .bool ((((s.take (min (at_ + 1) s.length)).drop at_)[0]?).isSome)]), (28, .int .u8 ((((((s.take (min (at_ + 1) s.length)).drop at_)[0]?).getD 0).toNat : Int))), (29, .bool ((((s.take (min (at_ + 1) s.length)).drop at_)[0]?).isSome)), (3, .int .u8 ((((((s.take (min (at_ + 1) s.length)).drop at_)[0]?).getD 0).toNat : Int))), (4, .bool ((((s.take (min (at_ + 1) s.length)).drop at_)[0]?).isSome))] ?_;refine W_sr (pL 2) H ?_;refine r_z [(30, .int .u8 ((((((s.take (min (at_ + 1) s.length)).drop at_)[0]?).getD 0).toNat : Int))), (2, .int .u8 ((((((s.take (min (at_ + 1) s.length)).drop at_)[0]?).getD 0).toNat : Int)))] ?_;refine W_ret ?_;refine q_rt [] [] (.int .u8 ((((((s.take (min (at_ + 1) s.length)).drop at_)[0]?).getD 0).toNat : Int))) rc_nil H ?_
 exact ⟨by rw [next_eq s at_ hat], H.drop [_]⟩

theorem word_le : ∀ (l s : List UInt8) (at_ : Nat), at_ ≤ s.length → (word l s at_).2 ≤ s.length
 | [], _, _, h => h
 | c :: l, s, at_, h => by
  unfold word
  split
  ·rename_i hc
   have := (List.getElem?_eq_some_iff.1 hc).1
   exact word_le l s (at_ + 1) (by omega)
  ·exact h
theorem c92 {G : GH} {L : LH} {w : World} {pb at_ : Nat} {s l : List UInt8} (hat : at_ ≤ s.length) (hs : s.length < lim) (hl : l.length < lim) (hascii : ∀ b, b ∈ l → b.toNat < 128) (H : St G ((pb, .cells #[.string (bs s), .int .i64 ((at_ : Nat) : Int)] 87) :: L) w) :
  Cal Try.prog 92 #[.pointer (some ⟨pb, 0, none⟩), .string (bs l)] w fun x w' => x = .bool (word l s at_).1 ∧ St G ((pb, .cells #[.string (bs s), .int .i64 (((word l s at_).2 : Nat) : Int)] 87) :: L) w' := by
 have hlim : lim = 1099511627776 := rfl
 refine cal_of_W Try.func92 rfl (Nat.le_of_ble_eq_true e_) ?_;refine W_sr [(.p, 0)] H ?_;refine r_z [(4, .bool false)] ?_;refine W_seq ?_;refine W_sr [(.p, 0), (.f, 1)] H ?_;refine r_y [(.p, 0)] [(7, .string (bs l))] ?_;refine m_range (l := l) (d := (some 8)) (show opAt _ _ _ = some (.range 9 (.tmp 7), _) by kernel_rfl) e_ Try.underlying9 H (fun ib w1 H => ?_);refine r_nil ?_;refine W_block ?_;refine W_loop (fun m ρ D w => ∃ (p : Nat) (a : Nat), EqS ρ [(0, pN pb 0), (8, pN ib 0)] ∧ D = [] ∧ St G ((ib, .stringIter (bs l) p) :: (pb, .cells #[.string (bs s), iN (((a : Nat) : Int))] 87) :: L) w ∧ (word l s at_ = word (l.drop p) s a) ∧ (a ≤ s.length) ∧ (p ≤ l.length) ∧ l.length - p = m) (l.length - 0) ⟨0, at_, ⟨e_, e_, trivial⟩, rfl, H, rfl, hat, Nat.zero_le _, rfl⟩ ?_
 clear H; rintro m1 ρ D w1 ⟨p, a, hE2, rfl, H, hw, ha, hpp, hm3⟩
 refine W_env hE2 ?_;refine W_sr [(.f, 0), (.p, 1)] H ?_;refine m_next (l := l) (r := ib) (pos := p) (j := 0) (d := (some 9)) (show opAt _ _ _ = some (.next (.tmp 8) true, _) by kernel_rfl) e_ H rfl hascii (fun b w1 hb H => ?_) (fun hb => ?_)
 ·skip
  have H : St G ((ib, .stringIter (bs l) (p + 1)) :: (pb, .cells #[.string (bs s), nN a] 87) :: L) w1 := H
  show RunD _ _ _ _ (SS G ((ib, .stringIter (bs l) (p + 1)) :: (pb, .cells #[.string (bs s), .int .i64 (((a : Nat) : Int))] 87) :: L)) _ _
  have hdc := drop_cons hb
  rw [hdc, word] at hw
  have hplt := (List.getElem?_eq_some_iff.1 hb).1
  refine r_z [(10, .bool true)] ?_;refine W_seq ?_;refine W_cT ?_;refine W_skip ?_;refine W_block ?_;refine W_sr (pL 2) H ?_;refine r_z [(11, .int .i32 ((b.toNat : Int))), (6, .int .i32 ((b.toNat : Int)))] ?_;refine W_seq ?_;refine W_seq ?_;refine W_rgd [(.p, 0), (.p, 1), (.p, 2), (.l, 3), (.p, 4), (.p, 5), (.p, 6), (.l, 7), (.p, 8), (.p, 9), (.p, 10), (.p, 11), (.p, 12), (.p, 13), (.l, 14), (.p, 15), (.p, 16), (.p, 17), (.l, 18), (.p, 19), (.p, 20), (.p, 21), (.p, 22), (.p, 23)] H (fun w1 H => ?_);refine r_s [1, 1] [(.p, 0), (.p, 1), (.p, 2), (.l, 3), (.p, 4), (.p, 5), (.p, 6), (.l, 7), (.p, 8), (.p, 9), (.p, 10)] [(12, pN pb 0), (13, pN pb 0), (14, pN pb 1), (15, nN a), (16, pN pb 0), (17, pN pb 0), (18, pN pb 0), (19, .string (bs s)), (20, nN s.length), (21, .bool ((((a : Nat) : Int)) == (((s.length : Nat) : Int)))), (22, .bool ((((a : Nat) : Int)) == (((s.length : Nat) : Int))))] (rc_l 1 1 rfl rfl (rc_l 1 0 rfl rfl rc_nil)) ?_
  rcases Bool.eq_false_or_eq_true ((((a : Nat) : Int)) == (((s.length : Nat) : Int))) with hc4 | hc4
  ·rw [hc4]
   have hal : a = s.length := by have := hc4; simp at this; omega
   rw [if_neg (by rw [List.getElem?_eq_none (by omega)]; simp)] at hw;refine r_z (uD 23 12 [(35, .bool true)]) ?_;refine W_cT ?_;refine W_sr [(.p, 0)] H ?_;refine r_z [(4, .bool false)] ?_;refine W_ret ?_;refine q_rt [] [] (.bool false) rc_nil H ?_
   exact ⟨by rw [hw], by rw [hw]; exact H.drop [_]⟩
  rw [hc4]
  have hal : a < s.length := by have := hc4; simp at this; omega
  obtain ⟨q, hq⟩ := get_of_lt hal;refine r_s [1, 1] [(.p, 11), (.p, 12), (.p, 13), (.l, 14), (.p, 15), (.p, 16), (.p, 17), (.l, 18)] [(23, pN pb 0), (24, pN pb 0), (25, pN pb 0), (26, .string (bs s)), (27, pN pb 0), (28, pN pb 0), (29, pN pb 1), (30, nN a)] (rc_l 1 0 rfl rfl (rc_l 1 1 rfl rfl rc_nil)) ?_;refine m_strIndex (l := s) (k := a) (b := q) (d := (some 31)) (show opAt _ _ _ = some (.index 9 (.tmp 26) (.tmp 30), _) by kernel_rfl) e_ e_ Try.underlying9 hq ?_;refine r_z [(32, .int .i32 ((b.toNat : Int))), (33, .int .u8 (IntKind.wrap .u8 ((b.toNat : Int)))), (34, .bool (((q.toNat : Int)) != (IntKind.wrap .u8 ((b.toNat : Int))))), (35, .bool (((q.toNat : Int)) != (IntKind.wrap .u8 ((b.toNat : Int)))))] ?_;refine W_cd (b := ((q.toNat : Int)) != (IntKind.wrap .u8 ((b.toNat : Int)))) (fun hc5 => ?_) (fun hc5 => ?_)
  ·skip
   have hwr : IntKind.wrap .u8 (b.toNat : Int) = (b.toNat : Int) := by have := b.toNat_lt; simp [IntKind.wrap, IntKind.bits, IntKind.signed]; omega
   rw [hwr] at hc5;rw [if_neg (by rw [hq]; intro hx; simp at hx; subst hx; simp at hc5)] at hw;refine W_sr [(.p, 0)] H ?_;refine r_z [(4, .bool false)] ?_;refine W_ret ?_;refine q_rt [] [] (.bool false) rc_nil H ?_
   exact ⟨by rw [hw], by rw [hw]; exact H.drop [_]⟩
  have hwr : IntKind.wrap .u8 (b.toNat : Int) = (b.toNat : Int) := by have := b.toNat_lt; simp [IntKind.wrap, IntKind.bits, IntKind.signed]; omega
  rw [hwr] at hc5
  have hqn : (q.toNat : Int) = (b.toNat : Int) := by simpa using hc5
  have hqb : q = b := UInt8.toNat_inj.1 (by omega)
  rw [if_pos (by rw [hq, hqb])] at hw;refine W_skip ?_;refine W_rg [(.p, 0), (.p, 1), (.p, 2), (.l, 3), (.p, 4), (.p, 5), (.p, 6), (.f, 7)] H ?_;refine r_s [1] [(.p, 0), (.p, 1), (.p, 2), (.l, 3), (.p, 4), (.p, 5), (.p, 6)] [(36, pN pb 0), (37, pN pb 0), (38, pN pb 1), (39, nN a), (40, iN (IntKind.wrap .i64 ((((a : Nat) : Int)) + 1))), (41, pN pb 0), (42, pN pb 1)] (rc_l 1 1 rfl rfl rc_nil) ?_;refine s_1 [(1, iN (IntKind.wrap .i64 ((((a : Nat) : Int)) + 1)))] [.string (bs s), iN (IntKind.wrap .i64 ((((a : Nat) : Int)) + 1))] none H (fun w1 H => ?_);refine r_nil ?_
  exact ⟨_, (by omega), p + 1, a + 1, ⟨e_, e_, trivial⟩, rfl, (by rw [← wrap_succ (k := a) (by omega)]; exact H), hw, (by omega), (by omega), rfl⟩
 have hple : l.length ≤ p := List.getElem?_eq_none_iff.1 hb
 rw [List.drop_of_length_le hple, word] at hw;refine r_z [(10, .bool false)] ?_;refine W_seq ?_;refine W_cF ?_;refine W_exit ?_;refine W_sr [(.p, 0)] H ?_;refine r_z [(4, .bool true)] ?_;refine W_ret ?_;refine q_rt [] [] (.bool true) rc_nil H ?_
 exact ⟨by rw [hw], by rw [hw]; exact H.drop [_]⟩

def PT (f : Nat) : Prop := ∀ {G : GH} {L : LH} {w : World} {pb at_ at2 : Nat} {s : List UInt8} {n : Int} {inner b0 : Bool} {t : T}, at_ ≤ s.length → s.length < lim → 0 ≤ n → n ≤ 26 → St G ((pb, .cells #[.string (bs s), .int .i64 ((at_ : Nat) : Int)] 87) :: L) w → typ f s at_ n inner = some ((t, b0), at2) →
 Cal Try.prog 59 #[.pointer (some ⟨pb, 0, none⟩), .int .i64 n, .bool inner] w fun x w' => ∃ G' A c, x = .tuple #[.agg #[.int .i64 t.kind, .int .i64 t.num, .slice A t.kids.length c], .bool b0] ∧ Le G G' ∧ IsPoly G' (.agg #[.int .i64 t.kind, .int .i64 t.num, .slice A t.kids.length c]) t ∧ at2 ≤ s.length ∧ t.kids.length ≤ 2 ∧ St G' ((pb, .cells #[.string (bs s), .int .i64 ((at2 : Nat) : Int)] 87) :: L) w'
theorem byt_ascii {n : Int} (h0 : 0 ≤ n) (h1 : n < 26) : (byt (w64 (97 + n))).toNat < 128 := by
 have e1 : w64 (97 + n) = 97 + n := wrap_id (by omega) (by omega)
 have e2 : IntKind.wrap .u8 (97 + n) = 97 + n := by simp [IntKind.wrap, IntKind.bits, IntKind.signed]; omega
 unfold byt
 rw [e1, e2]
 have : (97 + n).toNat < 128 := by omega
 simp [UInt8.toNat_ofNat']
 omega

theorem c93 {f : Nat} (hT : ∀ g, g < f → PT g) {G : GH} {L : LH} {w : World} {pb at_ at2 : Nat} {s : List UInt8} {n : Int} {inner b0 : Bool} {t : T} (hat : at_ ≤ s.length) (hs : s.length < lim) (hn0 : 0 ≤ n) (hn : n < 26) (H : St G ((pb, .cells #[.string (bs s), .int .i64 ((at_ : Nat) : Int)] 87) :: L) w) (hin : quantifier f s at_ n inner = some ((t, b0), at2)) :
  Cal Try.prog 93 #[.pointer (some ⟨pb, 0, none⟩), .int .i64 n, .bool inner] w fun x w' => ∃ G' A c, x = .tuple #[.agg #[.int .i64 t.kind, .int .i64 t.num, .slice A t.kids.length c], .bool b0] ∧ Le G G' ∧ IsPoly G' (.agg #[.int .i64 t.kind, .int .i64 t.num, .slice A t.kids.length c]) t ∧ at2 ≤ s.length ∧ t.kids.length ≤ 2 ∧ St G' ((pb, .cells #[.string (bs s), .int .i64 ((at2 : Nat) : Int)] 87) :: L) w' := by
 have hlim : lim = 1099511627776 := rfl
 obtain _ | f := f
 ·cases hin
 unfold Md.quantifier at hin
 dsimp only at hin
 refine cal_of_W Try.func93 rfl (Nat.le_of_ble_eq_true e_) ?_;refine W_sr [(.f, 0), (.p, 1)] H ?_;refine m_nw oT 6 H (fun b1 w1 H => ?_);refine r_z [(7, .bool false)] ?_;refine W_seq ?_;refine W_sr [(.p, 0), (.f, 1), (.p, 2), (.p, 3), (.p, 4), (.p, 5), (.p, 6), (.p, 7), (.f, 8), (.l, 9), (.f, 10), (.p, 11), (.p, 12), (.p, 13), (.p, 14), (.f, 15), (.p, 16), (.p, 17)] H ?_;refine r_y [(.p, 0)] [(10, pN pb 0)] ?_;have H := St.swap (A := [(b1, oT)]) (B := [(pb, .cells #[.string (bs s), nN at_] 87)]) H
 have hwl := word_le [97, 108, 108, 32] s at_ hat
 refine m_cl #[pN pb 0, .string (bs [97, 108, 108, 32])] (some 11) (c92 (l := [97, 108, 108, 32]) hat hs (by show _ < _; simp only [List.length_cons, List.length_nil]; omega) (fun b hb => by simp at hb; rcases hb with rfl | rfl | rfl <;> decide) H) ?_;rintro _ w1 ⟨rfl, H⟩
 generalize hwe0 : word [97, 108, 108, 32] s at_ = wr0 at H hwl hin ⊢
 obtain ⟨x0, a1⟩ := wr0; simp only at H hwl hin ⊢
 have hat1 : a1 ≤ s.length := hwl
 have H : St G ((b1, oT) :: (pb, .cells #[.string (bs s), nN a1] 87) :: L) w1 := St.swap (A := [(pb, .cells #[.string (bs s), nN a1] 87)]) (B := [(b1, oT)]) H
 cases x0
 ·skip
  rw [if_pos rfl] at hin; simp only [o_j, p_j] at hin; obtain ⟨⟨rfl, rfl⟩, rfl⟩ := hin
  refine nx H ?_;refine r_z [(12, .bool true), (13, .bool true), (14, undef), (15, undef), (16, undef), (17, undef), (18, undef), (19, undef), (20, undef), (21, undef), (22, .bool true), (23, .bool true), (24, undef), (25, undef), (26, undef), (27, .bool true)] ?_;refine W_cT ?_;refine W_sr [(.p, 0), (.f, 1), (.p, 2)] H ?_;refine r_y [(.p, 0)] [(28, .agg #[iN 0, iN 0, .slice none 0 0])] ?_;refine s_0 [(0, iN 0), (1, iN 0), (2, .slice none 0 0)] [iN 0, iN 0, .slice none 0 0] none H (fun w1 H => ?_);refine r_z [(7, .bool false)] ?_;refine W_ret ?_;refine q_rt [iN 0, iN 0, .slice none 0 0] [(⟨b1, 0, none⟩, iN 0), (⟨b1, 1, none⟩, iN 0), (⟨b1, 2, none⟩, .slice none 0 0)] (.tuple #[.agg #[iN 0, iN 0, .slice none 0 0], .bool false]) (rc_L 0 rfl rfl (rc_L 0 rfl rfl (rc_L 0 rfl rfl rc_nil))) H ?_
  exact ⟨G, none, 0, rfl, Le.refl _, IsPoly.mk (t := t0) (Nat.le_refl _) IsPolys.nil, hat1, Nat.zero_le _, H.drop [_]⟩
 rw [if_neg (by simp)] at hin;refine nx H ?_;refine r_y [(.p, 2), (.p, 3), (.p, 4), (.p, 5), (.p, 6), (.p, 7)] [(12, .bool false), (13, .bool false), (14, pN pb 0), (15, iN n), (16, iN (IntKind.wrap .i64 (97 + n))), (17, .int .u8 (IntKind.wrap .u8 (IntKind.wrap .i64 (97 + n))))] ?_;refine m_new (.cells #[.int .u8 (IntKind.wrap .u8 (IntKind.wrap .i64 (97 + n)))] 5) (fun b2 => sN b2 0 1 1) (some 18) (fun b => by kernel_rfl) H (fun b2 w1 H => ?_);refine r_s [1] [(.l, 9)] [(19, .string (bs [UInt8.ofNat (IntKind.wrap .u8 (IntKind.wrap .i64 (97 + n))).toNat]))] (rc_l 0 0 rfl rfl rc_nil) ?_;have H := St.swap (A := [(b2, .cells #[.int .u8 (IntKind.wrap .u8 (IntKind.wrap .i64 (97 + n)))] 5), (b1, oT)]) (B := [(pb, .cells #[.string (bs s), nN a1] 87)]) H
 have hwl := word_le [byt (w64 (97 + n))] s a1 hat1
 refine m_cl #[pN pb 0, .string (bs [UInt8.ofNat (IntKind.wrap .u8 (IntKind.wrap .i64 (97 + n))).toNat])] (some 20) (c92 (l := [byt (w64 (97 + n))]) hat1 hs (by show _ < _; simp only [List.length_cons, List.length_nil]; omega) (fun b hb => by rw [List.mem_singleton.1 hb]; exact byt_ascii hn0 hn) H) ?_;rintro _ w1 ⟨rfl, H⟩
 generalize hwe1 : word [byt (w64 (97 + n))] s a1 = wr1 at H hwl hin ⊢
 obtain ⟨x1, a2⟩ := wr1; simp only at H hwl hin ⊢
 have hat2 : a2 ≤ s.length := hwl
 have H : St G ((b2, .cells #[.int .u8 (IntKind.wrap .u8 (IntKind.wrap .i64 (97 + n)))] 5) :: (b1, oT) :: (pb, .cells #[.string (bs s), nN a2] 87) :: L) w1 := St.swap (A := [(pb, .cells #[.string (bs s), nN a2] 87)]) (B := [(b2, .cells #[.int .u8 (IntKind.wrap .u8 (IntKind.wrap .i64 (97 + n)))] 5), (b1, oT)]) H
 cases x1
 ·skip
  rw [if_pos rfl] at hin; simp only [o_j, p_j] at hin; obtain ⟨⟨rfl, rfl⟩, rfl⟩ := hin
  refine nx H ?_;refine r_z [(21, .bool true), (22, .bool true), (23, .bool true), (24, undef), (25, undef), (26, undef), (27, .bool true)] ?_;refine W_cT ?_;refine W_sr [(.p, 0), (.f, 1), (.p, 2)] H ?_;refine r_y [(.p, 0)] [(28, .agg #[iN 0, iN 0, .slice none 0 0])] ?_;refine s_1 [(0, iN 0), (1, iN 0), (2, .slice none 0 0)] [iN 0, iN 0, .slice none 0 0] none H (fun w1 H => ?_);refine r_z [(7, .bool false)] ?_;refine W_ret ?_;refine q_rt [iN 0, iN 0, .slice none 0 0] [(⟨b1, 0, none⟩, iN 0), (⟨b1, 1, none⟩, iN 0), (⟨b1, 2, none⟩, .slice none 0 0)] (.tuple #[.agg #[iN 0, iN 0, .slice none 0 0], .bool false]) (rc_L 1 rfl rfl (rc_L 1 rfl rfl (rc_L 1 rfl rfl rc_nil))) H ?_
  exact ⟨G, none, 0, rfl, Le.refl _, IsPoly.mk (t := t0) (Nat.le_refl _) IsPolys.nil, hat2, Nat.zero_le _, H.drop [_, _]⟩
 rw [if_neg (by simp)] at hin;refine nx H ?_;refine r_y [(.p, 11), (.p, 12), (.p, 13), (.p, 14)] [(21, .bool false), (22, .bool false), (23, .bool false), (24, pN pb 0)] ?_;have H := St.swap (A := [(b2, .cells #[.int .u8 (IntKind.wrap .u8 (IntKind.wrap .i64 (97 + n)))] 5), (b1, oT)]) (B := [(pb, .cells #[.string (bs s), nN a2] 87)]) H
 have hwl := word_le [46, 32] s a2 hat2
 refine m_cl #[pN pb 0, .string (bs [46, 32])] (some 25) (c92 (l := [46, 32]) hat2 hs (by show _ < _; simp only [List.length_cons, List.length_nil]; omega) (fun b hb => by simp at hb; rcases hb with rfl | rfl <;> decide) H) ?_;rintro _ w1 ⟨rfl, H⟩
 generalize hwe2 : word [46, 32] s a2 = wr2 at H hwl hin ⊢
 obtain ⟨x2, a3⟩ := wr2; simp only at H hwl hin ⊢
 have hat3 : a3 ≤ s.length := hwl
 have H : St G ((b2, .cells #[.int .u8 (IntKind.wrap .u8 (IntKind.wrap .i64 (97 + n)))] 5) :: (b1, oT) :: (pb, .cells #[.string (bs s), nN a3] 87) :: L) w1 := St.swap (A := [(pb, .cells #[.string (bs s), nN a3] 87)]) (B := [(b2, .cells #[.int .u8 (IntKind.wrap .u8 (IntKind.wrap .i64 (97 + n)))] 5), (b1, oT)]) H
 cases x2
 ·skip
  rw [if_pos rfl] at hin; simp only [o_j, p_j] at hin; obtain ⟨⟨rfl, rfl⟩, rfl⟩ := hin
  refine nx H ?_;refine r_z [(26, .bool true), (27, .bool true)] ?_;refine W_cT ?_;refine W_sr [(.p, 0), (.f, 1), (.p, 2)] H ?_;refine r_y [(.p, 0)] [(28, .agg #[iN 0, iN 0, .slice none 0 0])] ?_;refine s_1 [(0, iN 0), (1, iN 0), (2, .slice none 0 0)] [iN 0, iN 0, .slice none 0 0] none H (fun w1 H => ?_);refine r_z [(7, .bool false)] ?_;refine W_ret ?_;refine q_rt [iN 0, iN 0, .slice none 0 0] [(⟨b1, 0, none⟩, iN 0), (⟨b1, 1, none⟩, iN 0), (⟨b1, 2, none⟩, .slice none 0 0)] (.tuple #[.agg #[iN 0, iN 0, .slice none 0 0], .bool false]) (rc_L 1 rfl rfl (rc_L 1 rfl rfl (rc_L 1 rfl rfl rc_nil))) H ?_
  exact ⟨G, none, 0, rfl, Le.refl _, IsPoly.mk (t := t0) (Nat.le_refl _) IsPolys.nil, hat3, Nat.zero_le _, H.drop [_, _]⟩
 rw [if_neg (by simp)] at hin;refine nx H ?_;refine r_z [(26, .bool false), (27, .bool false)] ?_;refine W_cF ?_;refine W_skip ?_;refine W_sr [(.p, 0), (.p, 1), (.p, 2), (.p, 3), (.f, 4), (.p, 5), (.p, 6), (.p, 7), (.f, 8), (.f, 9), (.p, 10)] H ?_;refine r_y [(.p, 0), (.p, 1), (.p, 2), (.p, 3)] [(30, pN pb 0), (31, iN n), (32, iN (IntKind.wrap .i64 (n + 1))), (33, .bool inner)] ?_
 obtain ⟨⟨⟨q, qb⟩, at3⟩, hq, hin⟩ := Option.bind_eq_some_iff.1 hin; simp only [o_j, p_j] at hin; obtain ⟨⟨rfl, rfl⟩, rfl⟩ := hin
 have H := St.swap (A := [(b2, .cells #[.int .u8 (IntKind.wrap .u8 (IntKind.wrap .i64 (97 + n)))] 5), (b1, oT)]) (B := [(pb, .cells #[.string (bs s), nN a3] 87)]) H
 have hn1 : w64 (n + 1) = n + 1 := wrap_id (by omega) (by omega)
 refine m_cl #[pN pb 0, iN (IntKind.wrap .i64 (n + 1)), .bool inner] (some 34) (hT f (by omega) hat3 hs (show 0 ≤ w64 (n + 1) by rw [hn1]; omega) (show w64 (n + 1) ≤ 26 by rw [hn1]; omega) H hq) ?_;rintro _ w1 ⟨G1, qA, qc, rfl, hG1, hqp, hat4, hqk, H⟩
 have H : St G1 ((b2, .cells #[.int .u8 (IntKind.wrap .u8 (IntKind.wrap .i64 (97 + n)))] 5) :: (b1, oT) :: (pb, .cells #[.string (bs s), nN at3] 87) :: L) w1 := St.swap (A := [(pb, .cells #[.string (bs s), nN at3] 87)]) (B := [(b2, .cells #[.int .u8 (IntKind.wrap .u8 (IntKind.wrap .i64 (97 + n)))] 5), (b1, oT)]) H
 refine nx H ?_;refine r_y [(.p, 5), (.p, 6), (.p, 7)] [(29, .tuple #[(aT q qA qc), .bool qb]), (35, (aT q qA qc)), (36, .bool qb)] ?_;refine m_nw oT 8 H (fun b3 w1 H => ?_);refine s_0 [(0, iN q.kind), (1, iN q.num), (2, .slice qA q.kids.length qc)] [iN q.kind, iN q.num, .slice qA q.kids.length qc] none H (fun w1 H => ?_);refine r_z [(9, .bool qb)] ?_;refine W_sr [(.l, 0), (.f, 1), (.p, 2), (.p, 3), (.f, 4), (.p, 5)] H ?_;refine r_s [3] [(.l, 0)] [(37, (aT q qA qc))] (rc_l 0 0 rfl rfl (rc_l 0 1 rfl rfl (rc_l 0 2 rfl rfl rc_nil))) ?_;refine m_new (cT q qA qc) (fun b4 => sN b4 0 1 1) (some 38) (fun b => by kernel_rfl) H (fun b4 w1 H => ?_);refine r_y [(.p, 2), (.p, 3)] [(39, .agg #[iN 4, iN 0, sN b4 0 1 1]), (40, .bool qb)] ?_;refine m_st ((b4, cT q qA qc) :: (b3, cT q qA qc) :: (b2, .cells #[.int .u8 (IntKind.wrap .u8 (IntKind.wrap .i64 (97 + n)))] 5) :: (b1, .cells #[iN 4, iN 0, sN b4 0 1 1] 24) :: (pb, .cells #[.string (bs s), nN at3] 87) :: L) 3 [(0, iN 4), (1, iN 0), (2, sN b4 0 1 1)] [iN 4, iN 0, sN b4 0 1 1] none H (fun w1 H => ?_);refine r_z [(7, .bool qb)] ?_;refine W_ret ?_;refine q_rt [iN 4, iN 0, sN b4 0 1 1] [(⟨b1, 0, none⟩, iN 4), (⟨b1, 1, none⟩, iN 0), (⟨b1, 2, none⟩, sN b4 0 1 1)] (.tuple #[.agg #[iN 4, iN 0, sN b4 0 1 1], .bool qb]) (rc_L 3 rfl rfl (rc_L 3 rfl rfl (rc_L 3 rfl rfl rc_nil))) H ?_;obtain ⟨G2, hG2, hF2, H⟩ := St.freeze [_] H
 have hf := hF2 _ (.head _)
 exact ⟨G2, _, 1, rfl, hG1.trans hG2, IsPoly.mk (t := .mk 4 0 [q]) (Nat.le_refl _) (polys_of (cs := [iN q.kind, iN q.num, .slice qA q.kids.length qc]) ⟨hqp.mono hG2, trivial⟩ hf), hat4, Nat.le_of_ble_eq_true rfl, H.drop [_, _, _]⟩

theorem u8_of {c : UInt8} {k : UInt8} (h : (((c.toNat : Nat) : Int) == ((k.toNat : Nat) : Int)) = true) : c = k := by
 have : ((c.toNat : Nat) : Int) = ((k.toNat : Nat) : Int) := by simpa using h
 exact UInt8.toNat_inj.1 (by omega)
theorem u8_not {c : UInt8} {k : UInt8} (h : (((c.toNat : Nat) : Int) == ((k.toNat : Nat) : Int)) = false) : ¬ c = k := fun hx => by subst hx; simp at h
theorem u8_sub {c : UInt8} (h : 97 ≤ c.toNat) : IntKind.wrap .i64 (IntKind.wrap .u8 (((c.toNat : Nat) : Int) - 97)) = (((c - 97).toNat : Nat) : Int) := by
 have hc := c.toNat_lt
 have e1 : IntKind.wrap .u8 (((c.toNat : Nat) : Int) - 97) = ((c.toNat : Nat) : Int) - 97 := by simp [IntKind.wrap, IntKind.bits, IntKind.signed]; omega
 have e2 : (c - 97).toNat = c.toNat - 97 := by
  rw [UInt8.toNat_sub_of_le]
  ·rfl
  ·exact UInt8.le_iff_toNat_le.2 h
 rw [e1, e2, wrap_id (by omega) (by omega)]
 omega

theorem c59 : ∀ f, PT f := by
 intro f
 induction f using Nat.strongRecOn with
 | _ f ih =>
 intro G L w pb at_ at2 s n inner b0 t hat hs hn0 hn H hin
 have hlim : lim = 1099511627776 := rfl
 obtain _ | f := f
 ·cases hin
 unfold Md.typ at hin
 dsimp only at hin
 refine cal_of_W Try.func59 rfl (Nat.le_of_ble_eq_true e_) ?_;refine W_sr [(.f, 0), (.p, 1)] H ?_;refine m_nw oT 6 H (fun b1 w1 H => ?_);refine r_z [(7, .bool false)] ?_;refine W_sr [(.f, 0)] H ?_;refine m_nw oT 8 H (fun b2 w1 H => ?_);refine r_nil ?_;refine W_sr [(.p, 0)] H ?_;refine r_z [(9, .bool false)] ?_;refine W_sr [(.p, 0), (.f, 1), (.p, 2)] H ?_;refine r_y [(.p, 0)] [(15, pN pb 0)] ?_;have H := St.swap (A := [(b2, oT), (b1, oT)]) (B := [(pb, .cells #[.string (bs s), nN at_] 87)]) (C := L) H;refine m_cl #[pN pb 0] (some 16) (c91 hat hs H) ?_;rintro _ w1 ⟨rfl, H⟩
 have H : St G ((b2, oT) :: (b1, oT) :: (pb, .cells #[.string (bs s), nN at_] 87) :: L) w1 := St.swap (A := [(pb, .cells #[.string (bs s), nN at_] 87)]) (B := [(b2, oT), (b1, oT)]) H
 generalize hch1 : Md.next s at_ = ch1 at hin ⊢
 refine nx H ?_;refine r_z [(10, .int .u8 (((ch1.toNat : Nat) : Int)))] ?_;refine W_seqI (fun ρ D w => ∃ (second : Bool), EqS ρ [(0, pN pb 0), (1, iN n), (2, .bool inner), (6, pN b1 0), (8, pN b2 0), (9, .bool false), (10, .int .u8 (((ch1.toNat : Nat) : Int))), (11, .bool second)] ∧ D = [] ∧ St G ((b2, oT) :: (b1, oT) :: (pb, .cells #[.string (bs s), iN (((at_ : Nat) : Int))] 87) :: L) w ∧ (second = true ↔ s[at_ + 1]? = some 108)) ?_ ?_
 ·skip
  refine W_rgd [(.p, 0), (.p, 1), (.p, 2), (.l, 3), (.p, 4), (.p, 5), (.p, 6), (.p, 7), (.l, 8), (.p, 9), (.p, 10), (.p, 11), (.p, 12), (.p, 13), (.p, 14), (.l, 15), (.p, 16), (.p, 17), (.p, 18), (.l, 19), (.p, 20), (.p, 21), (.p, 22), (.p, 23), (.p, 24)] H (fun w1 H => ?_);refine r_s [1, 1] [(.p, 0), (.p, 1), (.p, 2), (.l, 3), (.p, 4), (.p, 5), (.p, 6), (.p, 7), (.l, 8), (.p, 9), (.p, 10), (.p, 11)] [(17, pN pb 0), (18, pN pb 0), (19, pN pb 1), (20, nN at_), (21, iN (IntKind.wrap .i64 ((((at_ : Nat) : Int)) + 1))), (22, pN pb 0), (23, pN pb 0), (24, pN pb 0), (25, .string (bs s)), (26, nN s.length), (27, .bool (decide ((IntKind.wrap .i64 ((((at_ : Nat) : Int)) + 1)) < (((s.length : Nat) : Int))))), (28, .bool (decide ((IntKind.wrap .i64 ((((at_ : Nat) : Int)) + 1)) < (((s.length : Nat) : Int)))))] (rc_l 2 1 rfl rfl (rc_l 2 0 rfl rfl rc_nil)) ?_
  rcases Bool.eq_false_or_eq_true (decide ((IntKind.wrap .i64 ((((at_ : Nat) : Int)) + 1)) < (((s.length : Nat) : Int)))) with hc3 | hc3
  ·rw [hc3];rw [wrap_succ (by omega)] at hc3
   have hlt1 : at_ + 1 < s.length := by have := of_decide_eq_true hc3; omega
   obtain ⟨q, hq⟩ := get_of_lt hlt1;refine r_s [1, 1] [(.p, 12), (.p, 13), (.p, 14), (.l, 15), (.p, 16), (.p, 17), (.p, 18), (.l, 19), (.p, 20)] [(29, pN pb 0), (30, pN pb 0), (31, pN pb 0), (32, .string (bs s)), (33, pN pb 0), (34, pN pb 0), (35, pN pb 1), (36, nN at_), (37, iN (IntKind.wrap .i64 ((((at_ : Nat) : Int)) + 1)))] (rc_l 2 0 rfl rfl (rc_l 2 1 rfl rfl rc_nil)) ?_;refine m_strIndex (l := s) (k := at_ + 1) (b := q) (d := (some 38)) (show opAt _ _ _ = some (.index 9 (.tmp 32) (.tmp 37), _) by kernel_rfl) e_ (by rw [← wrap_succ (k := at_) (by omega)]; kernel_rfl) Try.underlying9 hq ?_;refine r_z [(39, .bool ((((q.toNat : Nat) : Int)) == 108)), (40, .bool ((((q.toNat : Nat) : Int)) == 108)), (11, .bool ((((q.toNat : Nat) : Int)) == 108))] ?_
   exact ⟨(((q.toNat : Nat) : Int)) == 108, ⟨e_, e_, e_, e_, e_, e_, e_, e_, trivial⟩, rfl, H, ⟨(fun h => by rw [hq, show q = 108 from u8_of h]), (fun h => by rw [hq] at h; cases h; rfl)⟩⟩
  rw [hc3];rw [wrap_succ (by omega)] at hc3
  have hq : s[at_ + 1]? = none := List.getElem?_eq_none (by have := of_decide_eq_false hc3; omega)
  refine r_z (uD 29 11 [(40, .bool false), (11, .bool false)]) ?_
  exact ⟨false, ⟨e_, e_, e_, e_, e_, e_, e_, e_, trivial⟩, rfl, H, ⟨(fun h => nomatch h), (fun h => by rw [hq] at h; cases h)⟩⟩
 clear H; rintro ρ D w1 ⟨second, hE4, rfl, H, hsec⟩
 refine W_env hE4 ?_;refine W_seqI (fun ρ D w => ∃ (tp : T) (tA : Option Addr) (tc : Nat) (GJ : GH) (aj : Nat) (bt : Nat) (br : Nat) (must : Bool), EqS ρ [(0, pN pb 0), (1, iN n), (2, .bool inner), (6, pN br 0), (8, pN bt 0), (9, .bool must)] ∧ D = [] ∧ St GJ ((bt, cT tp tA tc) :: (br, oT) :: (pb, .cells #[.string (bs s), iN (((aj : Nat) : Int))] 87) :: L) w ∧ (Le G GJ) ∧ (IsPoly GJ (aT tp tA tc) tp) ∧ (aj ≤ s.length) ∧ (tp.kids.length ≤ 2) ∧ (rest f s aj n inner must tp = some ((t, b0), at2))) ?_ ?_
 ·skip
  refine W_block ?_;refine W_sr (pL 3) H ?_;refine r_z [(43, .int .u8 (((ch1.toNat : Nat) : Int))), (44, .bool ((((ch1.toNat : Nat) : Int)) == 78)), (42, .bool ((((ch1.toNat : Nat) : Int)) == 78))] ?_;refine W_cd (b := (((ch1.toNat : Nat) : Int)) == 78) (fun hc5 => ?_) (fun hc5 => ?_)
  ·skip
   rw [if_pos (u8_of hc5)] at hin
   have hN := hc5
   refine W_sr [(.p, 0), (.f, 1)] H ?_;refine r_y [(.p, 0)] [(45, pN b2 0)] ?_;refine s_0 [(0, iN 2)] [iN 2, iN 0, .slice none 0 0] none H (fun w1 H => ?_);refine r_nil ?_;refine W_rg [(.p, 0), (.p, 1), (.p, 2), (.l, 3), (.p, 4), (.p, 5), (.p, 6), (.f, 7)] H ?_;refine r_s [1] [(.p, 0), (.p, 1), (.p, 2), (.l, 3), (.p, 4), (.p, 5), (.p, 6)] [(46, pN pb 0), (47, pN pb 0), (48, pN pb 1), (49, nN at_), (50, iN (IntKind.wrap .i64 ((((at_ : Nat) : Int)) + 1))), (51, pN pb 0), (52, pN pb 1)] (rc_l 2 1 rfl rfl rc_nil) ?_;refine s_2 [(1, iN (IntKind.wrap .i64 ((((at_ : Nat) : Int)) + 1)))] [.string (bs s), iN (IntKind.wrap .i64 ((((at_ : Nat) : Int)) + 1))] none H (fun w1 H => ?_);refine r_nil ?_
   have hati : at_ + 1 ≤ s.length := by
    rcases Nat.lt_or_ge at_ s.length with hx | hx
    ·exact hx
    exfalso; have : Md.next s at_ = 0 := by unfold Md.next; rw [List.getElem?_eq_none hx]; rfl
    rw [hch1] at this; subst this; first | contradiction | (simp at *; done) | omega
   rw [wrap_succ (by omega)] at H
   exact ⟨(.mk 2 0 []), none, 0, G, at_ + 1, b2, b1, false, ⟨e_, e_, e_, e_, e_, e_, trivial⟩, rfl, H, Le.refl _, IsPoly.mk (t := .mk 2 0 []) (Nat.le_refl _) IsPolys.nil, hati, (Nat.zero_le _), hin⟩
  rw [if_neg (u8_not hc5)] at hin
  have hN := hc5
  refine W_sr (pL 3) H ?_;refine r_z [(54, .int .u8 (((ch1.toNat : Nat) : Int))), (55, .bool ((((ch1.toNat : Nat) : Int)) == 40)), (53, .bool ((((ch1.toNat : Nat) : Int)) == 40))] ?_;refine W_cd (b := (((ch1.toNat : Nat) : Int)) == 40) (fun hc6 => ?_) (fun hc6 => ?_)
  ·skip
   rw [if_pos (u8_of hc6)] at hin;refine W_sr [(.p, 0), (.p, 1), (.p, 2), (.l, 3), (.p, 4), (.p, 5), (.p, 6), (.f, 7)] H ?_;refine r_s [1] [(.p, 0), (.p, 1), (.p, 2), (.l, 3), (.p, 4), (.p, 5), (.p, 6)] [(56, pN pb 0), (57, pN pb 0), (58, pN pb 1), (59, nN at_), (60, iN (IntKind.wrap .i64 ((((at_ : Nat) : Int)) + 1))), (61, pN pb 0), (62, pN pb 1)] (rc_l 2 1 rfl rfl rc_nil) ?_;refine s_2 [(1, iN (IntKind.wrap .i64 ((((at_ : Nat) : Int)) + 1)))] [.string (bs s), iN (IntKind.wrap .i64 ((((at_ : Nat) : Int)) + 1))] none H (fun w1 H => ?_);refine r_nil ?_;refine W_sr [(.p, 0)] H ?_;refine r_z [(12, .bool false)] ?_;refine W_seq ?_;refine W_seq ?_
   have hati : at_ + 1 ≤ s.length := by
    rcases Nat.lt_or_ge at_ s.length with hx | hx
    ·exact hx
    exfalso; have : Md.next s at_ = 0 := by unfold Md.next; rw [List.getElem?_eq_none hx]; rfl
    rw [hch1] at this; subst this; first | contradiction | (simp at *; done) | omega
   rw [wrap_succ (by omega)] at H;refine W_rg [(.p, 0), (.p, 1), (.f, 2), (.p, 3), (.p, 4), (.p, 5), (.f, 6), (.p, 7)] H ?_;refine r_y [(.p, 0), (.p, 1)] [(64, pN pb 0), (65, iN n)] ?_;have H := St.swap (A := [(b2, oT), (b1, oT)]) (B := [(pb, .cells #[.string (bs s), nN (at_ + 1)] 87)]) (C := L) H
   obtain ⟨⟨⟨q1, qb1⟩, ar1⟩, hq1, hin⟩ := Option.bind_eq_some_iff.1 hin; simp only at hin
   refine m_cl #[pN pb 0, iN n, .bool true] (some 66) (ih f (by omega) hati hs hn0 hn H hq1) ?_;rintro _ w1 ⟨Gq1, q1A, q1c, rfl, hGq1, hq1p, hatq1, hq1k, H⟩
   have H : St Gq1 ((b2, oT) :: (b1, oT) :: (pb, .cells #[.string (bs s), nN ar1] 87) :: L) w1 := St.swap (A := [(pb, .cells #[.string (bs s), nN ar1] 87)]) (B := [(b2, oT), (b1, oT)]) H
   cases qb1
   ·skip
    have hP := hq1p
    rw [if_pos (.inl rfl)] at hin; simp only [o_j, p_j] at hin; obtain ⟨⟨rfl, rfl⟩, rfl⟩ := hin
    refine nx H ?_;refine r_y [(.p, 3), (.p, 4), (.p, 5)] [(63, .tuple #[(aT q1 q1A q1c), .bool false]), (67, (aT q1 q1A q1c)), (68, .bool false)] ?_;refine s_0 [(0, iN q1.kind), (1, iN q1.num), (2, .slice q1A q1.kids.length q1c)] [iN q1.kind, iN q1.num, .slice q1A q1.kids.length q1c] none H (fun w1 H => ?_);refine r_z [(12, .bool false)] ?_;refine W_sr [(.p, 0), (.p, 1), (.p, 2), (.p, 3), (.l, 4), (.p, 5), (.p, 6), (.p, 7), (.p, 8), (.p, 9), (.f, 10), (.p, 11), (.p, 12)] H ?_;refine r_z [(69, .bool false), (70, .bool true), (71, .bool true), (72, undef), (73, undef), (74, undef), (75, undef), (76, .bool true), (77, .bool true), (78, undef), (79, undef), (80, undef), (81, .bool true)] ?_;refine W_cT ?_;refine W_sr [(.l, 0), (.f, 1), (.p, 2)] H ?_;refine r_s [3] [(.l, 0)] [(82, (aT q1 q1A q1c))] (rc_l 0 0 rfl rfl (rc_l 0 1 rfl rfl (rc_l 0 2 rfl rfl rc_nil))) ?_;refine s_1 [(0, iN q1.kind), (1, iN q1.num), (2, .slice q1A q1.kids.length q1c)] [iN q1.kind, iN q1.num, .slice q1A q1.kids.length q1c] none H (fun w1 H => ?_);refine r_z [(7, .bool false)] ?_;refine W_ret ?_;refine q_rt [iN q1.kind, iN q1.num, .slice q1A q1.kids.length q1c] [(⟨b1, 0, none⟩, iN q1.kind), (⟨b1, 1, none⟩, iN q1.num), (⟨b1, 2, none⟩, .slice q1A q1.kids.length q1c)] (.tuple #[.agg #[iN q1.kind, iN q1.num, .slice q1A q1.kids.length q1c], .bool false]) (rc_L 1 rfl rfl (rc_L 1 rfl rfl (rc_L 1 rfl rfl rc_nil))) H ?_
    exact ⟨Gq1, _, _, rfl, hGq1, hP, hatq1, hq1k, H.drop [_, _]⟩
   have hP := hq1p
   refine nx H ?_;refine r_y [(.p, 3), (.p, 4), (.p, 5)] [(63, .tuple #[(aT q1 q1A q1c), .bool true]), (67, (aT q1 q1A q1c)), (68, .bool true)] ?_;refine s_0 [(0, iN q1.kind), (1, iN q1.num), (2, .slice q1A q1.kids.length q1c)] [iN q1.kind, iN q1.num, .slice q1A q1.kids.length q1c] none H (fun w1 H => ?_);refine r_z [(12, .bool true)] ?_;refine W_sr [(.p, 0), (.p, 1), (.p, 2), (.p, 3), (.l, 4), (.p, 5), (.p, 6), (.p, 7), (.p, 8), (.p, 9), (.f, 10), (.p, 11), (.p, 12)] H ?_;refine r_s [1] [(.p, 0), (.p, 1), (.p, 2), (.p, 3), (.l, 4), (.p, 5), (.p, 6), (.p, 7), (.p, 8)] [(69, .bool true), (70, .bool false), (71, .bool false), (72, pN b2 2), (73, .slice q1A q1.kids.length q1c), (74, nN q1.kids.length), (75, .bool ((((q1.kids.length : Nat) : Int)) == 0)), (76, .bool ((((q1.kids.length : Nat) : Int)) == 0)), (77, .bool ((((q1.kids.length : Nat) : Int)) == 0))] (rc_l 0 2 rfl rfl rc_nil) ?_
   rcases Bool.eq_false_or_eq_true ((((q1.kids.length : Nat) : Int)) == 0) with hc7 | hc7
   ·rw [hc7]
    have hk0 : (q1.kids.length = 0) := by have := hc7; simp at this; simpa using this
    rw [if_pos (.inr hk0)] at hin; simp only [o_j, p_j] at hin; obtain ⟨⟨rfl, rfl⟩, rfl⟩ := hin
    refine r_z (uD 78 3 [(81, .bool true)]) ?_;refine W_cT ?_;refine W_sr [(.l, 0), (.f, 1), (.p, 2)] H ?_;refine r_s [3] [(.l, 0)] [(82, (aT q1 q1A q1c))] (rc_l 0 0 rfl rfl (rc_l 0 1 rfl rfl (rc_l 0 2 rfl rfl rc_nil))) ?_;refine s_1 [(0, iN q1.kind), (1, iN q1.num), (2, .slice q1A q1.kids.length q1c)] [iN q1.kind, iN q1.num, .slice q1A q1.kids.length q1c] none H (fun w1 H => ?_);refine r_z [(7, .bool false)] ?_;refine W_ret ?_;refine q_rt [iN q1.kind, iN q1.num, .slice q1A q1.kids.length q1c] [(⟨b1, 0, none⟩, iN q1.kind), (⟨b1, 1, none⟩, iN q1.num), (⟨b1, 2, none⟩, .slice q1A q1.kids.length q1c)] (.tuple #[.agg #[iN q1.kind, iN q1.num, .slice q1A q1.kids.length q1c], .bool false]) (rc_L 1 rfl rfl (rc_L 1 rfl rfl (rc_L 1 rfl rfl rc_nil))) H ?_
    exact ⟨Gq1, _, _, rfl, hGq1, hP, hatq1, hq1k, H.drop [_, _]⟩
   rw [hc7]
   have hk0 : ¬(q1.kids.length = 0) := by have := hc7; simp at this; simpa using this
   rw [if_neg (fun hx => hx.elim (fun h => by cases h) hk0)] at hin;refine r_y [(.p, 9)] [(78, pN pb 0)] ?_;have H := St.swap (A := [(b2, cT q1 q1A q1c), (b1, oT)]) (B := [(pb, .cells #[.string (bs s), nN ar1] 87)]) (C := L) H
   have hwl := word_le [41] s ar1 hatq1
   refine m_cl #[pN pb 0, .string (bs [41])] (some 79) (c92 (l := [41]) hatq1 hs (by show _ < _; simp only [List.length_cons, List.length_nil]; omega) (fun b hb => by simp at hb; subst hb; decide) H) ?_;rintro _ w1 ⟨rfl, H⟩
   generalize hwe1 : word [41] s ar1 = wr1 at H hwl hin ⊢
   obtain ⟨x1, aw1⟩ := wr1; simp only at H hwl hin ⊢
   have hatw1 : aw1 ≤ s.length := hwl
   have H : St Gq1 ((b2, cT q1 q1A q1c) :: (b1, oT) :: (pb, .cells #[.string (bs s), nN aw1] 87) :: L) w1 := St.swap (A := [(pb, .cells #[.string (bs s), nN aw1] 87)]) (B := [(b2, cT q1 q1A q1c), (b1, oT)]) H
   cases x1
   ·skip
    rw [if_pos rfl] at hin; simp only [o_j, p_j] at hin; obtain ⟨⟨rfl, rfl⟩, rfl⟩ := hin
    refine nx H ?_;refine r_z [(80, .bool true), (81, .bool true)] ?_;refine W_cT ?_;refine W_sr [(.l, 0), (.f, 1), (.p, 2)] H ?_;refine r_s [3] [(.l, 0)] [(82, (aT q1 q1A q1c))] (rc_l 0 0 rfl rfl (rc_l 0 1 rfl rfl (rc_l 0 2 rfl rfl rc_nil))) ?_;refine s_1 [(0, iN q1.kind), (1, iN q1.num), (2, .slice q1A q1.kids.length q1c)] [iN q1.kind, iN q1.num, .slice q1A q1.kids.length q1c] none H (fun w1 H => ?_);refine r_z [(7, .bool false)] ?_;refine W_ret ?_;refine q_rt [iN q1.kind, iN q1.num, .slice q1A q1.kids.length q1c] [(⟨b1, 0, none⟩, iN q1.kind), (⟨b1, 1, none⟩, iN q1.num), (⟨b1, 2, none⟩, .slice q1A q1.kids.length q1c)] (.tuple #[.agg #[iN q1.kind, iN q1.num, .slice q1A q1.kids.length q1c], .bool false]) (rc_L 1 rfl rfl (rc_L 1 rfl rfl (rc_L 1 rfl rfl rc_nil))) H ?_
    exact ⟨Gq1, _, _, rfl, hGq1, hP, hatw1, hq1k, H.drop [_, _]⟩
   rw [if_neg (by simp)] at hin;refine nx H ?_;refine r_z [(80, .bool false), (81, .bool false)] ?_;refine W_cF ?_;refine W_skip ?_;refine W_rg [(.p, 0)] H ?_;refine r_z [(9, .bool true)] ?_
   exact ⟨q1, q1A, q1c, Gq1, aw1, b2, b1, true, ⟨e_, e_, e_, e_, e_, e_, trivial⟩, rfl, H, hGq1, hP, hatw1, hq1k, hin⟩
  rw [if_neg (u8_not hc6)] at hin;refine W_sr [(.p, 0), (.p, 1), (.p, 2), (.p, 3), (.p, 4), (.p, 5), (.p, 6), (.p, 7), (.p, 8), (.p, 9), (.p, 10), (.p, 11), (.p, 12), (.p, 13)] H ?_;refine r_y [(.p, 0), (.p, 1), (.p, 2)] [(84, .int .u8 (((ch1.toNat : Nat) : Int))), (85, .bool ((((ch1.toNat : Nat) : Int)) == 97)), (86, .bool ((((ch1.toNat : Nat) : Int)) == 97))] ?_
  rcases Bool.eq_false_or_eq_true ((((ch1.toNat : Nat) : Int)) == 97) with hc8 | hc8
  ·rw [hc8]
   have h97 : (ch1 = 97) := u8_of hc8
   refine r_y [(.p, 3), (.p, 4), (.p, 5), (.p, 6)] [(87, iN n), (88, .bool (decide (n < 26))), (89, .bool (decide (n < 26))), (90, .bool (decide (n < 26)))] ?_
   rcases Bool.eq_false_or_eq_true (decide (n < 26)) with hc9 | hc9
   ·rw [hc9]
    have hn26 : (n < 26) := of_decide_eq_true hc9
    refine r_y [(.p, 7), (.p, 8), (.p, 9)] [(91, iN n), (92, .bool (n == 0)), (93, .bool (n == 0))] ?_
    rcases Bool.eq_false_or_eq_true (n == 0) with hc10 | hc10
    ·rw [hc10]
     have hnz : (n = 0) := by simpa using hc10
     refine r_z [(94, undef), (95, .bool true), (96, .bool true), (83, .bool true)] ?_;refine W_cT ?_;refine W_seq ?_;rw [if_pos (show ch1 = 97 ∧ n < 26 ∧ (n = 0 ∨ s[at_ + 1]? = some 108) from ⟨h97, hn26, .inl hnz⟩)] at hin;refine W_rg [(.p, 0), (.p, 1), (.p, 2), (.f, 3), (.p, 4), (.p, 5), (.f, 6), (.p, 7)] H ?_;refine r_y [(.p, 0), (.p, 1), (.p, 2)] [(97, pN pb 0), (98, iN n), (99, .bool inner)] ?_;have H := St.swap (A := [(b2, oT), (b1, oT)]) (B := [(pb, .cells #[.string (bs s), nN at_] 87)]) (C := L) H;refine m_cl #[pN pb 0, iN n, .bool inner] (some 100) (c93 (fun g hg => ih g (by omega)) hat hs hn0 hn26 H hin) ?_;rintro _ w1 ⟨Gq0, qA, qc, rfl, hGq0, hP, hatq, hkq, H⟩
     have H : St Gq0 ((b2, oT) :: (b1, oT) :: (pb, .cells #[.string (bs s), nN at2] 87) :: L) w1 := St.swap (A := [(pb, .cells #[.string (bs s), nN at2] 87)]) (B := [(b2, oT), (b1, oT)]) H
     refine nx H ?_;refine r_y [(.p, 4), (.p, 5)] [(101, (aT t qA qc)), (102, .bool b0)] ?_;refine s_1 [(0, iN t.kind), (1, iN t.num), (2, .slice qA t.kids.length qc)] [iN t.kind, iN t.num, .slice qA t.kids.length qc] none H (fun w1 H => ?_);refine r_z [(7, .bool b0)] ?_;refine W_ret ?_;refine q_rt [iN t.kind, iN t.num, .slice qA t.kids.length qc] [(⟨b1, 0, none⟩, iN t.kind), (⟨b1, 1, none⟩, iN t.num), (⟨b1, 2, none⟩, .slice qA t.kids.length qc)] (.tuple #[.agg #[iN t.kind, iN t.num, .slice qA t.kids.length qc], .bool b0]) (rc_L 1 rfl rfl (rc_L 1 rfl rfl (rc_L 1 rfl rfl rc_nil))) H ?_
     exact ⟨Gq0, _, _, rfl, hGq0, hP, hatq, hkq, H.drop [_, _]⟩
    rw [hc10]
    have hnz : ¬(n = 0) := by simpa using hc10
    refine r_z [(94, .bool second), (95, .bool second), (96, .bool second), (83, .bool second)] ?_;refine W_cd (b := second) (fun hc11 => ?_) (fun hc11 => ?_)
    ·skip
     refine W_seq ?_;rw [if_pos (show ch1 = 97 ∧ n < 26 ∧ (n = 0 ∨ s[at_ + 1]? = some 108) from ⟨h97, hn26, .inr (hsec.1 hc11)⟩)] at hin;refine W_rg [(.p, 0), (.p, 1), (.p, 2), (.f, 3), (.p, 4), (.p, 5), (.f, 6), (.p, 7)] H ?_;refine r_y [(.p, 0), (.p, 1), (.p, 2)] [(97, pN pb 0), (98, iN n), (99, .bool inner)] ?_;have H := St.swap (A := [(b2, oT), (b1, oT)]) (B := [(pb, .cells #[.string (bs s), nN at_] 87)]) (C := L) H;refine m_cl #[pN pb 0, iN n, .bool inner] (some 100) (c93 (fun g hg => ih g (by omega)) hat hs hn0 hn26 H hin) ?_;rintro _ w1 ⟨Gq0, qA, qc, rfl, hGq0, hP, hatq, hkq, H⟩
     have H : St Gq0 ((b2, oT) :: (b1, oT) :: (pb, .cells #[.string (bs s), nN at2] 87) :: L) w1 := St.swap (A := [(pb, .cells #[.string (bs s), nN at2] 87)]) (B := [(b2, oT), (b1, oT)]) H
     refine nx H ?_;refine r_y [(.p, 4), (.p, 5)] [(101, (aT t qA qc)), (102, .bool b0)] ?_;refine s_1 [(0, iN t.kind), (1, iN t.num), (2, .slice qA t.kids.length qc)] [iN t.kind, iN t.num, .slice qA t.kids.length qc] none H (fun w1 H => ?_);refine r_z [(7, .bool b0)] ?_;refine W_ret ?_;refine q_rt [iN t.kind, iN t.num, .slice qA t.kids.length qc] [(⟨b1, 0, none⟩, iN t.kind), (⟨b1, 1, none⟩, iN t.num), (⟨b1, 2, none⟩, .slice qA t.kids.length qc)] (.tuple #[.agg #[iN t.kind, iN t.num, .slice qA t.kids.length qc], .bool b0]) (rc_L 1 rfl rfl (rc_L 1 rfl rfl (rc_L 1 rfl rfl rc_nil))) H ?_
     exact ⟨Gq0, _, _, rfl, hGq0, hP, hatq, hkq, H.drop [_, _]⟩
    refine W_seq ?_;rw [if_neg (show ¬ (ch1 = 97 ∧ n < 26 ∧ (n = 0 ∨ s[at_ + 1]? = some 108)) from fun hx => hx.2.2.elim hnz (fun h2 => by rw [hsec.2 h2] at hc11; cases hc11))] at hin;refine W_rg [(.p, 0), (.p, 1), (.p, 2), (.p, 3), (.p, 4), (.p, 5), (.p, 6), (.p, 7), (.p, 8), (.p, 9)] H ?_;refine r_y [(.p, 0), (.p, 1), (.p, 2)] [(104, .int .u8 (((ch1.toNat : Nat) : Int))), (105, .bool (decide ((((ch1.toNat : Nat) : Int)) ≥ 97))), (106, .bool (decide ((((ch1.toNat : Nat) : Int)) ≥ 97)))] ?_
    rcases Bool.eq_false_or_eq_true (decide ((((ch1.toNat : Nat) : Int)) ≥ 97)) with hc12 | hc12
    ·rw [hc12]
     have hge : (97 ≤ ch1.toNat) := by have := of_decide_eq_true hc12; omega
     refine r_z [(107, .int .u8 (((ch1.toNat : Nat) : Int))), (108, .int .u8 (IntKind.wrap .u8 ((((ch1.toNat : Nat) : Int)) - 97))), (109, iN (IntKind.wrap .i64 (IntKind.wrap .u8 ((((ch1.toNat : Nat) : Int)) - 97)))), (110, iN n), (111, .bool (decide ((IntKind.wrap .i64 (IntKind.wrap .u8 ((((ch1.toNat : Nat) : Int)) - 97))) < n))), (112, .bool (decide ((IntKind.wrap .i64 (IntKind.wrap .u8 ((((ch1.toNat : Nat) : Int)) - 97))) < n))), (103, .bool (decide ((IntKind.wrap .i64 (IntKind.wrap .u8 ((((ch1.toNat : Nat) : Int)) - 97))) < n)))] ?_;refine W_cd (b := decide ((IntKind.wrap .i64 (IntKind.wrap .u8 ((((ch1.toNat : Nat) : Int)) - 97))) < n)) (fun hc13 => ?_) (fun hc13 => ?_)
     ·skip
      rw [u8_sub hge] at hc13
      have hvn : ((((ch1 - 97).toNat : Nat) : Int) < n) := of_decide_eq_true hc13
      refine W_seq ?_;rw [if_pos ⟨UInt8.le_iff_toNat_le.2 hge, hvn⟩] at hin;refine W_rg [(.p, 0), (.p, 1), (.p, 2), (.p, 3), (.p, 4), (.p, 5), (.p, 6), (.f, 7)] H ?_;refine r_y [(.p, 0), (.p, 1), (.p, 2), (.p, 3), (.p, 4), (.p, 5), (.p, 6)] [(113, iN n), (114, iN (IntKind.wrap .i64 (n - 1))), (115, .int .u8 (((ch1.toNat : Nat) : Int))), (116, .int .u8 (IntKind.wrap .u8 ((((ch1.toNat : Nat) : Int)) - 97))), (117, iN (IntKind.wrap .i64 (IntKind.wrap .u8 ((((ch1.toNat : Nat) : Int)) - 97)))), (118, iN (IntKind.wrap .i64 ((IntKind.wrap .i64 (n - 1)) - (IntKind.wrap .i64 (IntKind.wrap .u8 ((((ch1.toNat : Nat) : Int)) - 97)))))), (119, .agg #[iN 1, iN (IntKind.wrap .i64 ((IntKind.wrap .i64 (n - 1)) - (IntKind.wrap .i64 (IntKind.wrap .u8 ((((ch1.toNat : Nat) : Int)) - 97))))), .slice none 0 0])] ?_;refine s_0 [(0, iN 1), (1, iN (IntKind.wrap .i64 ((IntKind.wrap .i64 (n - 1)) - (IntKind.wrap .i64 (IntKind.wrap .u8 ((((ch1.toNat : Nat) : Int)) - 97)))))), (2, .slice none 0 0)] [iN 1, iN (IntKind.wrap .i64 ((IntKind.wrap .i64 (n - 1)) - (IntKind.wrap .i64 (IntKind.wrap .u8 ((((ch1.toNat : Nat) : Int)) - 97))))), .slice none 0 0] none H (fun w1 H => ?_);refine r_nil ?_;refine W_rg [(.p, 0), (.p, 1), (.p, 2), (.l, 3), (.p, 4), (.p, 5), (.p, 6), (.f, 7)] H ?_;refine r_s [1] [(.p, 0), (.p, 1), (.p, 2), (.l, 3), (.p, 4), (.p, 5), (.p, 6)] [(120, pN pb 0), (121, pN pb 0), (122, pN pb 1), (123, nN at_), (124, iN (IntKind.wrap .i64 ((((at_ : Nat) : Int)) + 1))), (125, pN pb 0), (126, pN pb 1)] (rc_l 2 1 rfl rfl rc_nil) ?_;refine s_2 [(1, iN (IntKind.wrap .i64 ((((at_ : Nat) : Int)) + 1)))] [.string (bs s), iN (IntKind.wrap .i64 ((((at_ : Nat) : Int)) + 1))] none H (fun w1 H => ?_);refine r_nil ?_
      have hati : at_ + 1 ≤ s.length := by
       rcases Nat.lt_or_ge at_ s.length with hx | hx
       ·exact hx
       exfalso; have : Md.next s at_ = 0 := by unfold Md.next; rw [List.getElem?_eq_none hx]; rfl
       rw [hch1] at this; subst this; first | contradiction | (simp at *; done) | omega
      rw [wrap_succ (by omega)] at H;rw [u8_sub hge] at H
      have H : St G ((b2, .cells #[iN 1, iN (w64 (w64 (n - 1) - (((ch1 - 97).toNat : Nat) : Int))), .slice none 0 0] 24) :: (b1, oT) :: (pb, .cells #[.string (bs s), nN (at_ + 1)] 87) :: L) w1 := H
      exact ⟨(.mk 1 (w64 (w64 (n - 1) - (((ch1 - 97).toNat : Nat) : Int))) []), none, 0, G, at_ + 1, b2, b1, false, ⟨e_, e_, e_, e_, e_, e_, trivial⟩, rfl, H, Le.refl _, IsPoly.mk (t := .mk 1 (w64 (w64 (n - 1) - (((ch1 - 97).toNat : Nat) : Int))) []) (Nat.le_refl _) IsPolys.nil, hati, (Nat.zero_le _), hin⟩
     rw [u8_sub hge] at hc13
     have hvn : ¬((((ch1 - 97).toNat : Nat) : Int) < n) := of_decide_eq_false hc13
     refine W_seq ?_
     rw [if_neg (show ¬ (ch1 ≥ 97 ∧ (((ch1 - 97).toNat : Nat) : Int) < n) from fun hx => hvn hx.2)] at hin; simp only [o_j, p_j] at hin; obtain ⟨⟨rfl, rfl⟩, rfl⟩ := hin
     have hP : IsPoly G (.agg #[.int .i64 0, .int .i64 0, .slice none 0 0]) t0 := IsPoly.mk (t := t0) (Nat.le_refl _) IsPolys.nil
     refine W_rg [(.l, 0), (.f, 1), (.p, 2)] H ?_;refine r_s [3] [(.l, 0)] [(41, .agg #[iN 0, iN 0, .slice none 0 0])] (rc_l 0 0 rfl rfl (rc_l 0 1 rfl rfl (rc_l 0 2 rfl rfl rc_nil))) ?_;refine s_1 [(0, iN 0), (1, iN 0), (2, .slice none 0 0)] [iN 0, iN 0, .slice none 0 0] none H (fun w1 H => ?_);refine r_z [(7, .bool false)] ?_;refine W_ret ?_;refine q_rt [iN 0, iN 0, .slice none 0 0] [(⟨b1, 0, none⟩, iN 0), (⟨b1, 1, none⟩, iN 0), (⟨b1, 2, none⟩, .slice none 0 0)] (.tuple #[.agg #[iN 0, iN 0, .slice none 0 0], .bool false]) (rc_L 1 rfl rfl (rc_L 1 rfl rfl (rc_L 1 rfl rfl rc_nil))) H ?_
     exact ⟨G, _, _, rfl, Le.refl _, hP, hat, (Nat.zero_le _), H.drop [_, _]⟩
    rw [hc12]
    have hge : ¬(97 ≤ ch1.toNat) := by have := of_decide_eq_false hc12; omega
    refine r_z (uD 107 5 [(112, .bool false), (103, .bool false)]) ?_;refine W_cF ?_;refine W_seq ?_
    rw [if_neg (show ¬ (ch1 ≥ 97 ∧ (((ch1 - 97).toNat : Nat) : Int) < n) from fun hx => hge (UInt8.le_iff_toNat_le.1 hx.1))] at hin; simp only [o_j, p_j] at hin; obtain ⟨⟨rfl, rfl⟩, rfl⟩ := hin
    have hP : IsPoly G (.agg #[.int .i64 0, .int .i64 0, .slice none 0 0]) t0 := IsPoly.mk (t := t0) (Nat.le_refl _) IsPolys.nil
    refine W_rg [(.l, 0), (.f, 1), (.p, 2)] H ?_;refine r_s [3] [(.l, 0)] [(41, .agg #[iN 0, iN 0, .slice none 0 0])] (rc_l 0 0 rfl rfl (rc_l 0 1 rfl rfl (rc_l 0 2 rfl rfl rc_nil))) ?_;refine s_1 [(0, iN 0), (1, iN 0), (2, .slice none 0 0)] [iN 0, iN 0, .slice none 0 0] none H (fun w1 H => ?_);refine r_z [(7, .bool false)] ?_;refine W_ret ?_;refine q_rt [iN 0, iN 0, .slice none 0 0] [(⟨b1, 0, none⟩, iN 0), (⟨b1, 1, none⟩, iN 0), (⟨b1, 2, none⟩, .slice none 0 0)] (.tuple #[.agg #[iN 0, iN 0, .slice none 0 0], .bool false]) (rc_L 1 rfl rfl (rc_L 1 rfl rfl (rc_L 1 rfl rfl rc_nil))) H ?_
    exact ⟨G, _, _, rfl, Le.refl _, hP, hat, (Nat.zero_le _), H.drop [_, _]⟩
   rw [hc9]
   have hn26 : ¬(n < 26) := of_decide_eq_false hc9
   refine r_z (uD 91 5 [(96, .bool false), (83, .bool false)]) ?_;refine W_cF ?_;refine W_seq ?_;rw [if_neg (show ¬ (ch1 = 97 ∧ n < 26 ∧ (n = 0 ∨ s[at_ + 1]? = some 108)) from fun hx => hn26 hx.2.1)] at hin;refine W_rg [(.p, 0), (.p, 1), (.p, 2), (.p, 3), (.p, 4), (.p, 5), (.p, 6), (.p, 7), (.p, 8), (.p, 9)] H ?_;refine r_y [(.p, 0), (.p, 1), (.p, 2)] [(104, .int .u8 (((ch1.toNat : Nat) : Int))), (105, .bool (decide ((((ch1.toNat : Nat) : Int)) ≥ 97))), (106, .bool (decide ((((ch1.toNat : Nat) : Int)) ≥ 97)))] ?_
   rcases Bool.eq_false_or_eq_true (decide ((((ch1.toNat : Nat) : Int)) ≥ 97)) with hc14 | hc14
   ·rw [hc14]
    have hge : (97 ≤ ch1.toNat) := by have := of_decide_eq_true hc14; omega
    refine r_z [(107, .int .u8 (((ch1.toNat : Nat) : Int))), (108, .int .u8 (IntKind.wrap .u8 ((((ch1.toNat : Nat) : Int)) - 97))), (109, iN (IntKind.wrap .i64 (IntKind.wrap .u8 ((((ch1.toNat : Nat) : Int)) - 97)))), (110, iN n), (111, .bool (decide ((IntKind.wrap .i64 (IntKind.wrap .u8 ((((ch1.toNat : Nat) : Int)) - 97))) < n))), (112, .bool (decide ((IntKind.wrap .i64 (IntKind.wrap .u8 ((((ch1.toNat : Nat) : Int)) - 97))) < n))), (103, .bool (decide ((IntKind.wrap .i64 (IntKind.wrap .u8 ((((ch1.toNat : Nat) : Int)) - 97))) < n)))] ?_;refine W_cd (b := decide ((IntKind.wrap .i64 (IntKind.wrap .u8 ((((ch1.toNat : Nat) : Int)) - 97))) < n)) (fun hc15 => ?_) (fun hc15 => ?_)
    ·skip
     rw [u8_sub hge] at hc15
     have hvn : ((((ch1 - 97).toNat : Nat) : Int) < n) := of_decide_eq_true hc15
     refine W_seq ?_;rw [if_pos ⟨UInt8.le_iff_toNat_le.2 hge, hvn⟩] at hin;refine W_rg [(.p, 0), (.p, 1), (.p, 2), (.p, 3), (.p, 4), (.p, 5), (.p, 6), (.f, 7)] H ?_;refine r_y [(.p, 0), (.p, 1), (.p, 2), (.p, 3), (.p, 4), (.p, 5), (.p, 6)] [(113, iN n), (114, iN (IntKind.wrap .i64 (n - 1))), (115, .int .u8 (((ch1.toNat : Nat) : Int))), (116, .int .u8 (IntKind.wrap .u8 ((((ch1.toNat : Nat) : Int)) - 97))), (117, iN (IntKind.wrap .i64 (IntKind.wrap .u8 ((((ch1.toNat : Nat) : Int)) - 97)))), (118, iN (IntKind.wrap .i64 ((IntKind.wrap .i64 (n - 1)) - (IntKind.wrap .i64 (IntKind.wrap .u8 ((((ch1.toNat : Nat) : Int)) - 97)))))), (119, .agg #[iN 1, iN (IntKind.wrap .i64 ((IntKind.wrap .i64 (n - 1)) - (IntKind.wrap .i64 (IntKind.wrap .u8 ((((ch1.toNat : Nat) : Int)) - 97))))), .slice none 0 0])] ?_;refine s_0 [(0, iN 1), (1, iN (IntKind.wrap .i64 ((IntKind.wrap .i64 (n - 1)) - (IntKind.wrap .i64 (IntKind.wrap .u8 ((((ch1.toNat : Nat) : Int)) - 97)))))), (2, .slice none 0 0)] [iN 1, iN (IntKind.wrap .i64 ((IntKind.wrap .i64 (n - 1)) - (IntKind.wrap .i64 (IntKind.wrap .u8 ((((ch1.toNat : Nat) : Int)) - 97))))), .slice none 0 0] none H (fun w1 H => ?_);refine r_nil ?_;refine W_rg [(.p, 0), (.p, 1), (.p, 2), (.l, 3), (.p, 4), (.p, 5), (.p, 6), (.f, 7)] H ?_;refine r_s [1] [(.p, 0), (.p, 1), (.p, 2), (.l, 3), (.p, 4), (.p, 5), (.p, 6)] [(120, pN pb 0), (121, pN pb 0), (122, pN pb 1), (123, nN at_), (124, iN (IntKind.wrap .i64 ((((at_ : Nat) : Int)) + 1))), (125, pN pb 0), (126, pN pb 1)] (rc_l 2 1 rfl rfl rc_nil) ?_;refine s_2 [(1, iN (IntKind.wrap .i64 ((((at_ : Nat) : Int)) + 1)))] [.string (bs s), iN (IntKind.wrap .i64 ((((at_ : Nat) : Int)) + 1))] none H (fun w1 H => ?_);refine r_nil ?_
     have hati : at_ + 1 ≤ s.length := by
      rcases Nat.lt_or_ge at_ s.length with hx | hx
      ·exact hx
      exfalso; have : Md.next s at_ = 0 := by unfold Md.next; rw [List.getElem?_eq_none hx]; rfl
      rw [hch1] at this; subst this; first | contradiction | (simp at *; done) | omega
     rw [wrap_succ (by omega)] at H;rw [u8_sub hge] at H
     have H : St G ((b2, .cells #[iN 1, iN (w64 (w64 (n - 1) - (((ch1 - 97).toNat : Nat) : Int))), .slice none 0 0] 24) :: (b1, oT) :: (pb, .cells #[.string (bs s), nN (at_ + 1)] 87) :: L) w1 := H
     exact ⟨(.mk 1 (w64 (w64 (n - 1) - (((ch1 - 97).toNat : Nat) : Int))) []), none, 0, G, at_ + 1, b2, b1, false, ⟨e_, e_, e_, e_, e_, e_, trivial⟩, rfl, H, Le.refl _, IsPoly.mk (t := .mk 1 (w64 (w64 (n - 1) - (((ch1 - 97).toNat : Nat) : Int))) []) (Nat.le_refl _) IsPolys.nil, hati, (Nat.zero_le _), hin⟩
    rw [u8_sub hge] at hc15
    have hvn : ¬((((ch1 - 97).toNat : Nat) : Int) < n) := of_decide_eq_false hc15
    refine W_seq ?_
    rw [if_neg (show ¬ (ch1 ≥ 97 ∧ (((ch1 - 97).toNat : Nat) : Int) < n) from fun hx => hvn hx.2)] at hin; simp only [o_j, p_j] at hin; obtain ⟨⟨rfl, rfl⟩, rfl⟩ := hin
    have hP : IsPoly G (.agg #[.int .i64 0, .int .i64 0, .slice none 0 0]) t0 := IsPoly.mk (t := t0) (Nat.le_refl _) IsPolys.nil
    refine W_rg [(.l, 0), (.f, 1), (.p, 2)] H ?_;refine r_s [3] [(.l, 0)] [(41, .agg #[iN 0, iN 0, .slice none 0 0])] (rc_l 0 0 rfl rfl (rc_l 0 1 rfl rfl (rc_l 0 2 rfl rfl rc_nil))) ?_;refine s_1 [(0, iN 0), (1, iN 0), (2, .slice none 0 0)] [iN 0, iN 0, .slice none 0 0] none H (fun w1 H => ?_);refine r_z [(7, .bool false)] ?_;refine W_ret ?_;refine q_rt [iN 0, iN 0, .slice none 0 0] [(⟨b1, 0, none⟩, iN 0), (⟨b1, 1, none⟩, iN 0), (⟨b1, 2, none⟩, .slice none 0 0)] (.tuple #[.agg #[iN 0, iN 0, .slice none 0 0], .bool false]) (rc_L 1 rfl rfl (rc_L 1 rfl rfl (rc_L 1 rfl rfl rc_nil))) H ?_
    exact ⟨G, _, _, rfl, Le.refl _, hP, hat, (Nat.zero_le _), H.drop [_, _]⟩
   rw [hc14]
   have hge : ¬(97 ≤ ch1.toNat) := by have := of_decide_eq_false hc14; omega
   refine r_z (uD 107 5 [(112, .bool false), (103, .bool false)]) ?_;refine W_cF ?_;refine W_seq ?_
   rw [if_neg (show ¬ (ch1 ≥ 97 ∧ (((ch1 - 97).toNat : Nat) : Int) < n) from fun hx => hge (UInt8.le_iff_toNat_le.1 hx.1))] at hin; simp only [o_j, p_j] at hin; obtain ⟨⟨rfl, rfl⟩, rfl⟩ := hin
   have hP : IsPoly G (.agg #[.int .i64 0, .int .i64 0, .slice none 0 0]) t0 := IsPoly.mk (t := t0) (Nat.le_refl _) IsPolys.nil
   refine W_rg [(.l, 0), (.f, 1), (.p, 2)] H ?_;refine r_s [3] [(.l, 0)] [(41, .agg #[iN 0, iN 0, .slice none 0 0])] (rc_l 0 0 rfl rfl (rc_l 0 1 rfl rfl (rc_l 0 2 rfl rfl rc_nil))) ?_;refine s_1 [(0, iN 0), (1, iN 0), (2, .slice none 0 0)] [iN 0, iN 0, .slice none 0 0] none H (fun w1 H => ?_);refine r_z [(7, .bool false)] ?_;refine W_ret ?_;refine q_rt [iN 0, iN 0, .slice none 0 0] [(⟨b1, 0, none⟩, iN 0), (⟨b1, 1, none⟩, iN 0), (⟨b1, 2, none⟩, .slice none 0 0)] (.tuple #[.agg #[iN 0, iN 0, .slice none 0 0], .bool false]) (rc_L 1 rfl rfl (rc_L 1 rfl rfl (rc_L 1 rfl rfl rc_nil))) H ?_
   exact ⟨G, _, _, rfl, Le.refl _, hP, hat, (Nat.zero_le _), H.drop [_, _]⟩
  rw [hc8]
  have h97 : ¬(ch1 = 97) := u8_not hc8
  refine r_z (uD 87 2 [(89, .bool false), (90, .bool false), (91, undef), (92, undef), (93, undef), (94, undef), (95, undef), (96, .bool false), (83, .bool false)]) ?_;refine W_cF ?_;refine W_seq ?_;rw [if_neg (show ¬ (ch1 = 97 ∧ n < 26 ∧ (n = 0 ∨ s[at_ + 1]? = some 108)) from fun hx => h97 hx.1)] at hin;refine W_rg [(.p, 0), (.p, 1), (.p, 2), (.p, 3), (.p, 4), (.p, 5), (.p, 6), (.p, 7), (.p, 8), (.p, 9)] H ?_;refine r_y [(.p, 0), (.p, 1), (.p, 2)] [(104, .int .u8 (((ch1.toNat : Nat) : Int))), (105, .bool (decide ((((ch1.toNat : Nat) : Int)) ≥ 97))), (106, .bool (decide ((((ch1.toNat : Nat) : Int)) ≥ 97)))] ?_
  rcases Bool.eq_false_or_eq_true (decide ((((ch1.toNat : Nat) : Int)) ≥ 97)) with hc16 | hc16
  ·rw [hc16]
   have hge : (97 ≤ ch1.toNat) := by have := of_decide_eq_true hc16; omega
   refine r_z [(107, .int .u8 (((ch1.toNat : Nat) : Int))), (108, .int .u8 (IntKind.wrap .u8 ((((ch1.toNat : Nat) : Int)) - 97))), (109, iN (IntKind.wrap .i64 (IntKind.wrap .u8 ((((ch1.toNat : Nat) : Int)) - 97)))), (110, iN n), (111, .bool (decide ((IntKind.wrap .i64 (IntKind.wrap .u8 ((((ch1.toNat : Nat) : Int)) - 97))) < n))), (112, .bool (decide ((IntKind.wrap .i64 (IntKind.wrap .u8 ((((ch1.toNat : Nat) : Int)) - 97))) < n))), (103, .bool (decide ((IntKind.wrap .i64 (IntKind.wrap .u8 ((((ch1.toNat : Nat) : Int)) - 97))) < n)))] ?_;refine W_cd (b := decide ((IntKind.wrap .i64 (IntKind.wrap .u8 ((((ch1.toNat : Nat) : Int)) - 97))) < n)) (fun hc17 => ?_) (fun hc17 => ?_)
   ·skip
    rw [u8_sub hge] at hc17
    have hvn : ((((ch1 - 97).toNat : Nat) : Int) < n) := of_decide_eq_true hc17
    refine W_seq ?_;rw [if_pos ⟨UInt8.le_iff_toNat_le.2 hge, hvn⟩] at hin;refine W_rg [(.p, 0), (.p, 1), (.p, 2), (.p, 3), (.p, 4), (.p, 5), (.p, 6), (.f, 7)] H ?_;refine r_y [(.p, 0), (.p, 1), (.p, 2), (.p, 3), (.p, 4), (.p, 5), (.p, 6)] [(113, iN n), (114, iN (IntKind.wrap .i64 (n - 1))), (115, .int .u8 (((ch1.toNat : Nat) : Int))), (116, .int .u8 (IntKind.wrap .u8 ((((ch1.toNat : Nat) : Int)) - 97))), (117, iN (IntKind.wrap .i64 (IntKind.wrap .u8 ((((ch1.toNat : Nat) : Int)) - 97)))), (118, iN (IntKind.wrap .i64 ((IntKind.wrap .i64 (n - 1)) - (IntKind.wrap .i64 (IntKind.wrap .u8 ((((ch1.toNat : Nat) : Int)) - 97)))))), (119, .agg #[iN 1, iN (IntKind.wrap .i64 ((IntKind.wrap .i64 (n - 1)) - (IntKind.wrap .i64 (IntKind.wrap .u8 ((((ch1.toNat : Nat) : Int)) - 97))))), .slice none 0 0])] ?_;refine s_0 [(0, iN 1), (1, iN (IntKind.wrap .i64 ((IntKind.wrap .i64 (n - 1)) - (IntKind.wrap .i64 (IntKind.wrap .u8 ((((ch1.toNat : Nat) : Int)) - 97)))))), (2, .slice none 0 0)] [iN 1, iN (IntKind.wrap .i64 ((IntKind.wrap .i64 (n - 1)) - (IntKind.wrap .i64 (IntKind.wrap .u8 ((((ch1.toNat : Nat) : Int)) - 97))))), .slice none 0 0] none H (fun w1 H => ?_);refine r_nil ?_;refine W_rg [(.p, 0), (.p, 1), (.p, 2), (.l, 3), (.p, 4), (.p, 5), (.p, 6), (.f, 7)] H ?_;refine r_s [1] [(.p, 0), (.p, 1), (.p, 2), (.l, 3), (.p, 4), (.p, 5), (.p, 6)] [(120, pN pb 0), (121, pN pb 0), (122, pN pb 1), (123, nN at_), (124, iN (IntKind.wrap .i64 ((((at_ : Nat) : Int)) + 1))), (125, pN pb 0), (126, pN pb 1)] (rc_l 2 1 rfl rfl rc_nil) ?_;refine s_2 [(1, iN (IntKind.wrap .i64 ((((at_ : Nat) : Int)) + 1)))] [.string (bs s), iN (IntKind.wrap .i64 ((((at_ : Nat) : Int)) + 1))] none H (fun w1 H => ?_);refine r_nil ?_
    have hati : at_ + 1 ≤ s.length := by
     rcases Nat.lt_or_ge at_ s.length with hx | hx
     ·exact hx
     exfalso; have : Md.next s at_ = 0 := by unfold Md.next; rw [List.getElem?_eq_none hx]; rfl
     rw [hch1] at this; subst this; first | contradiction | (simp at *; done) | omega
    rw [wrap_succ (by omega)] at H;rw [u8_sub hge] at H
    have H : St G ((b2, .cells #[iN 1, iN (w64 (w64 (n - 1) - (((ch1 - 97).toNat : Nat) : Int))), .slice none 0 0] 24) :: (b1, oT) :: (pb, .cells #[.string (bs s), nN (at_ + 1)] 87) :: L) w1 := H
    exact ⟨(.mk 1 (w64 (w64 (n - 1) - (((ch1 - 97).toNat : Nat) : Int))) []), none, 0, G, at_ + 1, b2, b1, false, ⟨e_, e_, e_, e_, e_, e_, trivial⟩, rfl, H, Le.refl _, IsPoly.mk (t := .mk 1 (w64 (w64 (n - 1) - (((ch1 - 97).toNat : Nat) : Int))) []) (Nat.le_refl _) IsPolys.nil, hati, (Nat.zero_le _), hin⟩
   rw [u8_sub hge] at hc17
   have hvn : ¬((((ch1 - 97).toNat : Nat) : Int) < n) := of_decide_eq_false hc17
   refine W_seq ?_
   rw [if_neg (show ¬ (ch1 ≥ 97 ∧ (((ch1 - 97).toNat : Nat) : Int) < n) from fun hx => hvn hx.2)] at hin; simp only [o_j, p_j] at hin; obtain ⟨⟨rfl, rfl⟩, rfl⟩ := hin
   have hP : IsPoly G (.agg #[.int .i64 0, .int .i64 0, .slice none 0 0]) t0 := IsPoly.mk (t := t0) (Nat.le_refl _) IsPolys.nil
   refine W_rg [(.l, 0), (.f, 1), (.p, 2)] H ?_;refine r_s [3] [(.l, 0)] [(41, .agg #[iN 0, iN 0, .slice none 0 0])] (rc_l 0 0 rfl rfl (rc_l 0 1 rfl rfl (rc_l 0 2 rfl rfl rc_nil))) ?_;refine s_1 [(0, iN 0), (1, iN 0), (2, .slice none 0 0)] [iN 0, iN 0, .slice none 0 0] none H (fun w1 H => ?_);refine r_z [(7, .bool false)] ?_;refine W_ret ?_;refine q_rt [iN 0, iN 0, .slice none 0 0] [(⟨b1, 0, none⟩, iN 0), (⟨b1, 1, none⟩, iN 0), (⟨b1, 2, none⟩, .slice none 0 0)] (.tuple #[.agg #[iN 0, iN 0, .slice none 0 0], .bool false]) (rc_L 1 rfl rfl (rc_L 1 rfl rfl (rc_L 1 rfl rfl rc_nil))) H ?_
   exact ⟨G, _, _, rfl, Le.refl _, hP, hat, (Nat.zero_le _), H.drop [_, _]⟩
  rw [hc16]
  have hge : ¬(97 ≤ ch1.toNat) := by have := of_decide_eq_false hc16; omega
  refine r_z (uD 107 5 [(112, .bool false), (103, .bool false)]) ?_;refine W_cF ?_;refine W_seq ?_
  rw [if_neg (show ¬ (ch1 ≥ 97 ∧ (((ch1 - 97).toNat : Nat) : Int) < n) from fun hx => hge (UInt8.le_iff_toNat_le.1 hx.1))] at hin; simp only [o_j, p_j] at hin; obtain ⟨⟨rfl, rfl⟩, rfl⟩ := hin
  have hP : IsPoly G (.agg #[.int .i64 0, .int .i64 0, .slice none 0 0]) t0 := IsPoly.mk (t := t0) (Nat.le_refl _) IsPolys.nil
  refine W_rg [(.l, 0), (.f, 1), (.p, 2)] H ?_;refine r_s [3] [(.l, 0)] [(41, .agg #[iN 0, iN 0, .slice none 0 0])] (rc_l 0 0 rfl rfl (rc_l 0 1 rfl rfl (rc_l 0 2 rfl rfl rc_nil))) ?_;refine s_1 [(0, iN 0), (1, iN 0), (2, .slice none 0 0)] [iN 0, iN 0, .slice none 0 0] none H (fun w1 H => ?_);refine r_z [(7, .bool false)] ?_;refine W_ret ?_;refine q_rt [iN 0, iN 0, .slice none 0 0] [(⟨b1, 0, none⟩, iN 0), (⟨b1, 1, none⟩, iN 0), (⟨b1, 2, none⟩, .slice none 0 0)] (.tuple #[.agg #[iN 0, iN 0, .slice none 0 0], .bool false]) (rc_L 1 rfl rfl (rc_L 1 rfl rfl (rc_L 1 rfl rfl rc_nil))) H ?_
  exact ⟨G, _, _, rfl, Le.refl _, hP, hat, (Nat.zero_le _), H.drop [_, _]⟩
 clear H; rintro ρ D w1 ⟨tp, tA, tc, GJ, aj, bt, br, must, hE18, rfl, H, hGJ, hP, hatj, hkj, hin⟩
 refine W_env hE18 ?_
 obtain _ | f := f
 ·cases hin
 unfold Md.rest at hin
 refine W_seqI (fun ρ D w => ∃ (tp : T) (tA : Option Addr) (tc : Nat) (GJ : GH) (aj : Nat) (bt : Nat) (br : Nat), EqS ρ [(0, pN pb 0), (1, iN n), (2, .bool inner), (6, pN br 0), (8, pN bt 0)] ∧ D = [] ∧ St GJ ((bt, cT tp tA tc) :: (br, oT) :: (pb, .cells #[.string (bs s), iN (((aj : Nat) : Int))] 87) :: L) w ∧ (Le G GJ) ∧ (IsPoly GJ (aT tp tA tc) tp) ∧ (aj ≤ s.length) ∧ (tp.kids.length ≤ 2) ∧ ((if (word [32, 45, 62, 32] s aj).1 = false then some ((tp, false), (word [32, 45, 62, 32] s aj).2) else (Md.typ f s (word [32, 45, 62, 32] s aj).2 n inner).bind fun q => some ((.mk 3 0 [tp, q.1.1], q.1.2), q.2)) = some ((t, b0), at2))) ?_ ?_
 ·skip
  cases must
  ·skip
   cases inner
   ·skip
    refine W_seq ?_;refine W_rgd [(.p, 0), (.p, 1), (.p, 2), (.p, 3), (.p, 4), (.p, 5), (.l, 6), (.p, 7), (.p, 8), (.p, 9), (.l, 10), (.p, 11), (.p, 12), (.p, 13), (.p, 14), (.p, 15), (.p, 16), (.p, 17), (.p, 18), (.p, 19), (.p, 20), (.f, 21), (.p, 22), (.p, 23), (.p, 24), (.p, 25)] H (fun w1 H => ?_);refine r_s [1, 1] [(.p, 0), (.p, 1), (.p, 2), (.p, 3), (.p, 4), (.p, 5), (.l, 6), (.p, 7), (.p, 8), (.p, 9), (.l, 10), (.p, 11), (.p, 12), (.p, 13)] [(127, .bool false), (128, .bool true), (129, .bool true), (130, pN pb 0), (131, pN pb 0), (132, pN pb 1), (133, nN aj), (134, pN pb 0), (135, pN pb 0), (136, pN pb 0), (137, .string (bs s)), (138, nN s.length), (139, .bool ((((aj : Nat) : Int)) == (((s.length : Nat) : Int)))), (140, .bool ((((aj : Nat) : Int)) == (((s.length : Nat) : Int))))] (rc_l 2 1 rfl rfl (rc_l 2 0 rfl rfl rc_nil)) ?_
    rcases Bool.eq_false_or_eq_true ((((aj : Nat) : Int)) == (((s.length : Nat) : Int))) with hc19 | hc19
    ·rw [hc19]
     have hae : (aj = s.length) := by have := hc19; simp at this; omega
     refine r_z [(141, .bool false), (142, .bool true), (143, .bool true), (144, .bool true), (145, undef), (146, undef), (147, undef), (148, undef), (149, undef), (150, undef), (151, .bool true), (152, .bool true)] ?_;refine W_cT ?_;refine W_seq ?_
     rw [if_pos ⟨rfl, .inl ⟨hae, rfl⟩⟩] at hin; simp only [o_j, p_j] at hin; obtain ⟨⟨rfl, rfl⟩, rfl⟩ := hin
     refine W_rg [(.l, 0), (.f, 1), (.p, 2)] H ?_;refine r_s [3] [(.l, 0)] [(153, (aT tp tA tc))] (rc_l 0 0 rfl rfl (rc_l 0 1 rfl rfl (rc_l 0 2 rfl rfl rc_nil))) ?_;refine s_1 [(0, iN tp.kind), (1, iN tp.num), (2, .slice tA tp.kids.length tc)] [iN tp.kind, iN tp.num, .slice tA tp.kids.length tc] none H (fun w1 H => ?_);refine r_z [(7, .bool true)] ?_;refine W_ret ?_;refine q_rt [iN tp.kind, iN tp.num, .slice tA tp.kids.length tc] [(⟨br, 0, none⟩, iN tp.kind), (⟨br, 1, none⟩, iN tp.num), (⟨br, 2, none⟩, .slice tA tp.kids.length tc)] (.tuple #[.agg #[iN tp.kind, iN tp.num, .slice tA tp.kids.length tc], .bool true]) (rc_L 1 rfl rfl (rc_L 1 rfl rfl (rc_L 1 rfl rfl rc_nil))) H ?_
     exact ⟨GJ, _, _, rfl, hGJ, hP, hatj, hkj, H.drop [_, _]⟩
    rw [hc19]
    have hae : ¬(aj = s.length) := by have := hc19; simp at this; omega
    refine r_z (uD 141 2 [(143, .bool false), (144, .bool false), (145, .bool false), (146, .bool false), (147, undef), (148, undef), (149, undef), (150, .bool false), (151, .bool false), (152, .bool false)]) ?_;refine W_cF ?_;refine W_skip ?_;rw [if_neg (fun hx => hx.2.elim (fun h2 => hae h2.1) (fun h2 => by cases h2.1))] at hin
    exact ⟨tp, tA, tc, GJ, aj, bt, br, ⟨e_, e_, e_, e_, e_, trivial⟩, rfl, H, hGJ, hP, hatj, hkj, hin⟩
   refine W_seq ?_;refine W_rgd [(.p, 0), (.p, 1), (.p, 2), (.p, 3), (.p, 4), (.p, 5), (.l, 6), (.p, 7), (.p, 8), (.p, 9), (.l, 10), (.p, 11), (.p, 12), (.p, 13), (.p, 14), (.p, 15), (.p, 16), (.p, 17), (.p, 18), (.p, 19), (.p, 20), (.f, 21), (.p, 22), (.p, 23), (.p, 24), (.p, 25)] H (fun w1 H => ?_);refine r_s [1, 1] [(.p, 0), (.p, 1), (.p, 2), (.p, 3), (.p, 4), (.p, 5), (.l, 6), (.p, 7), (.p, 8), (.p, 9), (.l, 10), (.p, 11), (.p, 12), (.p, 13)] [(127, .bool false), (128, .bool true), (129, .bool true), (130, pN pb 0), (131, pN pb 0), (132, pN pb 1), (133, nN aj), (134, pN pb 0), (135, pN pb 0), (136, pN pb 0), (137, .string (bs s)), (138, nN s.length), (139, .bool ((((aj : Nat) : Int)) == (((s.length : Nat) : Int)))), (140, .bool ((((aj : Nat) : Int)) == (((s.length : Nat) : Int))))] (rc_l 2 1 rfl rfl (rc_l 2 0 rfl rfl rc_nil)) ?_
   rcases Bool.eq_false_or_eq_true ((((aj : Nat) : Int)) == (((s.length : Nat) : Int))) with hc20 | hc20
   ·rw [hc20]
    have hae : (aj = s.length) := by have := hc20; simp at this; omega
    refine r_y [(.p, 14), (.p, 15), (.p, 16), (.p, 17), (.p, 18), (.p, 19), (.p, 20)] [(141, .bool true), (142, .bool false), (143, .bool false), (144, .bool false), (145, .bool true), (146, .bool true), (147, pN pb 0)] ?_;have H := St.swap (A := [(bt, cT tp tA tc), (br, oT)]) (B := [(pb, .cells #[.string (bs s), nN aj] 87)]) (C := L) H;refine m_cl #[pN pb 0] (some 148) (c91 hatj hs H) ?_;rintro _ w1 ⟨rfl, H⟩
    have H : St GJ ((bt, cT tp tA tc) :: (br, oT) :: (pb, .cells #[.string (bs s), nN aj] 87) :: L) w1 := St.swap (A := [(pb, .cells #[.string (bs s), nN aj] 87)]) (B := [(bt, cT tp tA tc), (br, oT)]) H
    generalize hch2 : Md.next s aj = ch2 at hin ⊢
    refine nx H ?_;refine r_z [(149, .bool ((((ch2.toNat : Nat) : Int)) == 41)), (150, .bool ((((ch2.toNat : Nat) : Int)) == 41)), (151, .bool ((((ch2.toNat : Nat) : Int)) == 41)), (152, .bool ((((ch2.toNat : Nat) : Int)) == 41))] ?_;refine W_cd (b := (((ch2.toNat : Nat) : Int)) == 41) (fun hc21 => ?_) (fun hc21 => ?_)
    ·skip
     rw [if_pos ⟨rfl, .inr ⟨rfl, u8_of hc21⟩⟩] at hin; simp only [o_j, p_j] at hin; obtain ⟨⟨rfl, rfl⟩, rfl⟩ := hin
     refine W_sr [(.l, 0), (.f, 1), (.p, 2)] H ?_;refine r_s [3] [(.l, 0)] [(153, (aT tp tA tc))] (rc_l 0 0 rfl rfl (rc_l 0 1 rfl rfl (rc_l 0 2 rfl rfl rc_nil))) ?_;refine s_1 [(0, iN tp.kind), (1, iN tp.num), (2, .slice tA tp.kids.length tc)] [iN tp.kind, iN tp.num, .slice tA tp.kids.length tc] none H (fun w1 H => ?_);refine r_z [(7, .bool true)] ?_;refine W_ret ?_;refine q_rt [iN tp.kind, iN tp.num, .slice tA tp.kids.length tc] [(⟨br, 0, none⟩, iN tp.kind), (⟨br, 1, none⟩, iN tp.num), (⟨br, 2, none⟩, .slice tA tp.kids.length tc)] (.tuple #[.agg #[iN tp.kind, iN tp.num, .slice tA tp.kids.length tc], .bool true]) (rc_L 1 rfl rfl (rc_L 1 rfl rfl (rc_L 1 rfl rfl rc_nil))) H ?_
     exact ⟨GJ, _, _, rfl, hGJ, hP, hatj, hkj, H.drop [_, _]⟩
    rw [if_neg (fun hx => hx.2.elim (fun h2 => by cases h2.2) (fun h2 => u8_not hc21 h2.2))] at hin;refine W_skip ?_
    exact ⟨tp, tA, tc, GJ, aj, bt, br, ⟨e_, e_, e_, e_, e_, trivial⟩, rfl, H, hGJ, hP, hatj, hkj, hin⟩
   rw [hc20]
   have hae : ¬(aj = s.length) := by have := hc20; simp at this; omega
   refine r_y [(.p, 14), (.p, 15), (.p, 16), (.p, 17), (.p, 18), (.p, 19), (.p, 20)] [(141, undef), (142, undef), (143, .bool false), (144, .bool false), (145, .bool true), (146, .bool true), (147, pN pb 0)] ?_;have H := St.swap (A := [(bt, cT tp tA tc), (br, oT)]) (B := [(pb, .cells #[.string (bs s), nN aj] 87)]) (C := L) H;refine m_cl #[pN pb 0] (some 148) (c91 hatj hs H) ?_;rintro _ w1 ⟨rfl, H⟩
   have H : St GJ ((bt, cT tp tA tc) :: (br, oT) :: (pb, .cells #[.string (bs s), nN aj] 87) :: L) w1 := St.swap (A := [(pb, .cells #[.string (bs s), nN aj] 87)]) (B := [(bt, cT tp tA tc), (br, oT)]) H
   generalize hch3 : Md.next s aj = ch3 at hin ⊢
   refine nx H ?_;refine r_z [(149, .bool ((((ch3.toNat : Nat) : Int)) == 41)), (150, .bool ((((ch3.toNat : Nat) : Int)) == 41)), (151, .bool ((((ch3.toNat : Nat) : Int)) == 41)), (152, .bool ((((ch3.toNat : Nat) : Int)) == 41))] ?_;refine W_cd (b := (((ch3.toNat : Nat) : Int)) == 41) (fun hc22 => ?_) (fun hc22 => ?_)
   ·skip
    rw [if_pos ⟨rfl, .inr ⟨rfl, u8_of hc22⟩⟩] at hin; simp only [o_j, p_j] at hin; obtain ⟨⟨rfl, rfl⟩, rfl⟩ := hin
    refine W_sr [(.l, 0), (.f, 1), (.p, 2)] H ?_;refine r_s [3] [(.l, 0)] [(153, (aT tp tA tc))] (rc_l 0 0 rfl rfl (rc_l 0 1 rfl rfl (rc_l 0 2 rfl rfl rc_nil))) ?_;refine s_1 [(0, iN tp.kind), (1, iN tp.num), (2, .slice tA tp.kids.length tc)] [iN tp.kind, iN tp.num, .slice tA tp.kids.length tc] none H (fun w1 H => ?_);refine r_z [(7, .bool true)] ?_;refine W_ret ?_;refine q_rt [iN tp.kind, iN tp.num, .slice tA tp.kids.length tc] [(⟨br, 0, none⟩, iN tp.kind), (⟨br, 1, none⟩, iN tp.num), (⟨br, 2, none⟩, .slice tA tp.kids.length tc)] (.tuple #[.agg #[iN tp.kind, iN tp.num, .slice tA tp.kids.length tc], .bool true]) (rc_L 1 rfl rfl (rc_L 1 rfl rfl (rc_L 1 rfl rfl rc_nil))) H ?_
    exact ⟨GJ, _, _, rfl, hGJ, hP, hatj, hkj, H.drop [_, _]⟩
   rw [if_neg (fun hx => hx.2.elim (fun h2 => by cases h2.2) (fun h2 => u8_not hc22 h2.2))] at hin;refine W_skip ?_
   exact ⟨tp, tA, tc, GJ, aj, bt, br, ⟨e_, e_, e_, e_, e_, trivial⟩, rfl, H, hGJ, hP, hatj, hkj, hin⟩
  refine W_seq ?_;refine W_rgd [(.p, 0), (.p, 1), (.p, 2), (.p, 3), (.p, 4), (.p, 5), (.l, 6), (.p, 7), (.p, 8), (.p, 9), (.l, 10), (.p, 11), (.p, 12), (.p, 13), (.p, 14), (.p, 15), (.p, 16), (.p, 17), (.p, 18), (.p, 19), (.p, 20), (.f, 21), (.p, 22), (.p, 23), (.p, 24), (.p, 25)] H (fun w1 H => ?_);refine r_z [(127, .bool true), (128, .bool false), (129, .bool false), (130, undef), (131, undef), (132, undef), (133, undef), (134, undef), (135, undef), (136, undef), (137, undef), (138, undef), (139, undef), (140, undef), (141, undef), (142, undef), (143, undef), (144, undef), (145, undef), (146, undef), (147, undef), (148, undef), (149, undef), (150, undef), (151, undef), (152, .bool false)] ?_;refine W_cF ?_;refine W_skip ?_;rw [if_neg (fun hx => by cases hx.1)] at hin
  exact ⟨tp, tA, tc, GJ, aj, bt, br, ⟨e_, e_, e_, e_, e_, trivial⟩, rfl, H, hGJ, hP, hatj, hkj, hin⟩
 clear H; rintro ρ D w1 ⟨tp, tA, tc, GJ, aj, bt, br, hE23, rfl, H, hGJ, hP, hatj, hkj, hin⟩
 refine W_env hE23 ?_;refine W_seq ?_;refine W_sr [(.p, 0), (.f, 1), (.p, 2)] H ?_;refine r_y [(.p, 0)] [(154, pN pb 0)] ?_;have H := St.swap (A := [(bt, cT tp tA tc), (br, oT)]) (B := [(pb, .cells #[.string (bs s), nN aj] 87)]) (C := L) H
 have hwl := word_le [32, 45, 62, 32] s aj hatj
 refine m_cl #[pN pb 0, .string (bs [32, 45, 62, 32])] (some 155) (c92 (l := [32, 45, 62, 32]) hatj hs (by show _ < _; simp only [List.length_cons, List.length_nil]; omega) (fun b hb => by simp at hb; rcases hb with rfl | rfl | rfl | rfl <;> decide) H) ?_;rintro _ w1 ⟨rfl, H⟩
 generalize hwe2 : word [32, 45, 62, 32] s aj = wr2 at H hwl hin ⊢
 obtain ⟨x2, aw2⟩ := wr2; simp only at H hwl hin ⊢
 have hatw2 : aw2 ≤ s.length := hwl
 have H : St GJ ((bt, cT tp tA tc) :: (br, oT) :: (pb, .cells #[.string (bs s), nN aw2] 87) :: L) w1 := St.swap (A := [(pb, .cells #[.string (bs s), nN aw2] 87)]) (B := [(bt, cT tp tA tc), (br, oT)]) H
 cases x2
 ·skip
  rw [if_pos rfl] at hin; simp only [o_j, p_j] at hin; obtain ⟨⟨rfl, rfl⟩, rfl⟩ := hin
  refine nx H ?_;refine r_z [(156, .bool true)] ?_;refine W_cT ?_;refine W_sr [(.l, 0), (.f, 1), (.p, 2)] H ?_;refine r_s [3] [(.l, 0)] [(157, (aT tp tA tc))] (rc_l 0 0 rfl rfl (rc_l 0 1 rfl rfl (rc_l 0 2 rfl rfl rc_nil))) ?_;refine s_1 [(0, iN tp.kind), (1, iN tp.num), (2, .slice tA tp.kids.length tc)] [iN tp.kind, iN tp.num, .slice tA tp.kids.length tc] none H (fun w1 H => ?_);refine r_z [(7, .bool false)] ?_;refine W_ret ?_;refine q_rt [iN tp.kind, iN tp.num, .slice tA tp.kids.length tc] [(⟨br, 0, none⟩, iN tp.kind), (⟨br, 1, none⟩, iN tp.num), (⟨br, 2, none⟩, .slice tA tp.kids.length tc)] (.tuple #[.agg #[iN tp.kind, iN tp.num, .slice tA tp.kids.length tc], .bool false]) (rc_L 1 rfl rfl (rc_L 1 rfl rfl (rc_L 1 rfl rfl rc_nil))) H ?_
  exact ⟨GJ, _, _, rfl, hGJ, hP, hatw2, hkj, H.drop [_, _]⟩
 rw [if_neg (by simp)] at hin;refine nx H ?_;refine r_z [(156, .bool false)] ?_;refine W_cF ?_;refine W_skip ?_;refine W_sr [(.p, 0), (.p, 1), (.p, 2), (.f, 3), (.p, 4), (.p, 5), (.p, 6), (.f, 7), (.f, 8), (.p, 9)] H ?_;refine r_y [(.p, 0), (.p, 1), (.p, 2)] [(159, pN pb 0), (160, iN n), (161, .bool inner)] ?_;have H := St.swap (A := [(bt, cT tp tA tc), (br, oT)]) (B := [(pb, .cells #[.string (bs s), nN aw2] 87)]) (C := L) H
 obtain ⟨⟨⟨q2, qb2⟩, ar2⟩, hq2, hin⟩ := Option.bind_eq_some_iff.1 hin; simp only [o_j, p_j] at hin; obtain ⟨⟨rfl, rfl⟩, rfl⟩ := hin
 refine m_cl #[pN pb 0, iN n, .bool inner] (some 162) (ih f (by omega) hatw2 hs hn0 hn H hq2) ?_;rintro _ w1 ⟨Gq2, q2A, q2c, rfl, hGq2, hq2p, hatq2, hq2k, H⟩;replace hP := hP.mono hGq2
 have H : St Gq2 ((bt, cT tp tA tc) :: (br, oT) :: (pb, .cells #[.string (bs s), nN ar2] 87) :: L) w1 := St.swap (A := [(pb, .cells #[.string (bs s), nN ar2] 87)]) (B := [(bt, cT tp tA tc), (br, oT)]) H
 refine nx H ?_;refine r_y [(.p, 4), (.p, 5), (.p, 6)] [(158, .tuple #[(aT q2 q2A q2c), .bool qb2]), (163, (aT q2 q2A q2c)), (164, .bool qb2)] ?_;refine m_nw oT 13 H (fun b24 w1 H => ?_);refine s_0 [(0, iN q2.kind), (1, iN q2.num), (2, .slice q2A q2.kids.length q2c)] [iN q2.kind, iN q2.num, .slice q2A q2.kids.length q2c] none H (fun w1 H => ?_);refine r_z [(14, .bool qb2)] ?_;refine W_sr [(.l, 0), (.l, 1), (.f, 2), (.p, 3), (.p, 4), (.f, 5), (.p, 6)] H ?_;refine r_s [3, 3] [(.l, 0), (.l, 1)] [(165, (aT tp tA tc)), (166, (aT q2 q2A q2c))] (rc_l 1 0 rfl rfl (rc_l 1 1 rfl rfl (rc_l 1 2 rfl rfl (rc_l 0 0 rfl rfl (rc_l 0 1 rfl rfl (rc_l 0 2 rfl rfl rc_nil)))))) ?_;refine m_new (.cells #[iN tp.kind, iN tp.num, .slice tA tp.kids.length tc, iN q2.kind, iN q2.num, .slice q2A q2.kids.length q2c] 24) (fun b25 => sN b25 0 2 2) (some 167) (fun b => by kernel_rfl) H (fun b25 w1 H => ?_);refine r_y [(.p, 3), (.p, 4)] [(168, .agg #[iN 3, iN 0, sN b25 0 2 2]), (169, .bool qb2)] ?_;refine m_st ((b25, .cells #[iN tp.kind, iN tp.num, .slice tA tp.kids.length tc, iN q2.kind, iN q2.num, .slice q2A q2.kids.length q2c] 24) :: (b24, cT q2 q2A q2c) :: (bt, cT tp tA tc) :: (br, .cells #[iN 3, iN 0, sN b25 0 2 2] 24) :: (pb, .cells #[.string (bs s), nN ar2] 87) :: L) 3 [(0, iN 3), (1, iN 0), (2, sN b25 0 2 2)] [iN 3, iN 0, sN b25 0 2 2] none H (fun w1 H => ?_);refine r_z [(7, .bool qb2)] ?_;refine W_ret ?_;refine q_rt [iN 3, iN 0, sN b25 0 2 2] [(⟨br, 0, none⟩, iN 3), (⟨br, 1, none⟩, iN 0), (⟨br, 2, none⟩, sN b25 0 2 2)] (.tuple #[.agg #[iN 3, iN 0, sN b25 0 2 2], .bool qb2]) (rc_L 3 rfl rfl (rc_L 3 rfl rfl (rc_L 3 rfl rfl rc_nil))) H ?_;obtain ⟨G9, hG9, hF9, H⟩ := St.freeze [_] H
 have hf := hF9 _ (.head _)
 exact ⟨G9, _, 2, rfl, ((hGJ).trans hGq2).trans hG9, IsPoly.mk (t := .mk 3 0 [_, _]) (Nat.le_refl _) (polys_of (cs := [iN tp.kind, iN tp.num, .slice tA tp.kids.length tc, iN q2.kind, iN q2.num, .slice q2A q2.kids.length q2c]) ⟨hP.mono hG9, hq2p.mono hG9, trivial⟩ hf), hatq2, Nat.le_refl _, H.drop [_, _, _]⟩

end Go.Proofs.Ytjgnhhgigickaaa.Wk
