/- The texts K8 W15 K9 W16 K10 K11 K12 W17 W18 W19 W20, joined by wip/tools/squeeze.py: contracts of the given program's functions and plain laws. Conditions: each theorem's own. -/
import Derived.Test.YtjgnhhgigickaaaF2
import Derived.Scope
set_option linter.all false


namespace Go.Proofs.Ytjgnhhgigickaaa.Wk
open Go Md

section
variable {P : Program} {ops : Array Oper} {K : Env → World → Prop} {rest : List (Mv × Nat)} {S : World → Prop} {ρ : Env} {w : World} {i : Nat} {G : GH} {L : LH}

theorem m_lookS {mt kt et : TypeId} {ik : IntKind} {z : Value} {x y : Operand} {d : Option Nat} {r : Nat} {es : Array MapEntry} {clock : Nat} {kv : List (Int × Value)} {k : Int}
    (h : opAt ops i ρ = some (.lookup mt x y true, d)) (hx : ev ρ x = .map (some r)) (hy : ev ρ y = .int .i64 k)
    (hmt : P.underlying mt = some (.map kt et)) (hkt : P.underlying kt = some (.int ik)) (hz : (P.info? et).map (·.zero) = some (some z)) (hL : ∀ w', S w' → w'.heap[r]? = some (.map es clock)) (hm : MapR es kv) {res : Option Value} (hres : lkp kv k = res)
    (hk : RunD P ops K rest S (updo ρ d (.tuple #[res.getD z, .bool res.isSome])) w) : RunD P ops K ((.l, i) :: rest) S ρ w := by
  subst hres
  refine m_lF _ h (fun o ho w' hS => ?_) hk
  obtain ⟨inf, hi, hz'⟩ := Option.map_eq_some_iff.1 hz
  have hrun := run_look hmt hkt hi hz' (hL w' hS) hm k
  simp [execOp, ho, hx, hy, hrun, Result.andThen]
theorem run_lookN {mt kt et : TypeId} {ik : IntKind} {inf : TypeInfo} {z : Value} (hmt : P.underlying mt = some (.map kt et)) (hkt : P.underlying kt = some (.int ik)) (hi : P.info? et = some inf) (hz : inf.zero = some z) (x : Int) (w : World) :
    (Instr.lookup mt (.map none) (.int .i64 x) true).run P w = .ok (.tuple #[z, .bool false]) w := by
  unfold Instr.lookup
  have hck := run_checkKey hkt true 9999 x w
  have hf : (Instr.findKey kt (.int .i64 x) []).run P w = .ok none w := by simp [Instr.findKey, run_und hkt w, Result.andThen, Instr.findNow]
  simp [Sem.run_bind, run_und hmt w, Result.andThen, hck, hf, zeroValue, typeInfo, program, Sem.run, hi, hz]
theorem m_lookN {mt kt et : TypeId} {ik : IntKind} {z : Value} {x y : Operand} {d : Option Nat} {k : Int}
    (h : opAt ops i ρ = some (.lookup mt x y true, d)) (hx : ev ρ x = .map none) (hy : ev ρ y = .int .i64 k)
    (hmt : P.underlying mt = some (.map kt et)) (hkt : P.underlying kt = some (.int ik)) (hz : (P.info? et).map (·.zero) = some (some z))
    (hk : RunD P ops K rest S (updo ρ d (.tuple #[z, .bool false])) w) : RunD P ops K ((.l, i) :: rest) S ρ w := by
  refine m_lF _ h (fun o ho w' hS => ?_) hk
  obtain ⟨inf, hi, hz'⟩ := Option.map_eq_some_iff.1 hz
  have hrun := run_lookN hmt hkt hi hz' k w'
  simp [execOp, ho, hx, hy, hrun, Result.andThen]
theorem m_lenMap {mt kt et : TypeId} {x : Operand} {d : Option Nat} {r : Nat} {es : Array MapEntry} {clock n : Nat} (h : opAt ops i ρ = some (.call { callee := .builtin .len, args := #[x], argTypes := #[mt] }, d)) (hx : ev ρ x = .map (some r)) (hmt : P.underlying mt = some (.map kt et))
    (hL : ∀ w', S w' → w'.heap[r]? = some (.map es clock)) (hn : es.size = n) (hk : RunD P ops K rest S (updo ρ d (.int .i64 (n : Int))) w) : RunD P ops K ((.l, i) :: rest) S ρ w := by
  subst hn
  refine m_lF _ h (fun o ho w' hS => ?_) hk
  have hg : (getObj r).run P w' = .ok (.map es clock) w' := by simp [getObj, Sem.run, hL w' hS]
  simp [execOp, ho, hx, resolve, invoke, builtin, Builtin.len_, run_und hmt w', hg, Result.andThen, goInt]
theorem MapR.len {es : Array MapEntry} {kv : List (Int × Value)} (h : MapR es kv) : es.size = kv.length := by
  have := congrArg List.length h
  simpa using this
end

/-- the holes that are told: nil, or a map -/
def IsHs (G : GH) : Value → Option (List (Int × Int)) → Prop
  | v, none => v = .map none
  | v, some l => ∃ hp es clock, v = .map (some hp) ∧ G hp = some (.map es clock) ∧ MapR es (l.map fun p => (p.1, Value.int .i64 p.2))
theorem IsHs.mono {G G' : GH} (hG : Le G G') {v : Value} {hs : Option (List (Int × Int))} (h : IsHs G v hs) : IsHs G' v hs := by
  cases hs with
  | none => exact h
  | some l => obtain ⟨hp, es, clock, h1, h2, h3⟩ := h; exact ⟨hp, es, clock, h1, hG _ _ h2, h3⟩
theorem lkp_map (f : Int → Value) : ∀ (l : List (Int × Int)) (x : Int), lkp (l.map fun p => (p.1, f p.2)) x = (lkp l x).map f
  | [], _ => rfl
  | (k, v) :: r, x => by
    simp only [List.map_cons, lkp]
    cases x == k
    · exact lkp_map f r x
    · rfl

set_option maxRecDepth 20000
attribute [local irreducible] endQ
theorem c72 : ∀ (f : Nat) {G : GH} {σ R : LH} {w : World} {sb : Nat} {mb : MB} {s : Sol} {dp : Int} {v hv : Value} {t r : T} {hs : Option (List (Int × Int))}, IsSol G sb mb s σ → St G (σ ++ R) w → IsTyp G v t → IsHs G hv hs → Md.written f s t dp hs = some r →
  Cal Try.prog 72 #[.pointer (some ⟨sb, 0, none⟩), v, .int .i64 dp, hv] w fun x w' => ∃ G', Le G G' ∧ IsPoly G' x r ∧ St G' (σ ++ R) w' := by
 intro f
 induction f with
 | zero => intro G σ R w sb mb s dp v hv t r hs hS H ht hh h; cases h
 | succ f ih =>
 intro G σ R w sb mb s dp v hv t r hs hS H ht hh h
 unfold Md.written at h
 obtain ⟨u, hu, h⟩ := Option.bind_eq_some_iff.1 h;refine cal_of_W Try.func72 rfl (Nat.le_of_ble_eq_true e_) ?_;refine W_sr [(.f, 0)] H ?_;refine m_nw oT 8 H (fun b1 w1 H => ?_);refine r_nil ?_;refine W_sr [(.p, 0), (.p, 1), (.f, 2), (.p, 3)] H ?_;refine r_y [(.p, 0), (.p, 1)] [(14, pN sb 0), (15, v)] ?_;have H := St.swap (A := [(b1, oT)]) (B := σ) (C := R) H;refine m_cl #[pN sb 0, v] (some 16) (c101 hS H ht hu) ?_;rintro r0 w1 ⟨hr, H⟩
 have H : St G ((b1, oT) :: σ ++ R) w1 := St.swap (A := σ) (B := [(b1, oT)]) (C := R) H
 refine nx H ?_
 have hrr := hr
 obtain ⟨tb2, tA3, tc4, rfl, htb5, htc6, htk7⟩ := hr.open;refine r_z [(1, pN tb2 0)] ?_;refine W_seq ?_;refine W_block ?_;refine W_sr [(.p, 0), (.p, 1), (.p, 2), (.l, 3), (.p, 4), (.p, 5)] H ?_;refine r_x [1] [(18, pN tb2 0), (19, pN tb2 0), (20, pN tb2 0), (21, iN u.kind), (22, .bool (u.kind == 5)), (17, .bool (u.kind == 5))] (rc_g 0 htb5 rfl rc_nil) ?_;refine W_cd (b := u.kind == 5) (fun hc9 => ?_) (fun hc9 => ?_)
 ·skip
  rw [if_pos (by simpa using hc9)] at h;obtain ⟨x, hx, h⟩ := Option.bind_eq_some_iff.1 h
  simp only [Option.some.injEq] at h; subst h
  obtain ⟨kx, hxi, hxg, hxl⟩ := nth_some hx
  have hstk := H
  obtain ⟨mp, es, clock, kv, dv, Lp, wA, wc, tv, τ, rfl, hMR, hKV, hos, hwc, hway, hmode⟩ := id hS;obtain ⟨db, dc, arr, rfl, rfl, harr, hal, hset⟩ := hos.arr (by omega)
  have H : St G ((b1, oT) :: (sb, .cells #[.map (some mp), sN db 0 s.deep.length dc, .slice wA s.way.length wc, tv] 104) :: (mp, .map es clock) :: (db, .cells (List.toArray arr) 3 (0, 0)) :: (τ ++ R)) w1 := by
   simpa [List.cons_append, List.append_assoc] using hstk
  have hxc := harr kx (.int .i64 x) (by rw [List.getElem?_map, hxg]; rfl)
  refine W_seq ?_;refine W_rgd [(.p, 0), (.p, 1), (.p, 2), (.p, 3), (.p, 4), (.l, 5), (.p, 6), (.p, 7), (.p, 8), (.l, 9), (.p, 10), (.l, 11), (.p, 12), (.p, 13), (.f, 14)] H (fun w1 H => ?_);refine r_s [1, 1] [(.p, 0), (.p, 1), (.p, 2), (.p, 3), (.p, 4), (.l, 5), (.p, 6), (.p, 7), (.p, 8), (.l, 9)] [(23, iN dp), (24, iN (IntKind.wrap .i64 (dp - 1))), (25, pN sb 0), (26, pN sb 0), (27, pN sb 1), (28, sN db 0 s.deep.length dc), (29, pN tb2 0), (30, pN tb2 0), (31, pN tb2 1), (32, iN u.num)] (rc_l 1 1 rfl rfl (rc_g 1 htb5 rfl rc_nil)) ?_;refine m_idx (sz := 1) (b := db) (off := 0) (n := s.deep.length) (c := dc) (k := kx) (some 33) (show opAt _ _ _ = some (.indexAddr 101 (.tmp 28) (.tmp 32), _) by kernel_rfl) e_ (by rw [← hxi]; kernel_rfl) Try.underlying101 sz3 hxl ?_;refine r_s [1] [(.l, 11), (.p, 12), (.p, 13)] [(34, iN x), (35, iN (IntKind.wrap .i64 ((IntKind.wrap .i64 (dp - 1)) - x))), (36, .agg #[iN 1, iN (IntKind.wrap .i64 ((IntKind.wrap .i64 (dp - 1)) - x)), .slice none 0 0])] (rc_L 3 rfl hxc rc_nil) ?_;refine s_0 [(0, iN 1), (1, iN (IntKind.wrap .i64 ((IntKind.wrap .i64 (dp - 1)) - x))), (2, .slice none 0 0)] [iN 1, iN (IntKind.wrap .i64 ((IntKind.wrap .i64 (dp - 1)) - x)), .slice none 0 0] none H (fun w1 H => ?_);refine r_nil ?_;refine W_ret ?_;refine q_rt [iN 1, iN (IntKind.wrap .i64 ((IntKind.wrap .i64 (dp - 1)) - x)), .slice none 0 0] [(⟨b1, 0, none⟩, iN 1), (⟨b1, 1, none⟩, iN (IntKind.wrap .i64 ((IntKind.wrap .i64 (dp - 1)) - x))), (⟨b1, 2, none⟩, .slice none 0 0)] (.agg #[iN 1, iN (IntKind.wrap .i64 ((IntKind.wrap .i64 (dp - 1)) - x)), .slice none 0 0]) (rc_L 0 rfl rfl (rc_L 0 rfl rfl (rc_L 0 rfl rfl rc_nil))) H ?_
  exact ⟨G, Le.refl _, IsPoly.mk (t := .mk 1 (w64 (w64 (dp - 1) - x)) []) (Nat.zero_le _) IsPolys.nil, by simpa [List.cons_append, List.append_assoc] using H.drop [_]⟩
 rw [if_neg (by simpa using hc9)] at h;refine W_sr [(.p, 0), (.p, 1), (.p, 2), (.l, 3), (.p, 4), (.p, 5)] H ?_;refine r_x [1] [(38, pN tb2 0), (39, pN tb2 0), (40, pN tb2 0), (41, iN u.kind), (42, .bool (u.kind == 6)), (37, .bool (u.kind == 6))] (rc_g 0 htb5 rfl rc_nil) ?_;refine W_cd (b := u.kind == 6) (fun hc10 => ?_) (fun hc10 => ?_)
 ·skip
  rw [if_pos (by simpa using hc10)] at h;refine W_seq ?_;refine W_seq ?_
  obtain _ | hl := hs
  ·skip
   have hh : hv = .map none := hh
   subst hh
   have hh : lkp (Option.getD none [] : List (Int × Int)) u.num = none := rfl
   rw [hh] at h; simp only [Option.some.injEq] at h; subst h
   refine W_rg [(.p, 0), (.p, 1), (.p, 2), (.p, 3), (.l, 4), (.l, 5), (.p, 6), (.p, 7), (.p, 8), (.p, 9), (.p, 10)] H ?_;refine r_s [1] [(.p, 0), (.p, 1), (.p, 2), (.p, 3), (.l, 4)] [(44, .map none), (45, pN tb2 0), (46, pN tb2 0), (47, pN tb2 1), (48, iN u.num)] (rc_g 1 htb5 rfl rc_nil) ?_;refine m_lookN (z := iN 0) (k := u.num) (d := (some 49)) (show opAt _ _ _ = some (.lookup 113 (.tmp 44) (.tmp 48) true, _) by kernel_rfl) e_ e_ Try.underlying113 Try.underlying3 e_ ?_;refine r_z [(43, .tuple #[iN 0, .bool false]), (50, iN 0), (51, .bool false), (9, iN 0), (10, .bool false)] ?_;refine W_sr [(.p, 0)] H ?_;refine r_z [(52, .bool false)] ?_;refine W_cF ?_;refine W_skip ?_;refine W_sr [(.p, 0), (.f, 1)] H ?_;refine r_y [(.p, 0)] [(61, .agg #[iN 2, iN 0, .slice none 0 0])] ?_;refine s_0 [(0, iN 2), (1, iN 0), (2, .slice none 0 0)] [iN 2, iN 0, .slice none 0 0] none H (fun w1 H => ?_);refine r_nil ?_;refine W_ret ?_;refine q_rt [iN 2, iN 0, .slice none 0 0] [(⟨b1, 0, none⟩, iN 2), (⟨b1, 1, none⟩, iN 0), (⟨b1, 2, none⟩, .slice none 0 0)] (.agg #[iN 2, iN 0, .slice none 0 0]) (rc_L 0 rfl rfl (rc_L 0 rfl rfl (rc_L 0 rfl rfl rc_nil))) H ?_
   exact ⟨G, Le.refl _, IsPoly.mk (t := .mk 2 0 []) (Nat.zero_le _) IsPolys.nil, H.drop [_]⟩
  obtain ⟨hp, hes, hck, rfl, hhp, hhm⟩ := hh
  have hgd : (Option.getD (some hl) [] : List (Int × Int)) = hl := rfl
  rw [hgd] at h
  have hlm := lkp_map (Value.int .i64) hl u.num
  have hll : hes.size = hl.length := by rw [hhm.len]; simp
  rcases hlk : lkp hl u.num with _ | hn
  ·skip
   rw [hlk] at h hlm; simp only [Option.some.injEq, Option.map_none, Option.map_some] at h hlm; subst h
   refine W_rg [(.p, 0), (.p, 1), (.p, 2), (.p, 3), (.l, 4), (.l, 5), (.p, 6), (.p, 7), (.p, 8), (.p, 9), (.p, 10)] H ?_;refine r_s [1] [(.p, 0), (.p, 1), (.p, 2), (.p, 3), (.l, 4)] [(44, .map (some hp)), (45, pN tb2 0), (46, pN tb2 0), (47, pN tb2 1), (48, iN u.num)] (rc_g 1 htb5 rfl rc_nil) ?_;refine m_lookS (z := iN 0) (k := u.num) (r := hp) (d := (some 49)) (show opAt _ _ _ = some (.lookup 113 (.tmp 44) (.tmp 48) true, _) by kernel_rfl) e_ e_ Try.underlying113 Try.underlying3 e_ (fun w2 hS2 => hS2.1 _ _ hhp) hhm (res := none) hlm ?_;refine r_z [(43, .tuple #[iN 0, .bool false]), (50, iN 0), (51, .bool false), (9, iN 0), (10, .bool false)] ?_;refine W_sr [(.p, 0)] H ?_;refine r_z [(52, .bool false)] ?_;refine W_cF ?_;refine W_skip ?_;refine W_sr [(.p, 0), (.f, 1)] H ?_;refine r_y [(.p, 0)] [(61, .agg #[iN 2, iN 0, .slice none 0 0])] ?_;refine s_0 [(0, iN 2), (1, iN 0), (2, .slice none 0 0)] [iN 2, iN 0, .slice none 0 0] none H (fun w1 H => ?_);refine r_nil ?_;refine W_ret ?_;refine q_rt [iN 2, iN 0, .slice none 0 0] [(⟨b1, 0, none⟩, iN 2), (⟨b1, 1, none⟩, iN 0), (⟨b1, 2, none⟩, .slice none 0 0)] (.agg #[iN 2, iN 0, .slice none 0 0]) (rc_L 0 rfl rfl (rc_L 0 rfl rfl (rc_L 0 rfl rfl rc_nil))) H ?_
   exact ⟨G, Le.refl _, IsPoly.mk (t := .mk 2 0 []) (Nat.zero_le _) IsPolys.nil, H.drop [_]⟩
  rw [hlk] at h hlm; simp only [Option.some.injEq, Option.map_none, Option.map_some] at h hlm; subst h
  refine W_rg [(.p, 0), (.p, 1), (.p, 2), (.p, 3), (.l, 4), (.l, 5), (.p, 6), (.p, 7), (.p, 8), (.p, 9), (.p, 10)] H ?_;refine r_s [1] [(.p, 0), (.p, 1), (.p, 2), (.p, 3), (.l, 4)] [(44, .map (some hp)), (45, pN tb2 0), (46, pN tb2 0), (47, pN tb2 1), (48, iN u.num)] (rc_g 1 htb5 rfl rc_nil) ?_;refine m_lookS (z := iN 0) (k := u.num) (r := hp) (d := (some 49)) (show opAt _ _ _ = some (.lookup 113 (.tmp 44) (.tmp 48) true, _) by kernel_rfl) e_ e_ Try.underlying113 Try.underlying3 e_ (fun w2 hS2 => hS2.1 _ _ hhp) hhm (res := some (iN hn)) hlm ?_;refine r_z [(43, .tuple #[iN hn, .bool true]), (50, iN hn), (51, .bool true), (9, iN hn), (10, .bool true)] ?_;refine W_sr [(.p, 0)] H ?_;refine r_z [(52, .bool true)] ?_;refine W_cT ?_;refine W_sr [(.p, 0), (.p, 1), (.l, 2), (.p, 3), (.p, 4), (.p, 5), (.p, 6), (.p, 7), (.f, 8)] H ?_;refine r_y [(.p, 0), (.p, 1)] [(53, iN dp), (54, .map (some hp))] ?_;refine m_lenMap (r := hp) (n := hl.length) (d := (some 55)) (show opAt _ _ _ = some (.call { callee := .builtin .len, args := #[(.tmp 54)], argTypes := #[113] }, _) by kernel_rfl) e_ Try.underlying113 (fun w2 hS2 => hS2.1 _ _ hhp) hll ?_;refine r_y [(.p, 3), (.p, 4), (.p, 5), (.p, 6), (.p, 7)] [(56, iN (IntKind.wrap .i64 (dp + (((hl.length : Nat) : Int))))), (57, iN (IntKind.wrap .i64 ((IntKind.wrap .i64 (dp + (((hl.length : Nat) : Int)))) - 1))), (58, iN hn), (59, iN (IntKind.wrap .i64 ((IntKind.wrap .i64 ((IntKind.wrap .i64 (dp + (((hl.length : Nat) : Int)))) - 1)) - hn))), (60, .agg #[iN 1, iN (IntKind.wrap .i64 ((IntKind.wrap .i64 ((IntKind.wrap .i64 (dp + (((hl.length : Nat) : Int)))) - 1)) - hn)), .slice none 0 0])] ?_;refine s_0 [(0, iN 1), (1, iN (IntKind.wrap .i64 ((IntKind.wrap .i64 ((IntKind.wrap .i64 (dp + (((hl.length : Nat) : Int)))) - 1)) - hn))), (2, .slice none 0 0)] [iN 1, iN (IntKind.wrap .i64 ((IntKind.wrap .i64 ((IntKind.wrap .i64 (dp + (((hl.length : Nat) : Int)))) - 1)) - hn)), .slice none 0 0] none H (fun w1 H => ?_);refine r_nil ?_;refine W_ret ?_;refine q_rt [iN 1, iN (IntKind.wrap .i64 ((IntKind.wrap .i64 ((IntKind.wrap .i64 (dp + (((hl.length : Nat) : Int)))) - 1)) - hn)), .slice none 0 0] [(⟨b1, 0, none⟩, iN 1), (⟨b1, 1, none⟩, iN (IntKind.wrap .i64 ((IntKind.wrap .i64 ((IntKind.wrap .i64 (dp + (((hl.length : Nat) : Int)))) - 1)) - hn))), (⟨b1, 2, none⟩, .slice none 0 0)] (.agg #[iN 1, iN (IntKind.wrap .i64 ((IntKind.wrap .i64 ((IntKind.wrap .i64 (dp + (((hl.length : Nat) : Int)))) - 1)) - hn)), .slice none 0 0]) (rc_L 0 rfl rfl (rc_L 0 rfl rfl (rc_L 0 rfl rfl rc_nil))) H ?_
  exact ⟨G, Le.refl _, IsPoly.mk (t := .mk 1 (w64 (w64 (w64 (dp + (hl.length : Int)) - 1) - hn)) []) (Nat.zero_le _) IsPolys.nil, H.drop [_]⟩
 rw [if_neg (by simpa using hc10)] at h;obtain ⟨us, hus, h⟩ := Option.bind_eq_some_iff.1 h
 simp only [Option.some.injEq] at h; subst h
 obtain ⟨hul, hug⟩ := mapM_get hus;refine W_skip ?_;refine W_seq ?_;refine W_sr [(.p, 0), (.p, 1), (.p, 2), (.l, 3), (.p, 4)] H ?_;refine r_x [1] [(62, pN tb2 0), (63, pN tb2 0), (64, pN tb2 0), (65, iN u.kind), (66, .bool (u.kind == 4))] (rc_g 0 htb5 rfl rc_nil) ?_;refine W_cd (b := u.kind == 4) (fun hc11 => ?_) (fun hc11 => ?_)
 ·skip
  simp only [if_pos (show (u.kind = 4) by simpa using hc11)] at hug;refine W_rg (pL 3) H ?_;refine r_z [(67, iN dp), (68, iN (IntKind.wrap .i64 (dp + 1))), (2, iN (IntKind.wrap .i64 (dp + 1)))] ?_;refine W_seq ?_;refine W_rgd [(.p, 0), (.p, 1), (.p, 2), (.l, 3), (.p, 4), (.p, 5), (.p, 6), (.l, 7), (.p, 8), (.e, 9), (.f, 10)] H (fun w1 H => ?_);refine r_s [1, 1] [(.p, 0), (.p, 1), (.p, 2), (.l, 3), (.p, 4), (.p, 5), (.p, 6), (.l, 7), (.p, 8)] [(69, pN tb2 0), (70, pN tb2 0), (71, pN tb2 0), (72, iN u.kind), (73, pN tb2 0), (74, pN tb2 0), (75, pN tb2 1), (76, iN u.num), (77, .agg #[iN u.kind, iN u.num, .slice none 0 0])] (rc_g 0 htb5 rfl (rc_g 1 htb5 rfl rc_nil)) ?_;refine m_newE oT (fun b12 => pN b12 0) (some 11) (fun b => by kernel_rfl) H (fun _ _ h => h.ss' (Le.refl _) (fun _ hp => (List.mem_cons_of_mem _ hp))) (fun b12 w1 H => ?_);refine s_0 [(0, iN u.kind), (1, iN u.num), (2, .slice none 0 0)] [iN u.kind, iN u.num, .slice none 0 0] none H (fun w1 H => ?_);refine r_nil ?_;refine W_seq ?_;refine W_sr [(.p, 0), (.p, 1), (.p, 2), (.l, 3), (.p, 4), (.p, 5)] H ?_;refine r_x [1] [(78, pN tb2 0), (79, pN tb2 0), (80, pN tb2 2), (81, .slice tA3 u.kids.length tc4), (82, nN u.kids.length), (83, iN 0)] (rc_g 2 htb5 rfl rc_nil) ?_;refine W_block ?_;refine W_loop (fun m ρ D w => ∃ (k : Nat) (G1 : GH) (kv : Value) (cs : List Value) (Lp : LH), EqS ρ [(0, pN sb 0), (2, iN (IntKind.wrap .i64 (dp + 1))), (3, hv), (8, pN b1 0), (11, pN b12 0), (81, .slice tA3 u.kids.length tc4), (82, iN (((u.kids.length : Nat) : Int))), (83, iN (((k : Nat) : Int)))] ∧ D = [] ∧ St G1 ((b12, .cells #[iN u.kind, iN u.num, kv] 24) :: (b1, oT) :: Lp ++ (σ ++ R)) w ∧ (Le G G1) ∧ (OS 24 3 kv k cs Lp) ∧ (PoL G1 cs (us.take k)) ∧ (k ≤ u.kids.length) ∧ u.kids.length - k = m) (u.kids.length - 0) ⟨0, G, .slice none 0 0, [], [], ⟨e_, e_, e_, e_, e_, e_, e_, e_, trivial⟩, rfl, H, Le.refl _, OS.nil 24 3, (by simp [PoL]), Nat.zero_le _, rfl⟩ ?_
  clear H; rintro m13 ρ D w1 ⟨k, G1, kv, cs, Lp, hE14, rfl, H, hle, hos, hty, hkk, hm15⟩
  refine W_env hE14 ?_;refine W_sr [(.p, 0)] H ?_;refine r_z [(84, .bool (decide ((((k : Nat) : Int)) < (((u.kids.length : Nat) : Int)))))] ?_;refine W_seq ?_;refine W_cd (b := decide ((((k : Nat) : Int)) < (((u.kids.length : Nat) : Int)))) (fun hc16 => ?_) (fun hc16 => ?_)
  ·skip
   have hlt : k < u.kids.length := by have := of_decide_eq_true hc16; omega
   obtain ⟨q, hq⟩ := get_of_lt hlt
   have hstk := H
   obtain ⟨eb, eo, qb, rfl, hc0, hqt⟩ := (htk7.mono hle).elem hq
   have H := hstk; clear hstk
   obtain ⟨qu, hqu, hqa⟩ := hug k q hq;refine W_skip ?_;refine W_seq ?_;refine W_block ?_;refine W_sr [(.p, 0), (.l, 1), (.p, 2)] H ?_;refine m_idx (sz := 1) (b := eb) (off := eo) (n := u.kids.length) (c := tc4) (k := k) (some 85) (show opAt _ _ _ = some (.indexAddr 102 (.tmp 81) (.tmp 83), _) by kernel_rfl) e_ e_ Try.underlying102 sz106 hlt ?_;refine r_x [1] [(86, pN qb 0), (13, pN qb 0)] (rc_C hc0 rc_nil) ?_;refine W_rgd [(.p, 0), (.l, 1), (.p, 2), (.p, 3), (.p, 4), (.p, 5), (.e, 6), (.e, 7), (.f, 8), (.p, 9), (.f, 10)] H (fun w1 H => ?_);refine r_s [1] [(.p, 0), (.l, 1), (.p, 2), (.p, 3), (.p, 4), (.p, 5)] [(87, pN b12 2), (88, kv), (89, pN sb 0), (90, pN qb 0), (91, iN (IntKind.wrap .i64 (dp + 1))), (92, hv)] (rc_l 0 2 rfl rfl rc_nil) ?_
   have H : St G1 (σ ++ ([(b12, .cells #[iN u.kind, iN u.num, kv] 24), (b1, oT)] ++ (Lp ++ R))) w1 := by
    have h2 := St.swap (A := [(b12, .cells #[.int .i64 u.kind, .int .i64 u.num, kv] 24), (b1, .cells #[.int .i64 0, .int .i64 0, .slice none 0 0] 24)] ++ Lp) (B := σ) (C := R) (by simpa [List.append_assoc] using H)
    simpa [List.append_assoc] using h2
   refine m_callE #[pN sb 0, pN qb 0, iN (IntKind.wrap .i64 (dp + 1)), hv] (some 93) e_ (ih (hS.mono hle) H hqt (hh.mono hle) hqa) ?_;rintro x0 w1 ⟨G2, hG2, hx, H⟩
   have H : St G2 ((b12, .cells #[iN u.kind, iN u.num, kv] 24) :: (b1, oT) :: Lp ++ (σ ++ R)) w1 := by
    have h2 := St.swap (A := σ) (B := [(b12, .cells #[.int .i64 u.kind, .int .i64 u.num, kv] 24), (b1, .cells #[.int .i64 0, .int .i64 0, .slice none 0 0] 24)] ++ Lp) (C := R) (by simpa [List.append_assoc] using H)
    simpa [List.append_assoc] using h2
   obtain ⟨xA, xc, rfl, _, _⟩ := id hx.open;refine ⟨H.ss' ((Le.refl _).trans hG2) (fun _ hp => hp), ?_⟩;refine m_newE (cT qu xA xc) (fun b17 => sN b17 0 1 1) (some 94) (fun b => by kernel_rfl) H (fun _ _ h => h.ss' ((Le.refl _).trans hG2) (fun _ hp => (List.mem_cons_of_mem _ hp))) (fun b17 w1 H => ?_);refine m_append (v := kv) (sb := b17) (so := 0) (m := 1) (mc := 1) el22 [(b17, cT qu xA xc), (b12, .cells #[iN u.kind, iN u.num, kv] 24), (b1, oT)] [iN qu.kind, iN qu.num, .slice xA qu.kids.length xc] (d := (some 95)) (show opAt _ _ _ = some (.call { callee := .builtin .append, args := #[(.tmp 88), (.tmp 94)], argTypes := #[22, 22] }, _) by kernel_rfl) e_ e_ hos H (by first | rfl | (simp; done)) (src_L 0 H rfl) e_ (by decide) (by omega) (by omega) (fun kv2 Lp2 w1 hos2 H => ?_);obtain ⟨nb, nc, rfl⟩ := hos2.shape (by omega);refine r_y [(.p, 9)] [(96, pN b12 2)] ?_;refine s_1 [(2, sN nb 0 ((k + 1)) nc)] [iN u.kind, iN u.num, sN nb 0 ((k + 1)) nc] none H (fun w1 H => ?_);refine r_nil ?_;refine W_rg (pL 2) H ?_;refine r_z [(97, iN (IntKind.wrap .i64 ((((k : Nat) : Int)) + 1))), (83, iN (IntKind.wrap .i64 ((((k : Nat) : Int)) + 1)))] ?_
   exact ⟨_, (by omega), k + 1, G2, sN nb 0 (k + 1) nc, cs ++ [iN qu.kind, iN qu.num, .slice xA qu.kids.length xc], Lp2, ⟨e_, e_, e_, e_, e_, e_, e_, (by rw [← wrap_succ (k := k) (by omega)]; kernel_rfl), trivial⟩, rfl, (H.drop [_]), (hle.trans hG2), hos2, (by rw [take_snoc hqu]; exact (hty.mono hG2).snoc hx), hlt, rfl⟩
  have hge : k = u.kids.length := by have := of_decide_eq_false hc16; omega
  refine W_exit ?_;refine W_seq ?_;have H := St.swap (A := [(b12, .cells #[iN u.kind, iN u.num, kv] 24), (b1, oT)]) (B := Lp) H;obtain ⟨G2, hG2, hF2, H⟩ := H.freeze Lp
  have hty2 : PoL G1 cs us := by have := hty; rw [List.take_of_length_le (by omega)] at this; exact this
  obtain ⟨rA, rc, rfl, hrc, hrk⟩ := hos.polys (hty2.mono hG2) (by omega) hF2
  have H : St G2 ((b12, .cells #[iN u.kind, iN u.num, .slice rA us.length rc] 24) :: (b1, oT) :: σ ++ R) w1 := H
  refine W_rg [(.l, 0), (.f, 1)] H ?_;refine r_s [3] [(.l, 0)] [(98, .agg #[iN u.kind, iN u.num, .slice rA us.length rc])] (rc_l 0 0 rfl rfl (rc_l 0 1 rfl rfl (rc_l 0 2 rfl rfl rc_nil))) ?_;refine s_1 [(0, iN u.kind), (1, iN u.num), (2, .slice rA us.length rc)] [iN u.kind, iN u.num, .slice rA us.length rc] none H (fun w1 H => ?_);refine r_nil ?_;refine W_ret ?_;refine q_rt [iN u.kind, iN u.num, .slice rA us.length rc] [(⟨b1, 0, none⟩, iN u.kind), (⟨b1, 1, none⟩, iN u.num), (⟨b1, 2, none⟩, .slice rA us.length rc)] (.agg #[iN u.kind, iN u.num, .slice rA us.length rc]) (rc_L 1 rfl rfl (rc_L 1 rfl rfl (rc_L 1 rfl rfl rc_nil))) H ?_
  exact ⟨G2, hle.trans hG2, IsPoly.mk (t := .mk u.kind u.num us) hrc hrk, H.drop [_, _]⟩
 simp only [if_neg (show ¬(u.kind = 4) by simpa using hc11)] at hug;refine W_skip ?_;refine W_seq ?_;refine W_rgd [(.p, 0), (.p, 1), (.p, 2), (.l, 3), (.p, 4), (.p, 5), (.p, 6), (.l, 7), (.p, 8), (.e, 9), (.f, 10)] H (fun w1 H => ?_);refine r_s [1, 1] [(.p, 0), (.p, 1), (.p, 2), (.l, 3), (.p, 4), (.p, 5), (.p, 6), (.l, 7), (.p, 8)] [(69, pN tb2 0), (70, pN tb2 0), (71, pN tb2 0), (72, iN u.kind), (73, pN tb2 0), (74, pN tb2 0), (75, pN tb2 1), (76, iN u.num), (77, .agg #[iN u.kind, iN u.num, .slice none 0 0])] (rc_g 0 htb5 rfl (rc_g 1 htb5 rfl rc_nil)) ?_;refine m_newE oT (fun b18 => pN b18 0) (some 11) (fun b => by kernel_rfl) H (fun _ _ h => h.ss' (Le.refl _) (fun _ hp => (List.mem_cons_of_mem _ hp))) (fun b18 w1 H => ?_);refine s_0 [(0, iN u.kind), (1, iN u.num), (2, .slice none 0 0)] [iN u.kind, iN u.num, .slice none 0 0] none H (fun w1 H => ?_);refine r_nil ?_;refine W_seq ?_;refine W_sr [(.p, 0), (.p, 1), (.p, 2), (.l, 3), (.p, 4), (.p, 5)] H ?_;refine r_x [1] [(78, pN tb2 0), (79, pN tb2 0), (80, pN tb2 2), (81, .slice tA3 u.kids.length tc4), (82, nN u.kids.length), (83, iN 0)] (rc_g 2 htb5 rfl rc_nil) ?_;refine W_block ?_;refine W_loop (fun m ρ D w => ∃ (k : Nat) (G1 : GH) (kv : Value) (cs : List Value) (Lp : LH), EqS ρ [(0, pN sb 0), (2, iN dp), (3, hv), (8, pN b1 0), (11, pN b18 0), (81, .slice tA3 u.kids.length tc4), (82, iN (((u.kids.length : Nat) : Int))), (83, iN (((k : Nat) : Int)))] ∧ D = [] ∧ St G1 ((b18, .cells #[iN u.kind, iN u.num, kv] 24) :: (b1, oT) :: Lp ++ (σ ++ R)) w ∧ (Le G G1) ∧ (OS 24 3 kv k cs Lp) ∧ (PoL G1 cs (us.take k)) ∧ (k ≤ u.kids.length) ∧ u.kids.length - k = m) (u.kids.length - 0) ⟨0, G, .slice none 0 0, [], [], ⟨e_, e_, e_, e_, e_, e_, e_, e_, trivial⟩, rfl, H, Le.refl _, OS.nil 24 3, (by simp [PoL]), Nat.zero_le _, rfl⟩ ?_
 clear H; rintro m19 ρ D w1 ⟨k, G1, kv, cs, Lp, hE20, rfl, H, hle, hos, hty, hkk, hm21⟩
 refine W_env hE20 ?_;refine W_sr [(.p, 0)] H ?_;refine r_z [(84, .bool (decide ((((k : Nat) : Int)) < (((u.kids.length : Nat) : Int)))))] ?_;refine W_seq ?_;refine W_cd (b := decide ((((k : Nat) : Int)) < (((u.kids.length : Nat) : Int)))) (fun hc22 => ?_) (fun hc22 => ?_)
 ·skip
  have hlt : k < u.kids.length := by have := of_decide_eq_true hc22; omega
  obtain ⟨q, hq⟩ := get_of_lt hlt
  have hstk := H
  obtain ⟨eb, eo, qb, rfl, hc0, hqt⟩ := (htk7.mono hle).elem hq
  have H := hstk; clear hstk
  obtain ⟨qu, hqu, hqa⟩ := hug k q hq;refine W_skip ?_;refine W_seq ?_;refine W_block ?_;refine W_sr [(.p, 0), (.l, 1), (.p, 2)] H ?_;refine m_idx (sz := 1) (b := eb) (off := eo) (n := u.kids.length) (c := tc4) (k := k) (some 85) (show opAt _ _ _ = some (.indexAddr 102 (.tmp 81) (.tmp 83), _) by kernel_rfl) e_ e_ Try.underlying102 sz106 hlt ?_;refine r_x [1] [(86, pN qb 0), (13, pN qb 0)] (rc_C hc0 rc_nil) ?_;refine W_rgd [(.p, 0), (.l, 1), (.p, 2), (.p, 3), (.p, 4), (.p, 5), (.e, 6), (.e, 7), (.f, 8), (.p, 9), (.f, 10)] H (fun w1 H => ?_);refine r_s [1] [(.p, 0), (.l, 1), (.p, 2), (.p, 3), (.p, 4), (.p, 5)] [(87, pN b18 2), (88, kv), (89, pN sb 0), (90, pN qb 0), (91, iN dp), (92, hv)] (rc_l 0 2 rfl rfl rc_nil) ?_
  have H : St G1 (σ ++ ([(b18, .cells #[iN u.kind, iN u.num, kv] 24), (b1, oT)] ++ (Lp ++ R))) w1 := by
   have h2 := St.swap (A := [(b18, .cells #[.int .i64 u.kind, .int .i64 u.num, kv] 24), (b1, .cells #[.int .i64 0, .int .i64 0, .slice none 0 0] 24)] ++ Lp) (B := σ) (C := R) (by simpa [List.append_assoc] using H)
   simpa [List.append_assoc] using h2
  refine m_callE #[pN sb 0, pN qb 0, iN dp, hv] (some 93) e_ (ih (hS.mono hle) H hqt (hh.mono hle) hqa) ?_;rintro x0 w1 ⟨G2, hG2, hx, H⟩
  have H : St G2 ((b18, .cells #[iN u.kind, iN u.num, kv] 24) :: (b1, oT) :: Lp ++ (σ ++ R)) w1 := by
   have h2 := St.swap (A := σ) (B := [(b18, .cells #[.int .i64 u.kind, .int .i64 u.num, kv] 24), (b1, .cells #[.int .i64 0, .int .i64 0, .slice none 0 0] 24)] ++ Lp) (C := R) (by simpa [List.append_assoc] using H)
   simpa [List.append_assoc] using h2
  obtain ⟨xA, xc, rfl, _, _⟩ := id hx.open;refine ⟨H.ss' ((Le.refl _).trans hG2) (fun _ hp => hp), ?_⟩;refine m_newE (cT qu xA xc) (fun b23 => sN b23 0 1 1) (some 94) (fun b => by kernel_rfl) H (fun _ _ h => h.ss' ((Le.refl _).trans hG2) (fun _ hp => (List.mem_cons_of_mem _ hp))) (fun b23 w1 H => ?_);refine m_append (v := kv) (sb := b23) (so := 0) (m := 1) (mc := 1) el22 [(b23, cT qu xA xc), (b18, .cells #[iN u.kind, iN u.num, kv] 24), (b1, oT)] [iN qu.kind, iN qu.num, .slice xA qu.kids.length xc] (d := (some 95)) (show opAt _ _ _ = some (.call { callee := .builtin .append, args := #[(.tmp 88), (.tmp 94)], argTypes := #[22, 22] }, _) by kernel_rfl) e_ e_ hos H (by first | rfl | (simp; done)) (src_L 0 H rfl) e_ (by decide) (by omega) (by omega) (fun kv2 Lp2 w1 hos2 H => ?_);obtain ⟨nb, nc, rfl⟩ := hos2.shape (by omega);refine r_y [(.p, 9)] [(96, pN b18 2)] ?_;refine s_1 [(2, sN nb 0 ((k + 1)) nc)] [iN u.kind, iN u.num, sN nb 0 ((k + 1)) nc] none H (fun w1 H => ?_);refine r_nil ?_;refine W_rg (pL 2) H ?_;refine r_z [(97, iN (IntKind.wrap .i64 ((((k : Nat) : Int)) + 1))), (83, iN (IntKind.wrap .i64 ((((k : Nat) : Int)) + 1)))] ?_
  exact ⟨_, (by omega), k + 1, G2, sN nb 0 (k + 1) nc, cs ++ [iN qu.kind, iN qu.num, .slice xA qu.kids.length xc], Lp2, ⟨e_, e_, e_, e_, e_, e_, e_, (by rw [← wrap_succ (k := k) (by omega)]; kernel_rfl), trivial⟩, rfl, (H.drop [_]), (hle.trans hG2), hos2, (by rw [take_snoc hqu]; exact (hty.mono hG2).snoc hx), hlt, rfl⟩
 have hge : k = u.kids.length := by have := of_decide_eq_false hc22; omega
 refine W_exit ?_;refine W_seq ?_;have H := St.swap (A := [(b18, .cells #[iN u.kind, iN u.num, kv] 24), (b1, oT)]) (B := Lp) H;obtain ⟨G2, hG2, hF2, H⟩ := H.freeze Lp
 have hty2 : PoL G1 cs us := by have := hty; rw [List.take_of_length_le (by omega)] at this; exact this
 obtain ⟨rA, rc, rfl, hrc, hrk⟩ := hos.polys (hty2.mono hG2) (by omega) hF2
 have H : St G2 ((b18, .cells #[iN u.kind, iN u.num, .slice rA us.length rc] 24) :: (b1, oT) :: σ ++ R) w1 := H
 refine W_rg [(.l, 0), (.f, 1)] H ?_;refine r_s [3] [(.l, 0)] [(98, .agg #[iN u.kind, iN u.num, .slice rA us.length rc])] (rc_l 0 0 rfl rfl (rc_l 0 1 rfl rfl (rc_l 0 2 rfl rfl rc_nil))) ?_;refine s_1 [(0, iN u.kind), (1, iN u.num), (2, .slice rA us.length rc)] [iN u.kind, iN u.num, .slice rA us.length rc] none H (fun w1 H => ?_);refine r_nil ?_;refine W_ret ?_;refine q_rt [iN u.kind, iN u.num, .slice rA us.length rc] [(⟨b1, 0, none⟩, iN u.kind), (⟨b1, 1, none⟩, iN u.num), (⟨b1, 2, none⟩, .slice rA us.length rc)] (.agg #[iN u.kind, iN u.num, .slice rA us.length rc]) (rc_L 1 rfl rfl (rc_L 1 rfl rfl (rc_L 1 rfl rfl rc_nil))) H ?_
 exact ⟨G2, hle.trans hG2, IsPoly.mk (t := .mk u.kind u.num us) hrc hrk, H.drop [_, _]⟩

theorem c63 {G : GH} {R : LH} {w : World} (H : St G R w) : Cal Try.prog 63 #[] w fun v w' => ∃ sb mp, v = .pointer (some ⟨sb, 0, none⟩) ∧ St G ((sb, .cells #[.map (some mp), .slice none 0 0, .slice none 0 0, .nilFunc] 104) :: (mp, .map #[] 0) :: R) w' := by
 refine cal_of_W Try.func63 rfl (Nat.le_of_ble_eq_true e_) ?_;refine W_sr [(.p, 0)] H ?_;refine r_z [(0, .pointer none)] ?_;refine W_sr [(.f, 0), (.p, 1), (.f, 2), (.p, 3)] H ?_;refine m_new (.map #[] 0) (fun b1 => .map (some b1)) (some 1) (fun b => by kernel_rfl) H (fun b1 w1 H => ?_);refine r_y [(.p, 1)] [(2, .agg #[.map (some b1), .slice none 0 0, .slice none 0 0, .nilFunc])] ?_;refine m_nw (.cells #[.map (some b1), .slice none 0 0, .slice none 0 0, .nilFunc] 104) 3 H (fun b2 w1 H => ?_);refine r_z [(0, pN b2 0)] ?_;refine W_ret ?_;refine q_rt [] [] (pN b2 0) rc_nil H ?_
 exact ⟨_, _, rfl, H⟩

end Go.Proofs.Ytjgnhhgigickaaa.Wk

namespace Go.Proofs.Ytjgnhhgigickaaa.Wk
open Go Md

theorem written_md (m : Md.Mode) : ∀ (f : Nat) (s : Sol) (t : T) (dp : Int) (hs : Option (List (Int × Int))), Md.written f { s with md := m } t dp hs = Md.written f s t dp hs
  | 0, _, _, _, _ => rfl
  | f + 1, s, t, dp, hs => by
    unfold Md.written
    simp only [written_md m f s]

def IsTk (G : GH) (A : Option Addr) (l : List (T × Int)) : Prop := ∀ (k : Nat) (t : T) (d : Int), l[k]? = some (t, d) → ∃ b off u, A = some ⟨b, off, none⟩ ∧ GC G ⟨b, off + k * 2, none⟩ (.pointer (some ⟨u, 0, none⟩)) ∧ GC G ⟨b, off + k * 2 + 1, none⟩ (.int .i64 d) ∧ IsTyp G (.pointer (some ⟨u, 0, none⟩)) t
theorem IsTk.mono {G G' : GH} (hG : Le G G') {A : Option Addr} {l : List (T × Int)} (h : IsTk G A l) : IsTk G' A l := fun k t d hk => by
  obtain ⟨b, off, u, h1, h2, h3, h4⟩ := h k t d hk
  exact ⟨b, off, u, h1, h2.mono hG, h3.mono hG, h4.mono hG⟩

theorem TK.get {G : GH} : ∀ {cs : List Value} {l : List (T × Int)} {k : Nat} {t : T} {d : Int}, TK G cs l → l[k]? = some (t, d) → ∃ v, cs[k * 2]? = some v ∧ cs[k * 2 + 1]? = some (.int .i64 d) ∧ IsTyp G v t
  | [], [], _, _, _, _, h => by simp at h
  | v :: d' :: r, (t', dp) :: l, 0, t, d, ⟨h1, h2, h3⟩, h => by
    simp at h; obtain ⟨rfl, rfl⟩ := h
    exact ⟨v, rfl, by simp [h2], h1⟩
  | v :: d' :: r, (t', dp) :: l, k + 1, t, d, ⟨h1, h2, h3⟩, h => by
    simp only [List.getElem?_cons_succ] at h
    obtain ⟨u, h4, h5, h6⟩ := TK.get h3 h
    refine ⟨u, ?_, ?_, h6⟩
    · rw [show (k + 1) * 2 = k * 2 + 1 + 1 by omega]; simpa using h4
    · rw [show (k + 1) * 2 + 1 = k * 2 + 1 + 1 + 1 by omega]; simpa using h5
  | [], _ :: _, _, _, _, h, _ => h.elim
  | [_], [], _, _, _, h, _ => h.elim
  | [_], _ :: _, _, _, _, h, _ => h.elim
  | _ :: _ :: _, [], _, _, _, h, _ => h.elim

theorem OS.tk {G : GH} {v : Value} {n : Nat} {cs : List Value} {Lp : LH} {l : List (T × Int)} (h : OS 135 2 v n cs Lp) (ht : TK G cs l) (hn : n = l.length) (hG : ∀ p, p ∈ Lp → G p.1 = some p.2) :
    ∃ A c, v = .slice A l.length c ∧ l.length ≤ c ∧ IsTk G A l := by
  obtain ⟨A, c, hv, hc, hcase⟩ := h.cells hG
  refine ⟨A, c, by rw [hv, hn], by omega, fun k t d hk => ?_⟩
  obtain ⟨u, h1, h2, h3⟩ := ht.get hk
  have hlt := (List.getElem?_eq_some_iff.1 hk).1
  rcases hcase with h0 | ⟨b, hA, hb⟩
  · omega
  · obtain ⟨ub, _, _, rfl, _⟩ := id h3.open
    exact ⟨b, 0, ub, hA, hb _ _ h1, hb (k * 2 + 1) _ h2, h3⟩

/-- the way to take is forgotten -/
theorem IsSol.forget {G : GH} {sb : Nat} {mb : MB} {s : Sol} {σ R : LH} {w : World} (h : IsSol G sb mb s σ) (hst : St G (σ ++ R) w) : ∃ σ' R', IsSol G sb .any { s with md := .any } σ' ∧ St G (σ' ++ (R' ++ R)) w ∧
    (∀ l, s.md = .wit l → ∃ bs bl lv cs Lq, mb = .wit bs bl ∧ R' = (bs, .cells #[.pointer (some ⟨sb, 0, none⟩)] 97) :: (bl, .cells #[lv] 133) :: Lq ∧ OS 135 2 lv l.length cs Lq ∧ TK G cs l) ∧
    (∀ left, s.md = .shw left → ∃ bl bs A c, mb = .shw bl bs ∧ R' = [(bl, .cells #[.slice A left.length c] 22), (bs, .cells #[.pointer (some ⟨sb, 0, none⟩)] 97)]) := by
  obtain ⟨mp, es, clock, kv, dv, Lp, A, wc, tv, τ, h1, h2, h3, h4, h5, h6, h7⟩ := h
  subst h1
  refine ⟨(sb, .cells #[.map (some mp), dv, .slice A s.way.length wc, tv] 104) :: (mp, .map es clock) :: (Lp ++ []), τ, ⟨mp, es, clock, kv, dv, Lp, A, wc, tv, [], rfl, h2, h3, h4, h5, h6, rfl⟩, by simpa [List.append_assoc] using hst, fun l hl => ?_, fun left hl => ?_⟩
  · rw [hl] at h7
    cases mb with
    | wit bs bl => obtain ⟨_, lv, cs, Lq, h8, h9, h10⟩ := h7; exact ⟨bs, bl, lv, cs, Lq, rfl, h8, h9, h10⟩
    | _ => exact h7.elim
  · rw [hl] at h7
    cases mb with
    | shw bl bs => obtain ⟨_, A, c, h8, _⟩ := h7; exact ⟨bl, bs, A, c, rfl, h8⟩
    | _ => exact h7.elim

/-- a new solver -/
theorem sol_new (G : GH) (sb mp : Nat) (tv : Value) (m : Md.Mode) (mb : MB) (τ : LH) (h : IsMode G sb tv m mb τ) : IsSol G sb mb (Md.start m) ((sb, .cells #[.map (some mp), .slice none 0 0, .slice none 0 0, tv] 104) :: (mp, .map #[] 0) :: ([] ++ τ)) :=
  ⟨mp, #[], 0, [], .slice none 0 0, [], none, 0, tv, τ, rfl, rfl, trivial, OS.nil 3 1, Nat.le_refl _, IsTyps.nil, h⟩

set_option maxRecDepth 20000
attribute [local irreducible] endQ
theorem c25 {f : Nat} {G : GH} {L : LH} {w : World} {v : Value} {t : T} {r e : Int} (hv : IsPoly G v t) (hsz : T.sz t + 1 < lim) (H : St G L w) (h : Md.Rank f t = some (r, e)) :
  Cal Try.prog 25 #[v] w fun x w' => ∃ G', Le G G' ∧ x = .tuple #[.int .i64 r, .int .i64 e] ∧ St G' L w' := by
 unfold Md.Rank at h
 obtain ⟨tA, tc, rfl, htc, htk⟩ := id hv.open;refine cal_of_W Try.func25 rfl (Nat.le_of_ble_eq_true e_) ?_;refine W_sr [(.f, 0), (.p, 1), (.p, 2)] H ?_;refine m_nw (cT t tA tc) 1 H (fun b1 w1 H => ?_);refine r_z [(2, iN 0), (3, iN 0)] ?_;refine W_seq ?_;refine W_sr [(.l, 0), (.f, 1), (.f, 2), (.p, 3)] H ?_;refine r_s [3] [(.l, 0)] [(5, (aT t tA tc))] (rc_l 0 0 rfl rfl (rc_l 0 1 rfl rfl (rc_l 0 2 rfl rfl rc_nil))) ?_;refine m_new (cT t tA tc) (fun b2 => sN b2 0 1 1) (some 6) (fun b => by kernel_rfl) H (fun b2 w1 H => ?_);obtain ⟨G1, hG1, hF3, H⟩ := St.freeze [_] H
 have hfs := hF3 _ (.head _)
 have hcl56 := c56 (ts := [t]) (c := 1) (polys_of (cs := [.int .i64 t.kind, .int .i64 t.num, .slice tA t.kids.length tc]) ⟨(hv).mono hG1, trivial⟩ hfs) (Nat.le_refl _) (by rw [T.sz1]; omega) H
 refine m_cl #[sN b2 0 1 1] (some 7) (hcl56) ?_;rintro _ w1 ⟨G1', hG1', rfl, H⟩;replace hfs := hG1' _ _ hfs;refine nx H ?_;refine r_z [(4, iN (closed [t]))] ?_;refine W_sr (pL 2) H ?_;refine r_z [(8, iN (closed [t])), (9, .bool ((closed [t]) != 0))] ?_;refine W_cd (b := (closed [t]) != 0) (fun hc4 => ?_) (fun hc4 => ?_)
 ·skip
  have hcl : ¬ closed [t] = 0 := by simpa using hc4
  rw [if_neg hcl] at h; simp only [o_j, p_j] at h; obtain ⟨rfl, rfl⟩ := h
  refine W_sr (pL 3) H ?_;refine r_z [(10, iN (closed [t])), (2, iN 0), (3, iN (closed [t]))] ?_;refine W_ret ?_;refine q_rt [] [] (.tuple #[iN 0, iN (closed [t])]) rc_nil H ?_
  exact ⟨G1', hG1.trans hG1', rfl, H.drop [_]⟩
 have hcl : closed [t] = 0 := by simpa using hc4
 rw [if_pos hcl] at h; obtain ⟨r0, hr0, h⟩ := Option.bind_eq_some_iff.1 h; simp only [o_j, p_j] at h; obtain ⟨rfl, rfl⟩ := h
 refine W_skip ?_;refine W_sr [(.l, 0), (.f, 1), (.p, 2), (.p, 3)] H ?_;refine r_s [3] [(.l, 0)] [(11, (aT t tA tc))] (rc_l 0 0 rfl rfl (rc_l 0 1 rfl rfl (rc_l 0 2 rfl rfl rc_nil))) ?_;refine m_cl #[(aT t tA tc)] (some 12) (c67 _ ((hv.mono hG1).mono hG1') hr0 H) ?_;rintro _ w1 ⟨rfl, H⟩;refine nx H ?_;refine r_z [(2, iN r0), (3, iN 0)] ?_;refine W_ret ?_;refine q_rt [] [] (.tuple #[iN r0, iN 0]) rc_nil H ?_
 exact ⟨G1', hG1.trans hG1', rfl, H.drop [_]⟩

theorem c21 {f : Nat} {G : GH} {L : LH} {w : World} {va vb : Value} {a b : T} {r : Bool} {e : Int} (hva : IsPoly G va a) (hvb : IsPoly G vb b) (hsz : T.sz a + T.sz b + 2 < lim) (H : St G L w) (h : Md.Uses f a b = some (r, e)) :
  Cal Try.prog 21 #[va, vb] w fun x w' => ∃ G', Le G G' ∧ x = .tuple #[.bool r, .int .i64 e] ∧ St G' L w' := by
 unfold Md.Uses at h
 obtain ⟨aA, ac, rfl, hac, hak⟩ := id hva.open;obtain ⟨bA, bc, rfl, hbc, hbk⟩ := id hvb.open;refine cal_of_W Try.func21 rfl (Nat.le_of_ble_eq_true e_) ?_;refine W_sr [(.f, 0), (.f, 1), (.p, 2), (.p, 3)] H ?_;refine m_nw (cT a aA ac) 2 H (fun b1 w1 H => ?_);refine m_nw (cT b bA bc) 3 H (fun b2 w1 H => ?_);refine r_z [(4, .bool false), (5, iN 0)] ?_;refine W_seq ?_;refine W_sr [(.l, 0), (.l, 1), (.f, 2), (.f, 3), (.p, 4)] H ?_;refine r_s [3, 3] [(.l, 0), (.l, 1)] [(8, (aT a aA ac)), (9, (aT b bA bc))] (rc_l 1 0 rfl rfl (rc_l 1 1 rfl rfl (rc_l 1 2 rfl rfl (rc_l 0 0 rfl rfl (rc_l 0 1 rfl rfl (rc_l 0 2 rfl rfl rc_nil)))))) ?_;refine m_new (.cells #[iN a.kind, iN a.num, .slice aA a.kids.length ac, iN b.kind, iN b.num, .slice bA b.kids.length bc] 24) (fun b3 => sN b3 0 2 2) (some 10) (fun b => by kernel_rfl) H (fun b3 w1 H => ?_);obtain ⟨G1, hG1, hF4, H⟩ := St.freeze [_] H
 have hfs := hF4 _ (.head _)
 have hcl56 := c56 (ts := [a, b]) (c := 2) (polys_of (cs := [.int .i64 a.kind, .int .i64 a.num, .slice aA a.kids.length ac, .int .i64 b.kind, .int .i64 b.num, .slice bA b.kids.length bc]) ⟨(hva).mono hG1, (hvb).mono hG1, trivial⟩ hfs) (Nat.le_refl _) (by rw [T.sz2]; omega) H
 refine m_cl #[sN b3 0 2 2] (some 11) (hcl56) ?_;rintro _ w1 ⟨G1', hG1', rfl, H⟩;replace hfs := hG1' _ _ hfs;refine nx H ?_;refine r_z [(6, iN (closed [a, b]))] ?_;refine W_sr (pL 2) H ?_;refine r_z [(12, iN (closed [a, b])), (13, .bool ((closed [a, b]) != 0))] ?_;refine W_cd (b := (closed [a, b]) != 0) (fun hc5 => ?_) (fun hc5 => ?_)
 ·skip
  have hcl : closed [a, b] ≠ 0 := by simpa using hc5
  rw [if_pos hcl] at h; simp only [o_j, p_j] at h; obtain ⟨rfl, rfl⟩ := h
  refine W_sr (pL 3) H ?_;refine r_z [(14, iN (closed [a, b])), (4, .bool false), (5, iN (closed [a, b]))] ?_;refine W_ret ?_;refine q_rt [] [] (.tuple #[.bool false, iN (closed [a, b])]) rc_nil H ?_
  exact ⟨G1', hG1.trans hG1', rfl, H.drop [_, _]⟩
 have hcl : ¬ closed [a, b] ≠ 0 := by simpa using hc5
 rw [if_neg hcl] at h; obtain ⟨⟨r0, s3⟩, hr0, h⟩ := Option.bind_eq_some_iff.1 h; simp only [o_j, p_j] at h; obtain ⟨rfl, rfl⟩ := h
 refine W_skip ?_;refine W_sr [(.f, 0), (.p, 1)] H ?_;refine m_cl #[] (some 15) (c63 H) ?_;rintro _ w1 ⟨sb, mp, rfl, H⟩;refine nx H ?_;refine r_z [(7, pN sb 0)] ?_;refine W_sr [(.p, 0), (.p, 1), (.p, 2), (.p, 3), (.p, 4), (.f, 5)] H ?_;refine r_y [(.p, 0), (.p, 1), (.p, 2), (.p, 3), (.p, 4)] [(16, pN sb 0), (17, pN sb 0), (18, .func (.func 64) #[pN sb 0] #[]), (19, pN sb 0), (20, pN sb 3)] ?_;refine s_0 [(3, .func (.func 64) #[pN sb 0] #[])] [.map (some mp), .slice none 0 0, .slice none 0 0, .func (.func 64) #[pN sb 0] #[]] none H (fun w1 H => ?_);refine r_nil ?_;refine W_seq ?_;refine W_rgd [(.p, 0), (.l, 1), (.l, 3), (.e, 2), (.f, 4), (.f, 5), (.p, 6), (.p, 7)] H (fun w1 H => ?_);refine r_s [3, 3] [(.p, 0), (.l, 1), (.l, 3)] [(21, pN sb 0), (22, (aT a aA ac)), (24, (aT b bA bc))] (rc_l 3 0 rfl rfl (rc_l 3 1 rfl rfl (rc_l 3 2 rfl rfl (rc_l 2 0 rfl rfl (rc_l 2 1 rfl rfl (rc_l 2 2 rfl rfl rc_nil)))))) ?_;refine m_callE #[(aT a aA ac)] (some 23) e_ (c66 lim a (by omega) (Nat.le_refl _) ((hva.mono hG1).mono hG1') H) ?_;rintro v1 w1 ⟨G2, hG2, hta, H⟩;replace hfs := hG2 _ _ hfs;obtain ⟨tab, _, _, rfl, _⟩ := id hta.open;refine ⟨H.ss' ((Le.refl _).trans hG2) (fun _ hp => hp), ?_⟩;refine m_cl #[(aT b bA bc)] (some 25) (c66 lim b (by omega) (Nat.le_refl _) (((hvb.mono hG1).mono hG1').mono hG2) H) ?_;rintro v1 w1 ⟨G3, hG3, htb, H⟩;replace hfs := hG3 _ _ hfs;obtain ⟨tbb, _, _, rfl, _⟩ := id htb.open;refine nx H ?_
 have hS := sol_new G3 sb mp (.func (.func 64) #[.pointer (some ⟨sb, 0, none⟩)] #[]) .unk .unk [] ⟨rfl, rfl⟩
 refine m_cl #[pN sb 0, pN tab 0, pN tbb 0, iN 0] (some 26) (c65 _ hS (R := (b2, cT b bA bc) :: (b1, cT a aA ac) :: L) H (hta.mono hG3) htb hr0) ?_;rintro _ w1 ⟨G4, σ4, rfl, hG4, hS4, H⟩;have H := H.drop σ4;refine nx H ?_;refine r_z [(4, .bool r0), (5, iN 0)] ?_;refine W_ret ?_;refine q_rt [] [] (.tuple #[.bool r0, iN 0]) rc_nil H ?_
 exact ⟨G4, (((hG1.trans hG1').trans hG2).trans hG3).trans hG4, rfl, H.drop [_, _]⟩

theorem c43 {f : Nat} {G : GH} {L : LH} {w : World} {va vb : Value} {a b : T} {r : List T} {e : Int} (hva : IsPoly G va a) (hvb : IsPoly G vb b) (hsz : T.sz a + T.sz b + 2 < lim) (H : St G L w) (h : Md.Witness f a b = some (r, e)) (hlen : r.length < lim) :
  Cal Try.prog 43 #[va, vb] w fun x w' => ∃ G' A c, Le G G' ∧ x = .tuple #[.slice A r.length c, .int .i64 e] ∧ r.length ≤ c ∧ IsPolys G' A r ∧ St G' L w' := by
 have hlim : lim = 1099511627776 := rfl
 unfold Md.Witness at h
 obtain ⟨aA, ac, rfl, hac, hak⟩ := id hva.open;obtain ⟨bA, bc, rfl, hbc, hbk⟩ := id hvb.open;refine cal_of_W Try.func43 rfl (Nat.le_of_ble_eq_true e_) ?_;refine W_sr [(.f, 0), (.f, 1), (.p, 2), (.p, 3)] H ?_;refine m_nw (cT a aA ac) 2 H (fun b1 w1 H => ?_);refine m_nw (cT b bA bc) 3 H (fun b2 w1 H => ?_);refine r_z [(4, .slice none 0 0), (5, iN 0)] ?_;refine W_seq ?_;refine W_sr [(.l, 0), (.l, 1), (.f, 2), (.f, 3), (.p, 4)] H ?_;refine r_s [3, 3] [(.l, 0), (.l, 1)] [(12, (aT a aA ac)), (13, (aT b bA bc))] (rc_l 1 0 rfl rfl (rc_l 1 1 rfl rfl (rc_l 1 2 rfl rfl (rc_l 0 0 rfl rfl (rc_l 0 1 rfl rfl (rc_l 0 2 rfl rfl rc_nil)))))) ?_;refine m_new (.cells #[iN a.kind, iN a.num, .slice aA a.kids.length ac, iN b.kind, iN b.num, .slice bA b.kids.length bc] 24) (fun b3 => sN b3 0 2 2) (some 14) (fun b => by kernel_rfl) H (fun b3 w1 H => ?_);obtain ⟨G1, hG1, hF4, H⟩ := St.freeze [_] H
 have hfs := hF4 _ (.head _)
 have hcl56 := c56 (ts := [a, b]) (c := 2) (polys_of (cs := [.int .i64 a.kind, .int .i64 a.num, .slice aA a.kids.length ac, .int .i64 b.kind, .int .i64 b.num, .slice bA b.kids.length bc]) ⟨(hva).mono hG1, (hvb).mono hG1, trivial⟩ hfs) (Nat.le_refl _) (by rw [T.sz2]; omega) H
 refine m_cl #[sN b3 0 2 2] (some 15) (hcl56) ?_;rintro _ w1 ⟨G1', hG1', rfl, H⟩;replace hfs := hG1' _ _ hfs;refine nx H ?_;refine r_z [(6, iN (closed [a, b]))] ?_;refine W_sr (pL 2) H ?_;refine r_z [(16, iN (closed [a, b])), (17, .bool ((closed [a, b]) != 0))] ?_;refine W_cd (b := (closed [a, b]) != 0) (fun hc5 => ?_) (fun hc5 => ?_)
 ·skip
  have hcl : closed [a, b] ≠ 0 := by simpa using hc5
  rw [if_pos hcl] at h; simp only [o_j, p_j] at h; obtain ⟨rfl, rfl⟩ := h
  refine W_sr (pL 3) H ?_;refine r_z [(18, iN (closed [a, b])), (4, .slice none 0 0), (5, iN (closed [a, b]))] ?_;refine W_ret ?_;refine q_rt [] [] (.tuple #[.slice none 0 0, iN (closed [a, b])]) rc_nil H ?_
  exact ⟨G1', none, 0, hG1.trans hG1', rfl, Nat.le_refl _, IsPolys.nil, H.drop [_, _]⟩
 have hcl : ¬ closed [a, b] ≠ 0 := by simpa using hc5
 rw [if_neg hcl] at h; obtain ⟨⟨r0, s3⟩, hr0, h⟩ := Option.bind_eq_some_iff.1 h; simp only at h
 refine W_skip ?_;refine W_sr [(.f, 0), (.f, 1), (.f, 2)] H ?_;refine m_cl #[] (some 19) (c63 H) ?_;rintro _ w1 ⟨sb, mp, rfl, H⟩;refine nx H ?_;refine m_nw (.cells #[.pointer none] 97) 7 H (fun b6 w1 H => ?_);refine s_0 [(0, pN sb 0)] [pN sb 0] none H (fun w1 H => ?_);refine r_nil ?_;refine W_sr [(.f, 0)] H ?_;refine m_nw (.cells #[.slice none 0 0] 133) 8 H (fun b7 w1 H => ?_);refine r_nil ?_;refine W_sr [(.l, 0), (.p, 1), (.p, 2), (.p, 3), (.f, 4)] H ?_;refine r_s [1] [(.l, 0), (.p, 1), (.p, 2), (.p, 3)] [(20, pN sb 0), (21, .func (.func 85) #[] #[pN b6 0, pN b7 0]), (22, pN sb 0), (23, pN sb 3)] (rc_l 1 0 rfl rfl rc_nil) ?_;refine s_2 [(3, .func (.func 85) #[] #[pN b6 0, pN b7 0])] [.map (some mp), .slice none 0 0, .slice none 0 0, .func (.func 85) #[] #[pN b6 0, pN b7 0]] none H (fun w1 H => ?_);refine r_nil ?_;refine W_seq ?_;refine W_seq ?_;have H := St.swap (A := [(b7, .cells #[.slice none 0 0] 133)]) (B := [(b6, .cells #[pN sb 0] 97)]) H;have H := St.swap (A := [(b6, .cells #[pN sb 0] 97), (b7, .cells #[.slice none 0 0] 133)]) (B := [(sb, .cells #[.map (some mp), .slice none 0 0, .slice none 0 0, .func (.func 85) #[] #[pN b6 0, pN b7 0]] 104), (mp, .map #[] 0)]) (C := (b2, cT b bA bc) :: (b1, cT a aA ac) :: L) H
 have H : St G1' ((sb, .cells #[.map (some mp), .slice none 0 0, .slice none 0 0, .func (.func 85) #[] #[pN b6 0, pN b7 0]] 104) :: (mp, .map #[] 0) :: (b6, .cells #[pN sb 0] 97) :: (b7, .cells #[.slice none 0 0] 133) :: (b2, cT b bA bc) :: (b1, cT a aA ac) :: L) w1 := H
 refine W_rgd [(.l, 0), (.l, 1), (.l, 3), (.e, 2), (.e, 4), (.f, 5), (.p, 6)] H (fun w1 H => ?_);refine r_s [1, 3, 3] [(.l, 0), (.l, 1), (.l, 3)] [(24, pN sb 0), (25, (aT a aA ac)), (27, (aT b bA bc))] (rc_l 2 0 rfl rfl (rc_l 5 0 rfl rfl (rc_l 5 1 rfl rfl (rc_l 5 2 rfl rfl (rc_l 4 0 rfl rfl (rc_l 4 1 rfl rfl (rc_l 4 2 rfl rfl rc_nil))))))) ?_;refine m_callE #[(aT a aA ac)] (some 26) e_ (c66 lim a (by omega) (Nat.le_refl _) ((hva.mono hG1).mono hG1') H) ?_;rintro v1 w1 ⟨G2, hG2, hta, H⟩;replace hfs := hG2 _ _ hfs;obtain ⟨tab, _, _, rfl, _⟩ := id hta.open;refine ⟨H.ss' ((Le.refl _).trans hG2) (fun _ hp => hp), ?_⟩;refine m_callE #[(aT b bA bc)] (some 28) e_ (c66 lim b (by omega) (Nat.le_refl _) (((hvb.mono hG1).mono hG1').mono hG2) H) ?_;rintro v1 w1 ⟨G3, hG3, htb, H⟩;replace hfs := hG3 _ _ hfs;obtain ⟨tbb, _, _, rfl, _⟩ := id htb.open;refine ⟨H.ss' (((Le.refl _).trans hG2).trans hG3) (fun _ hp => hp), ?_⟩
 have hS := sol_new G3 sb mp (.func (.func 85) #[] #[.pointer (some ⟨b6, 0, none⟩), .pointer (some ⟨b7, 0, none⟩)]) (.wit []) (.wit b6 b7) [(b6, .cells #[.pointer (some ⟨sb, 0, none⟩)] 97), (b7, .cells #[.slice none 0 0] 133)] ⟨rfl, .slice none 0 0, [], [], rfl, OS.nil 135 2, trivial⟩
 refine m_cl #[pN sb 0, pN tab 0, pN tbb 0, iN 0] (some 29) (c65 _ hS (R := (b2, cT b bA bc) :: (b1, cT a aA ac) :: L) H (hta.mono hG3) htb hr0) ?_;rintro _ w1 ⟨G4, σ4, rfl, hG4, hS4, H⟩;cases r0
 ·skip
  rw [if_pos rfl] at h; simp only [o_j, p_j] at h; obtain ⟨rfl, rfl⟩ := h
  have H := H.drop σ4;refine nx H ?_;refine r_z [(30, .bool true)] ?_;refine W_cT ?_;refine W_sr (pL 2) H ?_;refine r_z [(4, .slice none 0 0), (5, iN 6)] ?_;refine W_ret ?_;refine q_rt [] [] (.tuple #[.slice none 0 0, iN 6]) rc_nil H ?_
  exact ⟨G4, none, 0, (((hG1.trans hG1').trans hG2).trans hG3).trans hG4, rfl, Nat.le_refl _, IsPolys.nil, H.drop [_, _]⟩
 rw [if_neg (by simp)] at h;obtain ⟨σ5, R5, hS5, H, hwit, _⟩ := hS4.forget H
 obtain ⟨l, hmd⟩ : ∃ l, s3.md = .wit l := by
  cases hmd : s3.md with
  | wit l => exact ⟨l, rfl⟩
  | _ => rw [hmd] at h; cases h
 rw [hmd] at h; simp only at h
 obtain ⟨ts, hts, h⟩ := Option.bind_eq_some_iff.1 h; simp only [o_j, p_j] at h; obtain ⟨rfl, rfl⟩ := h
 obtain ⟨hul, hug⟩ := mapM_get hts
 obtain ⟨_, _, lv, tcs, Lq, he, rfl, hosq, htk⟩ := hwit l hmd; cases he
 have H := St.swap (A := σ5) H;rw [show ((b6, .cells #[.pointer (some ⟨sb, 0, none⟩)] 97) :: (b7, .cells #[lv] 133) :: Lq : LH) = [(b6, .cells #[.pointer (some ⟨sb, 0, none⟩)] 97), (b7, .cells #[lv] 133)] ++ Lq from rfl] at H;obtain ⟨G5, hG5, hF5, hst5⟩ := St.freeze ([(b6, .cells #[.pointer (some ⟨sb, 0, none⟩)] 97), (b7, .cells #[lv] 133)] ++ Lq) H;obtain ⟨lA, lc, rfl, hlc, hltk⟩ := hosq.tk (htk.mono hG5) rfl (fun p hp => hF5 p (List.mem_append_right _ hp))
 have hfbs := hF5 _ (List.mem_append_left _ (.head _))
 have hfbl := hF5 _ (List.mem_append_left _ (.tail _ (.head _)))
 have H := St.swap (A := σ5) (B := [(b2, cT b bA bc), (b1, cT a aA ac)]) (C := L) (by simpa using hst5)
 have H : St G5 ((b2, cT b bA bc) :: (b1, cT a aA ac) :: (σ5 ++ L)) w1 := H
 refine nx H ?_;refine r_z [(30, .bool false)] ?_;refine W_cF ?_;refine W_skip ?_;refine W_sr [(.f, 0), (.p, 1)] H ?_;refine m_new (.cells #[] 24) (fun b8 => sN b8 0 0 0) (some 31) (fun b => by kernel_rfl) H (fun b8 w1 H => ?_);refine r_z [(9, sN b8 0 0 0)] ?_;refine W_seq ?_;refine W_sr [(.l, 0), (.p, 1), (.p, 2)] H ?_;refine r_x [1] [(32, .slice lA l.length lc), (33, nN l.length), (34, iN 0)] (rc_g 0 hfbl rfl rc_nil) ?_;refine W_block ?_;refine W_loop (fun m ρ D w => ∃ (k : Nat) (G6 : GH) (kv : Value) (cs : List Value) (Lp : LH), EqS ρ [(7, pN b6 0), (9, kv), (32, .slice lA l.length lc), (33, iN (((l.length : Nat) : Int))), (34, iN (((k : Nat) : Int)))] ∧ D = [] ∧ St G6 (Lp ++ ((b2, cT b bA bc) :: (b1, cT a aA ac) :: (σ5 ++ L))) w ∧ (Le G5 G6) ∧ (OS 24 3 kv k cs Lp) ∧ (PoL G6 cs (ts.take k)) ∧ (k ≤ l.length) ∧ l.length - k = m) (l.length - 0) ⟨0, G5, sN b8 0 0 0, [], [(b8, .cells #[] 24)], ⟨e_, e_, e_, e_, e_, trivial⟩, rfl, H, Le.refl _, ⟨rfl, .inr ⟨_, 0, [], rfl, rfl, Nat.le_refl _, rfl, rfl⟩⟩, (by simp [PoL]), Nat.zero_le _, rfl⟩ ?_
 clear H; rintro m9 ρ D w1 ⟨k, G6, kv, cs, Lp, hE10, rfl, H, hle, hos, hty, hkk, hm11⟩
 refine W_env hE10 ?_;refine W_sr [(.p, 0)] H ?_;refine r_z [(35, .bool (decide ((((k : Nat) : Int)) < (((l.length : Nat) : Int)))))] ?_;refine W_seq ?_;refine W_cd (b := decide ((((k : Nat) : Int)) < (((l.length : Nat) : Int)))) (fun hc12 => ?_) (fun hc12 => ?_)
 ·skip
  have hlt : k < l.length := by have := of_decide_eq_true hc12; omega
  obtain ⟨⟨qt, qd⟩, hq⟩ := get_of_lt hlt;obtain ⟨qu, hqu, hqa⟩ := hug k _ hq
  have hstk := H
  obtain ⟨eb, eo, qb, rfl, hc0, hcd, hqt⟩ := (hltk.mono hle) k qt qd hq;have H := hstk
  have hfb6 := hle _ _ hfbs
  refine W_skip ?_;refine W_seq ?_;refine W_block ?_;refine W_sr [(.p, 0), (.l, 1), (.f, 2), (.f, 3)] H ?_;refine m_idx (sz := 2) (b := eb) (off := eo) (n := l.length) (c := lc) (k := k) (some 36) (show opAt _ _ _ = some (.indexAddr 133 (.tmp 32) (.tmp 34), _) by kernel_rfl) e_ e_ Try.underlying133 sz135 hlt ?_;refine r_s [2] [(.l, 1)] [(37, .agg #[pN qb 0, iN qd])] (rc_C hc0 (rc_C hcd rc_nil)) ?_;refine m_nw (.cells #[.pointer none, iN 0] 135) 11 H (fun b13 w1 H => ?_);refine s_0 [(0, pN qb 0), (1, iN qd)] [pN qb 0, iN qd] none H (fun w1 H => ?_);refine r_nil ?_;refine W_rg [(.p, 0), (.l, 1), (.p, 2), (.l, 3), (.p, 4), (.l, 5), (.f, 6), (.f, 7), (.f, 8), (.p, 9)] H ?_;refine r_s [1, 1, 1] [(.p, 0), (.l, 1), (.p, 2), (.l, 3), (.p, 4), (.l, 5)] [(38, kv), (39, pN sb 0), (40, pN b13 0), (41, pN qb 0), (42, pN b13 1), (43, iN qd)] (rc_g 0 hfb6 rfl (rc_l 0 0 rfl rfl (rc_l 0 1 rfl rfl rc_nil))) ?_
  have H : St G6 (σ5 ++ ([(b13, .cells #[pN qb 0, iN qd] 135)] ++ (Lp ++ ([(b2, cT b bA bc), (b1, cT a aA ac)] ++ L)))) w1 := by
   have h2 := St.swap (A := [(b13, .cells #[.pointer (some ⟨qb, 0, none⟩), .int .i64 qd] 135)] ++ (Lp ++ [(b2, .cells #[.int .i64 b.kind, .int .i64 b.num, .slice bA b.kids.length bc] 24), (b1, .cells #[.int .i64 a.kind, .int .i64 a.num, .slice aA a.kids.length ac] 24)])) (B := σ5) (C := L) (by simpa [List.append_assoc] using H)
   simpa [List.append_assoc] using h2
  refine m_cl #[pN sb 0, pN qb 0, iN qd, .map none] (some 44) (c72 _ ((hS5.mono hG5).mono hle) H hqt (hs := none) rfl (by rw [written_md]; exact hqa)) ?_;rintro x0 w1 ⟨G7, hG7, hx, H⟩
  have H : St G7 ((b13, .cells #[pN qb 0, iN qd] 135) :: Lp ++ ((b2, cT b bA bc) :: (b1, cT a aA ac) :: (σ5 ++ L))) w1 := by
   have h2 := St.swap (A := σ5) (B := [(b13, .cells #[.pointer (some ⟨qb, 0, none⟩), .int .i64 qd] 135)] ++ (Lp ++ [(b2, .cells #[.int .i64 b.kind, .int .i64 b.num, .slice bA b.kids.length bc] 24), (b1, .cells #[.int .i64 a.kind, .int .i64 a.num, .slice aA a.kids.length ac] 24)])) (C := L) (by simpa [List.append_assoc] using H)
   simpa [List.append_assoc] using h2
  obtain ⟨xA, xc, rfl, _, _⟩ := id hx.open;refine nx H ?_;refine m_new (cT qu xA xc) (fun b14 => sN b14 0 1 1) (some 45) (fun b => by kernel_rfl) H (fun b14 w1 H => ?_);refine m_append (v := kv) (sb := b14) (so := 0) (m := 1) (mc := 1) el22 [(b14, cT qu xA xc), (b13, .cells #[pN qb 0, iN qd] 135)] [iN qu.kind, iN qu.num, .slice xA qu.kids.length xc] (d := (some 46)) (show opAt _ _ _ = some (.call { callee := .builtin .append, args := #[(.tmp 38), (.tmp 45)], argTypes := #[22, 22] }, _) by kernel_rfl) e_ e_ hos H (by first | rfl | (simp; done)) (src_L 0 H rfl) e_ (by decide) (by omega) (by omega) (fun kv2 Lp2 w1 hos2 H => ?_);obtain ⟨nb, nc, rfl⟩ := hos2.shape (by omega);refine r_z [(9, sN nb 0 ((k + 1)) nc)] ?_;refine W_rg (pL 2) H ?_;refine r_z [(47, iN (IntKind.wrap .i64 ((((k : Nat) : Int)) + 1))), (34, iN (IntKind.wrap .i64 ((((k : Nat) : Int)) + 1)))] ?_
  exact ⟨_, (by omega), k + 1, G7, sN nb 0 (k + 1) nc, cs ++ [iN qu.kind, iN qu.num, .slice xA qu.kids.length xc], Lp2, ⟨e_, e_, e_, e_, (by rw [← wrap_succ (k := k) (by omega)]; kernel_rfl), trivial⟩, rfl, (H.drop [_, _]), (hle.trans hG7), hos2, (by rw [take_snoc hqu]; exact (hty.mono hG7).snoc hx), hlt, rfl⟩
 have hge : k = l.length := by have := of_decide_eq_false hc12; omega
 refine W_exit ?_;refine W_seq ?_;obtain ⟨G8, hG8, hF8, H⟩ := H.freeze Lp
 have hty2 : PoL G6 cs ts := by have := hty; rw [List.take_of_length_le (by omega)] at this; exact this
 obtain ⟨rA, rc, rfl, hrc, hrk⟩ := hos.polys (hty2.mono hG8) (by omega) hF8;refine W_rg (pL 3) H ?_;refine r_z [(48, .slice rA ts.length rc), (4, .slice rA ts.length rc), (5, iN 0)] ?_;refine W_ret ?_;refine q_rt [] [] (.tuple #[.slice rA ts.length rc, iN 0]) rc_nil H ?_
 exact ⟨G8, rA, rc, (((((hG1.trans hG1').trans hG2).trans hG3).trans hG4).trans hG5).trans (hle.trans hG8), rfl, hrc, hrk, (H.drop [_, _]).drop σ5⟩

end Go.Proofs.Ytjgnhhgigickaaa.Wk

namespace Go.Proofs.Ytjgnhhgigickaaa.Wk
open Go Md

mutual
def E.sz : E → Nat
  | .mk _ _ ks ty => E.szs ks + T.sz ty + 1
def E.szs : List E → Nat
  | [] => 0
  | e :: es => E.sz e + E.szs es + 1
end
theorem E.szs_get : ∀ {ks : List E} {i : Nat} {t : E}, ks[i]? = some t → E.sz t < E.szs ks
  | [], _, _, h => by simp at h
  | k :: ks, 0, t, h => by simp at h; subst h; simp [E.szs]; omega
  | k :: ks, i + 1, t, h => by simp at h; have := E.szs_get h; simp [E.szs]; omega
theorem E.lens_le : ∀ (ks : List E), ks.length ≤ E.szs ks
  | [] => Nat.le_refl _
  | k :: ks => by have := E.lens_le ks; simp [E.szs]; omega
theorem E.sz_kid {t u : E} {i : Nat} (h : t.kids[i]? = some u) : E.sz u < E.sz t := by
  obtain ⟨k, n, ks, ty⟩ := t
  have := E.szs_get h
  simp only [E.sz, E.kids] at this ⊢; omega
theorem E.len_le (t : E) : t.kids.length ≤ E.sz t := by
  obtain ⟨k, n, ks, ty⟩ := t
  have := E.lens_le ks
  simp only [E.sz, E.kids] at this ⊢; omega
theorem E.ty_le (t : E) : T.sz t.ty < E.sz t := by
  obtain ⟨k, n, ks, ty⟩ := t
  simp only [E.sz, E.ty]; omega

theorem IsExpr.open {G : GH} {v : Value} {e : E} (h : IsExpr G v e) : ∃ A c A' c', v = .agg #[.int .i64 e.kind, .int .i64 e.num, .slice A e.kids.length c, .int .i64 e.ty.kind, .int .i64 e.ty.num, .slice A' e.ty.kids.length c'] ∧ e.kids.length ≤ c ∧ IsExprs G A e.kids ∧
    IsPoly G (.agg #[.int .i64 e.ty.kind, .int .i64 e.ty.num, .slice A' e.ty.kids.length c']) e.ty := by
  obtain ⟨k, n, ks, ty⟩ := e
  unfold IsExpr at h
  obtain ⟨A, c, t0, t1, t2, rfl, h1, h2, h3⟩ := h
  obtain ⟨A', c', he, _, _⟩ := id h3.open
  cases he
  exact ⟨A, c, A', c', rfl, h1, h2, h3⟩
theorem IsExpr.mk {G : GH} {A A' : Option Addr} {c c' : Nat} {e : E} (h1 : e.kids.length ≤ c) (h2 : IsExprs G A e.kids) (h3 : IsPoly G (.agg #[.int .i64 e.ty.kind, .int .i64 e.ty.num, .slice A' e.ty.kids.length c']) e.ty) :
    IsExpr G (.agg #[.int .i64 e.kind, .int .i64 e.num, .slice A e.kids.length c, .int .i64 e.ty.kind, .int .i64 e.ty.num, .slice A' e.ty.kids.length c']) e := by
  obtain ⟨k, n, ks, ty⟩ := e
  unfold IsExpr
  exact ⟨A, c, _, _, _, rfl, h1, h2, h3⟩
theorem IsExprs.nil {G : GH} {A : Option Addr} : IsExprs G A [] := by unfold IsExprs; trivial
theorem IsExprs.elem {G : GH} {ts : List E} {A : Option Addr} {i : Nat} {t : E} (h : IsExprs G A ts) (hi : ts[i]? = some t) : ∃ b off A1 c1 A2 c2, A = some ⟨b, off, none⟩ ∧ GC G ⟨b, off + i * 6, none⟩ (.int .i64 t.kind) ∧ GC G ⟨b, off + i * 6 + 1, none⟩ (.int .i64 t.num) ∧
    GC G ⟨b, off + i * 6 + 2, none⟩ (.slice A1 t.kids.length c1) ∧ GC G ⟨b, off + i * 6 + 3, none⟩ (.int .i64 t.ty.kind) ∧ GC G ⟨b, off + i * 6 + 4, none⟩ (.int .i64 t.ty.num) ∧ GC G ⟨b, off + i * 6 + 5, none⟩ (.slice A2 t.ty.kids.length c2) ∧
    IsExpr G (.agg #[.int .i64 t.kind, .int .i64 t.num, .slice A1 t.kids.length c1, .int .i64 t.ty.kind, .int .i64 t.ty.num, .slice A2 t.ty.kids.length c2]) t := by
  obtain ⟨b, off, v0, v1, v2, v3, v4, v5, h0, h1, h2, h3, h4, h5, h6, h7⟩ := h.get hi
  obtain ⟨A1, c1, A2, c2, he, _, _, _⟩ := h7.open
  cases he
  exact ⟨b, off, A1, c1, A2, c2, h0, h1, h2, h3, h4, h5, h6, h7⟩

/-- a checker at work: its types in a slice of its own; its solver -/
def IsChk (G : GH) (cb sb : Nat) (mb : MB) (c : Chk) (κ : LH) : Prop :=
  ∃ tv cs Lt σ, κ = (cb, .cells #[tv, .pointer (some ⟨sb, 0, none⟩)] 119) :: (Lt ++ σ) ∧ OS 106 1 tv c.types.length cs Lt ∧ TyL G cs c.types ∧ IsSol G sb mb c.s σ
theorem IsChk.mono {G G' : GH} {cb sb : Nat} {mb : MB} {c : Chk} {κ : LH} (h : IsChk G cb sb mb c κ) (hG : Le G G') : IsChk G' cb sb mb c κ := by
  obtain ⟨tv, cs, Lt, σ, h1, h2, h3, h4⟩ := h
  exact ⟨tv, cs, Lt, σ, h1, h2, h3.mono hG, h4.mono hG⟩

theorem TyL.take {G : GH} : ∀ {cs : List Value} {l : List T} (n : Nat), TyL G cs l → TyL G (cs.take n) (l.take n)
  | _, _, 0, _ => by simp [TyL]
  | [], [], n + 1, _ => by simp [TyL]
  | v :: cs, t :: l, n + 1, ⟨h1, h2⟩ => ⟨h1, h2.take n⟩
  | [], _ :: _, _ + 1, h => h.elim
  | _ :: _, [], _ + 1, h => h.elim
theorem TyL.get {G : GH} : ∀ {cs : List Value} {l : List T} {i : Nat} {t : T}, TyL G cs l → l[i]? = some t → ∃ v, cs[i]? = some v ∧ IsTyp G v t
  | [], [], _, _, _, h => by simp at h
  | v :: cs, t :: l, 0, _, ⟨h1, _⟩, h => by simp at h; subst h; exact ⟨v, rfl, h1⟩
  | v :: cs, t :: l, i + 1, _, ⟨_, h2⟩, h => by simp at h ⊢; exact h2.get h
  | [], _ :: _, _, _, h, _ => h.elim
  | _ :: _, [], _, _, h, _ => h.elim

theorem OS.cut {e : Nat} {v : Value} {n m : Nat} {cs : List Value} {Lp : LH} (h : OS e 1 v (n + 1) cs Lp) (hm : m ≤ n) : ∃ b c, v = .slice (some ⟨b, 0, none⟩) (n + 1) c ∧ n + 1 ≤ c ∧ OS e 1 (.slice (some ⟨b, 0, none⟩) m c) m (cs.take m) Lp := by
  obtain ⟨hlen, ⟨_, h0, _⟩ | ⟨b, c, arr, hv, hL, hnc, harr, htake⟩⟩ := h
  · omega
  · refine ⟨b, c, hv, hnc, by simp [hlen]; omega, .inr ⟨b, c, arr, rfl, hL, by omega, harr, ?_⟩⟩
    rw [← htake, List.take_take]; congr 1; omega

section
variable {P : Program} {ops : Array Oper} {K : Env → World → Prop} {rest : List (Mv × Nat)} {S : World → Prop} {ρ : Env} {w : World} {i : Nat}
/-- 'x[:hi]' -/
theorem m_sliceTo {t e n c hi : Nat} {A : Option Addr} {x l : Operand} (d : Option Nat) (h : opAt ops i ρ = some (.slice t x none (some l) none, d)) (hx : ev ρ x = .slice A n c) (hl : ev ρ l = .int .i64 (hi : Int))
    (ht : P.underlying t = some (.slice e)) (hsz : (P.info? e).isSome = true) (hh : hi ≤ c)
    (hk : RunD P ops K rest S (updo ρ d (.slice A hi c)) w) : RunD P ops K ((.p, i) :: rest) S ρ w := by
  refine m_pF _ h (fun o ho w' => ?_) hk
  obtain ⟨inf, hie⟩ := Option.isSome_iff_exists.1 hsz
  have hund := run_und ht w'
  have hmap : A.map (fun a : Addr => a.add (0 * inf.size)) = A := by
    cases A with
    | none => rfl
    | some a => simp [Addr.add]
  have hb1 : (Instr.sliceBound (.int .i64 (hi : Int)) c .sliceAcap).run P w' = .ok hi w' := by
    simp [Instr.sliceBound, asIntOf, hh]
  have hbs : (Instr.sliceBounds true n c none (some (.int .i64 (hi : Int))) none).run P w' = .ok (0, hi, c) w' := by
    simp [Instr.sliceBounds, hb1, Result.andThen]
  simp only [execOp, ho, hx, Option.map_none, Option.map_some, hl, Instr.sliceAt, Instr.slice]
  simp [hund, hbs, sizeOf, typeInfo, program, Sem.run, hie, Result.andThen, Nat.zero_mul] at hmap ⊢
  rw [hmap]
  simp
end

end Go.Proofs.Ytjgnhhgigickaaa.Wk

namespace Go.Proofs.Ytjgnhhgigickaaa.Wk
open Go Md

theorem types_inv : ∀ f : Nat, (∀ c e dp r c', gives f c e dp = some (r, c') → c'.types = c.types) ∧ (∀ c t x dp r c', leads f c t x dp = some (r, c') → c'.types = c.types) ∧ (∀ c t x dp r c', leadsO f c t x dp = some (r, c') → c'.types = c.types) ∧
    (∀ c e t dp r c', has f c e t dp = some (r, c') → c'.types = c.types) ∧ (∀ c e t dp r c', hasL f c e t dp = some (r, c') → c'.types = c.types)
  | 0 => ⟨fun _ _ _ _ _ h => (by cases h), fun _ _ _ _ _ _ h => (by cases h), fun _ _ _ _ _ _ h => (by cases h), fun _ _ _ _ _ _ h => (by cases h), fun _ _ _ _ _ _ h => (by cases h)⟩
  | f + 1 => by
    obtain ⟨h1, h2, h3, h4, h5⟩ := types_inv f
    refine ⟨fun c e dp r c' h => ?_, fun c t x dp r c' h => ?_, fun c t x dp r c' h => ?_, fun c e t dp r c' h => ?_, fun c e t dp r c' h => ?_⟩
    · unfold gives at h
      split at h
      · split at h <;> (simp only [Option.some.injEq, Prod.mk.injEq] at h; rw [← h.2])
      split at h
      · simp only [Option.some.injEq, Prod.mk.injEq] at h; rw [← h.2]
      split at h
      · split at h
        · obtain ⟨a, _, h⟩ := Option.bind_eq_some_iff.1 h
          obtain ⟨b, _, h⟩ := Option.bind_eq_some_iff.1 h
          split at h
          · cases h
          obtain ⟨y, _, h⟩ := Option.bind_eq_some_iff.1 h
          simp only [Option.some.injEq, Prod.mk.injEq] at h; rw [← h.2]
        · cases h
      split at h
      · split at h
        · split at h
          · cases h
          obtain ⟨y, _, h⟩ := Option.bind_eq_some_iff.1 h
          simp only [Option.some.injEq, Prod.mk.injEq] at h; rw [← h.2]
        · cases h
      split at h
      · split at h
        · obtain ⟨y, hy, h⟩ := Option.bind_eq_some_iff.1 h
          have e1 := h1 _ _ _ _ _ hy
          split at h
          · simp only [Option.some.injEq, Prod.mk.injEq] at h; rw [← h.2]; exact e1
          · rw [h2 _ _ _ _ _ _ h]; exact e1
        · cases h
      split at h
      · split at h
        · obtain ⟨y, hy, h⟩ := Option.bind_eq_some_iff.1 h
          simp only [Option.some.injEq, Prod.mk.injEq] at h; rw [← h.2]
          exact h4 _ _ _ _ _ _ hy
        · cases h
      · cases h
    · unfold leads at h
      obtain ⟨y, _, h⟩ := Option.bind_eq_some_iff.1 h
      exact h3 _ _ _ _ _ _ h
    · unfold leadsO at h
      split at h
      · obtain ⟨a, _, h⟩ := Option.bind_eq_some_iff.1 h
        obtain ⟨b, _, h⟩ := Option.bind_eq_some_iff.1 h
        obtain ⟨y, _, h⟩ := Option.bind_eq_some_iff.1 h
        have := h3 _ _ _ _ _ _ h; exact this
      split at h
      · obtain ⟨a, _, h⟩ := Option.bind_eq_some_iff.1 h
        have := h3 _ _ _ _ _ _ h; exact this
      split at h
      · simp only [Option.some.injEq, Prod.mk.injEq] at h; rw [← h.2]
      split at h
      · obtain ⟨y, hy, h⟩ := Option.bind_eq_some_iff.1 h
        have e1 := h4 _ _ _ _ _ _ hy
        split at h <;> (simp only [Option.some.injEq, Prod.mk.injEq] at h; rw [← h.2]; exact e1)
      · cases h
    · unfold has at h
      obtain ⟨t, _, h⟩ := Option.bind_eq_some_iff.1 h
      split at h
      · obtain ⟨a, _, h⟩ := Option.bind_eq_some_iff.1 h
        obtain ⟨b, _, h⟩ := Option.bind_eq_some_iff.1 h
        obtain ⟨y, hy, h⟩ := Option.bind_eq_some_iff.1 h
        simp only [Option.some.injEq, Prod.mk.injEq] at h; rw [← h.2]
        have := h4 _ _ _ _ _ _ hy; exact this
      split at h
      · split at h
        · obtain ⟨a, _, h⟩ := Option.bind_eq_some_iff.1 h
          have := h5 _ _ _ _ _ _ h; exact this
        · exact h5 _ _ _ _ _ _ h
      · obtain ⟨y, hy, h⟩ := Option.bind_eq_some_iff.1 h
        have e1 := h1 _ _ _ _ _ hy
        split at h
        · obtain ⟨z, _, h⟩ := Option.bind_eq_some_iff.1 h
          simp only [Option.some.injEq, Prod.mk.injEq] at h; rw [← h.2]; exact e1
        · simp only [Option.some.injEq, Prod.mk.injEq] at h; rw [← h.2]; exact e1
    · unfold hasL at h
      split at h
      · simp only [Option.some.injEq, Prod.mk.injEq] at h; rw [← h.2]
      split at h
      · split at h
        · cases h
        obtain ⟨y, _, h⟩ := Option.bind_eq_some_iff.1 h
        simp only [Option.some.injEq, Prod.mk.injEq] at h; rw [← h.2]
      · cases h

def noG (Q : Exit → Env → List Deferred → World → Prop) : Exit → Env → List Deferred → World → Prop
  | .goto _ => fun _ _ _ => False
  | e => Q e
theorem W_scope {P : Program} {n : Nat} {c : Code} {Q : Exit → Env → List Deferred → World → Prop} {ρ : Env} {D : List Deferred} {w : World} (h : W P none n c (noG Q) ρ D w) : W P none n (.scope c) Q ρ D w := by
  intro a h1 h2 h3
  refine (wpIn_wide (n := 0)).2 (wp_scope_straight ((wpIn_wide (n := 0)).1 (wpIn_mono (h a h1 h2 h3) fun e a w ⟨h4, h5⟩ => ?_)))
  cases e <;> first | exact ⟨h4, h5⟩ | exact h5
theorem W_label {P : Program} {r : Option Nat} {n l : Nat} {Q : Exit → Env → List Deferred → World → Prop} {ρ : Env} {D : List Deferred} {w : World} (h : Q .normal ρ D w) : W P r n (.label l) Q ρ D w :=
  fun a h1 h2 h3 => wpIn_label ⟨h2, by rw [h1, h3]; exact h⟩

end Go.Proofs.Ytjgnhhgigickaaa.Wk

namespace Go.Proofs.Ytjgnhhgigickaaa.Wk
open Go

inductive MT where
  | run (mv : List (Mv × Nat))
  | fork (pre : List (Mv × Nat)) (i1 : Nat) (t1 : MT) (i2 : Nat) (t2 : MT)
  | fork3 (pre : List (Mv × Nat)) (i1 : Nat) (t1 : MT) (i2 : Nat) (t2 : MT) (i3 : Nat) (t3 : MT)

def MT.sz : MT → Nat
  | .run mv => mv.length
  | .fork pre _ t1 _ _ => pre.length + (t1.sz + 1)
  | .fork3 pre _ t1 _ _ _ _ => pre.length + (t1.sz + 1)

section
variable (P : Program)

def RunT (ops : Array Oper) (K : Env → World → Prop) : MT → (World → Prop) → Env → World → Prop
  | .run mv, S, ρ, w => RunD P ops K mv S ρ w
  | .fork pre i1 t1 i2 t2, S, ρ, w => RunD P ops (fun ρ' w' => RunD P ops (fun ρ'' w'' => RunT ops K t1 S ρ'' w'') [(.e, i1)] S ρ' w' ∧ RunD P ops (fun ρ'' w'' => RunT ops K t2 S ρ'' w'') [(.e, i2)] S ρ' w') pre S ρ w
  | .fork3 pre i1 t1 i2 t2 i3 t3, S, ρ, w => RunD P ops (fun ρ' w' => RunD P ops (fun ρ'' w'' => RunT ops K t1 S ρ'' w'') [(.e, i1)] S ρ' w' ∧ RunD P ops (fun ρ'' w'' => RunT ops K t2 S ρ'' w'') [(.e, i2)] S ρ' w' ∧ RunD P ops (fun ρ'' w'' => RunT ops K t3 S ρ'' w'') [(.e, i3)] S ρ' w') pre S ρ w

def okPre (md : Region.Mode) (ops : Array Oper) (z : Nat) : List (Mv × Nat) → Array Bool → Bool
  | [], _ => true
  | (m, i) :: r, listed =>
    (match m with
      | .p => (Region.ready md ops listed).contains i && Region.free md ops listed i && !(i == z)
      | .l => (Region.ready md ops listed).contains i && Region.free md ops listed i && !(i == z) && (waits md ops 60 z i || (ops[z]?).isNone)
      | _ => false) && okPre md ops z r (listed.setIfInBounds i true)
def setAll : List (Mv × Nat) → Array Bool → Array Bool
  | [], listed => listed
  | (_, i) :: r, listed => setAll r (listed.setIfInBounds i true)

def okT (md : Region.Mode) (ops : Array Oper) (z : Nat) : MT → Array Bool → Bool
  | .run mv, listed => okMoves md ops mv listed && nextF mv == z
  | .fork pre i1 t1 i2 t2, listed => okPre md ops z pre listed && (Region.ready md ops (setAll pre listed)).contains i1 && (Region.ready md ops (setAll pre listed)).all (fun j => j == i1 || j == i2) && !(i1 == z) && !(i2 == z) && t1.sz == t2.sz &&
      okT md ops z t1 ((setAll pre listed).setIfInBounds i1 true) && okT md ops z t2 ((setAll pre listed).setIfInBounds i2 true)
  | .fork3 pre i1 t1 i2 t2 i3 t3, listed => okPre md ops z pre listed && (Region.ready md ops (setAll pre listed)).contains i1 && (Region.ready md ops (setAll pre listed)).all (fun j => j == i1 || j == i2 || j == i3) && !(i1 == z) && !(i2 == z) && !(i3 == z) && t1.sz == t2.sz && t1.sz == t3.sz &&
      okT md ops z t1 ((setAll pre listed).setIfInBounds i1 true) && okT md ops z t2 ((setAll pre listed).setIfInBounds i2 true) && okT md ops z t3 ((setAll pre listed).setIfInBounds i3 true)

variable {P}

theorem RunD_anyP {md : Region.Mode} {ops : Array Oper} {K K' : Env → World → Prop} {z : Nat} {S : World → Prop} (hsel : Region.noSelect ops = true) (fuel : Nat) : ∀ (pre : List (Mv × Nat)) (listed : Array Bool) (ρ : Env) (w : World),
    okPre md ops z pre listed = true → Closed md ops listed → S w → (∀ ρ' w', S w' → Closed md ops (setAll pre listed) → K' ρ' w' → anyE P md ops K S z fuel (setAll pre listed) ρ' w') → RunD P ops K' pre S ρ w → anyE P md ops K S z (pre.length + fuel) listed ρ w
  | [], listed, ρ, w, _, hc, hS, hend, h => by rw [List.length_nil, Nat.zero_add]; exact hend ρ w hS hc h
  | (m, i) :: r, listed, ρ, w, hok, hc, hS, hend, h => by
    unfold RunD at h
    rw [show ((m, i) :: r).length + fuel = (r.length + fuel) + 1 by simp; omega]
    cases ho : ops[i]? with
    | none => simp [ho] at h
    | some o =>
      simp only [ho] at h
      unfold okPre at hok
      simp only [Bool.and_eq_true] at hok
      obtain ⟨hm, hok⟩ := hok
      by_cases hw : Region.wanted o (yl ops ρ) = true
      · rw [if_pos hw] at h
        cases m with
        | p =>
          obtain ⟨v, hv, h⟩ := h
          simp only [Bool.and_eq_true] at hm
          have hr : i ∈ Region.ready md ops listed := by simpa using hm.1.1
          have hz : i ≠ z := by simpa using hm.2
          exact anyE_first P (T := fun _ => True) ho hsel hz (fun _ _ => trivial) (.inl fun _ => trivial) (r.length + fuel) listed ρ w hc hm.1.2 hr (.inl ⟨hw, fun w _ => hv w⟩) hS
            (RunD_anyP hsel fuel r _ _ w hok (hc.set hr) hS hend h)
        | l =>
          obtain ⟨v, hv, h⟩ := h
          simp only [Bool.and_eq_true] at hm
          have hr : i ∈ Region.ready md ops listed := by simpa using hm.1.1.1
          have hz : i ≠ z := by simpa using hm.1.2
          refine anyE_first P (T := S) ho hsel hz (fun _ h => h) (.inr ?_) (r.length + fuel) listed ρ w hc hm.1.1.2 hr (.inl ⟨hw, hv⟩) hS
            (RunD_anyP hsel fuel r _ _ w hok (hc.set hr) hS hend h)
          rcases Bool.or_eq_true _ _ ▸ hm.2 with h1 | h1
          · exact .inl ⟨60, h1⟩
          · exact .inr (by simpa using h1)
        | e => simp at hm
        | f => simp at hm
      · rw [if_neg hw] at h
        have hwf : Region.wanted o (yl ops ρ) = false := by simpa using hw
        have hy : YR P ops (fun _ => True) o undef ρ := .inr ⟨hwf, rfl⟩
        have hm2 : (Region.ready md ops listed).contains i = true ∧ Region.free md ops listed i = true ∧ (!(i == z)) = true := by
          cases m with
          | p => simp only [Bool.and_eq_true] at hm; exact ⟨hm.1.1, hm.1.2, hm.2⟩
          | l => simp only [Bool.and_eq_true] at hm; exact ⟨hm.1.1.1, hm.1.1.2, hm.1.2⟩
          | e => simp at hm
          | f => simp at hm
        have hr : i ∈ Region.ready md ops listed := by simpa using hm2.1
        have hz : i ≠ z := by simpa using hm2.2.2
        exact anyE_first P (T := fun _ => True) ho hsel hz (fun _ _ => trivial) (.inl fun _ => trivial) (r.length + fuel) listed ρ w hc hm2.2.1 hr hy hS
          (RunD_anyP hsel fuel r _ _ w hok (hc.set hr) hS hend h)

theorem RunT_any {md : Region.Mode} {ops : Array Oper} {K : Env → World → Prop} {z : Nat} {S : World → Prop} (hsel : Region.noSelect ops = true) : ∀ (t : MT) (listed : Array Bool) (ρ : Env) (w : World),
    okT md ops z t listed = true → Closed md ops listed → S w → RunT P ops K t S ρ w → anyE P md ops K S z t.sz listed ρ w
  | .run mv, listed, ρ, w, hok, hc, hS, h => by
    unfold okT at hok
    simp only [Bool.and_eq_true, beq_iff_eq] at hok
    rw [← hok.2]
    exact RunD_any P hsel mv listed S ρ w hok.1 hc hS h
  | .fork pre i1 t1 i2 t2, listed, ρ, w, hok, hc, hS, h => by
    unfold okT at hok
    simp only [Bool.and_eq_true, beq_iff_eq] at hok
    obtain ⟨⟨⟨⟨⟨⟨⟨hp, hc1⟩, hall⟩, hz1⟩, hz2⟩, hsz⟩, hok1⟩, hok2⟩ := hok
    unfold RunT at h
    refine RunD_anyP hsel (t1.sz + 1) pre listed ρ w hp hc hS (fun ρ' w' hS' hcl hk => ?_) h
    have step : ∀ (i : Nat) (t : MT), t.sz = t1.sz → i ≠ z → i ∈ Region.ready md ops (setAll pre listed) → okT md ops z t ((setAll pre listed).setIfInBounds i true) = true →
        (∀ ρ w, S w → Closed md ops ((setAll pre listed).setIfInBounds i true) → RunT P ops K t S ρ w → anyE P md ops K S z t.sz ((setAll pre listed).setIfInBounds i true) ρ w) →
        RunD P ops (fun ρ'' w'' => RunT P ops K t S ρ'' w'') [(.e, i)] S ρ' w' → opR P ops i (fun ρ'' w'' => if i = z then anyR P md ops K t1.sz ((setAll pre listed).setIfInBounds i true) ρ'' w'' else S w'' ∧ anyE P md ops K S z t1.sz ((setAll pre listed).setIfInBounds i true) ρ'' w'') ρ' w' := by
      intro i t hst hiz hir hok ih hk
      unfold RunD at hk
      unfold opR
      cases ho : ops[i]? with
      | none => simp [ho] at hk
      | some o =>
        simp only [ho] at hk ⊢
        by_cases hw : Region.wanted o (yl ops ρ') = true
        · rw [if_pos hw] at hk ⊢
          refine OpE_mono P (fun v w'' h => ?_) hk
          rw [if_neg hiz]
          exact ⟨h.1, by rw [← hst]; exact ih _ _ h.1 (hcl.set hir) h.2⟩
        · rw [if_neg hw] at hk ⊢
          rw [if_neg hiz]
          exact ⟨hS', by rw [← hst]; exact ih _ _ hS' (hcl.set hir) hk⟩
    have hr1 : i1 ∈ Region.ready md ops (setAll pre listed) := by simpa using hc1
    refine ⟨fun h => (by rw [h] at hr1; cases hr1), fun j hj => ?_⟩
    have hj2 := List.all_eq_true.1 hall j hj
    simp only [Bool.or_eq_true, beq_iff_eq] at hj2
    rcases hj2 with rfl | rfl
    · exact step j t1 rfl (by simpa using hz1) hj hok1 (fun ρ w h1 h2 h3 => RunT_any hsel t1 _ ρ w hok1 h2 h1 h3) hk.1
    · exact step j t2 hsz.symm (by simpa using hz2) hj hok2 (fun ρ w h1 h2 h3 => RunT_any hsel t2 _ ρ w hok2 h2 h1 h3) hk.2
  | .fork3 pre i1 t1 i2 t2 i3 t3, listed, ρ, w, hok, hc, hS, h => by
    unfold okT at hok
    simp only [Bool.and_eq_true, beq_iff_eq] at hok
    obtain ⟨⟨⟨⟨⟨⟨⟨⟨⟨⟨hp, hc1⟩, hall⟩, hz1⟩, hz2⟩, hz3⟩, hsz⟩, hsz3⟩, hok1⟩, hok2⟩, hok3⟩ := hok
    unfold RunT at h
    refine RunD_anyP hsel (t1.sz + 1) pre listed ρ w hp hc hS (fun ρ' w' hS' hcl hk => ?_) h
    have step : ∀ (i : Nat) (t : MT), t.sz = t1.sz → i ≠ z → i ∈ Region.ready md ops (setAll pre listed) → okT md ops z t ((setAll pre listed).setIfInBounds i true) = true →
        (∀ ρ w, S w → Closed md ops ((setAll pre listed).setIfInBounds i true) → RunT P ops K t S ρ w → anyE P md ops K S z t.sz ((setAll pre listed).setIfInBounds i true) ρ w) →
        RunD P ops (fun ρ'' w'' => RunT P ops K t S ρ'' w'') [(.e, i)] S ρ' w' → opR P ops i (fun ρ'' w'' => if i = z then anyR P md ops K t1.sz ((setAll pre listed).setIfInBounds i true) ρ'' w'' else S w'' ∧ anyE P md ops K S z t1.sz ((setAll pre listed).setIfInBounds i true) ρ'' w'') ρ' w' := by
      intro i t hst hiz hir hok ih hk
      unfold RunD at hk
      unfold opR
      cases ho : ops[i]? with
      | none => simp [ho] at hk
      | some o =>
        simp only [ho] at hk ⊢
        by_cases hw : Region.wanted o (yl ops ρ') = true
        · rw [if_pos hw] at hk ⊢
          refine OpE_mono P (fun v w'' h => ?_) hk
          rw [if_neg hiz]
          exact ⟨h.1, by rw [← hst]; exact ih _ _ h.1 (hcl.set hir) h.2⟩
        · rw [if_neg hw] at hk ⊢
          rw [if_neg hiz]
          exact ⟨hS', by rw [← hst]; exact ih _ _ hS' (hcl.set hir) hk⟩
    have hr1 : i1 ∈ Region.ready md ops (setAll pre listed) := by simpa using hc1
    refine ⟨fun h => (by rw [h] at hr1; cases hr1), fun j hj => ?_⟩
    have hj2 := List.all_eq_true.1 hall j hj
    simp only [Bool.or_eq_true, beq_iff_eq] at hj2
    rcases hj2 with (rfl | rfl) | rfl
    · exact step j t1 rfl (by simpa using hz1) hj hok1 (fun ρ w h1 h2 h3 => RunT_any hsel t1 _ ρ w hok1 h2 h1 h3) hk.1
    · exact step j t2 hsz.symm (by simpa using hz2) hj hok2 (fun ρ w h1 h2 h3 => RunT_any hsel t2 _ ρ w hok2 h2 h1 h3) hk.2.1
    · exact step j t3 hsz3.symm (by simpa using hz3) hj hok3 (fun ρ w h1 h2 h3 => RunT_any hsel t3 _ ρ w hok3 h2 h1 h3) hk.2.2

theorem W_regT {r : Option Nat} {n : Nat} {Q : Exit → Env → List Deferred → World → Prop} {ρ : Env} {D : List Deferred} {w : World} {id : Nat} {ops : Array Oper} (t : MT) (z : Nat) (S : World → Prop) (hm : P.follows .mixedOrders = true) (hd : dstOk ops n = true) (hsel : Region.noSelect ops = true) (hlen : t.sz = ops.size)
    (hok : okT .any ops z t (Array.replicate ops.size false) = true)
    (h : ∀ w', SameW w' w → S w' ∧ RunT P ops (fun ρ' w' => Q .normal ρ' D w') t S ρ w') : W P r n (.region id ops true) Q ρ D w := by
  intro a h1 h2 h3
  obtain ⟨hS, hR⟩ := h { w with drawn := w.drawn + 1 } ⟨rfl, rfl, rfl⟩
  refine wpIn_region_any hm (anyR_lift P hd (K := fun ρ' w' => Q .normal ρ' D w') (D := D) ?_ _ _ a _ h2 h3 ?_)
  · intro a w hn hD hk
    exact ⟨hn, by rw [hD]; exact hk⟩
  · have key := anyR_of_anyE P _ _ _ _ (RunT_any hsel t _ ρ _ hok (closed_none _ _ _) hS hR)
    rw [hlen] at key
    rw [h1]
    exact key
end

section
variable {P : Program} {ops : Array Oper} {K : Env → World → Prop} {rest : List (Mv × Nat)} {S : World → Prop} {ρ : Env} {w : World} {i : Nat} {G : GH} {L : LH}
/-- a store that keeps S -/
theorem m_storeE (j : Nat) (l : List (Nat × Value)) {b : Nat} {cs : List Value} {T : TypeId} {lo hi : Nat} (cs' : List Value) {L' : LH} (d : Option Nat)
    (hv : opK ops i ρ (stA P) = some ((l.map fun p => (⟨b, p.1, none⟩, p.2), .skip), d)) (hst : St G L w) (hL : L[j]? = some (b, .cells cs.toArray T (lo, hi)))
    (hin : (l.all fun p => decide (p.1 < cs.length) && !(decide (lo ≤ p.1) && decide (p.1 < hi))) = true) (hcs : wr cs l = cs') (hL' : L.set j (b, .cells cs'.toArray T (lo, hi)) = L') (hS : ∀ w', St G L' w' → S w')
    (hk : ∀ w', St G L' w' → RunD P ops K rest S (updo ρ d undef) w') : RunD P ops K ((.e, i) :: rest) S ρ w :=
  m_e _ d hv fun _ hx => OpE_store j l cs' L' hx hst hL hin hcs hL' fun w' hst' => ⟨hS w' hst', hk w' hst'⟩
/-- a read in its turn, as an effect -/
theorem m_ldE (vs : List Value) (rd : List (Addr × Value)) (v : Value) (d : Option Nat) (h : opK ops i ρ (fun s => (rdA P s vs).map fun x => (x.1.zip vs, x.2)) = some ((rd, .value v), d)) (hr : RC G L rd) (hst : St G L w) (hS : S w)
    (hk : RunD P ops K rest S (updo ρ d v) w) : RunD P ops K ((.e, i) :: rest) S ρ w := by
  refine m_e _ d h fun o hx => ?_
  simp only [Option.map_eq_some_iff, Prod.mk.injEq] at hx
  obtain ⟨x, hx, h1, h2⟩ := hx
  have hrun := rdA_ok (w := w) (x := x.2) vs x.1 hx (fun p hp => hr w hst.ss p (by rw [← h1]; exact hp))
  rw [h2] at hrun
  exact OpE_ok hrun ⟨hS, hk⟩
end

open Md
set_option maxRecDepth 20000
attribute [local irreducible] endQ
def needsV : Value := .agg #[.int .i64 0, .bool false, .bool false, .int .i64 0, .bool false, .bool false, .int .i64 1, .bool true, .bool false, .int .i64 1, .bool true, .bool true, .int .i64 2, .bool false, .bool false, .int .i64 1, .bool false, .bool true]
theorem c111 {G : GH} {L : LH} {w : World} (H : St G L w) : Cal Try.prog 111 #[] w fun x w' => x = needsV ∧ St G L w' := by
 refine cal_of_W Try.func111 rfl (Nat.le_of_ble_eq_true e_) ?_;refine W_sr [(.f, 0)] H ?_;refine m_nw (.cells #[iN 0, .bool false, .bool false, iN 0, .bool false, .bool false, iN 0, .bool false, .bool false, iN 0, .bool false, .bool false, iN 0, .bool false, .bool false, iN 0, .bool false, .bool false] 163) 0 H (fun b1 w1 H => ?_);refine r_nil ?_;refine W_sr [(.p, 0), (.p, 1), (.p, 2), (.p, 3), (.p, 4), (.p, 5), (.p, 6), (.f, 7)] H ?_;refine r_y [(.p, 0), (.p, 1), (.p, 2), (.p, 3), (.p, 4), (.p, 5), (.p, 6)] [(1, .agg #[iN 0, .bool false, .bool false]), (2, .agg #[iN 0, .bool false, .bool false]), (3, .agg #[iN 1, .bool true, .bool false]), (4, .agg #[iN 1, .bool true, .bool true]), (5, .agg #[iN 2, .bool false, .bool false]), (6, .agg #[iN 1, .bool false, .bool true]), (7, .agg #[iN 0, .bool false, .bool false, iN 0, .bool false, .bool false, iN 1, .bool true, .bool false, iN 1, .bool true, .bool true, iN 2, .bool false, .bool false, iN 1, .bool false, .bool true])] ?_;refine s_0 [(0, iN 0), (1, .bool false), (2, .bool false), (3, iN 0), (4, .bool false), (5, .bool false), (6, iN 1), (7, .bool true), (8, .bool false), (9, iN 1), (10, .bool true), (11, .bool true), (12, iN 2), (13, .bool false), (14, .bool false), (15, iN 1), (16, .bool false), (17, .bool true)] [iN 0, .bool false, .bool false, iN 0, .bool false, .bool false, iN 1, .bool true, .bool false, iN 1, .bool true, .bool true, iN 2, .bool false, .bool false, iN 1, .bool false, .bool true] none H (fun w1 H => ?_);refine r_nil ?_;refine W_ret ?_;refine q_rt [iN 0, .bool false, .bool false, iN 0, .bool false, .bool false, iN 1, .bool true, .bool false, iN 1, .bool true, .bool true, iN 2, .bool false, .bool false, iN 1, .bool false, .bool true] [(⟨b1, 0, none⟩, iN 0), (⟨b1, 1, none⟩, .bool false), (⟨b1, 2, none⟩, .bool false), (⟨b1, 3, none⟩, iN 0), (⟨b1, 4, none⟩, .bool false), (⟨b1, 5, none⟩, .bool false), (⟨b1, 6, none⟩, iN 1), (⟨b1, 7, none⟩, .bool true), (⟨b1, 8, none⟩, .bool false), (⟨b1, 9, none⟩, iN 1), (⟨b1, 10, none⟩, .bool true), (⟨b1, 11, none⟩, .bool true), (⟨b1, 12, none⟩, iN 2), (⟨b1, 13, none⟩, .bool false), (⟨b1, 14, none⟩, .bool false), (⟨b1, 15, none⟩, iN 1), (⟨b1, 16, none⟩, .bool false), (⟨b1, 17, none⟩, .bool true)] (.agg #[iN 0, .bool false, .bool false, iN 0, .bool false, .bool false, iN 1, .bool true, .bool false, iN 1, .bool true, .bool true, iN 2, .bool false, .bool false, iN 1, .bool false, .bool true]) (rc_L 0 rfl rfl (rc_L 0 rfl rfl (rc_L 0 rfl rfl (rc_L 0 rfl rfl (rc_L 0 rfl rfl (rc_L 0 rfl rfl (rc_L 0 rfl rfl (rc_L 0 rfl rfl (rc_L 0 rfl rfl (rc_L 0 rfl rfl (rc_L 0 rfl rfl (rc_L 0 rfl rfl (rc_L 0 rfl rfl (rc_L 0 rfl rfl (rc_L 0 rfl rfl (rc_L 0 rfl rfl (rc_L 0 rfl rfl (rc_L 0 rfl rfl rc_nil)))))))))))))))))) H ?_
 exact ⟨rfl, H.drop [_]⟩
theorem m_needs {ops : Array Oper} {K : Env → World → Prop} {rest : List (Mv × Nat)} {S : World → Prop} {ρ : Env} {w : World} {i : Nat} {x y : Operand} {k : Int} {dd : Option Nat} (h : opAt ops i ρ = some (.index 163 x y, dd)) (hx : ev ρ x = needsV) (hy : ev ρ y = .int .i64 (IntKind.wrap .i64 (k - 1))) (hk : 1 ≤ k ∧ k ≤ 6)
  (hn : RunD Try.prog ops K rest S (updo ρ dd (.agg #[.int .i64 ((needKids k : Nat) : Int), .bool (binds k), .bool (Md.typed k)])) w) : RunD Try.prog ops K ((.p, i) :: rest) S ρ w := by
 refine m_pF _ h (fun o ho w' => ?_) hn
 have key : (execOp (ev ρ) o).run Try.prog w' = ((Instr.index 163 needsV (.int .i64 (IntKind.wrap .i64 (k - 1)))).run Try.prog w').andThen fun v w'' => .ok (.value v) w'' := by
  simp [execOp, ho, hx, hy, Result.andThen]
 rw [key]
 have hk' : k = 1 ∨ k = 2 ∨ k = 3 ∨ k = 4 ∨ k = 5 ∨ k = 6 := by omega
 rcases hk' with rfl | rfl | rfl | rfl | rfl | rfl <;> (rw [pv_ok (a := _) e_ w']; rfl)

theorem c114 {G : GH} {L : LH} {w : World} {t : T} {A : Option Addr} {c : Nat} (H : St G L w) : Cal Try.prog 114 #[.agg #[.int .i64 t.kind, .int .i64 t.num, .slice A t.kids.length c]] w fun x w' => x = .agg #[.int .i64 t.kind, .int .i64 t.num] ∧ St G L w' := by
 refine cal_of_W Try.func114 rfl (Nat.le_of_ble_eq_true e_) ?_;refine W_sr [(.f, 0), (.f, 1)] H ?_;refine m_nw (cT t A c) 1 H (fun b1 w1 H => ?_);refine m_nw (.cells #[iN 0, iN 0] 168) 2 H (fun b2 w1 H => ?_);refine r_nil ?_;refine W_sr [(.p, 0), (.l, 1), (.p, 2), (.l, 3), (.p, 4), (.f, 5)] H ?_;refine r_s [1, 1] [(.p, 0), (.l, 1), (.p, 2), (.l, 3), (.p, 4)] [(3, pN b1 0), (4, iN t.kind), (5, pN b1 1), (6, iN t.num), (7, .agg #[iN t.kind, iN t.num])] (rc_l 1 0 rfl rfl (rc_l 1 1 rfl rfl rc_nil)) ?_;refine s_0 [(0, iN t.kind), (1, iN t.num)] [iN t.kind, iN t.num] none H (fun w1 H => ?_);refine r_nil ?_;refine W_ret ?_;refine q_rt [iN t.kind, iN t.num] [(⟨b2, 0, none⟩, iN t.kind), (⟨b2, 1, none⟩, iN t.num)] (.agg #[iN t.kind, iN t.num]) (rc_L 0 rfl rfl (rc_L 0 rfl rfl rc_nil)) H ?_
 exact ⟨rfl, H.drop [_, _]⟩

theorem c112 {G : GH} {L : LH} {w : World} {v : Value} {t : T} {is : Bool} (hv : IsPoly G v t) (hsz : T.sz t < lim) (H : St G L w) : Cal Try.prog 112 #[v, .bool is] w fun x w' => ∃ G', Le G G' ∧ x = .int .i64 (annotated t is) ∧ St G' L w' := by
 obtain ⟨tA, tc, rfl, htc, htk⟩ := id hv.open;refine cal_of_W Try.func112 rfl (Nat.le_of_ble_eq_true e_) ?_;refine W_sr [(.f, 0), (.p, 1)] H ?_;refine m_nw (cT t tA tc) 2 H (fun b1 w1 H => ?_);refine r_z [(4, iN 0)] ?_;refine W_seq ?_;refine W_block ?_;refine W_sr (pL 2) H ?_;refine r_z [(6, .bool is), (5, .bool is)] ?_;refine W_cd (b := is) (fun hc2 => ?_) (fun hc2 => ?_)
 ·skip
  subst hc2;refine W_sr [(.l, 0), (.f, 1), (.p, 2)] H ?_;refine r_s [3] [(.l, 0)] [(7, (aT t tA tc))] (rc_l 0 0 rfl rfl (rc_l 0 1 rfl rfl (rc_l 0 2 rfl rfl rc_nil))) ?_;refine m_cl #[(aT t tA tc), iN 0] (some 8) (c40 hv hsz H) ?_;rintro _ w1 ⟨G1, hG1, rfl, H⟩;refine nx H ?_;refine r_z [(4, iN (right t 0))] ?_;refine W_ret ?_;refine q_rt [] [] (iN (right t 0)) rc_nil H ?_
  exact ⟨G1, hG1, rfl, H.drop [_]⟩
 subst hc2;refine W_sr [(.l, 0), (.f, 1), (.p, 2), (.p, 3), (.p, 4), (.p, 5), (.l, 6), (.p, 7), (.p, 8), (.p, 9), (.p, 10)] H ?_;refine r_s [3] [(.l, 0)] [(10, (aT t tA tc))] (rc_l 0 0 rfl rfl (rc_l 0 1 rfl rfl (rc_l 0 2 rfl rfl rc_nil))) ?_;refine m_cl #[(aT t tA tc)] (some 11) (c114 H) ?_;rintro _ w1 ⟨rfl, H⟩;refine nx H ?_;refine r_y [(.p, 2)] [(12, .agg #[iN 0, iN 0])] ?_;refine m_neq168 (a := t.kind) (b := t.num) (c := 0) (d := 0) (dd := (some 13)) (show opAt _ _ _ = some (.binOp .neq 168 (.tmp 11) (.tmp 12) 168, _) by kernel_rfl) e_ e_ ?_;refine r_y [(.p, 4)] [(14, .bool (!(t.kind == 0 && t.num == 0)))] ?_
 rcases Bool.eq_false_or_eq_true (!(t.kind == 0 && t.num == 0)) with hc3 | hc3
 ·rw [hc3]
  have hp4 := hc3
  simp only [decide_eq_true_eq, decide_eq_false_iff_not, beq_iff_eq, beq_eq_false_iff_ne, bne_iff_ne, bne_eq_false_iff_eq, Bool.not_eq_true', Bool.not_eq_false', Bool.and_eq_true, Bool.and_eq_false_iff, ne_eq] at hp4;refine r_z (uD 15 4 [(19, .bool true), (9, .bool true)]) ?_;refine W_cT ?_;refine W_sr [(.p, 0)] H ?_;refine r_z [(4, iN 4)] ?_;refine W_ret ?_;refine q_rt [] [] (iN 4) rc_nil H ?_;refine ⟨G, Le.refl _, ?_, H.drop [_]⟩;simp only [annotated, Bool.false_eq_true, if_false]
  first | rw [if_pos (by omega)] | rw [if_neg (by omega)]
 rw [hc3]
 have hp5 := hc3
 simp only [decide_eq_true_eq, decide_eq_false_iff_not, beq_iff_eq, beq_eq_false_iff_ne, bne_iff_ne, bne_eq_false_iff_eq, Bool.not_eq_true', Bool.not_eq_false', Bool.and_eq_true, Bool.and_eq_false_iff, ne_eq] at hp5;refine r_x [1] [(15, pN b1 2), (16, .slice tA t.kids.length tc), (17, nN t.kids.length), (18, .bool (decide ((((t.kids.length : Nat) : Int)) > 0))), (19, .bool (decide ((((t.kids.length : Nat) : Int)) > 0))), (9, .bool (decide ((((t.kids.length : Nat) : Int)) > 0)))] (rc_l 0 2 rfl rfl rc_nil) ?_;refine W_cd (b := decide ((((t.kids.length : Nat) : Int)) > 0)) (fun hc6 => ?_) (fun hc6 => ?_)
 ·skip
  have hp7 := hc6
  simp only [decide_eq_true_eq, decide_eq_false_iff_not, beq_iff_eq, beq_eq_false_iff_ne, bne_iff_ne, bne_eq_false_iff_eq, Bool.not_eq_true', Bool.not_eq_false', Bool.and_eq_true, Bool.and_eq_false_iff, ne_eq] at hp7;refine W_sr [(.p, 0)] H ?_;refine r_z [(4, iN 4)] ?_;refine W_ret ?_;refine q_rt [] [] (iN 4) rc_nil H ?_;refine ⟨G, Le.refl _, ?_, H.drop [_]⟩;simp only [annotated, Bool.false_eq_true, if_false]
  first | rw [if_pos (by omega)] | rw [if_neg (by omega)]
 have hp8 := hc6
 simp only [decide_eq_true_eq, decide_eq_false_iff_not, beq_iff_eq, beq_eq_false_iff_ne, bne_iff_ne, bne_eq_false_iff_eq, Bool.not_eq_true', Bool.not_eq_false', Bool.and_eq_true, Bool.and_eq_false_iff, ne_eq] at hp8;refine W_skip ?_;refine W_sr [(.p, 0)] H ?_;refine r_z [(4, iN 0)] ?_;refine W_ret ?_;refine q_rt [] [] (iN 0) rc_nil H ?_;refine ⟨G, Le.refl _, ?_, H.drop [_]⟩;simp only [annotated, Bool.false_eq_true, if_false]
 first | rw [if_pos (by omega)] | rw [if_neg (by omega)]

theorem goodE_eq (e : E) (vars many : Int) : goodE e vars many = if many = 20 then (2, many)
  else if e.kind < 1 ∨ e.kind > 6 ∨ e.num < 0 ∨ e.num > 1073741824 ∨ (e.num > 0 ∧ e.kind > 2) then (3, w64 (many + 1))
  else if e.kids.length ≠ needKids e.kind then (4, w64 (many + 1))
  else if annotated e.ty (Md.typed e.kind) ≠ 0 then (annotated e.ty (Md.typed e.kind), w64 (many + 1))
  else if e.kind = 1 ∧ e.num ≥ vars then (1, w64 (many + 1))
  else goodL e.kids (if binds e.kind then w64 (vars + 1) else vars) (w64 (many + 1)) := by
 obtain ⟨k, n, ks, ty⟩ := e;rw [goodE]
theorem c75 : ∀ (N : Nat) (e : E), E.sz e < N → N ≤ lim → ∀ {G : GH} {L : LH} {w : World} {v : Value} {vars many : Int} {mb : Nat}, IsExpr G v e → St G ((mb, .cells #[.int .i64 many] 3) :: L) w →
  Cal Try.prog 75 #[v, .int .i64 vars, .pointer (some ⟨mb, 0, none⟩)] w fun x w' => ∃ G', Le G G' ∧ x = .int .i64 (goodE e vars many).1 ∧ St G' ((mb, .cells #[.int .i64 (goodE e vars many).2] 3) :: L) w' := by
 intro N
 induction N with
 | zero => intro p h; omega
 | succ N ih =>
 intro e hsz hN G L w v vars many mb hv H
 have hlim : lim = 1099511627776 := rfl
 have hlen := E.len_le e
 have htyl := E.ty_le e
 have hne := goodE_eq e vars many
 obtain ⟨A, c, B, d, rfl, hc, hks, hty⟩ := id hv.open;refine cal_of_W Try.func75 rfl (Nat.le_of_ble_eq_true e_) ?_;refine W_sr [(.f, 0), (.p, 1)] H ?_;refine m_nw (cE e A c B d) 3 H (fun b1 w1 H => ?_);refine r_z [(6, iN 0)] ?_;refine W_seq ?_;refine W_sr [(.p, 0), (.p, 1), (.l, 2), (.p, 3)] H ?_;refine r_x [1] [(12, pN mb 0), (13, pN mb 0), (14, iN many), (15, .bool (many == 20))] (rc_l 1 0 rfl rfl rc_nil) ?_;refine W_cd (b := many == 20) (fun hc2 => ?_) (fun hc2 => ?_)
 ·skip
  have hp3 := hc2
  simp only [decide_eq_true_eq, decide_eq_false_iff_not, beq_iff_eq, beq_eq_false_iff_ne, bne_iff_ne, bne_eq_false_iff_eq, Bool.not_eq_true', Bool.not_eq_false', Bool.and_eq_true, Bool.and_eq_false_iff, ne_eq] at hp3;refine W_seq ?_;rw [if_pos (show many = 20 by omega)] at hne;refine W_rg [(.p, 0)] H ?_;refine r_z [(6, iN 2)] ?_;refine W_ret ?_;refine q_rt [] [] (iN 2) rc_nil H ?_;refine ⟨G, Le.refl _, by rw [hne], ?_⟩
  rw [hne]; exact H.drop [_]
 have hp4 := hc2
 simp only [decide_eq_true_eq, decide_eq_false_iff_not, beq_iff_eq, beq_eq_false_iff_ne, bne_iff_ne, bne_eq_false_iff_eq, Bool.not_eq_true', Bool.not_eq_false', Bool.and_eq_true, Bool.and_eq_false_iff, ne_eq] at hp4;refine W_skip ?_;refine W_seq ?_;rw [if_neg (show ¬ many = 20 by omega)] at hne;refine W_rg [(.p, 0), (.p, 1), (.l, 2), (.p, 3), (.p, 4), (.f, 5)] H ?_;refine r_s [1] [(.p, 0), (.p, 1), (.l, 2), (.p, 3), (.p, 4)] [(16, pN mb 0), (17, pN mb 0), (18, iN many), (19, iN (IntKind.wrap .i64 (many + 1))), (20, pN mb 0)] (rc_l 1 0 rfl rfl rc_nil) ?_;refine s_1 [(0, iN (IntKind.wrap .i64 (many + 1)))] [iN (IntKind.wrap .i64 (many + 1))] none H (fun w1 H => ?_);refine r_nil ?_;refine W_seqI (fun ρ D w => ∃ (u6 : Unit), EqS ρ [(1, iN vars), (2, pN mb 0), (3, pN b1 0)] ∧ D = [] ∧ St G ((b1, cE e A c B d) :: (mb, .cells #[iN (IntKind.wrap .i64 (many + 1))] 3) :: L) w ∧ (¬ (e.kind < 1 ∨ e.kind > 6 ∨ e.num < 0 ∨ e.num > 1073741824 ∨ (e.num > 0 ∧ e.kind > 2)))) ?_ ?_
 ·skip
  refine W_sr [(.p, 0), (.l, 1), (.p, 2), (.p, 3), (.p, 4), (.l, 5), (.p, 6), (.p, 7), (.p, 8), (.p, 9), (.l, 10), (.p, 11), (.p, 12), (.p, 13), (.p, 14), (.l, 15), (.p, 16), (.p, 17), (.p, 18), (.p, 19), (.l, 20), (.p, 21), (.p, 22), (.p, 23), (.l, 24), (.p, 25), (.p, 26), (.p, 27)] H ?_;refine r_s [1] [(.p, 0), (.l, 1), (.p, 2), (.p, 3)] [(21, pN b1 0), (22, iN e.kind), (23, .bool (decide (e.kind < 1))), (24, .bool (decide (e.kind < 1)))] (rc_l 0 0 rfl rfl rc_nil) ?_
  rcases Bool.eq_false_or_eq_true (decide (e.kind < 1)) with hc5 | hc5
  ·rw [hc5]
   have hp6 := hc5
   simp only [decide_eq_true_eq, decide_eq_false_iff_not, beq_iff_eq, beq_eq_false_iff_ne, bne_iff_ne, bne_eq_false_iff_eq, Bool.not_eq_true', Bool.not_eq_false', Bool.and_eq_true, Bool.and_eq_false_iff, ne_eq] at hp6;refine r_z (uD 25 3 [(28, .bool true), (29, .bool true), (30, undef), (31, undef), (32, undef), (33, .bool true), (34, .bool true), (35, undef), (36, undef), (37, undef), (38, .bool true), (39, .bool true), (40, undef), (41, undef), (42, undef), (43, undef), (44, undef), (45, undef), (46, undef), (47, undef), (48, .bool true)]) ?_;refine W_cT ?_;refine W_seq ?_;rw [if_pos (show e.kind < 1 ∨ e.kind > 6 ∨ e.num < 0 ∨ e.num > 1073741824 ∨ (e.num > 0 ∧ e.kind > 2) by omega)] at hne;refine W_rg [(.p, 0)] H ?_;refine r_z [(6, iN 3)] ?_;refine W_ret ?_;refine q_rt [] [] (iN 3) rc_nil H ?_;refine ⟨G, Le.refl _, by rw [hne], ?_⟩
   rw [hne]; exact H.drop [_]
  rw [hc5]
  have hp7 := hc5
  simp only [decide_eq_true_eq, decide_eq_false_iff_not, beq_iff_eq, beq_eq_false_iff_ne, bne_iff_ne, bne_eq_false_iff_eq, Bool.not_eq_true', Bool.not_eq_false', Bool.and_eq_true, Bool.and_eq_false_iff, ne_eq] at hp7;refine r_s [1] [(.p, 4), (.l, 5), (.p, 6), (.p, 7), (.p, 8)] [(25, pN b1 0), (26, iN e.kind), (27, .bool (decide (e.kind > 6))), (28, .bool (decide (e.kind > 6))), (29, .bool (decide (e.kind > 6)))] (rc_l 0 0 rfl rfl rc_nil) ?_
  rcases Bool.eq_false_or_eq_true (decide (e.kind > 6)) with hc8 | hc8
  ·rw [hc8]
   have hp9 := hc8
   simp only [decide_eq_true_eq, decide_eq_false_iff_not, beq_iff_eq, beq_eq_false_iff_ne, bne_iff_ne, bne_eq_false_iff_eq, Bool.not_eq_true', Bool.not_eq_false', Bool.and_eq_true, Bool.and_eq_false_iff, ne_eq] at hp9;refine r_z (uD 30 3 [(33, .bool true), (34, .bool true), (35, undef), (36, undef), (37, undef), (38, .bool true), (39, .bool true), (40, undef), (41, undef), (42, undef), (43, undef), (44, undef), (45, undef), (46, undef), (47, undef), (48, .bool true)]) ?_;refine W_cT ?_;refine W_seq ?_;rw [if_pos (show e.kind < 1 ∨ e.kind > 6 ∨ e.num < 0 ∨ e.num > 1073741824 ∨ (e.num > 0 ∧ e.kind > 2) by omega)] at hne;refine W_rg [(.p, 0)] H ?_;refine r_z [(6, iN 3)] ?_;refine W_ret ?_;refine q_rt [] [] (iN 3) rc_nil H ?_;refine ⟨G, Le.refl _, by rw [hne], ?_⟩
   rw [hne]; exact H.drop [_]
  rw [hc8]
  have hp10 := hc8
  simp only [decide_eq_true_eq, decide_eq_false_iff_not, beq_iff_eq, beq_eq_false_iff_ne, bne_iff_ne, bne_eq_false_iff_eq, Bool.not_eq_true', Bool.not_eq_false', Bool.and_eq_true, Bool.and_eq_false_iff, ne_eq] at hp10;refine r_s [1] [(.p, 9), (.l, 10), (.p, 11), (.p, 12), (.p, 13)] [(30, pN b1 1), (31, iN e.num), (32, .bool (decide (e.num < 0))), (33, .bool (decide (e.num < 0))), (34, .bool (decide (e.num < 0)))] (rc_l 0 1 rfl rfl rc_nil) ?_
  rcases Bool.eq_false_or_eq_true (decide (e.num < 0)) with hc11 | hc11
  ·rw [hc11]
   have hp12 := hc11
   simp only [decide_eq_true_eq, decide_eq_false_iff_not, beq_iff_eq, beq_eq_false_iff_ne, bne_iff_ne, bne_eq_false_iff_eq, Bool.not_eq_true', Bool.not_eq_false', Bool.and_eq_true, Bool.and_eq_false_iff, ne_eq] at hp12;refine r_z (uD 35 3 [(38, .bool true), (39, .bool true), (40, undef), (41, undef), (42, undef), (43, undef), (44, undef), (45, undef), (46, undef), (47, undef), (48, .bool true)]) ?_;refine W_cT ?_;refine W_seq ?_;rw [if_pos (show e.kind < 1 ∨ e.kind > 6 ∨ e.num < 0 ∨ e.num > 1073741824 ∨ (e.num > 0 ∧ e.kind > 2) by omega)] at hne;refine W_rg [(.p, 0)] H ?_;refine r_z [(6, iN 3)] ?_;refine W_ret ?_;refine q_rt [] [] (iN 3) rc_nil H ?_;refine ⟨G, Le.refl _, by rw [hne], ?_⟩
   rw [hne]; exact H.drop [_]
  rw [hc11]
  have hp13 := hc11
  simp only [decide_eq_true_eq, decide_eq_false_iff_not, beq_iff_eq, beq_eq_false_iff_ne, bne_iff_ne, bne_eq_false_iff_eq, Bool.not_eq_true', Bool.not_eq_false', Bool.and_eq_true, Bool.and_eq_false_iff, ne_eq] at hp13;refine r_s [1] [(.p, 14), (.l, 15), (.p, 16), (.p, 17), (.p, 18)] [(35, pN b1 1), (36, iN e.num), (37, .bool (decide (e.num > 1073741824))), (38, .bool (decide (e.num > 1073741824))), (39, .bool (decide (e.num > 1073741824)))] (rc_l 0 1 rfl rfl rc_nil) ?_
  rcases Bool.eq_false_or_eq_true (decide (e.num > 1073741824)) with hc14 | hc14
  ·rw [hc14]
   have hp15 := hc14
   simp only [decide_eq_true_eq, decide_eq_false_iff_not, beq_iff_eq, beq_eq_false_iff_ne, bne_iff_ne, bne_eq_false_iff_eq, Bool.not_eq_true', Bool.not_eq_false', Bool.and_eq_true, Bool.and_eq_false_iff, ne_eq] at hp15;refine r_z (uD 40 8 [(48, .bool true)]) ?_;refine W_cT ?_;refine W_seq ?_;rw [if_pos (show e.kind < 1 ∨ e.kind > 6 ∨ e.num < 0 ∨ e.num > 1073741824 ∨ (e.num > 0 ∧ e.kind > 2) by omega)] at hne;refine W_rg [(.p, 0)] H ?_;refine r_z [(6, iN 3)] ?_;refine W_ret ?_;refine q_rt [] [] (iN 3) rc_nil H ?_;refine ⟨G, Le.refl _, by rw [hne], ?_⟩
   rw [hne]; exact H.drop [_]
  rw [hc14]
  have hp16 := hc14
  simp only [decide_eq_true_eq, decide_eq_false_iff_not, beq_iff_eq, beq_eq_false_iff_ne, bne_iff_ne, bne_eq_false_iff_eq, Bool.not_eq_true', Bool.not_eq_false', Bool.and_eq_true, Bool.and_eq_false_iff, ne_eq] at hp16;refine r_s [1] [(.p, 19), (.l, 20), (.p, 21), (.p, 22)] [(40, pN b1 1), (41, iN e.num), (42, .bool (decide (e.num > 0))), (43, .bool (decide (e.num > 0)))] (rc_l 0 1 rfl rfl rc_nil) ?_
  rcases Bool.eq_false_or_eq_true (decide (e.num > 0)) with hc17 | hc17
  ·rw [hc17]
   have hp18 := hc17
   simp only [decide_eq_true_eq, decide_eq_false_iff_not, beq_iff_eq, beq_eq_false_iff_ne, bne_iff_ne, bne_eq_false_iff_eq, Bool.not_eq_true', Bool.not_eq_false', Bool.and_eq_true, Bool.and_eq_false_iff, ne_eq] at hp18;refine r_x [1] [(44, pN b1 0), (45, iN e.kind), (46, .bool (decide (e.kind > 2))), (47, .bool (decide (e.kind > 2))), (48, .bool (decide (e.kind > 2)))] (rc_l 0 0 rfl rfl rc_nil) ?_;refine W_cd (b := decide (e.kind > 2)) (fun hc19 => ?_) (fun hc19 => ?_)
   ·skip
    have hp20 := hc19
    simp only [decide_eq_true_eq, decide_eq_false_iff_not, beq_iff_eq, beq_eq_false_iff_ne, bne_iff_ne, bne_eq_false_iff_eq, Bool.not_eq_true', Bool.not_eq_false', Bool.and_eq_true, Bool.and_eq_false_iff, ne_eq] at hp20;refine W_seq ?_;rw [if_pos (show e.kind < 1 ∨ e.kind > 6 ∨ e.num < 0 ∨ e.num > 1073741824 ∨ (e.num > 0 ∧ e.kind > 2) by omega)] at hne;refine W_rg [(.p, 0)] H ?_;refine r_z [(6, iN 3)] ?_;refine W_ret ?_;refine q_rt [] [] (iN 3) rc_nil H ?_;refine ⟨G, Le.refl _, by rw [hne], ?_⟩
    rw [hne]; exact H.drop [_]
   have hp21 := hc19
   simp only [decide_eq_true_eq, decide_eq_false_iff_not, beq_iff_eq, beq_eq_false_iff_ne, bne_iff_ne, bne_eq_false_iff_eq, Bool.not_eq_true', Bool.not_eq_false', Bool.and_eq_true, Bool.and_eq_false_iff, ne_eq] at hp21;refine W_skip ?_
   exact ⟨(), ⟨e_, e_, e_, trivial⟩, rfl, H, (by omega)⟩
  rw [hc17]
  have hp22 := hc17
  simp only [decide_eq_true_eq, decide_eq_false_iff_not, beq_iff_eq, beq_eq_false_iff_ne, bne_iff_ne, bne_eq_false_iff_eq, Bool.not_eq_true', Bool.not_eq_false', Bool.and_eq_true, Bool.and_eq_false_iff, ne_eq] at hp22;refine r_z (uD 44 3 [(47, .bool false), (48, .bool false)]) ?_;refine W_cF ?_;refine W_skip ?_
  exact ⟨(), ⟨e_, e_, e_, trivial⟩, rfl, H, (by omega)⟩
 clear H; rintro ρ D w1 ⟨u6, hE23, rfl, H, hR4⟩
 refine W_env hE23 ?_;refine W_seq ?_;rw [if_neg (show ¬ (e.kind < 1 ∨ e.kind > 6 ∨ e.num < 0 ∨ e.num > 1073741824 ∨ (e.num > 0 ∧ e.kind > 2)) by omega)] at hne
 have hk16 : 1 ≤ e.kind ∧ e.kind ≤ 6 := by omega
 refine W_regT (.fork [(.p, 1), (.l, 2), (.p, 3)] 0 (.run [(.p, 4), (.e, 5), (.f, 6)]) 5 (.run [(.e, 0), (.p, 4), (.f, 6)])) 6 (SS G ((b1, cE e A c B d) :: (mb, .cells #[iN (IntKind.wrap .i64 (many + 1))] 3) :: L)) mixed e_ e_ e_ e_ (fun w1 hw1 => ?_)
 have H := H.heap hw1; refine ⟨H.ss, ?_⟩
 unfold RunT
 refine r_x [1] [(50, pN b1 0), (51, iN e.kind), (52, iN (IntKind.wrap .i64 (e.kind - 1)))] (rc_l 0 0 rfl rfl rc_nil) ?_;refine ⟨?_, ?_⟩
 ·skip
  refine m_callE #[] (some 49) e_ (c111 H) ?_;rintro _ w1 ⟨rfl, H⟩;refine ⟨H.ss' (Le.refl _) (fun _ hp => hp), ?_⟩;refine r_nil ?_
  unfold RunT
  refine m_needs (k := e.kind) (dd := (some 53)) (show opAt _ _ _ = some (.index 163 (.tmp 49) (.tmp 52), _) by kernel_rfl) e_ e_ hk16 ?_;refine m_newE (.cells #[iN 0, .bool false, .bool false] 162) (fun b24 => pN b24 0) (some 7) (fun b => by kernel_rfl) H (fun _ _ h => h.ss' (Le.refl _) (fun _ hp => (List.mem_cons_of_mem _ hp))) (fun b24 w1 H => ?_);refine s_0 [(0, nN (needKids e.kind)), (1, .bool (binds e.kind)), (2, .bool (Md.typed e.kind))] [nN (needKids e.kind), .bool (binds e.kind), .bool (Md.typed e.kind)] none H (fun w1 H => ?_);refine r_nil ?_;refine W_seq ?_;refine W_sr [(.p, 0), (.l, 1), (.p, 2), (.p, 3), (.l, 4), (.p, 5)] H ?_;refine r_x [1, 1] [(54, pN b1 2), (55, .slice A e.kids.length c), (56, nN e.kids.length), (57, pN b24 0), (58, nN (needKids e.kind)), (59, .bool ((((e.kids.length : Nat) : Int)) != (((needKids e.kind : Nat) : Int))))] (rc_l 1 2 rfl rfl (rc_l 0 0 rfl rfl rc_nil)) ?_;refine W_cd (b := (((e.kids.length : Nat) : Int)) != (((needKids e.kind : Nat) : Int))) (fun hc25 => ?_) (fun hc25 => ?_)
  ·skip
   have hp26 := hc25
   simp only [decide_eq_true_eq, decide_eq_false_iff_not, beq_iff_eq, beq_eq_false_iff_ne, bne_iff_ne, bne_eq_false_iff_eq, Bool.not_eq_true', Bool.not_eq_false', Bool.and_eq_true, Bool.and_eq_false_iff, ne_eq] at hp26;refine W_seq ?_;rw [if_pos (show e.kids.length ≠ needKids e.kind by omega)] at hne;refine W_rg [(.p, 0)] H ?_;refine r_z [(6, iN 4)] ?_;refine W_ret ?_;refine q_rt [] [] (iN 4) rc_nil H ?_;refine ⟨G, Le.refl _, by rw [hne], ?_⟩
   rw [hne]; exact H.drop [_, _]
  have hp27 := hc25
  simp only [decide_eq_true_eq, decide_eq_false_iff_not, beq_iff_eq, beq_eq_false_iff_ne, bne_iff_ne, bne_eq_false_iff_eq, Bool.not_eq_true', Bool.not_eq_false', Bool.and_eq_true, Bool.and_eq_false_iff, ne_eq] at hp27;refine W_skip ?_;refine W_seq ?_;refine W_seq ?_;rw [if_neg (show ¬ e.kids.length ≠ needKids e.kind by omega)] at hne;refine W_rg [(.p, 0), (.l, 1), (.p, 2), (.l, 3), (.f, 4), (.p, 5)] H ?_;refine r_s [3, 1] [(.p, 0), (.l, 1), (.p, 2), (.l, 3)] [(60, pN b1 3), (61, (aT e.ty B d)), (62, pN b24 2), (63, .bool (Md.typed e.kind))] (rc_l 1 3 rfl rfl (rc_l 1 4 rfl rfl (rc_l 1 5 rfl rfl (rc_l 0 2 rfl rfl rc_nil)))) ?_;refine m_cl #[(aT e.ty B d), .bool (Md.typed e.kind)] (some 64) (c112 hty (by omega) H) ?_;rintro _ w1 ⟨G1, hG1, rfl, H⟩;refine nx H ?_;refine r_z [(8, iN (annotated e.ty (Md.typed e.kind)))] ?_;refine W_sr (pL 2) H ?_;refine r_z [(65, iN (annotated e.ty (Md.typed e.kind))), (66, .bool ((annotated e.ty (Md.typed e.kind)) != 0))] ?_;refine W_cd (b := (annotated e.ty (Md.typed e.kind)) != 0) (fun hc28 => ?_) (fun hc28 => ?_)
  ·skip
   have hp29 := hc28
   simp only [decide_eq_true_eq, decide_eq_false_iff_not, beq_iff_eq, beq_eq_false_iff_ne, bne_iff_ne, bne_eq_false_iff_eq, Bool.not_eq_true', Bool.not_eq_false', Bool.and_eq_true, Bool.and_eq_false_iff, ne_eq] at hp29;refine W_seq ?_;rw [if_pos (show annotated e.ty (Md.typed e.kind) ≠ 0 by omega)] at hne;refine W_rg (pL 2) H ?_;refine r_z [(67, iN (annotated e.ty (Md.typed e.kind))), (6, iN (annotated e.ty (Md.typed e.kind)))] ?_;refine W_ret ?_;refine q_rt [] [] (iN (annotated e.ty (Md.typed e.kind))) rc_nil H ?_;refine ⟨G1, hG1, by rw [hne], ?_⟩
   rw [hne]; exact H.drop [_, _]
  have hp30 := hc28
  simp only [decide_eq_true_eq, decide_eq_false_iff_not, beq_iff_eq, beq_eq_false_iff_ne, bne_iff_ne, bne_eq_false_iff_eq, Bool.not_eq_true', Bool.not_eq_false', Bool.and_eq_true, Bool.and_eq_false_iff, ne_eq] at hp30;refine W_skip ?_;refine W_seqI (fun ρ D w => ∃ (u14 : Unit), EqS ρ [(1, iN vars), (2, pN mb 0), (3, pN b1 0), (7, pN b24 0)] ∧ D = [] ∧ St G1 ((b24, .cells #[iN (((needKids e.kind : Nat) : Int)), .bool (binds e.kind), .bool (Md.typed e.kind)] 162) :: (b1, cE e A c B d) :: (mb, .cells #[iN (IntKind.wrap .i64 (many + 1))] 3) :: L) w ∧ (¬ annotated e.ty (Md.typed e.kind) ≠ 0) ∧ (¬ (e.kind = 1 ∧ e.num ≥ vars))) ?_ ?_
  ·skip
   refine W_seq ?_
   have han : ¬ annotated e.ty (Md.typed e.kind) ≠ 0 := by omega
   rw [if_neg (show ¬ annotated e.ty (Md.typed e.kind) ≠ 0 by omega)] at hne;refine W_rg [(.p, 0), (.l, 1), (.p, 2), (.p, 3), (.p, 4), (.l, 5), (.p, 6), (.p, 7), (.p, 8)] H ?_;refine r_s [1] [(.p, 0), (.l, 1), (.p, 2), (.p, 3)] [(68, pN b1 0), (69, iN e.kind), (70, .bool (e.kind == 1)), (71, .bool (e.kind == 1))] (rc_l 1 0 rfl rfl rc_nil) ?_
   rcases Bool.eq_false_or_eq_true (e.kind == 1) with hc31 | hc31
   ·rw [hc31]
    have hp32 := hc31
    simp only [decide_eq_true_eq, decide_eq_false_iff_not, beq_iff_eq, beq_eq_false_iff_ne, bne_iff_ne, bne_eq_false_iff_eq, Bool.not_eq_true', Bool.not_eq_false', Bool.and_eq_true, Bool.and_eq_false_iff, ne_eq] at hp32;refine r_x [1] [(72, pN b1 1), (73, iN e.num), (74, iN vars), (75, .bool (decide (e.num ≥ vars))), (76, .bool (decide (e.num ≥ vars)))] (rc_l 1 1 rfl rfl rc_nil) ?_;refine W_cd (b := decide (e.num ≥ vars)) (fun hc33 => ?_) (fun hc33 => ?_)
    ·skip
     have hp34 := hc33
     simp only [decide_eq_true_eq, decide_eq_false_iff_not, beq_iff_eq, beq_eq_false_iff_ne, bne_iff_ne, bne_eq_false_iff_eq, Bool.not_eq_true', Bool.not_eq_false', Bool.and_eq_true, Bool.and_eq_false_iff, ne_eq] at hp34;refine W_seq ?_;rw [if_pos (show e.kind = 1 ∧ e.num ≥ vars by omega)] at hne;refine W_rg [(.p, 0)] H ?_;refine r_z [(6, iN 1)] ?_;refine W_ret ?_;refine q_rt [] [] (iN 1) rc_nil H ?_;refine ⟨G1, hG1, by rw [hne], ?_⟩
     rw [hne]; exact H.drop [_, _]
    have hp35 := hc33
    simp only [decide_eq_true_eq, decide_eq_false_iff_not, beq_iff_eq, beq_eq_false_iff_ne, bne_iff_ne, bne_eq_false_iff_eq, Bool.not_eq_true', Bool.not_eq_false', Bool.and_eq_true, Bool.and_eq_false_iff, ne_eq] at hp35;refine W_skip ?_
    exact ⟨(), ⟨e_, e_, e_, e_, trivial⟩, rfl, H, (by omega), (by omega)⟩
   rw [hc31]
   have hp36 := hc31
   simp only [decide_eq_true_eq, decide_eq_false_iff_not, beq_iff_eq, beq_eq_false_iff_ne, bne_iff_ne, bne_eq_false_iff_eq, Bool.not_eq_true', Bool.not_eq_false', Bool.and_eq_true, Bool.and_eq_false_iff, ne_eq] at hp36;refine r_z (uD 72 4 [(76, .bool false)]) ?_;refine W_cF ?_;refine W_skip ?_
   exact ⟨(), ⟨e_, e_, e_, e_, trivial⟩, rfl, H, (by omega), (by omega)⟩
  clear H; rintro ρ D w1 ⟨u14, hE37, rfl, H, han, hkv⟩
  refine W_env hE37 ?_;refine W_seqI (fun ρ D w => ∃ (vj : Int), EqS ρ [(1, iN vj), (2, pN mb 0), (3, pN b1 0)] ∧ D = [] ∧ St G1 ((b24, .cells #[iN (((needKids e.kind : Nat) : Int)), .bool (binds e.kind), .bool (Md.typed e.kind)] 162) :: (b1, cE e A c B d) :: (mb, .cells #[iN (IntKind.wrap .i64 (many + 1))] 3) :: L) w ∧ (vj = if binds e.kind then w64 (vars + 1) else vars)) ?_ ?_
  ·skip
   refine W_sr [(.p, 0), (.l, 1)] H ?_;refine r_x [1] [(77, pN b24 1), (78, .bool (binds e.kind))] (rc_l 0 1 rfl rfl rc_nil) ?_;refine W_cd (b := binds e.kind) (fun hc38 => ?_) (fun hc38 => ?_)
   ·skip
    refine W_rg (pL 3) H ?_;refine r_z [(79, iN vars), (80, iN (IntKind.wrap .i64 (vars + 1))), (1, iN (IntKind.wrap .i64 (vars + 1)))] ?_
    exact ⟨IntKind.wrap .i64 (vars + 1), ⟨e_, e_, e_, trivial⟩, rfl, H, (by rw [if_pos hc38]; rfl)⟩
   refine W_skip ?_
   exact ⟨vars, ⟨e_, e_, e_, trivial⟩, rfl, H, (by rw [if_neg (by rw [hc38]; simp)])⟩
  clear H; rintro ρ D w1 ⟨vj, hE39, rfl, H, hvj⟩
  refine W_env hE39 ?_;refine W_seq ?_;refine W_seq ?_;rw [if_neg (show ¬ annotated e.ty (Md.typed e.kind) ≠ 0 from han), if_neg (show ¬ (e.kind = 1 ∧ e.num ≥ vars) from hkv), ← hvj] at hne;refine W_rg [(.p, 0), (.l, 1), (.p, 2), (.p, 3)] H ?_;refine r_x [1] [(81, pN b1 2), (82, .slice A e.kids.length c), (83, nN e.kids.length), (84, iN 0)] (rc_l 1 2 rfl rfl rc_nil) ?_;refine W_block ?_;have H := H.drop [_, _];refine W_loop (fun m ρ D w => ∃ (k : Nat) (G2 : GH) (m1 : Int), EqS ρ [(1, iN vj), (2, pN mb 0), (82, .slice A e.kids.length c), (83, iN (((e.kids.length : Nat) : Int))), (84, iN (((k : Nat) : Int)))] ∧ D = [] ∧ St G2 ((mb, .cells #[iN m1] 3) :: L) w ∧ (Le G1 G2) ∧ (goodE e vars many = goodL (e.kids.drop k) (vj) m1) ∧ (k ≤ e.kids.length) ∧ e.kids.length - k = m) (e.kids.length - 0) ⟨0, G1, IntKind.wrap .i64 (many + 1), ⟨e_, e_, e_, e_, e_, trivial⟩, rfl, H, Le.refl _, hne, Nat.zero_le _, rfl⟩ ?_
  clear H; rintro m40 ρ D w1 ⟨k, G2, m1, hE41, rfl, H, hle, hnl, hkk, hm42⟩
  refine W_env hE41 ?_;refine W_sr [(.p, 0)] H ?_;refine r_z [(85, .bool (decide ((((k : Nat) : Int)) < (((e.kids.length : Nat) : Int)))))] ?_;refine W_seq ?_;refine W_cd (b := decide ((((k : Nat) : Int)) < (((e.kids.length : Nat) : Int)))) (fun hc43 => ?_) (fun hc43 => ?_)
  ·skip
   have hlt : k < e.kids.length := by have := of_decide_eq_true hc43; omega
   obtain ⟨q, hq⟩ := get_of_lt hlt
   have hqs := E.sz_kid hq
   have hstk := H
   obtain ⟨eb, eo, qA, qc, qB, qd, rfl, hq0, hq1, hq2, hq3, hq4, hq5, hqe⟩ := ((hks.mono hG1).mono hle).elem hq;have H := hstk;rw [drop_cons hq, goodL] at hnl;refine W_skip ?_;refine W_seq ?_;refine W_block ?_;refine W_sr [(.p, 0), (.l, 1), (.f, 2), (.f, 3)] H ?_;refine m_idx (sz := 6) (b := eb) (off := eo) (n := e.kids.length) (c := c) (k := k) (some 86) (show opAt _ _ _ = some (.indexAddr 50 (.tmp 82) (.tmp 84), _) by kernel_rfl) e_ e_ Try.underlying50 sz52 hlt ?_;refine r_s [6] [(.l, 1)] [(87, (aE q qA qc qB qd))] (rc_C hq0 (rc_C hq1 (rc_C hq2 (rc_C hq3 (rc_C hq4 (rc_C hq5 rc_nil)))))) ?_;refine m_nw oE 10 H (fun b44 w1 H => ?_);refine s_0 [(0, iN q.kind), (1, iN q.num), (2, .slice qA q.kids.length qc), (3, iN q.ty.kind), (4, iN q.ty.num), (5, .slice qB q.ty.kids.length qd)] [iN q.kind, iN q.num, .slice qA q.kids.length qc, iN q.ty.kind, iN q.ty.num, .slice qB q.ty.kids.length qd] none H (fun w1 H => ?_);refine r_nil ?_;refine W_sr [(.l, 0), (.p, 1), (.p, 2), (.f, 3), (.p, 4)] H ?_;refine r_s [6] [(.l, 0), (.p, 1), (.p, 2)] [(88, (aE q qA qc qB qd)), (89, iN vj), (90, pN mb 0)] (rc_l 0 0 rfl rfl (rc_l 0 1 rfl rfl (rc_l 0 2 rfl rfl (rc_l 0 3 rfl rfl (rc_l 0 4 rfl rfl (rc_l 0 5 rfl rfl rc_nil)))))) ?_;refine m_cl #[(aE q qA qc qB qd), iN vj, pN mb 0] (some 91) (ih q (by omega) (by omega) hqe (H.drop [_])) ?_;rintro _ w1 ⟨G3, hG3, rfl, H⟩;refine nx H ?_;refine r_z [(11, iN ((goodE q (vj) m1).1))] ?_;refine W_sr (pL 2) H ?_;refine r_z [(92, iN ((goodE q (vj) m1).1)), (93, .bool (((goodE q (vj) m1).1) != 0))] ?_;refine W_cd (b := ((goodE q (vj) m1).1) != 0) (fun hc45 => ?_) (fun hc45 => ?_)
   ·skip
    refine W_seq ?_
    have hr0 : ¬ (goodE q (vj) m1).1 = 0 := by simpa using hc45
    rw [if_neg hr0] at hnl;refine W_rg (pL 2) H ?_;refine r_z [(94, iN ((goodE q (vj) m1).1)), (6, iN ((goodE q (vj) m1).1))] ?_;refine W_ret ?_;refine q_rt [] [] (iN ((goodE q (vj) m1).1)) rc_nil H ?_;refine ⟨G3, (hG1.trans hle).trans hG3, by rw [hnl], ?_⟩
    rw [hnl]; exact H
   refine W_skip ?_
   have hr0 : (goodE q (vj) m1).1 = 0 := by simpa using hc45
   refine W_rg (pL 2) H ?_;refine r_z [(95, iN (IntKind.wrap .i64 ((((k : Nat) : Int)) + 1))), (84, iN (IntKind.wrap .i64 ((((k : Nat) : Int)) + 1)))] ?_
   exact ⟨_, (by omega), k + 1, G3, (goodE q (vj) m1).2, ⟨e_, e_, e_, e_, (by rw [← wrap_succ (k := k) (by omega)]; kernel_rfl), trivial⟩, rfl, H, (hle.trans hG3), (by rw [hnl, if_pos hr0]), hlt, rfl⟩
  have hge : k = e.kids.length := by have := of_decide_eq_false hc43; omega
  rw [List.drop_of_length_le (by omega), goodL] at hnl;refine W_exit ?_;refine W_sr [(.p, 0)] H ?_;refine r_z [(6, iN 0)] ?_;refine W_ret ?_;refine q_rt [] [] (iN 0) rc_nil H ?_;refine ⟨G2, hG1.trans hle, by rw [hnl], ?_⟩
  rw [hnl]; exact H
 refine m_newE (.cells #[iN 0, .bool false, .bool false] 162) (fun b46 => pN b46 0) (some 7) (fun b => by kernel_rfl) H (fun _ _ h => h.ss' (Le.refl _) (fun _ hp => (List.mem_cons_of_mem _ hp))) (fun b46 w1 H => ?_);refine r_nil ?_
 unfold RunT
 refine m_callE #[] (some 49) e_ (c111 H) ?_;rintro _ w1 ⟨rfl, H⟩;refine ⟨H.ss' (Le.refl _) (fun _ hp => (List.mem_cons_of_mem _ hp)), ?_⟩;refine m_needs (k := e.kind) (dd := (some 53)) (show opAt _ _ _ = some (.index 163 (.tmp 49) (.tmp 52), _) by kernel_rfl) e_ e_ hk16 ?_;refine s_0 [(0, nN (needKids e.kind)), (1, .bool (binds e.kind)), (2, .bool (Md.typed e.kind))] [nN (needKids e.kind), .bool (binds e.kind), .bool (Md.typed e.kind)] none H (fun w1 H => ?_);refine r_nil ?_;refine W_seq ?_;refine W_sr [(.p, 0), (.l, 1), (.p, 2), (.p, 3), (.l, 4), (.p, 5)] H ?_;refine r_x [1, 1] [(54, pN b1 2), (55, .slice A e.kids.length c), (56, nN e.kids.length), (57, pN b46 0), (58, nN (needKids e.kind)), (59, .bool ((((e.kids.length : Nat) : Int)) != (((needKids e.kind : Nat) : Int))))] (rc_l 1 2 rfl rfl (rc_l 0 0 rfl rfl rc_nil)) ?_;refine W_cd (b := (((e.kids.length : Nat) : Int)) != (((needKids e.kind : Nat) : Int))) (fun hc47 => ?_) (fun hc47 => ?_)
 ·skip
  have hp48 := hc47
  simp only [decide_eq_true_eq, decide_eq_false_iff_not, beq_iff_eq, beq_eq_false_iff_ne, bne_iff_ne, bne_eq_false_iff_eq, Bool.not_eq_true', Bool.not_eq_false', Bool.and_eq_true, Bool.and_eq_false_iff, ne_eq] at hp48;refine W_seq ?_;rw [if_pos (show e.kids.length ≠ needKids e.kind by omega)] at hne;refine W_rg [(.p, 0)] H ?_;refine r_z [(6, iN 4)] ?_;refine W_ret ?_;refine q_rt [] [] (iN 4) rc_nil H ?_;refine ⟨G, Le.refl _, by rw [hne], ?_⟩
  rw [hne]; exact H.drop [_, _]
 have hp49 := hc47
 simp only [decide_eq_true_eq, decide_eq_false_iff_not, beq_iff_eq, beq_eq_false_iff_ne, bne_iff_ne, bne_eq_false_iff_eq, Bool.not_eq_true', Bool.not_eq_false', Bool.and_eq_true, Bool.and_eq_false_iff, ne_eq] at hp49;refine W_skip ?_;refine W_seq ?_;refine W_seq ?_;rw [if_neg (show ¬ e.kids.length ≠ needKids e.kind by omega)] at hne;refine W_rg [(.p, 0), (.l, 1), (.p, 2), (.l, 3), (.f, 4), (.p, 5)] H ?_;refine r_s [3, 1] [(.p, 0), (.l, 1), (.p, 2), (.l, 3)] [(60, pN b1 3), (61, (aT e.ty B d)), (62, pN b46 2), (63, .bool (Md.typed e.kind))] (rc_l 1 3 rfl rfl (rc_l 1 4 rfl rfl (rc_l 1 5 rfl rfl (rc_l 0 2 rfl rfl rc_nil)))) ?_;refine m_cl #[(aT e.ty B d), .bool (Md.typed e.kind)] (some 64) (c112 hty (by omega) H) ?_;rintro _ w1 ⟨G1, hG1, rfl, H⟩;refine nx H ?_;refine r_z [(8, iN (annotated e.ty (Md.typed e.kind)))] ?_;refine W_sr (pL 2) H ?_;refine r_z [(65, iN (annotated e.ty (Md.typed e.kind))), (66, .bool ((annotated e.ty (Md.typed e.kind)) != 0))] ?_;refine W_cd (b := (annotated e.ty (Md.typed e.kind)) != 0) (fun hc50 => ?_) (fun hc50 => ?_)
 ·skip
  have hp51 := hc50
  simp only [decide_eq_true_eq, decide_eq_false_iff_not, beq_iff_eq, beq_eq_false_iff_ne, bne_iff_ne, bne_eq_false_iff_eq, Bool.not_eq_true', Bool.not_eq_false', Bool.and_eq_true, Bool.and_eq_false_iff, ne_eq] at hp51;refine W_seq ?_;rw [if_pos (show annotated e.ty (Md.typed e.kind) ≠ 0 by omega)] at hne;refine W_rg (pL 2) H ?_;refine r_z [(67, iN (annotated e.ty (Md.typed e.kind))), (6, iN (annotated e.ty (Md.typed e.kind)))] ?_;refine W_ret ?_;refine q_rt [] [] (iN (annotated e.ty (Md.typed e.kind))) rc_nil H ?_;refine ⟨G1, hG1, by rw [hne], ?_⟩
  rw [hne]; exact H.drop [_, _]
 have hp52 := hc50
 simp only [decide_eq_true_eq, decide_eq_false_iff_not, beq_iff_eq, beq_eq_false_iff_ne, bne_iff_ne, bne_eq_false_iff_eq, Bool.not_eq_true', Bool.not_eq_false', Bool.and_eq_true, Bool.and_eq_false_iff, ne_eq] at hp52;refine W_skip ?_;refine W_seqI (fun ρ D w => ∃ (u14 : Unit), EqS ρ [(1, iN vars), (2, pN mb 0), (3, pN b1 0), (7, pN b46 0)] ∧ D = [] ∧ St G1 ((b46, .cells #[iN (((needKids e.kind : Nat) : Int)), .bool (binds e.kind), .bool (Md.typed e.kind)] 162) :: (b1, cE e A c B d) :: (mb, .cells #[iN (IntKind.wrap .i64 (many + 1))] 3) :: L) w ∧ (¬ annotated e.ty (Md.typed e.kind) ≠ 0) ∧ (¬ (e.kind = 1 ∧ e.num ≥ vars))) ?_ ?_
 ·skip
  refine W_seq ?_
  have han : ¬ annotated e.ty (Md.typed e.kind) ≠ 0 := by omega
  rw [if_neg (show ¬ annotated e.ty (Md.typed e.kind) ≠ 0 by omega)] at hne;refine W_rg [(.p, 0), (.l, 1), (.p, 2), (.p, 3), (.p, 4), (.l, 5), (.p, 6), (.p, 7), (.p, 8)] H ?_;refine r_s [1] [(.p, 0), (.l, 1), (.p, 2), (.p, 3)] [(68, pN b1 0), (69, iN e.kind), (70, .bool (e.kind == 1)), (71, .bool (e.kind == 1))] (rc_l 1 0 rfl rfl rc_nil) ?_
  rcases Bool.eq_false_or_eq_true (e.kind == 1) with hc53 | hc53
  ·rw [hc53]
   have hp54 := hc53
   simp only [decide_eq_true_eq, decide_eq_false_iff_not, beq_iff_eq, beq_eq_false_iff_ne, bne_iff_ne, bne_eq_false_iff_eq, Bool.not_eq_true', Bool.not_eq_false', Bool.and_eq_true, Bool.and_eq_false_iff, ne_eq] at hp54;refine r_x [1] [(72, pN b1 1), (73, iN e.num), (74, iN vars), (75, .bool (decide (e.num ≥ vars))), (76, .bool (decide (e.num ≥ vars)))] (rc_l 1 1 rfl rfl rc_nil) ?_;refine W_cd (b := decide (e.num ≥ vars)) (fun hc55 => ?_) (fun hc55 => ?_)
   ·skip
    have hp56 := hc55
    simp only [decide_eq_true_eq, decide_eq_false_iff_not, beq_iff_eq, beq_eq_false_iff_ne, bne_iff_ne, bne_eq_false_iff_eq, Bool.not_eq_true', Bool.not_eq_false', Bool.and_eq_true, Bool.and_eq_false_iff, ne_eq] at hp56;refine W_seq ?_;rw [if_pos (show e.kind = 1 ∧ e.num ≥ vars by omega)] at hne;refine W_rg [(.p, 0)] H ?_;refine r_z [(6, iN 1)] ?_;refine W_ret ?_;refine q_rt [] [] (iN 1) rc_nil H ?_;refine ⟨G1, hG1, by rw [hne], ?_⟩
    rw [hne]; exact H.drop [_, _]
   have hp57 := hc55
   simp only [decide_eq_true_eq, decide_eq_false_iff_not, beq_iff_eq, beq_eq_false_iff_ne, bne_iff_ne, bne_eq_false_iff_eq, Bool.not_eq_true', Bool.not_eq_false', Bool.and_eq_true, Bool.and_eq_false_iff, ne_eq] at hp57;refine W_skip ?_
   exact ⟨(), ⟨e_, e_, e_, e_, trivial⟩, rfl, H, (by omega), (by omega)⟩
  rw [hc53]
  have hp58 := hc53
  simp only [decide_eq_true_eq, decide_eq_false_iff_not, beq_iff_eq, beq_eq_false_iff_ne, bne_iff_ne, bne_eq_false_iff_eq, Bool.not_eq_true', Bool.not_eq_false', Bool.and_eq_true, Bool.and_eq_false_iff, ne_eq] at hp58;refine r_z (uD 72 4 [(76, .bool false)]) ?_;refine W_cF ?_;refine W_skip ?_
  exact ⟨(), ⟨e_, e_, e_, e_, trivial⟩, rfl, H, (by omega), (by omega)⟩
 clear H; rintro ρ D w1 ⟨u14, hE59, rfl, H, han, hkv⟩
 refine W_env hE59 ?_;refine W_seqI (fun ρ D w => ∃ (vj : Int), EqS ρ [(1, iN vj), (2, pN mb 0), (3, pN b1 0)] ∧ D = [] ∧ St G1 ((b46, .cells #[iN (((needKids e.kind : Nat) : Int)), .bool (binds e.kind), .bool (Md.typed e.kind)] 162) :: (b1, cE e A c B d) :: (mb, .cells #[iN (IntKind.wrap .i64 (many + 1))] 3) :: L) w ∧ (vj = if binds e.kind then w64 (vars + 1) else vars)) ?_ ?_
 ·skip
  refine W_sr [(.p, 0), (.l, 1)] H ?_;refine r_x [1] [(77, pN b46 1), (78, .bool (binds e.kind))] (rc_l 0 1 rfl rfl rc_nil) ?_;refine W_cd (b := binds e.kind) (fun hc60 => ?_) (fun hc60 => ?_)
  ·skip
   refine W_rg (pL 3) H ?_;refine r_z [(79, iN vars), (80, iN (IntKind.wrap .i64 (vars + 1))), (1, iN (IntKind.wrap .i64 (vars + 1)))] ?_
   exact ⟨IntKind.wrap .i64 (vars + 1), ⟨e_, e_, e_, trivial⟩, rfl, H, (by rw [if_pos hc60]; rfl)⟩
  refine W_skip ?_
  exact ⟨vars, ⟨e_, e_, e_, trivial⟩, rfl, H, (by rw [if_neg (by rw [hc60]; simp)])⟩
 clear H; rintro ρ D w1 ⟨vj, hE61, rfl, H, hvj⟩
 refine W_env hE61 ?_;refine W_seq ?_;refine W_seq ?_;rw [if_neg (show ¬ annotated e.ty (Md.typed e.kind) ≠ 0 from han), if_neg (show ¬ (e.kind = 1 ∧ e.num ≥ vars) from hkv), ← hvj] at hne;refine W_rg [(.p, 0), (.l, 1), (.p, 2), (.p, 3)] H ?_;refine r_x [1] [(81, pN b1 2), (82, .slice A e.kids.length c), (83, nN e.kids.length), (84, iN 0)] (rc_l 1 2 rfl rfl rc_nil) ?_;refine W_block ?_;have H := H.drop [_, _];refine W_loop (fun m ρ D w => ∃ (k : Nat) (G2 : GH) (m1 : Int), EqS ρ [(1, iN vj), (2, pN mb 0), (82, .slice A e.kids.length c), (83, iN (((e.kids.length : Nat) : Int))), (84, iN (((k : Nat) : Int)))] ∧ D = [] ∧ St G2 ((mb, .cells #[iN m1] 3) :: L) w ∧ (Le G1 G2) ∧ (goodE e vars many = goodL (e.kids.drop k) (vj) m1) ∧ (k ≤ e.kids.length) ∧ e.kids.length - k = m) (e.kids.length - 0) ⟨0, G1, IntKind.wrap .i64 (many + 1), ⟨e_, e_, e_, e_, e_, trivial⟩, rfl, H, Le.refl _, hne, Nat.zero_le _, rfl⟩ ?_
 clear H; rintro m62 ρ D w1 ⟨k, G2, m1, hE63, rfl, H, hle, hnl, hkk, hm64⟩
 refine W_env hE63 ?_;refine W_sr [(.p, 0)] H ?_;refine r_z [(85, .bool (decide ((((k : Nat) : Int)) < (((e.kids.length : Nat) : Int)))))] ?_;refine W_seq ?_;refine W_cd (b := decide ((((k : Nat) : Int)) < (((e.kids.length : Nat) : Int)))) (fun hc65 => ?_) (fun hc65 => ?_)
 ·skip
  have hlt : k < e.kids.length := by have := of_decide_eq_true hc65; omega
  obtain ⟨q, hq⟩ := get_of_lt hlt
  have hqs := E.sz_kid hq
  have hstk := H
  obtain ⟨eb, eo, qA, qc, qB, qd, rfl, hq0, hq1, hq2, hq3, hq4, hq5, hqe⟩ := ((hks.mono hG1).mono hle).elem hq;have H := hstk;rw [drop_cons hq, goodL] at hnl;refine W_skip ?_;refine W_seq ?_;refine W_block ?_;refine W_sr [(.p, 0), (.l, 1), (.f, 2), (.f, 3)] H ?_;refine m_idx (sz := 6) (b := eb) (off := eo) (n := e.kids.length) (c := c) (k := k) (some 86) (show opAt _ _ _ = some (.indexAddr 50 (.tmp 82) (.tmp 84), _) by kernel_rfl) e_ e_ Try.underlying50 sz52 hlt ?_;refine r_s [6] [(.l, 1)] [(87, (aE q qA qc qB qd))] (rc_C hq0 (rc_C hq1 (rc_C hq2 (rc_C hq3 (rc_C hq4 (rc_C hq5 rc_nil)))))) ?_;refine m_nw oE 10 H (fun b66 w1 H => ?_);refine s_0 [(0, iN q.kind), (1, iN q.num), (2, .slice qA q.kids.length qc), (3, iN q.ty.kind), (4, iN q.ty.num), (5, .slice qB q.ty.kids.length qd)] [iN q.kind, iN q.num, .slice qA q.kids.length qc, iN q.ty.kind, iN q.ty.num, .slice qB q.ty.kids.length qd] none H (fun w1 H => ?_);refine r_nil ?_;refine W_sr [(.l, 0), (.p, 1), (.p, 2), (.f, 3), (.p, 4)] H ?_;refine r_s [6] [(.l, 0), (.p, 1), (.p, 2)] [(88, (aE q qA qc qB qd)), (89, iN vj), (90, pN mb 0)] (rc_l 0 0 rfl rfl (rc_l 0 1 rfl rfl (rc_l 0 2 rfl rfl (rc_l 0 3 rfl rfl (rc_l 0 4 rfl rfl (rc_l 0 5 rfl rfl rc_nil)))))) ?_;refine m_cl #[(aE q qA qc qB qd), iN vj, pN mb 0] (some 91) (ih q (by omega) (by omega) hqe (H.drop [_])) ?_;rintro _ w1 ⟨G3, hG3, rfl, H⟩;refine nx H ?_;refine r_z [(11, iN ((goodE q (vj) m1).1))] ?_;refine W_sr (pL 2) H ?_;refine r_z [(92, iN ((goodE q (vj) m1).1)), (93, .bool (((goodE q (vj) m1).1) != 0))] ?_;refine W_cd (b := ((goodE q (vj) m1).1) != 0) (fun hc67 => ?_) (fun hc67 => ?_)
  ·skip
   refine W_seq ?_
   have hr0 : ¬ (goodE q (vj) m1).1 = 0 := by simpa using hc67
   rw [if_neg hr0] at hnl;refine W_rg (pL 2) H ?_;refine r_z [(94, iN ((goodE q (vj) m1).1)), (6, iN ((goodE q (vj) m1).1))] ?_;refine W_ret ?_;refine q_rt [] [] (iN ((goodE q (vj) m1).1)) rc_nil H ?_;refine ⟨G3, (hG1.trans hle).trans hG3, by rw [hnl], ?_⟩
   rw [hnl]; exact H
  refine W_skip ?_
  have hr0 : (goodE q (vj) m1).1 = 0 := by simpa using hc67
  refine W_rg (pL 2) H ?_;refine r_z [(95, iN (IntKind.wrap .i64 ((((k : Nat) : Int)) + 1))), (84, iN (IntKind.wrap .i64 ((((k : Nat) : Int)) + 1)))] ?_
  exact ⟨_, (by omega), k + 1, G3, (goodE q (vj) m1).2, ⟨e_, e_, e_, e_, (by rw [← wrap_succ (k := k) (by omega)]; kernel_rfl), trivial⟩, rfl, H, (hle.trans hG3), (by rw [hnl, if_pos hr0]), hlt, rfl⟩
 have hge : k = e.kids.length := by have := of_decide_eq_false hc65; omega
 rw [List.drop_of_length_le (by omega), goodL] at hnl;refine W_exit ?_;refine W_sr [(.p, 0)] H ?_;refine r_z [(6, iN 0)] ?_;refine W_ret ?_;refine q_rt [] [] (iN 0) rc_nil H ?_;refine ⟨G2, hG1.trans hle, by rw [hnl], ?_⟩
 rw [hnl]; exact H

theorem c68 {G : GH} {L : LH} {w : World} {A : Option Addr} {n c : Nat} {v : Value} {l : List T} {e : E} (hks : IsPolys G A l) (hc : l.length ≤ c) (hlsz : T.szs l < lim) (hv : IsExpr G v e) (hsz : E.sz e < lim) (H : St G L w) :
  Cal Try.prog 68 #[.slice A l.length c, v] w fun x w' => ∃ G', Le G G' ∧ x = .int .i64 (Good l e) ∧ St G' L w' := by
 obtain ⟨eA, ec, eB, ed, rfl, hec, heks, hety⟩ := id hv.open;refine cal_of_W Try.func68 rfl (Nat.le_of_ble_eq_true e_) ?_;refine W_sr [(.f, 0), (.p, 1)] H ?_;refine m_nw (cE e eA ec eB ed) 3 H (fun b1 w1 H => ?_);refine r_z [(4, iN 0)] ?_;refine W_seq ?_;refine W_sr (pL 3) H ?_;refine r_z [(6, .slice A l.length c), (7, nN l.length), (8, .bool (decide ((((l.length : Nat) : Int)) > 6)))] ?_;refine W_cd (b := decide ((((l.length : Nat) : Int)) > 6)) (fun hc2 => ?_) (fun hc2 => ?_)
 ·skip
  have hp3 := hc2
  simp only [decide_eq_true_eq, decide_eq_false_iff_not, beq_iff_eq, beq_eq_false_iff_ne, bne_iff_ne, bne_eq_false_iff_eq, Bool.not_eq_true', Bool.not_eq_false', Bool.and_eq_true, Bool.and_eq_false_iff, ne_eq] at hp3;refine W_seq ?_
  have hgd : Good l e = 2 := by unfold Good; rw [if_pos (by omega)]
  refine W_rg [(.p, 0)] H ?_;refine r_z [(4, iN 2)] ?_;refine W_ret ?_;refine q_rt [] [] (iN 2) rc_nil H ?_
  exact ⟨G, Le.refl _, by rw [hgd], H.drop [_]⟩
 have hp4 := hc2
 simp only [decide_eq_true_eq, decide_eq_false_iff_not, beq_iff_eq, beq_eq_false_iff_ne, bne_iff_ne, bne_eq_false_iff_eq, Bool.not_eq_true', Bool.not_eq_false', Bool.and_eq_true, Bool.and_eq_false_iff, ne_eq] at hp4;refine W_skip ?_;refine W_seq ?_;refine W_sr [(.p, 0), (.f, 1), (.p, 2)] H ?_;refine r_y [(.p, 0)] [(9, .slice A l.length c)] ?_;refine m_cl #[.slice A l.length c] (some 10) (c56 hks hc hlsz H) ?_;rintro _ w1 ⟨G1, hG1, rfl, H⟩;refine nx H ?_;refine r_z [(5, iN (closed l))] ?_;refine W_sr (pL 2) H ?_;refine r_z [(11, iN (closed l)), (12, .bool ((closed l) != 0))] ?_;refine W_cd (b := (closed l) != 0) (fun hc5 => ?_) (fun hc5 => ?_)
 ·skip
  have hp6 := hc5
  simp only [decide_eq_true_eq, decide_eq_false_iff_not, beq_iff_eq, beq_eq_false_iff_ne, bne_iff_ne, bne_eq_false_iff_eq, Bool.not_eq_true', Bool.not_eq_false', Bool.and_eq_true, Bool.and_eq_false_iff, ne_eq] at hp6;refine W_seq ?_
  have hgd : Good l e = closed l := by unfold Good; rw [if_neg (by omega), if_pos (by omega)]
  refine W_rg (pL 2) H ?_;refine r_z [(13, iN (closed l)), (4, iN (closed l))] ?_;refine W_ret ?_;refine q_rt [] [] (iN (closed l)) rc_nil H ?_
  exact ⟨G1, hG1, by rw [hgd], H.drop [_]⟩
 have hp7 := hc5
 simp only [decide_eq_true_eq, decide_eq_false_iff_not, beq_iff_eq, beq_eq_false_iff_ne, bne_iff_ne, bne_eq_false_iff_eq, Bool.not_eq_true', Bool.not_eq_false', Bool.and_eq_true, Bool.and_eq_false_iff, ne_eq] at hp7;refine W_skip ?_;refine W_seq ?_
 have hgd : Good l e = (goodE e ((l.length : Nat) : Int) 0).1 := by unfold Good; rw [if_neg (by omega), if_neg (by omega)]
 refine W_rg [(.l, 0), (.p, 1), (.p, 2), (.f, 3), (.f, 4), (.p, 5)] H ?_;refine r_s [6] [(.l, 0), (.p, 1), (.p, 2)] [(14, (aE e eA ec eB ed)), (15, .slice A l.length c), (16, nN l.length)] (rc_l 0 0 rfl rfl (rc_l 0 1 rfl rfl (rc_l 0 2 rfl rfl (rc_l 0 3 rfl rfl (rc_l 0 4 rfl rfl (rc_l 0 5 rfl rfl rc_nil)))))) ?_;refine m_nw (.cells #[iN 0] 3) 17 H (fun b8 w1 H => ?_);refine m_cl #[(aE e eA ec eB ed), nN l.length, pN b8 0] (some 18) (c75 lim e hsz (Nat.le_refl _) (hv.mono hG1) H) ?_;rintro _ w1 ⟨G2, hG2, rfl, H⟩;have H := H.drop [_];refine nx H ?_;refine r_z [(4, iN ((goodE e ((l.length : Nat) : Int) 0).1))] ?_;refine W_ret ?_;refine q_rt [] [] (iN ((goodE e ((l.length : Nat) : Int) 0).1)) rc_nil H ?_
 exact ⟨G2, hG1.trans hG2, by rw [hgd], H.drop [_]⟩

theorem OS.form {e sz : Nat} {v : Value} {n : Nat} {cs : List Value} {Lp : LH} (h : OS e sz v n cs Lp) : ∃ A c, v = .slice A n c := by
 obtain ⟨_, ⟨rfl, rfl, _⟩ | ⟨b, c, _, rfl, _⟩⟩ := h
 ·exact ⟨_, _, rfl⟩
 ·exact ⟨_, _, rfl⟩
theorem c123 {G : GH} {Lt R : LH} {w : World} {tv : Value} {n : Nat} {cs : List Value} {ts : List T} {i : Int} (hos : OS 106 1 tv n cs Lt) (hty : TyL G cs ts) (hn : n = ts.length) (H : St G (Lt ++ R) w) :
  Cal Try.prog 123 #[tv, .int .i64 i] w fun v w' => St G (Lt ++ R) w' ∧ ((nth ts i = none ∧ v = .tuple #[.pointer none, .bool false]) ∨ ∃ t u, nth ts i = some t ∧ v = .tuple #[.pointer (some ⟨u, 0, none⟩), .bool true] ∧ IsTyp G (.pointer (some ⟨u, 0, none⟩)) t) := by
 obtain ⟨A, c, rfl⟩ := hos.form;refine cal_of_W Try.func123 rfl (Nat.le_of_ble_eq_true e_) ?_;refine W_sr (pL 2) H ?_;refine r_z [(4, .pointer none), (5, .bool false)] ?_;refine W_seq ?_;refine W_sr [(.p, 0), (.p, 1), (.p, 2), (.p, 3), (.p, 4), (.p, 5), (.p, 6), (.p, 7)] H ?_;refine r_y [(.p, 0), (.p, 1), (.p, 2)] [(7, iN i), (8, .bool (decide (i < 0))), (9, .bool (decide (i < 0)))] ?_
 rcases Bool.eq_false_or_eq_true (decide (i < 0)) with hc1 | hc1
 ·rw [hc1]
  have hp2 := hc1
  simp only [decide_eq_true_eq, decide_eq_false_iff_not, beq_iff_eq, beq_eq_false_iff_ne, bne_iff_ne, bne_eq_false_iff_eq, Bool.not_eq_true', Bool.not_eq_false', Bool.and_eq_true, Bool.and_eq_false_iff, ne_eq] at hp2;refine r_z (uD 10 4 [(14, .bool true)]) ?_;refine W_cT ?_;refine W_seq ?_
  have hno : nth ts i = none := by
   unfold nth; split
   ·rw [List.getElem?_eq_none_iff]; omega
   ·rfl
  refine W_rg [(.p, 0)] H ?_;refine r_z [(6, .pointer none)] ?_;refine W_sr (pL 3) H ?_;refine r_z [(15, .pointer none), (4, .pointer none), (5, .bool false)] ?_;refine W_ret ?_;refine q_rt [] [] (.tuple #[.pointer none, .bool false]) rc_nil H ?_
  exact ⟨H, .inl ⟨hno, rfl⟩⟩
 rw [hc1]
 have hp3 := hc1
 simp only [decide_eq_true_eq, decide_eq_false_iff_not, beq_iff_eq, beq_eq_false_iff_ne, bne_iff_ne, bne_eq_false_iff_eq, Bool.not_eq_true', Bool.not_eq_false', Bool.and_eq_true, Bool.and_eq_false_iff, ne_eq] at hp3;refine r_z [(10, iN i), (11, .slice A n c), (12, nN n), (13, .bool (decide (i ≥ (((n : Nat) : Int))))), (14, .bool (decide (i ≥ (((n : Nat) : Int)))))] ?_;refine W_cd (b := decide (i ≥ (((n : Nat) : Int)))) (fun hc4 => ?_) (fun hc4 => ?_)
 ·skip
  have hp5 := hc4
  simp only [decide_eq_true_eq, decide_eq_false_iff_not, beq_iff_eq, beq_eq_false_iff_ne, bne_iff_ne, bne_eq_false_iff_eq, Bool.not_eq_true', Bool.not_eq_false', Bool.and_eq_true, Bool.and_eq_false_iff, ne_eq] at hp5;refine W_seq ?_
  have hno : nth ts i = none := by
   unfold nth; split
   ·rw [List.getElem?_eq_none_iff]; omega
   ·rfl
  refine W_rg [(.p, 0)] H ?_;refine r_z [(6, .pointer none)] ?_;refine W_sr (pL 3) H ?_;refine r_z [(15, .pointer none), (4, .pointer none), (5, .bool false)] ?_;refine W_ret ?_;refine q_rt [] [] (.tuple #[.pointer none, .bool false]) rc_nil H ?_
  exact ⟨H, .inl ⟨hno, rfl⟩⟩
 have hp6 := hc4
 simp only [decide_eq_true_eq, decide_eq_false_iff_not, beq_iff_eq, beq_eq_false_iff_ne, bne_iff_ne, bne_eq_false_iff_eq, Bool.not_eq_true', Bool.not_eq_false', Bool.and_eq_true, Bool.and_eq_false_iff, ne_eq] at hp6;refine W_skip ?_;refine W_seq ?_
 have hik : i = ((i.toNat : Nat) : Int) := by omega
 obtain ⟨q, hq⟩ := get_of_lt (l := ts) (i := i.toNat) (by omega)
 have hno : nth ts i = some q := by unfold nth; rw [if_pos (by omega)]; exact hq
 obtain ⟨qv, hqv, hqt⟩ := hty.get hq;obtain ⟨qb, _, _, rfl, _⟩ := id hqt.open
 have hstk := H
 obtain ⟨db, dc, arr, hv, rfl, harr, hal, _⟩ := hos.arr (by omega); cases hv
 have H := hstk
 have hcc := harr _ _ hqv
 refine W_rg [(.p, 0), (.p, 1), (.p, 2), (.l, 3), (.p, 4), (.p, 5)] H ?_;refine r_y [(.p, 0), (.p, 1)] [(16, sN db 0 n c), (17, iN i)] ?_;refine m_idx (sz := 1) (b := db) (off := 0) (n := n) (c := c) (k := i.toNat) (some 18) (show opAt _ _ _ = some (.indexAddr 102 (.tmp 16) (.tmp 17), _) by kernel_rfl) e_ (by rw [← hik]; kernel_rfl) Try.underlying102 sz106 (by omega) ?_;refine r_x [1] [(19, pN qb 0), (4, pN qb 0), (5, .bool true)] (rc_L 0 rfl hcc rc_nil) ?_;refine W_ret ?_;refine q_rt [] [] (.tuple #[pN qb 0, .bool true]) rc_nil H ?_
 exact ⟨H, .inr ⟨q, qb, hno, rfl, hqt⟩⟩

theorem c109_126 {G : GH} {κ R : LH} {w : World} {cb sb : Nat} {mb : MB} {c c2 : Chk} {v x0 x1 x2 x3 : Value} {t : T} {b0 : Bool} {Z : GH → LH → Prop} (hC : IsChk G cb sb mb c κ) (H : St G (κ ++ R) w) (ht : IsTyp G v t) (hl : c.types.length < lim) (hty2 : c2.types = c.types ++ [t])
  (hdo : ∀ {G1 : GH} {κ1 : LH} {w1 : World}, Le G G1 → IsChk G1 cb sb mb { c with types := c.types ++ [t] } κ1 → St G1 (κ1 ++ R) w1 →
   Cal Try.prog 126 #[x0, x1, x2, x3] w1 fun r w2 => ∃ G2 κ2 R2, r = .bool b0 ∧ Le G1 G2 ∧ IsChk G2 cb sb mb c2 κ2 ∧ Z G2 R2 ∧ St G2 (κ2 ++ R2) w2) :
  Cal Try.prog 109 #[.pointer (some ⟨cb, 0, none⟩), v, .func (.func 126) #[] #[x0, x1, x2, x3]] w fun r w' => ∃ G2 κ2 R2, r = .bool b0 ∧ Le G G2 ∧ IsChk G2 cb sb mb { c2 with types := c.types } κ2 ∧ Z G2 R2 ∧ St G2 (κ2 ++ R2) w' := by
 have hlim : lim = 1099511627776 := rfl
 obtain ⟨tv, cs, Lt, σ, rfl, hos, hty, hS⟩ := hC;obtain ⟨ub, _, _, rfl, _⟩ := id ht.open
 have H : St G ((cb, .cells #[tv, pN sb 0] 119) :: (Lt ++ (σ ++ R))) w := by simpa [List.append_assoc] using H
 refine cal_of_W Try.func109 rfl (Nat.le_of_ble_eq_true e_) ?_;refine W_sr [(.p, 0)] H ?_;refine r_z [(6, .bool false)] ?_;refine W_sr [(.p, 0), (.p, 1), (.p, 2), (.p, 3), (.p, 4), (.l, 5), (.p, 6), (.f, 7), (.f, 8), (.p, 9), (.p, 10), (.p, 11), (.f, 12)] H ?_;refine r_s [1] [(.p, 0), (.p, 1), (.p, 2), (.p, 3), (.p, 4), (.l, 5), (.p, 6)] [(8, pN cb 0), (9, pN cb 0), (10, pN cb 0), (11, pN cb 0), (12, pN cb 0), (13, tv), (14, pN ub 0)] (rc_l 0 0 rfl rfl rc_nil) ?_;refine m_new (.cells #[pN ub 0] 106) (fun b1 => sN b1 0 1 1) (some 15) (fun b => by kernel_rfl) H (fun b1 w1 H => ?_);refine m_append (v := tv) (sb := b1) (so := 0) (m := 1) (mc := 1) el102 [(b1, .cells #[pN ub 0] 106), (cb, .cells #[tv, pN sb 0] 119)] [pN ub 0] (d := (some 16)) (show opAt _ _ _ = some (.call { callee := .builtin .append, args := #[(.tmp 13), (.tmp 15)], argTypes := #[102, 102] }, _) by kernel_rfl) e_ e_ hos H (by first | rfl | (simp; done)) (src_L 0 H rfl) e_ (by decide) (by omega) (by omega) (fun tv2 Lt2 w1 hos2 H => ?_);obtain ⟨nb, nc, rfl⟩ := hos2.shape (by omega);refine r_y [(.p, 9), (.p, 10), (.p, 11)] [(17, pN cb 0), (18, pN cb 0), (19, pN cb 0)] ?_;refine s_1 [(0, sN nb 0 ((c.types.length + 1)) nc)] [sN nb 0 ((c.types.length + 1)) nc, pN sb 0] none H (fun w1 H => ?_);refine r_nil ?_;refine W_seq ?_;have H := H.drop [_]
 have hC1 : IsChk G cb sb mb { c with types := c.types ++ [t] } ((cb, .cells #[.slice (some ⟨nb, 0, none⟩) ((c.types.length + 1)) nc, .pointer (some ⟨sb, 0, none⟩)] 119) :: (Lt2 ++ σ)) := ⟨_, _, Lt2, σ, rfl, by simpa using hos2, hty.snoc ht, hS⟩
 have H : St G (((cb, .cells #[sN nb 0 ((c.types.length + 1)) nc, pN sb 0] 119) :: (Lt2 ++ σ)) ++ R) w1 := by simpa [List.append_assoc] using H
 refine W_rg [(.p, 0), (.f, 1), (.p, 2)] H ?_;refine r_y [(.p, 0)] [(20, .func (.func 126) #[] #[x0, x1, x2, x3])] ?_;refine m_cl #[x0, x1, x2, x3] (some 21) (hdo (Le.refl _) hC1 H) ?_;rintro _ w1 ⟨G2, κ2, R2, rfl, hG2, hC2, hZ, H⟩;refine nx H ?_;refine r_z [(7, .bool b0)] ?_;refine W_seq ?_
 have hstk := H
 obtain ⟨tv3, cs3, Lt3, σ3, rfl, hos3, hty3, hS3⟩ := id hC2
 have hlen2 : c2.types.length = c.types.length + 1 := by rw [hty2]; simp
 rw [hlen2] at hos3;obtain ⟨tb3, tc3, rfl, htc3, hos4⟩ := hos3.cut (Nat.le_refl _)
 have hsub : IntKind.wrap .i64 (((c.types.length + 1 : Nat) : Int) - 1) = ((c.types.length : Nat) : Int) := by rw [wrap_id] <;> omega
 have H : St G2 ((cb, .cells #[sN tb3 0 ((c.types.length + 1)) tc3, pN sb 0] 119) :: (Lt3 ++ (σ3 ++ R2))) w1 := by simpa [List.append_assoc] using hstk
 refine W_rgd [(.p, 0), (.p, 1), (.p, 2), (.p, 3), (.p, 4), (.l, 5), (.p, 6), (.p, 7), (.p, 8), (.p, 9), (.l, 10), (.p, 11), (.p, 12), (.p, 13), (.p, 14), (.p, 15), (.p, 16), (.f, 17)] H (fun w1 H => ?_);refine r_s [1, 1] [(.p, 0), (.p, 1), (.p, 2), (.p, 3), (.p, 4), (.l, 5), (.p, 6), (.p, 7), (.p, 8), (.p, 9), (.l, 10), (.p, 11), (.p, 12)] [(22, pN cb 0), (23, pN cb 0), (24, pN cb 0), (25, pN cb 0), (26, pN cb 0), (27, sN tb3 0 ((c.types.length + 1)) tc3), (28, pN cb 0), (29, pN cb 0), (30, pN cb 0), (31, pN cb 0), (32, sN tb3 0 ((c.types.length + 1)) tc3), (33, nN (c.types.length + 1)), (34, iN (IntKind.wrap .i64 (((((c.types.length + 1) : Nat) : Int)) - 1)))] (rc_l 0 0 rfl rfl (rc_l 0 0 rfl rfl rc_nil)) ?_;refine m_sliceTo (n := c.types.length + 1) (c := tc3) (hi := c.types.length) (A := some ⟨tb3, 0, none⟩) (some 35) (show opAt _ _ _ = some (.slice 102 (.tmp 27) none (some (.tmp 34)) none, _) by kernel_rfl) e_ (by rw [← hsub]; kernel_rfl) Try.underlying102 e_ (by omega) ?_;refine r_y [(.p, 14), (.p, 15), (.p, 16)] [(36, pN cb 0), (37, pN cb 0), (38, pN cb 0)] ?_;refine s_0 [(0, sN tb3 0 c.types.length tc3)] [sN tb3 0 c.types.length tc3, pN sb 0] none H (fun w1 H => ?_);refine r_nil ?_;refine W_sr (pL 2) H ?_;refine r_z [(39, .bool b0), (6, .bool b0)] ?_;refine W_ret ?_;refine q_rt [] [] (.bool b0) rc_nil H ?_;refine ⟨G2, (cb, .cells #[sN tb3 0 c.types.length tc3, pN sb 0] 119) :: (Lt3 ++ σ3), R2, rfl, hG2, ⟨_, _, Lt3, σ3, rfl, hos4, ?_, hS3⟩, hZ, by simpa [List.append_assoc] using H⟩
 have h5 := hty3.take c.types.length
 rw [hty2, List.take_left'] at h5
 ·exact h5
 rfl

theorem c109_129 {G : GH} {κ R : LH} {w : World} {cb sb : Nat} {mb : MB} {c c2 : Chk} {v x0 x1 x2 x3 x4 : Value} {t : T} {b0 : Bool} {Z : GH → LH → Prop} (hC : IsChk G cb sb mb c κ) (H : St G (κ ++ R) w) (ht : IsTyp G v t) (hl : c.types.length < lim) (hty2 : c2.types = c.types ++ [t])
  (hdo : ∀ {G1 : GH} {κ1 : LH} {w1 : World}, Le G G1 → IsChk G1 cb sb mb { c with types := c.types ++ [t] } κ1 → St G1 (κ1 ++ R) w1 →
   Cal Try.prog 129 #[x0, x1, x2, x3, x4] w1 fun r w2 => ∃ G2 κ2 R2, r = .bool b0 ∧ Le G1 G2 ∧ IsChk G2 cb sb mb c2 κ2 ∧ Z G2 R2 ∧ St G2 (κ2 ++ R2) w2) :
  Cal Try.prog 109 #[.pointer (some ⟨cb, 0, none⟩), v, .func (.func 129) #[] #[x0, x1, x2, x3, x4]] w fun r w' => ∃ G2 κ2 R2, r = .bool b0 ∧ Le G G2 ∧ IsChk G2 cb sb mb { c2 with types := c.types } κ2 ∧ Z G2 R2 ∧ St G2 (κ2 ++ R2) w' := by
 have hlim : lim = 1099511627776 := rfl
 obtain ⟨tv, cs, Lt, σ, rfl, hos, hty, hS⟩ := hC;obtain ⟨ub, _, _, rfl, _⟩ := id ht.open
 have H : St G ((cb, .cells #[tv, pN sb 0] 119) :: (Lt ++ (σ ++ R))) w := by simpa [List.append_assoc] using H
 refine cal_of_W Try.func109 rfl (Nat.le_of_ble_eq_true e_) ?_;refine W_sr [(.p, 0)] H ?_;refine r_z [(6, .bool false)] ?_;refine W_sr [(.p, 0), (.p, 1), (.p, 2), (.p, 3), (.p, 4), (.l, 5), (.p, 6), (.f, 7), (.f, 8), (.p, 9), (.p, 10), (.p, 11), (.f, 12)] H ?_;refine r_s [1] [(.p, 0), (.p, 1), (.p, 2), (.p, 3), (.p, 4), (.l, 5), (.p, 6)] [(8, pN cb 0), (9, pN cb 0), (10, pN cb 0), (11, pN cb 0), (12, pN cb 0), (13, tv), (14, pN ub 0)] (rc_l 0 0 rfl rfl rc_nil) ?_;refine m_new (.cells #[pN ub 0] 106) (fun b1 => sN b1 0 1 1) (some 15) (fun b => by kernel_rfl) H (fun b1 w1 H => ?_);refine m_append (v := tv) (sb := b1) (so := 0) (m := 1) (mc := 1) el102 [(b1, .cells #[pN ub 0] 106), (cb, .cells #[tv, pN sb 0] 119)] [pN ub 0] (d := (some 16)) (show opAt _ _ _ = some (.call { callee := .builtin .append, args := #[(.tmp 13), (.tmp 15)], argTypes := #[102, 102] }, _) by kernel_rfl) e_ e_ hos H (by first | rfl | (simp; done)) (src_L 0 H rfl) e_ (by decide) (by omega) (by omega) (fun tv2 Lt2 w1 hos2 H => ?_);obtain ⟨nb, nc, rfl⟩ := hos2.shape (by omega);refine r_y [(.p, 9), (.p, 10), (.p, 11)] [(17, pN cb 0), (18, pN cb 0), (19, pN cb 0)] ?_;refine s_1 [(0, sN nb 0 ((c.types.length + 1)) nc)] [sN nb 0 ((c.types.length + 1)) nc, pN sb 0] none H (fun w1 H => ?_);refine r_nil ?_;refine W_seq ?_;have H := H.drop [_]
 have hC1 : IsChk G cb sb mb { c with types := c.types ++ [t] } ((cb, .cells #[.slice (some ⟨nb, 0, none⟩) ((c.types.length + 1)) nc, .pointer (some ⟨sb, 0, none⟩)] 119) :: (Lt2 ++ σ)) := ⟨_, _, Lt2, σ, rfl, by simpa using hos2, hty.snoc ht, hS⟩
 have H : St G (((cb, .cells #[sN nb 0 ((c.types.length + 1)) nc, pN sb 0] 119) :: (Lt2 ++ σ)) ++ R) w1 := by simpa [List.append_assoc] using H
 refine W_rg [(.p, 0), (.f, 1), (.p, 2)] H ?_;refine r_y [(.p, 0)] [(20, .func (.func 129) #[] #[x0, x1, x2, x3, x4])] ?_;refine m_cl #[x0, x1, x2, x3, x4] (some 21) (hdo (Le.refl _) hC1 H) ?_;rintro _ w1 ⟨G2, κ2, R2, rfl, hG2, hC2, hZ, H⟩;refine nx H ?_;refine r_z [(7, .bool b0)] ?_;refine W_seq ?_
 have hstk := H
 obtain ⟨tv3, cs3, Lt3, σ3, rfl, hos3, hty3, hS3⟩ := id hC2
 have hlen2 : c2.types.length = c.types.length + 1 := by rw [hty2]; simp
 rw [hlen2] at hos3;obtain ⟨tb3, tc3, rfl, htc3, hos4⟩ := hos3.cut (Nat.le_refl _)
 have hsub : IntKind.wrap .i64 (((c.types.length + 1 : Nat) : Int) - 1) = ((c.types.length : Nat) : Int) := by rw [wrap_id] <;> omega
 have H : St G2 ((cb, .cells #[sN tb3 0 ((c.types.length + 1)) tc3, pN sb 0] 119) :: (Lt3 ++ (σ3 ++ R2))) w1 := by simpa [List.append_assoc] using hstk
 refine W_rgd [(.p, 0), (.p, 1), (.p, 2), (.p, 3), (.p, 4), (.l, 5), (.p, 6), (.p, 7), (.p, 8), (.p, 9), (.l, 10), (.p, 11), (.p, 12), (.p, 13), (.p, 14), (.p, 15), (.p, 16), (.f, 17)] H (fun w1 H => ?_);refine r_s [1, 1] [(.p, 0), (.p, 1), (.p, 2), (.p, 3), (.p, 4), (.l, 5), (.p, 6), (.p, 7), (.p, 8), (.p, 9), (.l, 10), (.p, 11), (.p, 12)] [(22, pN cb 0), (23, pN cb 0), (24, pN cb 0), (25, pN cb 0), (26, pN cb 0), (27, sN tb3 0 ((c.types.length + 1)) tc3), (28, pN cb 0), (29, pN cb 0), (30, pN cb 0), (31, pN cb 0), (32, sN tb3 0 ((c.types.length + 1)) tc3), (33, nN (c.types.length + 1)), (34, iN (IntKind.wrap .i64 (((((c.types.length + 1) : Nat) : Int)) - 1)))] (rc_l 0 0 rfl rfl (rc_l 0 0 rfl rfl rc_nil)) ?_;refine m_sliceTo (n := c.types.length + 1) (c := tc3) (hi := c.types.length) (A := some ⟨tb3, 0, none⟩) (some 35) (show opAt _ _ _ = some (.slice 102 (.tmp 27) none (some (.tmp 34)) none, _) by kernel_rfl) e_ (by rw [← hsub]; kernel_rfl) Try.underlying102 e_ (by omega) ?_;refine r_y [(.p, 14), (.p, 15), (.p, 16)] [(36, pN cb 0), (37, pN cb 0), (38, pN cb 0)] ?_;refine s_0 [(0, sN tb3 0 c.types.length tc3)] [sN tb3 0 c.types.length tc3, pN sb 0] none H (fun w1 H => ?_);refine r_nil ?_;refine W_sr (pL 2) H ?_;refine r_z [(39, .bool b0), (6, .bool b0)] ?_;refine W_ret ?_;refine q_rt [] [] (.bool b0) rc_nil H ?_;refine ⟨G2, (cb, .cells #[sN tb3 0 c.types.length tc3, pN sb 0] 119) :: (Lt3 ++ σ3), R2, rfl, hG2, ⟨_, _, Lt3, σ3, rfl, hos4, ?_, hS3⟩, hZ, by simpa [List.append_assoc] using H⟩
 have h5 := hty3.take c.types.length
 rw [hty2, List.take_left'] at h5
 ·exact h5
 rfl

theorem c109_110 {G : GH} {κ R : LH} {w : World} {cb sb : Nat} {mb : MB} {c c2 : Chk} {v x0 x1 x2 x3 : Value} {t : T} {b0 : Bool} {Z : GH → LH → Prop} (hC : IsChk G cb sb mb c κ) (H : St G (κ ++ R) w) (ht : IsTyp G v t) (hl : c.types.length < lim) (hty2 : c2.types = c.types ++ [t])
  (hdo : ∀ {G1 : GH} {κ1 : LH} {w1 : World}, Le G G1 → IsChk G1 cb sb mb { c with types := c.types ++ [t] } κ1 → St G1 (κ1 ++ R) w1 →
   Cal Try.prog 110 #[x0, x1, x2, x3] w1 fun r w2 => ∃ G2 κ2 R2, r = .bool b0 ∧ Le G1 G2 ∧ IsChk G2 cb sb mb c2 κ2 ∧ Z G2 R2 ∧ St G2 (κ2 ++ R2) w2) :
  Cal Try.prog 109 #[.pointer (some ⟨cb, 0, none⟩), v, .func (.func 110) #[] #[x0, x1, x2, x3]] w fun r w' => ∃ G2 κ2 R2, r = .bool b0 ∧ Le G G2 ∧ IsChk G2 cb sb mb { c2 with types := c.types } κ2 ∧ Z G2 R2 ∧ St G2 (κ2 ++ R2) w' := by
 have hlim : lim = 1099511627776 := rfl
 obtain ⟨tv, cs, Lt, σ, rfl, hos, hty, hS⟩ := hC;obtain ⟨ub, _, _, rfl, _⟩ := id ht.open
 have H : St G ((cb, .cells #[tv, pN sb 0] 119) :: (Lt ++ (σ ++ R))) w := by simpa [List.append_assoc] using H
 refine cal_of_W Try.func109 rfl (Nat.le_of_ble_eq_true e_) ?_;refine W_sr [(.p, 0)] H ?_;refine r_z [(6, .bool false)] ?_;refine W_sr [(.p, 0), (.p, 1), (.p, 2), (.p, 3), (.p, 4), (.l, 5), (.p, 6), (.f, 7), (.f, 8), (.p, 9), (.p, 10), (.p, 11), (.f, 12)] H ?_;refine r_s [1] [(.p, 0), (.p, 1), (.p, 2), (.p, 3), (.p, 4), (.l, 5), (.p, 6)] [(8, pN cb 0), (9, pN cb 0), (10, pN cb 0), (11, pN cb 0), (12, pN cb 0), (13, tv), (14, pN ub 0)] (rc_l 0 0 rfl rfl rc_nil) ?_;refine m_new (.cells #[pN ub 0] 106) (fun b1 => sN b1 0 1 1) (some 15) (fun b => by kernel_rfl) H (fun b1 w1 H => ?_);refine m_append (v := tv) (sb := b1) (so := 0) (m := 1) (mc := 1) el102 [(b1, .cells #[pN ub 0] 106), (cb, .cells #[tv, pN sb 0] 119)] [pN ub 0] (d := (some 16)) (show opAt _ _ _ = some (.call { callee := .builtin .append, args := #[(.tmp 13), (.tmp 15)], argTypes := #[102, 102] }, _) by kernel_rfl) e_ e_ hos H (by first | rfl | (simp; done)) (src_L 0 H rfl) e_ (by decide) (by omega) (by omega) (fun tv2 Lt2 w1 hos2 H => ?_);obtain ⟨nb, nc, rfl⟩ := hos2.shape (by omega);refine r_y [(.p, 9), (.p, 10), (.p, 11)] [(17, pN cb 0), (18, pN cb 0), (19, pN cb 0)] ?_;refine s_1 [(0, sN nb 0 ((c.types.length + 1)) nc)] [sN nb 0 ((c.types.length + 1)) nc, pN sb 0] none H (fun w1 H => ?_);refine r_nil ?_;refine W_seq ?_;have H := H.drop [_]
 have hC1 : IsChk G cb sb mb { c with types := c.types ++ [t] } ((cb, .cells #[.slice (some ⟨nb, 0, none⟩) ((c.types.length + 1)) nc, .pointer (some ⟨sb, 0, none⟩)] 119) :: (Lt2 ++ σ)) := ⟨_, _, Lt2, σ, rfl, by simpa using hos2, hty.snoc ht, hS⟩
 have H : St G (((cb, .cells #[sN nb 0 ((c.types.length + 1)) nc, pN sb 0] 119) :: (Lt2 ++ σ)) ++ R) w1 := by simpa [List.append_assoc] using H
 refine W_rg [(.p, 0), (.f, 1), (.p, 2)] H ?_;refine r_y [(.p, 0)] [(20, .func (.func 110) #[] #[x0, x1, x2, x3])] ?_;refine m_cl #[x0, x1, x2, x3] (some 21) (hdo (Le.refl _) hC1 H) ?_;rintro _ w1 ⟨G2, κ2, R2, rfl, hG2, hC2, hZ, H⟩;refine nx H ?_;refine r_z [(7, .bool b0)] ?_;refine W_seq ?_
 have hstk := H
 obtain ⟨tv3, cs3, Lt3, σ3, rfl, hos3, hty3, hS3⟩ := id hC2
 have hlen2 : c2.types.length = c.types.length + 1 := by rw [hty2]; simp
 rw [hlen2] at hos3;obtain ⟨tb3, tc3, rfl, htc3, hos4⟩ := hos3.cut (Nat.le_refl _)
 have hsub : IntKind.wrap .i64 (((c.types.length + 1 : Nat) : Int) - 1) = ((c.types.length : Nat) : Int) := by rw [wrap_id] <;> omega
 have H : St G2 ((cb, .cells #[sN tb3 0 ((c.types.length + 1)) tc3, pN sb 0] 119) :: (Lt3 ++ (σ3 ++ R2))) w1 := by simpa [List.append_assoc] using hstk
 refine W_rgd [(.p, 0), (.p, 1), (.p, 2), (.p, 3), (.p, 4), (.l, 5), (.p, 6), (.p, 7), (.p, 8), (.p, 9), (.l, 10), (.p, 11), (.p, 12), (.p, 13), (.p, 14), (.p, 15), (.p, 16), (.f, 17)] H (fun w1 H => ?_);refine r_s [1, 1] [(.p, 0), (.p, 1), (.p, 2), (.p, 3), (.p, 4), (.l, 5), (.p, 6), (.p, 7), (.p, 8), (.p, 9), (.l, 10), (.p, 11), (.p, 12)] [(22, pN cb 0), (23, pN cb 0), (24, pN cb 0), (25, pN cb 0), (26, pN cb 0), (27, sN tb3 0 ((c.types.length + 1)) tc3), (28, pN cb 0), (29, pN cb 0), (30, pN cb 0), (31, pN cb 0), (32, sN tb3 0 ((c.types.length + 1)) tc3), (33, nN (c.types.length + 1)), (34, iN (IntKind.wrap .i64 (((((c.types.length + 1) : Nat) : Int)) - 1)))] (rc_l 0 0 rfl rfl (rc_l 0 0 rfl rfl rc_nil)) ?_;refine m_sliceTo (n := c.types.length + 1) (c := tc3) (hi := c.types.length) (A := some ⟨tb3, 0, none⟩) (some 35) (show opAt _ _ _ = some (.slice 102 (.tmp 27) none (some (.tmp 34)) none, _) by kernel_rfl) e_ (by rw [← hsub]; kernel_rfl) Try.underlying102 e_ (by omega) ?_;refine r_y [(.p, 14), (.p, 15), (.p, 16)] [(36, pN cb 0), (37, pN cb 0), (38, pN cb 0)] ?_;refine s_0 [(0, sN tb3 0 c.types.length tc3)] [sN tb3 0 c.types.length tc3, pN sb 0] none H (fun w1 H => ?_);refine r_nil ?_;refine W_sr (pL 2) H ?_;refine r_z [(39, .bool b0), (6, .bool b0)] ?_;refine W_ret ?_;refine q_rt [] [] (.bool b0) rc_nil H ?_;refine ⟨G2, (cb, .cells #[sN tb3 0 c.types.length tc3, pN sb 0] 119) :: (Lt3 ++ σ3), R2, rfl, hG2, ⟨_, _, Lt3, σ3, rfl, hos4, ?_, hS3⟩, hZ, by simpa [List.append_assoc] using H⟩
 have h5 := hty3.take c.types.length
 rw [hty2, List.take_left'] at h5
 ·exact h5
 rfl

theorem c69 {G : GH} {L : LH} {w : World} {A : Option Addr} {c : Nat} {l : List T} (hks : IsPolys G A l) (hc : l.length ≤ c) (hlsz : T.szs l < lim) (H : St G L w) :
  Cal Try.prog 69 #[.slice A l.length c] w fun v w' => ∃ G' cb sb κ, v = .pointer (some ⟨cb, 0, none⟩) ∧ Le G G' ∧ IsChk G' cb sb .unk (chk l) κ ∧ St G' (κ ++ L) w' := by
 have hlim : lim = 1099511627776 := rfl
 have hlen := T.lens_le l
 refine cal_of_W Try.func69 rfl (Nat.le_of_ble_eq_true e_) ?_;refine W_sr [(.p, 0)] H ?_;refine r_z [(2, .pointer none)] ?_;refine W_sr [(.f, 0), (.p, 1), (.f, 2), (.p, 3)] H ?_;refine m_cl #[] (some 5) (c63 H) ?_;rintro _ w1 ⟨sb, mp, rfl, H⟩;refine nx H ?_;refine r_y [(.p, 1)] [(6, .agg #[.slice none 0 0, pN sb 0])] ?_;refine m_nw (.cells #[.slice none 0 0, pN sb 0] 119) 7 H (fun b1 w1 H => ?_);refine r_z [(3, pN b1 0)] ?_;refine W_seq ?_;refine W_rgd [(.p, 0), (.p, 1), (.p, 2), (.l, 3), (.p, 4), (.p, 5), (.p, 6), (.l, 7), (.p, 8), (.p, 9), (.p, 10), (.f, 11)] H (fun w1 H => ?_);refine r_s [1, 1] [(.p, 0), (.p, 1), (.p, 2), (.l, 3), (.p, 4), (.p, 5), (.p, 6), (.l, 7), (.p, 8), (.p, 9), (.p, 10)] [(8, pN b1 0), (9, pN b1 0), (10, pN b1 1), (11, pN sb 0), (12, pN b1 0), (13, pN b1 0), (14, pN b1 1), (15, pN sb 0), (16, .func (.func 64) #[pN sb 0] #[]), (17, pN sb 0), (18, pN sb 3)] (rc_l 0 1 rfl rfl (rc_l 0 1 rfl rfl rc_nil)) ?_;refine s_1 [(3, .func (.func 64) #[pN sb 0] #[])] [.map (some mp), .slice none 0 0, .slice none 0 0, .func (.func 64) #[pN sb 0] #[]] none H (fun w1 H => ?_);refine r_nil ?_;refine W_seq ?_;refine W_sr (pL 3) H ?_;refine r_z [(19, .slice A l.length c), (20, nN l.length), (21, iN 0)] ?_;refine W_block ?_;refine W_loop (fun m ρ D w => ∃ (k : Nat) (G1 : GH) (tv : Value) (cs : List Value) (Lt : LH), EqS ρ [(0, .slice A l.length c), (3, pN b1 0), (20, iN (((l.length : Nat) : Int))), (21, iN (((k : Nat) : Int)))] ∧ D = [] ∧ St G1 ((b1, .cells #[tv, pN sb 0] 119) :: Lt ++ ((sb, .cells #[.map (some mp), .slice none 0 0, .slice none 0 0, .func (.func 64) #[pN sb 0] #[]] 104) :: (mp, .map #[] 0) :: L)) w ∧ (Le G G1) ∧ (OS 106 1 tv k cs Lt) ∧ (TyL G1 cs (l.reverse.take k)) ∧ (k ≤ l.length) ∧ l.length - k = m) (l.length - 0) ⟨0, G, .slice none 0 0, [], [], ⟨e_, e_, e_, e_, trivial⟩, rfl, H, Le.refl _, OS.nil 106 1, (by simp [TyL]), Nat.zero_le _, rfl⟩ ?_
 clear H; rintro m2 ρ D w1 ⟨k, G1, tv, cs, Lt, hE3, rfl, H, hle, hos, hty, hkk, hm4⟩
 refine W_env hE3 ?_;refine W_sr [(.p, 0)] H ?_;refine r_z [(22, .bool (decide ((((k : Nat) : Int)) < (((l.length : Nat) : Int)))))] ?_;refine W_seq ?_;refine W_cd (b := decide ((((k : Nat) : Int)) < (((l.length : Nat) : Int)))) (fun hc5 => ?_) (fun hc5 => ?_)
 ·skip
  have hlt : k < l.length := by have := of_decide_eq_true hc5; omega
  obtain ⟨q, hq⟩ := get_of_lt (l := l) (i := l.length - 1 - k) (by omega)
  have hqr : l.reverse[k]? = some q := by rw [List.getElem?_reverse hlt]; exact hq
  have hqs := T.szs_get hq
  have hidx : IntKind.wrap .i64 (IntKind.wrap .i64 (((l.length : Nat) : Int) - 1) - ((k : Nat) : Int)) = ((l.length - 1 - k : Nat) : Int) := by rw [wrap_id (x := ((l.length : Nat) : Int) - 1) (by omega) (by omega), wrap_id] <;> omega
  have hstk := H
  obtain ⟨eb, eo, qA, qc, rfl, hc0, hc1, hc2, hqp⟩ := (hks.mono hle).elem hq
  have H := hstk; clear hstk
  refine W_skip ?_;refine W_seq ?_;refine W_block ?_;refine W_sr (pL 2) H ?_;refine r_z [(23, nN k), (4, nN k)] ?_;refine W_rgd [(.p, 0), (.p, 1), (.p, 2), (.p, 3), (.p, 4), (.l, 5), (.p, 6), (.p, 7), (.p, 8), (.p, 9), (.p, 10), (.p, 11), (.p, 12), (.l, 13), (.e, 14), (.e, 15), (.f, 16), (.p, 17), (.p, 18), (.p, 19), (.f, 20)] H (fun w1 H => ?_);refine r_s [1] [(.p, 0), (.p, 1), (.p, 2), (.p, 3), (.p, 4), (.l, 5), (.p, 6), (.p, 7), (.p, 8), (.p, 9), (.p, 10), (.p, 11)] [(24, pN b1 0), (25, pN b1 0), (26, pN b1 0), (27, pN b1 0), (28, pN b1 0), (29, tv), (30, sN eb eo l.length c), (31, sN eb eo l.length c), (32, nN l.length), (33, iN (IntKind.wrap .i64 ((((l.length : Nat) : Int)) - 1))), (34, nN k), (35, iN (IntKind.wrap .i64 ((IntKind.wrap .i64 ((((l.length : Nat) : Int)) - 1)) - (((k : Nat) : Int)))))] (rc_l 0 0 rfl rfl rc_nil) ?_;refine m_idx (sz := 3) (b := eb) (off := eo) (n := l.length) (c := c) (k := (l.length - 1 - k)) (some 36) (show opAt _ _ _ = some (.indexAddr 22 (.tmp 30) (.tmp 35), _) by kernel_rfl) e_ (by rw [← hidx]; kernel_rfl) Try.underlying22 sz24 (by omega) ?_;refine r_s [3] [(.l, 13)] [(37, (aT q qA qc))] (rc_C hc0 (rc_C hc1 (rc_C hc2 rc_nil))) ?_;refine m_callE #[(aT q qA qc)] (some 38) e_ (c66 lim q (by omega) (Nat.le_refl _) hqp H) ?_;rintro v1 w1 ⟨G2, hG2, hu, H⟩;obtain ⟨ub, _, _, rfl, _⟩ := id hu.open;refine ⟨H.ss' ((Le.refl _).trans hG2) (fun _ hp => hp), ?_⟩;refine m_newE (.cells #[pN ub 0] 106) (fun b6 => sN b6 0 1 1) (some 39) (fun b => by kernel_rfl) H (fun _ _ h => h.ss' ((Le.refl _).trans hG2) (fun _ hp => (List.mem_cons_of_mem _ hp))) (fun b6 w1 H => ?_);refine m_append (v := tv) (sb := b6) (so := 0) (m := 1) (mc := 1) el102 [(b6, .cells #[pN ub 0] 106), (b1, .cells #[tv, pN sb 0] 119)] [pN ub 0] (d := (some 40)) (show opAt _ _ _ = some (.call { callee := .builtin .append, args := #[(.tmp 29), (.tmp 39)], argTypes := #[102, 102] }, _) by kernel_rfl) e_ e_ hos H (by first | rfl | (simp; done)) (src_L 0 H rfl) e_ (by decide) (by omega) (by omega) (fun tv2 Lt2 w1 hos2 H => ?_);obtain ⟨nb, nc, rfl⟩ := hos2.shape (by omega);refine r_y [(.p, 17), (.p, 18), (.p, 19)] [(41, pN b1 0), (42, pN b1 0), (43, pN b1 0)] ?_;refine s_1 [(0, sN nb 0 ((k + 1)) nc)] [sN nb 0 ((k + 1)) nc, pN sb 0] none H (fun w1 H => ?_);refine r_nil ?_;refine W_rg (pL 2) H ?_;refine r_z [(44, iN (IntKind.wrap .i64 ((((k : Nat) : Int)) + 1))), (21, iN (IntKind.wrap .i64 ((((k : Nat) : Int)) + 1)))] ?_
  exact ⟨_, (by omega), k + 1, G2, sN nb 0 (k + 1) nc, cs ++ [pN ub 0], Lt2, ⟨e_, e_, e_, (by rw [← wrap_succ (k := k) (by omega)]; kernel_rfl), trivial⟩, rfl, (H.drop [_]), (hle.trans hG2), hos2, (by rw [take_snoc hqr]; exact (hty.mono hG2).snoc hu), hlt, rfl⟩
 have hge : k = l.length := by have := of_decide_eq_false hc5; omega
 refine W_exit ?_;refine W_sr (pL 2) H ?_;refine r_z [(45, pN b1 0), (2, pN b1 0)] ?_;refine W_ret ?_;refine q_rt [] [] (pN b1 0) rc_nil H ?_
 have hty2 : TyL G1 cs l.reverse := by have := hty; rw [List.take_of_length_le (by simp; omega)] at this; exact this
 have hS0 := sol_new G1 sb mp (.func (.func 64) #[.pointer (some ⟨sb, 0, none⟩)] #[]) .unk .unk [] ⟨rfl, rfl⟩
 have hS1 : IsSol G1 sb .unk (chk l).s ((sb, .cells #[.map (some mp), .slice none 0 0, .slice none 0 0, .func (.func 64) #[.pointer (some ⟨sb, 0, none⟩)] #[]] 104) :: (mp, .map #[] 0) :: ([] ++ [])) := hS0
 refine ⟨G1, b1, sb, (b1, .cells #[tv, pN sb 0] 119) :: (Lt ++ ((sb, .cells #[.map (some mp), .slice none 0 0, .slice none 0 0, .func (.func 64) #[pN sb 0] #[]] 104) :: (mp, .map #[] 0) :: ([] ++ []))), rfl, hle, ⟨tv, cs, Lt, _, rfl, ?_, hty2, hS1⟩, by simpa [List.append_assoc] using H⟩
 have hrl : (chk l).types.length = k := by simp [chk, hge]
 rw [hrl]; exact hos

def PG (f : Nat) : Prop := ∀ {G : GH} {κ R : LH} {w : World} {cb sb : Nat} {mb : MB} {c c' : Chk} {v : Value} {e : E} {dp : Int} {r : T} {b0 : Bool}, IsChk G cb sb mb c κ → St G (κ ++ R) w → IsExpr G v e → E.sz e < lim → gives f c e dp = some ((r, b0), c') →
 Cal Try.prog 70 #[.pointer (some ⟨cb, 0, none⟩), v, .int .i64 dp] w fun x w' => ∃ G' κ' pa, x = .tuple #[.pointer pa, .bool b0] ∧ Le G G' ∧ IsChk G' cb sb mb c' κ' ∧ (b0 = true → IsTyp G' (.pointer pa) r) ∧ St G' (κ' ++ R) w'
def PH (f : Nat) : Prop := ∀ {G : GH} {κ R : LH} {w : World} {cb sb : Nat} {mb : MB} {c c' : Chk} {v vt : Value} {e : E} {t : T} {dp : Int} {b0 : Bool}, IsChk G cb sb mb c κ → St G (κ ++ R) w → IsExpr G v e → E.sz e < lim → IsTyp G vt t → has f c e t dp = some (b0, c') →
 Cal Try.prog 73 #[.pointer (some ⟨cb, 0, none⟩), v, vt, .int .i64 dp] w fun x w' => ∃ G' κ', x = .bool b0 ∧ Le G G' ∧ IsChk G' cb sb mb c' κ' ∧ St G' (κ' ++ R) w'
def PLd (f : Nat) : Prop := ∀ {G : GH} {κ R : LH} {w : World} {cb sb : Nat} {mb : MB} {c c' : Chk} {v vt : Value} {e : E} {t : T} {dp : Int} {r : T} {b0 : Bool}, IsChk G cb sb mb c κ → St G (κ ++ R) w → IsExpr G v e → E.sz e < lim → IsTyp G vt t → leads f c t e dp = some ((r, b0), c') →
 Cal Try.prog 131 #[.pointer (some ⟨cb, 0, none⟩), vt, v, .int .i64 dp] w fun x w' => ∃ G' κ' pa, x = .tuple #[.pointer pa, .bool b0] ∧ Le G G' ∧ IsChk G' cb sb mb c' κ' ∧ (b0 = true → IsTyp G' (.pointer pa) r) ∧ St G' (κ' ++ R) w'
theorem gives_eq (f : Nat) (c : Chk) (e : E) (dp : Int) : gives (f + 1) c e dp = 
  if e.kind = 1 then
   (match nth c.types (w64 (w64 ((c.types.length : Int) - 1) - e.num)) with | some t => some ((t, true), c) | none => some ((t0, false), c))
  else if e.kind = 2 then some ((.mk 2 0 [], true), c)
  else if e.kind = 3 then
   match e.kids with
   | x :: _ => (newer c.s 6 dp).bind fun a => (newer a.2 6 dp).bind fun b =>
     if c.types.length ≥ lim then none else (has f { types := c.types ++ [a.1], s := b.2 } x b.1 dp).bind fun r => some ((.mk 3 0 [a.1, b.1], r.1), { r.2 with types := c.types })
   | [] => none
  else if e.kind = 4 then
   match e.kids with
   | x :: _ => if c.types.length ≥ lim then none else (gives f { c with types := c.types ++ [e.ty] } x dp).bind fun r => some ((.mk 3 0 [e.ty, r.1.1], r.1.2), { r.2 with types := c.types })
   | [] => none
  else if e.kind = 5 then
   match e.kids with
   | x :: y :: _ => (gives f c x dp).bind fun r => if r.1.2 = false then some ((t0, false), r.2) else leads f r.2 r.1.1 y dp
   | _ => none
  else if e.kind = 6 then
   match e.kids with
   | x :: _ => (has f c x e.ty dp).bind fun r => some ((e.ty, r.1), r.2)
   | [] => none
  else none := by
 rw [gives]
 rfl

theorem c122 {f : Nat}  {G : GH} {κ R : LH} {w : World} {cb sb : Nat} {mb : MB} {c c' : Chk} {v : Value} {e : E} {dp : Int} {r : T} {b0 : Bool} (hC : IsChk G cb sb mb c κ) (H : St G (κ ++ R) w) (hv : IsExpr G v e) (hsz : E.sz e < lim) (hk : e.kind = 1) (hin : gives (f + 1) c e dp = some ((r, b0), c')) :
  Cal Try.prog 122 #[.pointer (some ⟨cb, 0, none⟩), v, .int .i64 dp] w fun x w' => ∃ G' κ' pa, x = .tuple #[.pointer pa, .bool b0] ∧ Le G G' ∧ IsChk G' cb sb mb c' κ' ∧ (b0 = true → IsTyp G' (.pointer pa) r) ∧ St G' (κ' ++ R) w' := by
 have hlim : lim = 1099511627776 := rfl
 rw [gives_eq, if_pos hk] at hin;obtain ⟨eA, ec, eB, ed, rfl, hec, heks, hety⟩ := id hv.open;refine cal_of_W Try.func122 rfl (Nat.le_of_ble_eq_true e_) ?_;refine W_sr [(.f, 0), (.p, 1), (.p, 2)] H ?_;refine m_nw (cE e eA ec eB ed) 4 H (fun b1 w1 H => ?_);refine r_z [(6, .pointer none), (7, .bool false)] ?_;refine W_seq ?_
 have hstk := H
 obtain ⟨tv, cs, Lt, σ, rfl, hos, hty, hS⟩ := id hC
 have H : St G ((b1, cE e eA ec eB ed) :: (cb, .cells #[tv, pN sb 0] 119) :: (Lt ++ (σ ++ R))) w1 := by simpa [List.append_assoc] using hstk
 obtain ⟨tA, tc, rfl⟩ := hos.form
 have H : St G ((b1, cE e eA ec eB ed) :: (cb, .cells #[.slice tA c.types.length tc, pN sb 0] 119) :: (Lt ++ (σ ++ R))) w1 := by simpa [List.append_assoc] using hstk
 refine W_rgd [(.p, 0), (.p, 1), (.p, 2), (.p, 3), (.l, 4), (.p, 5), (.p, 6), (.p, 7), (.p, 8), (.l, 9), (.p, 10), (.p, 11), (.p, 12), (.l, 13), (.p, 14), (.f, 15), (.p, 16), (.p, 17), (.p, 18), (.p, 19)] H (fun w1 H => ?_);refine r_s [1, 1, 1] [(.p, 0), (.p, 1), (.p, 2), (.p, 3), (.l, 4), (.p, 5), (.p, 6), (.p, 7), (.p, 8), (.l, 9), (.p, 10), (.p, 11), (.p, 12), (.l, 13), (.p, 14)] [(8, pN cb 0), (9, pN cb 0), (10, pN cb 0), (11, pN cb 0), (12, .slice tA c.types.length tc), (13, pN cb 0), (14, pN cb 0), (15, pN cb 0), (16, pN cb 0), (17, .slice tA c.types.length tc), (18, nN c.types.length), (19, iN (IntKind.wrap .i64 ((((c.types.length : Nat) : Int)) - 1))), (20, pN b1 1), (21, iN e.num), (22, iN (IntKind.wrap .i64 ((IntKind.wrap .i64 ((((c.types.length : Nat) : Int)) - 1)) - e.num)))] (rc_l 1 0 rfl rfl (rc_l 1 0 rfl rfl (rc_l 0 1 rfl rfl rc_nil))) ?_;have H := St.swap (A := [(b1, cE e eA ec eB ed), (cb, .cells #[.slice tA c.types.length tc, pN sb 0] 119)]) (B := Lt) (C := σ ++ R) H;refine m_cl #[.slice tA c.types.length tc, iN (IntKind.wrap .i64 ((IntKind.wrap .i64 ((((c.types.length : Nat) : Int)) - 1)) - e.num))] (some 23) (c123 hos hty rfl H) ?_;rintro _ w1 ⟨H, ⟨hno, rfl⟩ | ⟨q, qb, hno, rfl, hqt⟩⟩
 ·skip
  have hno2 : nth c.types (w64 (w64 ((c.types.length : Int) - 1) - e.num)) = none := hno
  rw [hno2] at hin; simp only [o_j, p_j] at hin; obtain ⟨⟨rfl, rfl⟩, rfl⟩ := hin
  have H : St G ((b1, cE e eA ec eB ed) :: (cb, .cells #[.slice tA c.types.length tc, pN sb 0] 119) :: (Lt ++ (σ ++ R))) w1 := St.swap (A := Lt) (B := [(b1, cE e eA ec eB ed), (cb, .cells #[.slice tA c.types.length tc, pN sb 0] 119)]) (C := σ ++ R) H
  refine nx H ?_;refine r_z [(24, .pointer none), (25, .bool false), (6, .pointer none), (7, .bool false)] ?_;refine W_ret ?_;refine q_rt [] [] (.tuple #[.pointer none, .bool false]) rc_nil H ?_
  exact ⟨G, _, _, rfl, Le.refl _, hC, (fun h => by cases h), by simpa [List.append_assoc] using H.drop [_]⟩
 have hno2 : nth c.types (w64 (w64 ((c.types.length : Int) - 1) - e.num)) = some q := hno
 rw [hno2] at hin; simp only [o_j, p_j] at hin; obtain ⟨⟨rfl, rfl⟩, rfl⟩ := hin
 have H : St G ((b1, cE e eA ec eB ed) :: (cb, .cells #[.slice tA c.types.length tc, pN sb 0] 119) :: (Lt ++ (σ ++ R))) w1 := St.swap (A := Lt) (B := [(b1, cE e eA ec eB ed), (cb, .cells #[.slice tA c.types.length tc, pN sb 0] 119)]) (C := σ ++ R) H
 refine nx H ?_;refine r_z [(24, pN qb 0), (25, .bool true), (6, pN qb 0), (7, .bool true)] ?_;refine W_ret ?_;refine q_rt [] [] (.tuple #[pN qb 0, .bool true]) rc_nil H ?_
 exact ⟨G, _, _, rfl, Le.refl _, hC, (fun _ => hqt), by simpa [List.append_assoc] using H.drop [_]⟩

theorem c124 {f : Nat}  {G : GH} {κ R : LH} {w : World} {cb sb : Nat} {mb : MB} {c c' : Chk} {v : Value} {e : E} {dp : Int} {r : T} {b0 : Bool} (hC : IsChk G cb sb mb c κ) (H : St G (κ ++ R) w) (hv : IsExpr G v e) (hsz : E.sz e < lim) (hk : e.kind = 2) (hin : gives (f + 1) c e dp = some ((r, b0), c')) :
  Cal Try.prog 124 #[.pointer (some ⟨cb, 0, none⟩), v, .int .i64 dp] w fun x w' => ∃ G' κ' pa, x = .tuple #[.pointer pa, .bool b0] ∧ Le G G' ∧ IsChk G' cb sb mb c' κ' ∧ (b0 = true → IsTyp G' (.pointer pa) r) ∧ St G' (κ' ++ R) w' := by
 have hlim : lim = 1099511627776 := rfl
 rw [gives_eq, if_neg (by omega), if_pos hk] at hin;obtain ⟨eA, ec, eB, ed, rfl, hec, heks, hety⟩ := id hv.open;refine cal_of_W Try.func124 rfl (Nat.le_of_ble_eq_true e_) ?_;refine W_sr [(.f, 0), (.p, 1), (.p, 2)] H ?_;refine m_nw (cE e eA ec eB ed) 4 H (fun b1 w1 H => ?_);refine r_z [(6, .pointer none), (7, .bool false)] ?_;refine W_sr [(.p, 0), (.f, 1), (.p, 2), (.p, 3)] H ?_;refine r_y [(.p, 0)] [(8, .agg #[iN 2, iN 0, .slice none 0 0])] ?_;refine m_nw (.cells #[iN 2, iN 0, .slice none 0 0] 148) 9 H (fun b2 w1 H => ?_);refine r_z [(6, pN b2 0), (7, .bool true)] ?_;refine W_ret ?_;refine q_rt [] [] (.tuple #[pN b2 0, .bool true]) rc_nil H ?_
 simp only [o_j, p_j] at hin; obtain ⟨⟨rfl, rfl⟩, rfl⟩ := hin
 obtain ⟨G1, hG1, hF1, H⟩ := H.freeze [_]
 exact ⟨G1, κ, _, rfl, hG1, hC.mono hG1, (fun _ => IsTyp.mk (t := .mk 2 0 []) (hF1 _ (.head _)) ⟨Nat.zero_le _, Nat.le_of_ble_eq_true rfl⟩ IsTyps.nil), H.drop [_]⟩

/-- function(a, b), the second one not known -/
theorem c127b {G : GH} {L : LH} {w : World} {lb ab : Nat} {pb : Option Addr} {a : T} (H : St G ((lb, .cells #[.pointer (some ⟨ab, 0, none⟩), .pointer pb] 106) :: L) w) (ha : IsTyp G (.pointer (some ⟨ab, 0, none⟩)) a) :
  Cal Try.prog 127 #[.slice (some ⟨lb, 0, none⟩) 2 2] w fun r w' => ∃ G' rb, r = .pointer (some ⟨rb, 0, none⟩) ∧ Le G G' ∧ (∀ b, IsTyp G (.pointer pb) b → IsTyp G' r (.mk 3 0 [a, b])) ∧ St G' ((lb, .cells #[.pointer (some ⟨ab, 0, none⟩), .pointer pb] 106) :: L) w' := by
 refine cal_of_W Try.func127 rfl (Nat.le_of_ble_eq_true e_) ?_;refine W_sr [(.p, 0)] H ?_;refine r_z [(2, .pointer none)] ?_;refine W_sr [(.p, 0), (.p, 1), (.p, 2), (.p, 3), (.p, 4), (.l, 5), (.p, 6)] H ?_;refine r_x [1] [(5, sN lb 0 2 2), (6, sN lb 0 2 2), (7, iN 2), (8, iN 1), (9, pN lb 1), (10, .pointer pb), (3, .pointer pb)] (rc_l 0 1 rfl rfl rc_nil) ?_;refine W_seq ?_;refine W_sr (pL 4) H ?_;refine r_z [(11, sN lb 0 2 2), (12, iN 2), (13, iN 0), (4, iN 0)] ?_;refine W_block ?_;refine W_loop (fun m ρ D w => D = [] ∧ ((m = 1 ∧ EqS ρ [(0, sN lb 0 2 2), (3, .pointer pb), (4, iN 0)] ∧ St G ((lb, .cells #[pN ab 0, .pointer pb] 106) :: L) w) ∨ ((m = 0 ∧ ∃ (b2 : Nat) (b1 : Nat), EqS ρ [(0, sN lb 0 2 2), (3, pN b2 0), (4, iN ((-1)))] ∧ St G ((b2, .cells #[iN 3, iN 0, sN b1 0 2 2] 148) :: (b1, .cells #[pN ab 0, .pointer pb] 106) :: (lb, .cells #[pN ab 0, .pointer pb] 106) :: L) w)))) 1 ⟨rfl, .inl (⟨rfl, ⟨e_, e_, e_, trivial⟩, H⟩)⟩ ?_
 clear H; rintro m ρ D w1 ⟨rfl, ⟨rfl, hE, H⟩ | ⟨rfl, b2, b1, hE, H⟩⟩
 ·refine W_env hE ?_;refine W_seq ?_;refine W_sr (pL 2) H ?_;refine r_z [(14, iN 0), (15, .bool true)] ?_;refine W_cT ?_;refine W_skip ?_;refine W_seq ?_;refine W_block ?_;refine W_rg [(.p, 0), (.p, 1), (.p, 2), (.l, 3), (.p, 4), (.f, 5), (.p, 6), (.f, 7), (.p, 8)] H ?_;refine r_s [1] [(.p, 0), (.p, 1), (.p, 2), (.l, 3), (.p, 4)] [(18, sN lb 0 2 2), (19, iN 0), (20, pN lb 0), (21, pN ab 0), (22, .pointer pb)] (rc_l 0 0 rfl rfl rc_nil) ?_;refine m_new (.cells #[pN ab 0, .pointer pb] 106) (fun b3 => sN b3 0 2 2) (some 23) (fun b => by kernel_rfl) H (fun b3 w1 H => ?_);refine r_y [(.p, 6)] [(24, .agg #[iN 3, iN 0, sN b3 0 2 2])] ?_;refine m_nw (.cells #[iN 3, iN 0, sN b3 0 2 2] 148) 25 H (fun b4 w1 H => ?_);refine r_z [(3, pN b4 0)] ?_;refine W_rg (pL 3) H ?_;refine r_z [(16, iN 0), (17, iN ((-1))), (4, iN ((-1)))] ?_
  exact ⟨0, by decide, rfl, .inr (⟨rfl, b4, b3, ⟨e_, e_, e_, trivial⟩, H⟩)⟩
 refine W_env hE ?_;refine W_seq ?_;refine W_sr (pL 2) H ?_;refine r_z [(14, iN ((-1))), (15, .bool false)] ?_;refine W_cF ?_;refine W_exit ?_;refine W_sr (pL 2) H ?_;refine r_z [(26, pN b2 0), (2, pN b2 0)] ?_;refine W_ret ?_;refine q_rt [] [] (pN b2 0) rc_nil H ?_;obtain ⟨G1, hG1, hF1, H⟩ := H.freeze [_, _];refine ⟨G1, _, rfl, hG1, fun b hb => IsTyp.mk (t := .mk 3 0 [a, b]) (hF1 _ (.head _)) ⟨Nat.le_refl _, Nat.le_of_ble_eq_true rfl⟩ ?_, H⟩
 have hg := hF1 _ (.tail _ (.head _))
 refine TyL.typs (cs := [pN ab 0, .pointer pb]) 0 ⟨ha.mono hG1, hb.mono hG1, trivial⟩ (fun i u hi => GC.of hg ?_)
 rw [Nat.zero_add]; simpa using hi

theorem c126 {f : Nat} (hH : PH f) {G : GH} {κ R : LH} {w : World} {cb sb tb b3 b4 b9 b5 : Nat} {mb : MB} {c c' : Chk} {e q : E} {t : T} {dp : Int} {b0 : Bool} {eA eB : Option Addr} {ec ed : Nat} (hC : IsChk G cb sb mb c κ) (H : St G (κ ++ R) w)
  (h3 : G b3 = some (.cells #[.pointer (some ⟨cb, 0, none⟩)] 109 (0, 0))) (h4 : G b4 = some (.cells #[.int .i64 e.kind, .int .i64 e.num, .slice eA e.kids.length ec, .int .i64 e.ty.kind, .int .i64 e.ty.num, .slice eB e.ty.kids.length ed] 52 (0, 0))) (h9 : G b9 = some (.cells #[.pointer (some ⟨tb, 0, none⟩)] 106 (0, 0))) (h5 : G b5 = some (.cells #[.int .i64 dp] 3 (0, 0)))
  (heks : IsExprs G eA e.kids) (hq : e.kids[0]? = some q) (hsz : E.sz e < lim) (ht : IsTyp G (.pointer (some ⟨tb, 0, none⟩)) t) (hin : has f c q t dp = some (b0, c')) :
  Cal Try.prog 126 #[.pointer (some ⟨b3, 0, none⟩), .pointer (some ⟨b4, 0, none⟩), .pointer (some ⟨b9, 0, none⟩), .pointer (some ⟨b5, 0, none⟩)] w fun r w' => ∃ G' κ', r = .bool b0 ∧ Le G G' ∧ IsChk G' cb sb mb c' κ' ∧ St G' (κ' ++ R) w' := by
 have hl0 : 0 < e.kids.length := (List.getElem?_eq_some_iff.1 hq).1
 have hqs := E.sz_kid hq
 have hstk := H
 obtain ⟨eb, eo, qA, qc, qB, qd, rfl, hq0, hq1, hq2, hq3, hq4, hq5, hqe⟩ := (heks).elem hq;have H := hstk;refine cal_of_W Try.func126 rfl (Nat.le_of_ble_eq_true e_) ?_;refine W_sr [(.p, 0)] H ?_;refine r_z [(4, .bool false)] ?_;refine W_seq ?_;refine W_rgd [(.l, 0), (.p, 1), (.l, 2), (.p, 3), (.l, 4), (.l, 5), (.l, 6), (.f, 7), (.p, 8)] H (fun w1 H => ?_);refine r_s [1, 1] [(.l, 0), (.p, 1), (.l, 2)] [(5, pN cb 0), (6, pN b4 2), (7, sN eb eo e.kids.length ec)] (rc_g 0 h3 rfl (rc_g 2 h4 rfl rc_nil)) ?_;refine m_idx (sz := 6) (b := eb) (off := eo) (n := e.kids.length) (c := ec) (k := 0) (some 8) (show opAt _ _ _ = some (.indexAddr 50 (.tmp 7) (.const (iN 0)), _) by kernel_rfl) e_ e_ Try.underlying50 sz52 hl0 ?_;refine r_s [6, 1, 1] [(.l, 4), (.l, 5), (.l, 6)] [(9, (aE q qA qc qB qd)), (10, pN tb 0), (11, iN dp)] (rc_C hq0 (rc_C hq1 (rc_C hq2 (rc_C hq3 (rc_C hq4 (rc_C hq5 (rc_g 0 h9 rfl (rc_g 0 h5 rfl rc_nil)))))))) ?_;refine m_cl #[pN cb 0, (aE q qA qc qB qd), pN tb 0, iN dp] (some 12) (hH hC H hqe (by omega) ht hin) ?_;rintro _ w1 ⟨G2, κ2, rfl, hG2, hC2, H⟩;refine nx H ?_;refine r_z [(4, .bool b0)] ?_;refine W_ret ?_;refine q_rt [] [] (.bool b0) rc_nil H ?_
 exact ⟨G2, κ2, rfl, hG2, hC2, H⟩

theorem c125 {f : Nat} (hH : ∀ g, g < f + 1 → PH g) {G : GH} {κ R : LH} {w : World} {cb sb : Nat} {mb : MB} {c c' : Chk} {v : Value} {e : E} {dp : Int} {r : T} {b0 : Bool} (hC : IsChk G cb sb mb c κ) (H : St G (κ ++ R) w) (hv : IsExpr G v e) (hsz : E.sz e < lim) (hk : e.kind = 3) (hin : gives (f + 1) c e dp = some ((r, b0), c')) :
  Cal Try.prog 125 #[.pointer (some ⟨cb, 0, none⟩), v, .int .i64 dp] w fun x w' => ∃ G' κ' pa, x = .tuple #[.pointer pa, .bool b0] ∧ Le G G' ∧ IsChk G' cb sb mb c' κ' ∧ (b0 = true → IsTyp G' (.pointer pa) r) ∧ St G' (κ' ++ R) w' := by
 have hlim : lim = 1099511627776 := rfl
 rw [gives_eq, if_neg (by omega), if_neg (by omega), if_pos hk] at hin;obtain ⟨eA, ec, eB, ed, rfl, hec, heks, hety⟩ := id hv.open;refine cal_of_W Try.func125 rfl (Nat.le_of_ble_eq_true e_) ?_
 split at hin
 case h_2 => cases hin
 rename_i q _ hkq
 have hq : e.kids[0]? = some q := by rw [hkq]; rfl
 obtain ⟨⟨ta, s1⟩, hn1, hin⟩ := Option.bind_eq_some_iff.1 hin; simp only at hin
 obtain ⟨⟨tb, s2⟩, hn2, hin⟩ := Option.bind_eq_some_iff.1 hin; simp only at hin
 split at hin
 case isTrue => cases hin
 rename_i htl
 obtain ⟨⟨r0, c3⟩, hr, hin⟩ := Option.bind_eq_some_iff.1 hin; simp only [o_j, p_j] at hin; obtain ⟨⟨rfl, rfl⟩, rfl⟩ := hin
 have hty3 := (types_inv f).2.2.2.1 _ _ _ _ _ _ hr
 refine W_sr [(.f, 0), (.f, 1), (.f, 2), (.p, 3), (.p, 4)] H ?_;refine m_nw (.cells #[pN cb 0] 109) 3 H (fun b1 w1 H => ?_);refine m_nw (cE e eA ec eB ed) 4 H (fun b2 w1 H => ?_);refine m_nw (.cells #[iN dp] 3) 5 H (fun b3 w1 H => ?_);refine r_z [(6, .pointer none), (7, .bool false)] ?_;refine W_seq ?_;obtain ⟨G1, hG1, hF4, H⟩ := St.freeze [_, _, _] H
 have hf5 := hF4 _ (.head _)
 have hf4 := hF4 _ (.tail _ (.head _))
 have hf3 := hF4 _ (.tail _ (.tail _ (.head _)))
 have hstk := H
 obtain ⟨tv, cs, Lt, σ, rfl, hos, hty, hS⟩ := id (hC.mono hG1)
 have H : St G1 ((cb, .cells #[tv, pN sb 0] 119) :: (Lt ++ (σ ++ R))) w1 := by simpa [List.append_assoc] using hstk
 refine W_regT (.fork [(.l, 0), (.p, 1), (.p, 2), (.l, 3), (.l, 4), (.l, 6), (.p, 7), (.p, 8), (.l, 9), (.l, 10)] 5 (.fork [] 11 (.run [(.e, 12), (.p, 13), (.f, 14)]) 12 (.run [(.e, 11), (.p, 13), (.f, 14)])) 12 (.run [(.e, 5), (.e, 11), (.p, 13), (.f, 14)])) 14 (SS G1 ([(cb, .cells #[tv, pN sb 0] 119)])) mixed e_ e_ e_ e_ (fun w1 hw1 => ?_)
 have H := H.heap hw1; refine ⟨H.ss' (Le.refl _) (fun p hp => by rw [List.mem_singleton.1 hp]; simp), ?_⟩
 unfold RunT
 refine r_x [1, 1, 1, 1, 1, 1] [(11, pN cb 0), (12, pN cb 0), (13, pN cb 1), (14, pN sb 0), (15, iN dp), (17, pN cb 0), (18, pN cb 0), (19, pN cb 1), (20, pN sb 0), (21, iN dp)] (rc_g 0 hf3 rfl (rc_l 0 1 rfl rfl (rc_g 0 hf5 rfl (rc_g 0 hf3 rfl (rc_l 0 1 rfl rfl (rc_g 0 hf5 rfl rc_nil)))))) ?_;refine ⟨?_, ?_⟩
 ·skip
  have H := St.swap (A := [(cb, .cells #[tv, pN sb 0] 119)] ++ Lt) (B := σ) (C := R) (by simpa [List.append_assoc] using H);refine m_callE #[pN sb 0, iN 6, iN dp] (some 16) e_ (c100 hS H hn1) ?_;rintro v1 w1 ⟨G2, σ1, hG2, hS1, hta, H⟩;replace hf5 := hG2 _ _ hf5;replace hf4 := hG2 _ _ hf4;replace hf3 := hG2 _ _ hf3
  have H : St G2 ((cb, .cells #[tv, pN sb 0] 119) :: (Lt ++ (σ1 ++ R))) w1 := by
   have h2 := St.swap (A := σ1) (B := [(cb, .cells #[tv, .pointer (some ⟨sb, 0, none⟩)] 119)] ++ Lt) (C := R) H
   simpa [List.append_assoc] using h2
  obtain ⟨tab, _, _, rfl, _⟩ := id hta.open;refine ⟨H.ss' ((Le.refl _).trans hG2) (fun p hp => by rw [List.mem_singleton.1 hp]; simp), ?_⟩;refine r_nil ?_
  unfold RunT
  refine r_nil ?_;refine ⟨?_, ?_⟩
  ·skip
   have H := St.swap (A := [(cb, .cells #[tv, pN sb 0] 119)] ++ Lt) (B := σ1) (C := R) (by simpa [List.append_assoc] using H);refine m_callE #[pN sb 0, iN 6, iN dp] (some 22) e_ (c100 hS1 H hn2) ?_;rintro v1 w1 ⟨G3, σ2, hG3, hS2, htb, H⟩;replace hf5 := hG3 _ _ hf5;replace hf4 := hG3 _ _ hf4;replace hf3 := hG3 _ _ hf3
   have H : St G3 ((cb, .cells #[tv, pN sb 0] 119) :: (Lt ++ (σ2 ++ R))) w1 := by
    have h2 := St.swap (A := σ2) (B := [(cb, .cells #[tv, .pointer (some ⟨sb, 0, none⟩)] 119)] ++ Lt) (C := R) H
    simpa [List.append_assoc] using h2
   replace hta := hta.mono hG3;obtain ⟨tbb, _, _, rfl, _⟩ := id htb.open;refine ⟨H.ss' (((Le.refl _).trans hG2).trans hG3) (fun p hp => by rw [List.mem_singleton.1 hp]; simp), ?_⟩;refine r_nil ?_
   unfold RunT
   refine m_newE (.cells #[.pointer none] 106) (fun b5 => pN b5 0) (some 9) (fun b => by kernel_rfl) H (fun _ _ h => h.ss' (((Le.refl _).trans hG2).trans hG3) (fun p hp => by rw [List.mem_singleton.1 hp]; simp)) (fun b5 w1 H => ?_);refine r_y [(.p, 13)] [(8, pN tab 0)] ?_;refine s_0 [(0, pN tbb 0)] [pN tbb 0] none H (fun w1 H => ?_);refine r_nil ?_;refine W_seq ?_;obtain ⟨G4, hG4, hF6, H⟩ := St.freeze [_] H;replace hf5 := hG4 _ _ hf5;replace hf4 := hG4 _ _ hf4;replace hf3 := hG4 _ _ hf3
   have hf9 := hF6 _ (.head _)
   have hC2 : IsChk G4 cb sb mb { c with s := s2 } ((cb, .cells #[tv, .pointer (some ⟨sb, 0, none⟩)] 119) :: (Lt ++ σ2)) := ⟨tv, cs, Lt, σ2, rfl, hos, ((hty.mono hG2).mono hG3).mono hG4, hS2.mono hG4⟩
   have H : St G4 (((cb, .cells #[tv, pN sb 0] 119) :: (Lt ++ σ2)) ++ R) w1 := by simpa [List.append_assoc] using H
   replace hta := hta.mono hG4; replace htb := htb.mono hG4
   refine W_rg [(.l, 0), (.p, 1), (.p, 2), (.f, 3), (.p, 4)] H ?_;refine r_s [1] [(.l, 0), (.p, 1), (.p, 2)] [(23, pN cb 0), (24, pN tab 0), (25, .func (.func 126) #[] #[pN b1 0, pN b2 0, pN b5 0, pN b3 0])] (rc_g 0 hf3 rfl rc_nil) ?_
   have hle14 : Le G G4 := ((hG1.trans hG2).trans hG3).trans hG4
   have hdo : ∀ {G5 : GH} {κ1 : LH} {w2 : World}, Le G4 G5 → IsChk G5 cb sb mb { c with s := s2, types := c.types ++ [ta] } κ1 → St G5 (κ1 ++ R) w2 →
     Cal Try.prog 126 #[.pointer (some ⟨b1, 0, none⟩), .pointer (some ⟨b2, 0, none⟩), .pointer (some ⟨b5, 0, none⟩), .pointer (some ⟨b3, 0, none⟩)] w2 fun x w3 => ∃ G6 κ2 R2, x = .bool r0 ∧ Le G5 G6 ∧ IsChk G6 cb sb mb c3 κ2 ∧ (fun (_ : GH) (R2 : LH) => R = R2) G6 R2 ∧ St G6 (κ2 ++ R2) w3 := by
    intro G5 κ1 w2 hle hC5 hst5;refine (c126 (hH f (by omega)) hC5 hst5 (hle _ _ hf3) (hle _ _ hf4) (hle _ _ hf9) (hle _ _ hf5) (heks.mono (hle14.trans hle)) hq hsz (htb.mono hle) hr).mono ?_;rintro x w3 ⟨G6, κ2, rfl, h1, h2, h3⟩
    exact ⟨G6, κ2, R, rfl, h1, h2, rfl, h3⟩
   refine m_cl #[pN cb 0, pN tab 0, .func (.func 126) #[] #[pN b1 0, pN b2 0, pN b5 0, pN b3 0]] (some 26) (c109_126 (Z := fun _ R2 => R = R2) hC2 H hta (show c.types.length < lim by omega) hty3 hdo) ?_;rintro _ w1 ⟨G5, κ5, R2, rfl, hG5, hC5, hR, H⟩;subst hR;replace hf5 := hG5 _ _ hf5;replace hf4 := hG5 _ _ hf4;replace hf3 := hG5 _ _ hf3;replace hf9 := hG5 _ _ hf9
   replace hta := hta.mono hG5; replace htb := htb.mono hG5
   refine nx H ?_;refine r_z [(10, .bool r0)] ?_;refine W_sr [(.p, 0), (.l, 1), (.f, 2), (.f, 3), (.p, 4), (.p, 5), (.p, 6)] H ?_;refine r_s [1] [(.p, 0), (.l, 1)] [(27, pN tab 0), (28, pN tbb 0)] (rc_g 0 hf9 rfl rc_nil) ?_;refine m_new (.cells #[pN tab 0, pN tbb 0] 106) (fun b7 => sN b7 0 2 2) (some 29) (fun b => by kernel_rfl) H (fun b7 w1 H => ?_);refine m_cl #[sN b7 0 2 2] (some 30) (c127 H hta htb) ?_;rintro v1 w1 ⟨G6, hG6, htf, H⟩;have H := H.drop [_];obtain ⟨fb, _, _, rfl, _⟩ := id htf.open;refine nx H ?_;refine r_z [(31, .bool r0), (6, pN fb 0), (7, .bool r0)] ?_;refine W_ret ?_;refine q_rt [] [] (.tuple #[pN fb 0, .bool r0]) rc_nil H ?_
   exact ⟨G6, κ5, _, rfl, (hle14.trans hG5).trans hG6, hC5.mono hG6, (fun _ => htf), H⟩
  refine m_newE (.cells #[.pointer none] 106) (fun b8 => pN b8 0) (some 9) (fun b => by kernel_rfl) H (fun _ _ h => h.ss' ((Le.refl _).trans hG2) (fun p hp => by rw [List.mem_singleton.1 hp]; simp)) (fun b8 w1 H => ?_);refine r_nil ?_
  unfold RunT
  have H := St.swap (A := [(b8, .cells #[.pointer none] 106), (cb, .cells #[tv, pN sb 0] 119)] ++ Lt) (B := σ1) (C := R) (by simpa [List.append_assoc] using H);refine m_callE #[pN sb 0, iN 6, iN dp] (some 22) e_ (c100 hS1 H hn2) ?_;rintro v1 w1 ⟨G3, σ2, hG3, hS2, htb, H⟩;replace hf5 := hG3 _ _ hf5;replace hf4 := hG3 _ _ hf4;replace hf3 := hG3 _ _ hf3
  have H : St G3 ((b8, .cells #[.pointer none] 106) :: (cb, .cells #[tv, pN sb 0] 119) :: (Lt ++ (σ2 ++ R))) w1 := by
   have h2 := St.swap (A := σ2) (B := [(b8, .cells #[.pointer none] 106), (cb, .cells #[tv, .pointer (some ⟨sb, 0, none⟩)] 119)] ++ Lt) (C := R) H
   simpa [List.append_assoc] using h2
  replace hta := hta.mono hG3;obtain ⟨tbb, _, _, rfl, _⟩ := id htb.open;refine ⟨H.ss' (((Le.refl _).trans hG2).trans hG3) (fun p hp => by rw [List.mem_singleton.1 hp]; simp), ?_⟩;refine r_y [(.p, 13)] [(8, pN tab 0)] ?_;refine s_0 [(0, pN tbb 0)] [pN tbb 0] none H (fun w1 H => ?_);refine r_nil ?_;refine W_seq ?_;obtain ⟨G4, hG4, hF9, H⟩ := St.freeze [_] H;replace hf5 := hG4 _ _ hf5;replace hf4 := hG4 _ _ hf4;replace hf3 := hG4 _ _ hf3
  have hf9 := hF9 _ (.head _)
  have hC2 : IsChk G4 cb sb mb { c with s := s2 } ((cb, .cells #[tv, .pointer (some ⟨sb, 0, none⟩)] 119) :: (Lt ++ σ2)) := ⟨tv, cs, Lt, σ2, rfl, hos, ((hty.mono hG2).mono hG3).mono hG4, hS2.mono hG4⟩
  have H : St G4 (((cb, .cells #[tv, pN sb 0] 119) :: (Lt ++ σ2)) ++ R) w1 := by simpa [List.append_assoc] using H
  replace hta := hta.mono hG4; replace htb := htb.mono hG4
  refine W_rg [(.l, 0), (.p, 1), (.p, 2), (.f, 3), (.p, 4)] H ?_;refine r_s [1] [(.l, 0), (.p, 1), (.p, 2)] [(23, pN cb 0), (24, pN tab 0), (25, .func (.func 126) #[] #[pN b1 0, pN b2 0, pN b8 0, pN b3 0])] (rc_g 0 hf3 rfl rc_nil) ?_
  have hle14 : Le G G4 := ((hG1.trans hG2).trans hG3).trans hG4
  have hdo : ∀ {G5 : GH} {κ1 : LH} {w2 : World}, Le G4 G5 → IsChk G5 cb sb mb { c with s := s2, types := c.types ++ [ta] } κ1 → St G5 (κ1 ++ R) w2 →
    Cal Try.prog 126 #[.pointer (some ⟨b1, 0, none⟩), .pointer (some ⟨b2, 0, none⟩), .pointer (some ⟨b8, 0, none⟩), .pointer (some ⟨b3, 0, none⟩)] w2 fun x w3 => ∃ G6 κ2 R2, x = .bool r0 ∧ Le G5 G6 ∧ IsChk G6 cb sb mb c3 κ2 ∧ (fun (_ : GH) (R2 : LH) => R = R2) G6 R2 ∧ St G6 (κ2 ++ R2) w3 := by
   intro G5 κ1 w2 hle hC5 hst5;refine (c126 (hH f (by omega)) hC5 hst5 (hle _ _ hf3) (hle _ _ hf4) (hle _ _ hf9) (hle _ _ hf5) (heks.mono (hle14.trans hle)) hq hsz (htb.mono hle) hr).mono ?_;rintro x w3 ⟨G6, κ2, rfl, h1, h2, h3⟩
   exact ⟨G6, κ2, R, rfl, h1, h2, rfl, h3⟩
  refine m_cl #[pN cb 0, pN tab 0, .func (.func 126) #[] #[pN b1 0, pN b2 0, pN b8 0, pN b3 0]] (some 26) (c109_126 (Z := fun _ R2 => R = R2) hC2 H hta (show c.types.length < lim by omega) hty3 hdo) ?_;rintro _ w1 ⟨G5, κ5, R2, rfl, hG5, hC5, hR, H⟩;subst hR;replace hf5 := hG5 _ _ hf5;replace hf4 := hG5 _ _ hf4;replace hf3 := hG5 _ _ hf3;replace hf9 := hG5 _ _ hf9
  replace hta := hta.mono hG5; replace htb := htb.mono hG5
  refine nx H ?_;refine r_z [(10, .bool r0)] ?_;refine W_sr [(.p, 0), (.l, 1), (.f, 2), (.f, 3), (.p, 4), (.p, 5), (.p, 6)] H ?_;refine r_s [1] [(.p, 0), (.l, 1)] [(27, pN tab 0), (28, pN tbb 0)] (rc_g 0 hf9 rfl rc_nil) ?_;refine m_new (.cells #[pN tab 0, pN tbb 0] 106) (fun b10 => sN b10 0 2 2) (some 29) (fun b => by kernel_rfl) H (fun b10 w1 H => ?_);refine m_cl #[sN b10 0 2 2] (some 30) (c127 H hta htb) ?_;rintro v1 w1 ⟨G6, hG6, htf, H⟩;have H := H.drop [_];obtain ⟨fb, _, _, rfl, _⟩ := id htf.open;refine nx H ?_;refine r_z [(31, .bool r0), (6, pN fb 0), (7, .bool r0)] ?_;refine W_ret ?_;refine q_rt [] [] (.tuple #[pN fb 0, .bool r0]) rc_nil H ?_
  exact ⟨G6, κ5, _, rfl, (hle14.trans hG5).trans hG6, hC5.mono hG6, (fun _ => htf), H⟩
 refine m_newE (.cells #[.pointer none] 106) (fun b11 => pN b11 0) (some 9) (fun b => by kernel_rfl) H (fun _ _ h => h.ss' (Le.refl _) (fun p hp => by rw [List.mem_singleton.1 hp]; simp)) (fun b11 w1 H => ?_);refine r_nil ?_
 unfold RunT
 have H := St.swap (A := [(b11, .cells #[.pointer none] 106), (cb, .cells #[tv, pN sb 0] 119)] ++ Lt) (B := σ) (C := R) (by simpa [List.append_assoc] using H);refine m_callE #[pN sb 0, iN 6, iN dp] (some 16) e_ (c100 hS H hn1) ?_;rintro v1 w1 ⟨G2, σ1, hG2, hS1, hta, H⟩;replace hf5 := hG2 _ _ hf5;replace hf4 := hG2 _ _ hf4;replace hf3 := hG2 _ _ hf3
 have H : St G2 ((b11, .cells #[.pointer none] 106) :: (cb, .cells #[tv, pN sb 0] 119) :: (Lt ++ (σ1 ++ R))) w1 := by
  have h2 := St.swap (A := σ1) (B := [(b11, .cells #[.pointer none] 106), (cb, .cells #[tv, .pointer (some ⟨sb, 0, none⟩)] 119)] ++ Lt) (C := R) H
  simpa [List.append_assoc] using h2
 obtain ⟨tab, _, _, rfl, _⟩ := id hta.open;refine ⟨H.ss' ((Le.refl _).trans hG2) (fun p hp => by rw [List.mem_singleton.1 hp]; simp), ?_⟩;have H := St.swap (A := [(b11, .cells #[.pointer none] 106), (cb, .cells #[tv, pN sb 0] 119)] ++ Lt) (B := σ1) (C := R) (by simpa [List.append_assoc] using H);refine m_callE #[pN sb 0, iN 6, iN dp] (some 22) e_ (c100 hS1 H hn2) ?_;rintro v1 w1 ⟨G3, σ2, hG3, hS2, htb, H⟩;replace hf5 := hG3 _ _ hf5;replace hf4 := hG3 _ _ hf4;replace hf3 := hG3 _ _ hf3
 have H : St G3 ((b11, .cells #[.pointer none] 106) :: (cb, .cells #[tv, pN sb 0] 119) :: (Lt ++ (σ2 ++ R))) w1 := by
  have h2 := St.swap (A := σ2) (B := [(b11, .cells #[.pointer none] 106), (cb, .cells #[tv, .pointer (some ⟨sb, 0, none⟩)] 119)] ++ Lt) (C := R) H
  simpa [List.append_assoc] using h2
 replace hta := hta.mono hG3;obtain ⟨tbb, _, _, rfl, _⟩ := id htb.open;refine ⟨H.ss' (((Le.refl _).trans hG2).trans hG3) (fun p hp => by rw [List.mem_singleton.1 hp]; simp), ?_⟩;refine r_y [(.p, 13)] [(8, pN tab 0)] ?_;refine s_0 [(0, pN tbb 0)] [pN tbb 0] none H (fun w1 H => ?_);refine r_nil ?_;refine W_seq ?_;obtain ⟨G4, hG4, hF12, H⟩ := St.freeze [_] H;replace hf5 := hG4 _ _ hf5;replace hf4 := hG4 _ _ hf4;replace hf3 := hG4 _ _ hf3
 have hf9 := hF12 _ (.head _)
 have hC2 : IsChk G4 cb sb mb { c with s := s2 } ((cb, .cells #[tv, .pointer (some ⟨sb, 0, none⟩)] 119) :: (Lt ++ σ2)) := ⟨tv, cs, Lt, σ2, rfl, hos, ((hty.mono hG2).mono hG3).mono hG4, hS2.mono hG4⟩
 have H : St G4 (((cb, .cells #[tv, pN sb 0] 119) :: (Lt ++ σ2)) ++ R) w1 := by simpa [List.append_assoc] using H
 replace hta := hta.mono hG4; replace htb := htb.mono hG4
 refine W_rg [(.l, 0), (.p, 1), (.p, 2), (.f, 3), (.p, 4)] H ?_;refine r_s [1] [(.l, 0), (.p, 1), (.p, 2)] [(23, pN cb 0), (24, pN tab 0), (25, .func (.func 126) #[] #[pN b1 0, pN b2 0, pN b11 0, pN b3 0])] (rc_g 0 hf3 rfl rc_nil) ?_
 have hle14 : Le G G4 := ((hG1.trans hG2).trans hG3).trans hG4
 have hdo : ∀ {G5 : GH} {κ1 : LH} {w2 : World}, Le G4 G5 → IsChk G5 cb sb mb { c with s := s2, types := c.types ++ [ta] } κ1 → St G5 (κ1 ++ R) w2 →
   Cal Try.prog 126 #[.pointer (some ⟨b1, 0, none⟩), .pointer (some ⟨b2, 0, none⟩), .pointer (some ⟨b11, 0, none⟩), .pointer (some ⟨b3, 0, none⟩)] w2 fun x w3 => ∃ G6 κ2 R2, x = .bool r0 ∧ Le G5 G6 ∧ IsChk G6 cb sb mb c3 κ2 ∧ (fun (_ : GH) (R2 : LH) => R = R2) G6 R2 ∧ St G6 (κ2 ++ R2) w3 := by
  intro G5 κ1 w2 hle hC5 hst5;refine (c126 (hH f (by omega)) hC5 hst5 (hle _ _ hf3) (hle _ _ hf4) (hle _ _ hf9) (hle _ _ hf5) (heks.mono (hle14.trans hle)) hq hsz (htb.mono hle) hr).mono ?_;rintro x w3 ⟨G6, κ2, rfl, h1, h2, h3⟩
  exact ⟨G6, κ2, R, rfl, h1, h2, rfl, h3⟩
 refine m_cl #[pN cb 0, pN tab 0, .func (.func 126) #[] #[pN b1 0, pN b2 0, pN b11 0, pN b3 0]] (some 26) (c109_126 (Z := fun _ R2 => R = R2) hC2 H hta (show c.types.length < lim by omega) hty3 hdo) ?_;rintro _ w1 ⟨G5, κ5, R2, rfl, hG5, hC5, hR, H⟩;subst hR;replace hf5 := hG5 _ _ hf5;replace hf4 := hG5 _ _ hf4;replace hf3 := hG5 _ _ hf3;replace hf9 := hG5 _ _ hf9
 replace hta := hta.mono hG5; replace htb := htb.mono hG5
 refine nx H ?_;refine r_z [(10, .bool r0)] ?_;refine W_sr [(.p, 0), (.l, 1), (.f, 2), (.f, 3), (.p, 4), (.p, 5), (.p, 6)] H ?_;refine r_s [1] [(.p, 0), (.l, 1)] [(27, pN tab 0), (28, pN tbb 0)] (rc_g 0 hf9 rfl rc_nil) ?_;refine m_new (.cells #[pN tab 0, pN tbb 0] 106) (fun b13 => sN b13 0 2 2) (some 29) (fun b => by kernel_rfl) H (fun b13 w1 H => ?_);refine m_cl #[sN b13 0 2 2] (some 30) (c127 H hta htb) ?_;rintro v1 w1 ⟨G6, hG6, htf, H⟩;have H := H.drop [_];obtain ⟨fb, _, _, rfl, _⟩ := id htf.open;refine nx H ?_;refine r_z [(31, .bool r0), (6, pN fb 0), (7, .bool r0)] ?_;refine W_ret ?_;refine q_rt [] [] (.tuple #[pN fb 0, .bool r0]) rc_nil H ?_
 exact ⟨G6, κ5, _, rfl, (hle14.trans hG5).trans hG6, hC5.mono hG6, (fun _ => htf), H⟩

theorem c129 {f : Nat} (hG : PG f) {G : GH} {κ R : LH} {w : World} {cb sb b3 b4 b5 b6 b7 : Nat} {mb : MB} {c c' : Chk} {e q : E} {r : T} {dp : Int} {b0 : Bool} {eA eB : Option Addr} {ec ed : Nat} (hC : IsChk G cb sb mb c κ) (H : St G (κ ++ ((b7, .cells #[.bool false] 4) :: (b6, .cells #[.pointer none] 106) :: R)) w)
  (h3 : G b3 = some (.cells #[.pointer (some ⟨cb, 0, none⟩)] 109 (0, 0))) (h4 : G b4 = some (.cells #[.int .i64 e.kind, .int .i64 e.num, .slice eA e.kids.length ec, .int .i64 e.ty.kind, .int .i64 e.ty.num, .slice eB e.ty.kids.length ed] 52 (0, 0))) (h5 : G b5 = some (.cells #[.int .i64 dp] 3 (0, 0)))
  (heks : IsExprs G eA e.kids) (hq : e.kids[0]? = some q) (hsz : E.sz e < lim) (hin : gives f c q dp = some ((r, b0), c')) :
  Cal Try.prog 129 #[.pointer (some ⟨b3, 0, none⟩), .pointer (some ⟨b4, 0, none⟩), .pointer (some ⟨b5, 0, none⟩), .pointer (some ⟨b6, 0, none⟩), .pointer (some ⟨b7, 0, none⟩)] w fun x w' => ∃ G' κ' pa, x = .bool b0 ∧ Le G G' ∧ IsChk G' cb sb mb c' κ' ∧ (b0 = true → IsTyp G' (.pointer pa) r) ∧ St G' (κ' ++ ((b7, .cells #[.bool b0] 4) :: (b6, .cells #[.pointer pa] 106) :: R)) w' := by
 have hl0 : 0 < e.kids.length := (List.getElem?_eq_some_iff.1 hq).1
 have hqs := E.sz_kid hq
 have hstk := H
 obtain ⟨eb, eo, qA, qc, qB, qd, rfl, hq0, hq1, hq2, hq3, hq4, hq5, hqe⟩ := (heks).elem hq;have H := hstk;refine cal_of_W Try.func129 rfl (Nat.le_of_ble_eq_true e_) ?_;refine W_sr [(.p, 0)] H ?_;refine r_z [(5, .bool false)] ?_;refine W_seq ?_;refine W_rgd [(.l, 0), (.p, 1), (.l, 2), (.p, 3), (.l, 4), (.l, 5), (.f, 6), (.p, 7), (.p, 8), (.p, 9), (.f, 10), (.f, 11)] H (fun w1 H => ?_);refine r_s [1, 1] [(.l, 0), (.p, 1), (.l, 2)] [(7, pN cb 0), (8, pN b4 2), (9, sN eb eo e.kids.length ec)] (rc_g 0 h3 rfl (rc_g 2 h4 rfl rc_nil)) ?_;refine m_idx (sz := 6) (b := eb) (off := eo) (n := e.kids.length) (c := ec) (k := 0) (some 10) (show opAt _ _ _ = some (.indexAddr 50 (.tmp 9) (.const (iN 0)), _) by kernel_rfl) e_ e_ Try.underlying50 sz52 hl0 ?_;refine r_s [6, 1] [(.l, 4), (.l, 5)] [(11, (aE q qA qc qB qd)), (12, iN dp)] (rc_C hq0 (rc_C hq1 (rc_C hq2 (rc_C hq3 (rc_C hq4 (rc_C hq5 (rc_g 0 h5 rfl rc_nil))))))) ?_;refine m_cl #[pN cb 0, (aE q qA qc qB qd), iN dp] (some 13) (hG hC H hqe (by omega) hin) ?_;rintro _ w1 ⟨G2, κ2, pa, rfl, hG2, hC2, hpa, H⟩
 have H : St G2 ((b7, .cells #[.bool false] 4) :: (b6, .cells #[.pointer none] 106) :: (κ2 ++ R)) w1 := by
  have h2 := St.swap (A := κ2) (B := [(b7, .cells #[.bool false] 4), (b6, .cells #[.pointer none] 106)]) (C := R) (by simpa [List.append_assoc] using H)
  simpa [List.append_assoc] using h2
 refine nx H ?_;refine r_y [(.p, 7), (.p, 8), (.p, 9)] [(6, .tuple #[.pointer pa, .bool b0]), (14, .pointer pa), (15, .bool b0)] ?_;refine s_1 [(0, .pointer pa)] [.pointer pa] none H (fun w1 H => ?_);refine s_0 [(0, .bool b0)] [.bool b0] none H (fun w1 H => ?_);refine r_nil ?_;refine W_sr [(.l, 0), (.p, 1)] H ?_;refine r_x [1] [(16, .bool b0), (5, .bool b0)] (rc_l 0 0 rfl rfl rc_nil) ?_;refine W_ret ?_;refine q_rt [] [] (.bool b0) rc_nil H ?_;refine ⟨G2, κ2, pa, rfl, hG2, hC2, hpa, ?_⟩
 have h2 := St.swap (A := [(b7, .cells #[.bool b0] 4), (b6, .cells #[.pointer pa] 106)]) (B := κ2) (C := R) H
 simpa [List.append_assoc] using h2

theorem c128 {f : Nat} (hG : ∀ g, g < f + 1 → PG g) {G : GH} {κ R : LH} {w : World} {cb sb : Nat} {mb : MB} {c c' : Chk} {v : Value} {e : E} {dp : Int} {r : T} {b0 : Bool} (hC : IsChk G cb sb mb c κ) (H : St G (κ ++ R) w) (hv : IsExpr G v e) (hsz : E.sz e < lim) (hk : e.kind = 4) (hin : gives (f + 1) c e dp = some ((r, b0), c')) :
  Cal Try.prog 128 #[.pointer (some ⟨cb, 0, none⟩), v, .int .i64 dp] w fun x w' => ∃ G' κ' pa, x = .tuple #[.pointer pa, .bool b0] ∧ Le G G' ∧ IsChk G' cb sb mb c' κ' ∧ (b0 = true → IsTyp G' (.pointer pa) r) ∧ St G' (κ' ++ R) w' := by
 have hlim : lim = 1099511627776 := rfl
 rw [gives_eq, if_neg (by omega), if_neg (by omega), if_neg (by omega), if_pos hk] at hin;obtain ⟨eA, ec, eB, ed, rfl, hec, heks, hety⟩ := id hv.open;refine cal_of_W Try.func128 rfl (Nat.le_of_ble_eq_true e_) ?_
 split at hin
 case h_2 => cases hin
 rename_i q _ hkq
 have hq : e.kids[0]? = some q := by rw [hkq]; rfl
 split at hin
 case isTrue => cases hin
 rename_i htl
 obtain ⟨⟨⟨r0, x0⟩, c3⟩, hr, hin⟩ := Option.bind_eq_some_iff.1 hin; simp only [o_j, p_j] at hin; obtain ⟨⟨rfl, rfl⟩, rfl⟩ := hin
 have hty3 := (types_inv f).1 _ _ _ _ _ hr
 have htsz := E.ty_le e
 refine W_sr [(.f, 0), (.f, 1), (.f, 2), (.f, 3), (.f, 4)] H ?_;refine m_nw (.cells #[pN cb 0] 109) 3 H (fun b1 w1 H => ?_);refine m_nw (cE e eA ec eB ed) 4 H (fun b2 w1 H => ?_);refine m_nw (.cells #[iN dp] 3) 5 H (fun b3 w1 H => ?_);refine m_nw (.cells #[.pointer none] 106) 6 H (fun b4 w1 H => ?_);refine m_nw (.cells #[.bool false] 4) 7 H (fun b5 w1 H => ?_);refine r_nil ?_;refine W_seq ?_;have H := St.swap (A := [(b5, .cells #[.bool false] 4), (b4, .cells #[.pointer none] 106)]) (B := [(b3, .cells #[iN dp] 3), (b2, cE e eA ec eB ed), (b1, .cells #[pN cb 0] 109)]) (C := κ ++ R) H
 have H : St G ((b3, .cells #[iN dp] 3) :: (b2, cE e eA ec eB ed) :: (b1, .cells #[pN cb 0] 109) :: (b5, .cells #[.bool false] 4) :: (b4, .cells #[.pointer none] 106) :: κ ++ R) w1 := H
 obtain ⟨G1, hG1, hF6, H⟩ := St.freeze [_, _, _] H
 have hf5 := hF6 _ (.head _)
 have hf4 := hF6 _ (.tail _ (.head _))
 have hf3 := hF6 _ (.tail _ (.tail _ (.head _)))
 refine W_rg [(.p, 0), (.l, 1), (.f, 2), (.p, 3)] H ?_;refine r_s [3] [(.p, 0), (.l, 1)] [(9, pN b2 3), (10, (aT e.ty eB ed))] (rc_g 3 hf4 rfl (rc_g 4 hf4 rfl (rc_g 5 hf4 rfl rc_nil))) ?_;refine m_cl #[(aT e.ty eB ed)] (some 11) (c66 lim e.ty (by omega) (Nat.le_refl _) (hety.mono hG1) H) ?_;rintro v1 w1 ⟨G2, hG2, hfr, H⟩;replace hf5 := hG2 _ _ hf5;replace hf4 := hG2 _ _ hf4;replace hf3 := hG2 _ _ hf3;obtain ⟨fb, _, _, rfl, _⟩ := id hfr.open;refine nx H ?_;refine r_z [(8, pN fb 0)] ?_;refine W_sr [(.l, 0), (.p, 1), (.p, 2), (.f, 3)] H ?_;refine r_s [1] [(.l, 0), (.p, 1), (.p, 2)] [(12, pN cb 0), (13, pN fb 0), (14, .func (.func 129) #[] #[pN b1 0, pN b2 0, pN b3 0, pN b4 0, pN b5 0])] (rc_g 0 hf3 rfl rc_nil) ?_;have H := St.swap (A := [(b5, .cells #[.bool false] 4), (b4, .cells #[.pointer none] 106)]) (B := κ) (C := R) H
 have hdo : ∀ {G5 : GH} {κ1 : LH} {w2 : World}, Le G2 G5 → IsChk G5 cb sb mb { c with types := c.types ++ [e.ty] } κ1 → St G5 (κ1 ++ ((b5, .cells #[.bool false] 4) :: (b4, .cells #[.pointer none] 106) :: R)) w2 →
   Cal Try.prog 129 #[.pointer (some ⟨b1, 0, none⟩), .pointer (some ⟨b2, 0, none⟩), .pointer (some ⟨b3, 0, none⟩), .pointer (some ⟨b4, 0, none⟩), .pointer (some ⟨b5, 0, none⟩)] w2 fun x w3 => ∃ G6 κ2 R2, x = .bool x0 ∧ Le G5 G6 ∧ IsChk G6 cb sb mb c3 κ2 ∧ (fun (G : GH) (R2 : LH) => ∃ pa, R2 = ((b5, .cells #[.bool x0] 4) :: (b4, .cells #[.pointer pa] 106) :: R) ∧ (x0 = true → IsTyp G (.pointer pa) r0)) G6 R2 ∧ St G6 (κ2 ++ R2) w3 := by
  intro G5 κ1 w2 hle hC5 hst5;refine (c129 (hG f (by omega)) hC5 hst5 (hle _ _ hf3) (hle _ _ hf4) (hle _ _ hf5) (heks.mono ((hG1.trans hG2).trans hle)) hq hsz hr).mono ?_;rintro x w3 ⟨G6, κ2, pa, rfl, h1, h2, h3, h4⟩
  exact ⟨G6, κ2, _, rfl, h1, h2, ⟨pa, rfl, h3⟩, h4⟩
 refine m_cl #[pN cb 0, pN fb 0, .func (.func 129) #[] #[pN b1 0, pN b2 0, pN b3 0, pN b4 0, pN b5 0]] (some 15) (c109_129 (Z := fun (G : GH) (R2 : LH) => ∃ pa, R2 = ((b5, .cells #[.bool x0] 4) :: (b4, .cells #[.pointer pa] 106) :: R) ∧ (x0 = true → IsTyp G (.pointer pa) r0)) ((hC.mono hG1).mono hG2) H hfr (by omega) hty3 hdo) ?_;rintro _ w1 ⟨G5, κ5, _, rfl, hG5, hC5, ⟨pa, rfl, hpa⟩, H⟩;replace hf5 := hG5 _ _ hf5;replace hf4 := hG5 _ _ hf4;replace hf3 := hG5 _ _ hf3
 have H : St G5 ((b5, .cells #[.bool x0] 4) :: (b4, .cells #[.pointer pa] 106) :: (κ5 ++ R)) w1 := by
  have h2 := St.swap (A := κ5) (B := [(b5, .cells #[.bool x0] 4), (b4, .cells #[.pointer pa] 106)]) (C := R) (by simpa [List.append_assoc] using H)
  simpa [List.append_assoc] using h2
 refine nx H ?_;refine r_nil ?_;refine W_seq ?_;refine W_regT (.fork [(.p, 0)] 1 (.fork [] 2 (.fork [] 3 (.fork [] 4 (.run [(.e, 5), (.f, 6)]) 5 (.run [(.e, 4), (.f, 6)])) 4 (.run [(.e, 3), (.e, 5), (.f, 6)])) 4 (.run [(.e, 2), (.e, 3), (.e, 5), (.f, 6)])) 4 (.run [(.e, 1), (.e, 2), (.e, 3), (.e, 5), (.f, 6)])) 6 (SS G5 ([])) mixed e_ e_ e_ e_ (fun w1 hw1 => ?_)
 have H := H.heap hw1; refine ⟨H.ss' (Le.refl _) (fun p hp => by cases hp), ?_⟩
 unfold RunT
 refine r_z [(16, pN fb 0)] ?_;refine ⟨?_, ?_⟩
 ·skip
  refine m_ldE [.pointer pa] [(⟨b4, 0, none⟩, .pointer pa)] (.pointer pa) (some 17) e_ (rc_L 1 rfl rfl rc_nil) H (H.ss' (Le.refl _) (fun p hp => by cases hp)) ?_;refine r_nil ?_
  unfold RunT
  refine r_nil ?_;refine ⟨?_, ?_⟩
  ·skip
   refine m_newE (.cells #[pN fb 0, .pointer pa] 106) (fun b7 => sN b7 0 2 2) (some 18) (fun b => by kernel_rfl) H (fun _ _ h => h.ss' (Le.refl _) (fun p hp => by cases hp)) (fun b7 w1 H => ?_);refine r_nil ?_
   unfold RunT
   refine r_nil ?_;refine ⟨?_, ?_⟩
   ·skip
    refine m_callE #[sN b7 0 2 2] (some 19) e_ (c127b H (hfr.mono hG5)) ?_;rintro _ w1 ⟨G6, rb, rfl, hG6, htf, H⟩;have H := H.drop [_];refine ⟨H.ss' ((Le.refl _).trans hG6) (fun p hp => by cases hp), ?_⟩;refine r_nil ?_
    unfold RunT
    refine r_nil ?_;refine ⟨?_, ?_⟩
    ·skip
     refine m_ldE [.bool x0] [(⟨b5, 0, none⟩, .bool x0)] (.bool x0) (some 20) e_ (rc_L 0 rfl rfl rc_nil) H (H.ss' ((Le.refl _).trans hG6) (fun p hp => by cases hp)) ?_;refine r_nil ?_
     unfold RunT
     refine m_storeE (L' := (b5, .cells #[.bool x0] 4) :: (b4, .cells #[pN rb 0] 106) :: (κ5 ++ R)) 1 [(0, pN rb 0)] [pN rb 0] none e_ H rfl e_ rfl rfl (fun _ h => h.ss' ((Le.refl _).trans hG6) (fun p hp => by cases hp)) (fun w1 H => ?_);refine s_0 [(0, .bool x0)] [.bool x0] none H (fun w1 H => ?_);refine r_nil ?_;refine W_ret ?_;refine q_rt [pN rb 0, .bool x0] [(⟨b4, 0, none⟩, pN rb 0), (⟨b5, 0, none⟩, .bool x0)] (.tuple #[pN rb 0, .bool x0]) (rc_L 1 rfl rfl (rc_L 0 rfl rfl rc_nil)) H ?_
     exact ⟨G6, κ5, _, rfl, ((hG1.trans hG2).trans hG5).trans hG6, hC5.mono hG6, (fun h => htf _ (hpa h)), H.drop [_, _]⟩
    refine m_storeE (L' := (b5, .cells #[.bool x0] 4) :: (b4, .cells #[pN rb 0] 106) :: (κ5 ++ R)) 1 [(0, pN rb 0)] [pN rb 0] none e_ H rfl e_ rfl rfl (fun _ h => h.ss' ((Le.refl _).trans hG6) (fun p hp => by cases hp)) (fun w1 H => ?_);refine r_nil ?_
    unfold RunT
    refine m_ldE [.bool x0] [(⟨b5, 0, none⟩, .bool x0)] (.bool x0) (some 20) e_ (rc_L 0 rfl rfl rc_nil) H (H.ss' ((Le.refl _).trans hG6) (fun p hp => by cases hp)) ?_;refine s_0 [(0, .bool x0)] [.bool x0] none H (fun w1 H => ?_);refine r_nil ?_;refine W_ret ?_;refine q_rt [pN rb 0, .bool x0] [(⟨b4, 0, none⟩, pN rb 0), (⟨b5, 0, none⟩, .bool x0)] (.tuple #[pN rb 0, .bool x0]) (rc_L 1 rfl rfl (rc_L 0 rfl rfl rc_nil)) H ?_
    exact ⟨G6, κ5, _, rfl, ((hG1.trans hG2).trans hG5).trans hG6, hC5.mono hG6, (fun h => htf _ (hpa h)), H.drop [_, _]⟩
   refine m_ldE [.bool x0] [(⟨b5, 0, none⟩, .bool x0)] (.bool x0) (some 20) e_ (rc_L 1 rfl rfl rc_nil) H (H.ss' (Le.refl _) (fun p hp => by cases hp)) ?_;refine r_nil ?_
   unfold RunT
   refine m_callE #[sN b7 0 2 2] (some 19) e_ (c127b H (hfr.mono hG5)) ?_;rintro _ w1 ⟨G6, rb, rfl, hG6, htf, H⟩;have H := H.drop [_];refine ⟨H.ss' ((Le.refl _).trans hG6) (fun p hp => by cases hp), ?_⟩;refine m_storeE (L' := (b5, .cells #[.bool x0] 4) :: (b4, .cells #[pN rb 0] 106) :: (κ5 ++ R)) 1 [(0, pN rb 0)] [pN rb 0] none e_ H rfl e_ rfl rfl (fun _ h => h.ss' ((Le.refl _).trans hG6) (fun p hp => by cases hp)) (fun w1 H => ?_);refine s_0 [(0, .bool x0)] [.bool x0] none H (fun w1 H => ?_);refine r_nil ?_;refine W_ret ?_;refine q_rt [pN rb 0, .bool x0] [(⟨b4, 0, none⟩, pN rb 0), (⟨b5, 0, none⟩, .bool x0)] (.tuple #[pN rb 0, .bool x0]) (rc_L 1 rfl rfl (rc_L 0 rfl rfl rc_nil)) H ?_
   exact ⟨G6, κ5, _, rfl, ((hG1.trans hG2).trans hG5).trans hG6, hC5.mono hG6, (fun h => htf _ (hpa h)), H.drop [_, _]⟩
  refine m_ldE [.bool x0] [(⟨b5, 0, none⟩, .bool x0)] (.bool x0) (some 20) e_ (rc_L 0 rfl rfl rc_nil) H (H.ss' (Le.refl _) (fun p hp => by cases hp)) ?_;refine r_nil ?_
  unfold RunT
  refine m_newE (.cells #[pN fb 0, .pointer pa] 106) (fun b8 => sN b8 0 2 2) (some 18) (fun b => by kernel_rfl) H (fun _ _ h => h.ss' (Le.refl _) (fun p hp => by cases hp)) (fun b8 w1 H => ?_);refine m_callE #[sN b8 0 2 2] (some 19) e_ (c127b H (hfr.mono hG5)) ?_;rintro _ w1 ⟨G6, rb, rfl, hG6, htf, H⟩;have H := H.drop [_];refine ⟨H.ss' ((Le.refl _).trans hG6) (fun p hp => by cases hp), ?_⟩;refine m_storeE (L' := (b5, .cells #[.bool x0] 4) :: (b4, .cells #[pN rb 0] 106) :: (κ5 ++ R)) 1 [(0, pN rb 0)] [pN rb 0] none e_ H rfl e_ rfl rfl (fun _ h => h.ss' ((Le.refl _).trans hG6) (fun p hp => by cases hp)) (fun w1 H => ?_);refine s_0 [(0, .bool x0)] [.bool x0] none H (fun w1 H => ?_);refine r_nil ?_;refine W_ret ?_;refine q_rt [pN rb 0, .bool x0] [(⟨b4, 0, none⟩, pN rb 0), (⟨b5, 0, none⟩, .bool x0)] (.tuple #[pN rb 0, .bool x0]) (rc_L 1 rfl rfl (rc_L 0 rfl rfl rc_nil)) H ?_
  exact ⟨G6, κ5, _, rfl, ((hG1.trans hG2).trans hG5).trans hG6, hC5.mono hG6, (fun h => htf _ (hpa h)), H.drop [_, _]⟩
 refine m_ldE [.bool x0] [(⟨b5, 0, none⟩, .bool x0)] (.bool x0) (some 20) e_ (rc_L 0 rfl rfl rc_nil) H (H.ss' (Le.refl _) (fun p hp => by cases hp)) ?_;refine r_nil ?_
 unfold RunT
 refine m_ldE [.pointer pa] [(⟨b4, 0, none⟩, .pointer pa)] (.pointer pa) (some 17) e_ (rc_L 1 rfl rfl rc_nil) H (H.ss' (Le.refl _) (fun p hp => by cases hp)) ?_;refine m_newE (.cells #[pN fb 0, .pointer pa] 106) (fun b9 => sN b9 0 2 2) (some 18) (fun b => by kernel_rfl) H (fun _ _ h => h.ss' (Le.refl _) (fun p hp => by cases hp)) (fun b9 w1 H => ?_);refine m_callE #[sN b9 0 2 2] (some 19) e_ (c127b H (hfr.mono hG5)) ?_;rintro _ w1 ⟨G6, rb, rfl, hG6, htf, H⟩;have H := H.drop [_];refine ⟨H.ss' ((Le.refl _).trans hG6) (fun p hp => by cases hp), ?_⟩;refine m_storeE (L' := (b5, .cells #[.bool x0] 4) :: (b4, .cells #[pN rb 0] 106) :: (κ5 ++ R)) 1 [(0, pN rb 0)] [pN rb 0] none e_ H rfl e_ rfl rfl (fun _ h => h.ss' ((Le.refl _).trans hG6) (fun p hp => by cases hp)) (fun w1 H => ?_);refine s_0 [(0, .bool x0)] [.bool x0] none H (fun w1 H => ?_);refine r_nil ?_;refine W_ret ?_;refine q_rt [pN rb 0, .bool x0] [(⟨b4, 0, none⟩, pN rb 0), (⟨b5, 0, none⟩, .bool x0)] (.tuple #[pN rb 0, .bool x0]) (rc_L 1 rfl rfl (rc_L 0 rfl rfl rc_nil)) H ?_
 exact ⟨G6, κ5, _, rfl, ((hG1.trans hG2).trans hG5).trans hG6, hC5.mono hG6, (fun h => htf _ (hpa h)), H.drop [_, _]⟩

theorem c130 {f : Nat} (hG : ∀ g, g < f + 1 → PG g) (hL : ∀ g, g < f + 1 → PLd g) {G : GH} {κ R : LH} {w : World} {cb sb : Nat} {mb : MB} {c c' : Chk} {v : Value} {e : E} {dp : Int} {r : T} {b0 : Bool} (hC : IsChk G cb sb mb c κ) (H : St G (κ ++ R) w) (hv : IsExpr G v e) (hsz : E.sz e < lim) (hk : e.kind = 5) (hin : gives (f + 1) c e dp = some ((r, b0), c')) :
  Cal Try.prog 130 #[.pointer (some ⟨cb, 0, none⟩), v, .int .i64 dp] w fun x w' => ∃ G' κ' pa, x = .tuple #[.pointer pa, .bool b0] ∧ Le G G' ∧ IsChk G' cb sb mb c' κ' ∧ (b0 = true → IsTyp G' (.pointer pa) r) ∧ St G' (κ' ++ R) w' := by
 have hlim : lim = 1099511627776 := rfl
 rw [gives_eq, if_neg (by omega), if_neg (by omega), if_neg (by omega), if_neg (by omega), if_pos hk] at hin;obtain ⟨eA, ec, eB, ed, rfl, hec, heks, hety⟩ := id hv.open;refine cal_of_W Try.func130 rfl (Nat.le_of_ble_eq_true e_) ?_
 split at hin
 case h_2 => cases hin
 rename_i q p _ hkq
 have hq : e.kids[0]? = some q := by rw [hkq]; rfl
 have hp : e.kids[1]? = some p := by rw [hkq]; rfl
 have hl0 : 0 < e.kids.length := by rw [hkq]; simp
 have hl1 : 1 < e.kids.length := by rw [hkq]; simp
 have hqs := E.sz_kid hq
 have hps := E.sz_kid hp
 obtain ⟨⟨⟨r0, x0⟩, c3⟩, hr, hin⟩ := Option.bind_eq_some_iff.1 hin; simp only at hin
 refine W_sr [(.f, 0), (.p, 1), (.p, 2)] H ?_;refine m_nw (cE e eA ec eB ed) 4 H (fun b1 w1 H => ?_);refine r_z [(6, .pointer none), (7, .bool false)] ?_;refine W_seq ?_;obtain ⟨G1, hG1, hF2, H⟩ := St.freeze [_] H
 have hf4 := hF2 _ (.head _)
 have heks1 := heks.mono hG1
 have hstk := H
 obtain ⟨eb, eo, qA, qc, qB, qd, rfl, hq0, hq1, hq2, hq3, hq4, hq5, hqe⟩ := (heks1).elem hq;have H := hstk
 obtain ⟨_, _, pA, pc, pB, pd, hxp, hp0, hp1, hp2, hp3, hp4, hp5, hpe⟩ := (heks1).elem hp; cases hxp
 refine W_rg [(.p, 0), (.p, 1), (.l, 2), (.p, 3), (.l, 4), (.p, 5), (.f, 6), (.p, 7), (.p, 8), (.p, 9), (.p, 10), (.p, 11)] H ?_;refine r_s [1] [(.p, 0), (.p, 1), (.l, 2)] [(11, pN cb 0), (12, pN b1 2), (13, sN eb eo e.kids.length ec)] (rc_g 2 hf4 rfl rc_nil) ?_;refine m_idx (sz := 6) (b := eb) (off := eo) (n := e.kids.length) (c := ec) (k := 0) (some 14) (show opAt _ _ _ = some (.indexAddr 50 (.tmp 13) (.const (iN 0)), _) by kernel_rfl) e_ e_ Try.underlying50 sz52 hl0 ?_;refine r_s [6] [(.l, 4), (.p, 5)] [(15, (aE q qA qc qB qd)), (16, iN dp)] (rc_C hq0 (rc_C hq1 (rc_C hq2 (rc_C hq3 (rc_C hq4 (rc_C hq5 rc_nil)))))) ?_;refine m_cl #[pN cb 0, (aE q qA qc qB qd), iN dp] (some 17) (hG f (by omega) (hC.mono hG1) H hqe (by omega) hr) ?_;rintro _ w1 ⟨G2, κ2, pa, rfl, hG2, hC2, hpa, H⟩;replace hf4 := hG2 _ _ hf4;replace hq0 := hq0.mono hG2;replace hq1 := hq1.mono hG2;replace hq2 := hq2.mono hG2;replace hq3 := hq3.mono hG2;replace hq4 := hq4.mono hG2;replace hq5 := hq5.mono hG2;replace hp0 := hp0.mono hG2;replace hp1 := hp1.mono hG2;replace hp2 := hp2.mono hG2;replace hp3 := hp3.mono hG2;replace hp4 := hp4.mono hG2;replace hp5 := hp5.mono hG2;cases x0
 ·skip
  rw [if_pos rfl] at hin; simp only [o_j, p_j] at hin; obtain ⟨⟨rfl, rfl⟩, rfl⟩ := hin
  refine nx H ?_;refine r_z [(10, .tuple #[.pointer pa, .bool false]), (18, .pointer pa), (19, .bool false), (8, .pointer pa), (9, .bool false)] ?_;refine W_seq ?_;refine W_sr (pL 2) H ?_;refine r_z [(20, .bool false), (21, .bool true)] ?_;refine W_cT ?_;refine W_sr (pL 2) H ?_;refine r_z [(6, .pointer none), (7, .bool false)] ?_;refine W_ret ?_;refine q_rt [] [] (.tuple #[.pointer none, .bool false]) rc_nil H ?_
  exact ⟨G2, κ2, none, rfl, hG1.trans hG2, hC2, (fun h => by cases h), H⟩
 rw [if_neg (by simp)] at hin;refine nx H ?_;refine r_z [(10, .tuple #[.pointer pa, .bool true]), (18, .pointer pa), (19, .bool true), (8, .pointer pa), (9, .bool true)] ?_;refine W_seq ?_;refine W_sr (pL 2) H ?_;refine r_z [(20, .bool true), (21, .bool false)] ?_;refine W_cF ?_;refine W_skip ?_;refine W_sr [(.p, 0), (.p, 1), (.p, 2), (.l, 3), (.p, 4), (.l, 5), (.p, 6), (.f, 7), (.p, 8), (.p, 9), (.p, 10), (.p, 11)] H ?_;refine r_s [1] [(.p, 0), (.p, 1), (.p, 2), (.l, 3)] [(22, pN cb 0), (23, .pointer pa), (24, pN b1 2), (25, sN eb eo e.kids.length ec)] (rc_g 2 hf4 rfl rc_nil) ?_;refine m_idx (sz := 6) (b := eb) (off := eo) (n := e.kids.length) (c := ec) (k := 1) (some 26) (show opAt _ _ _ = some (.indexAddr 50 (.tmp 25) (.const (iN 1)), _) by kernel_rfl) e_ e_ Try.underlying50 sz52 hl1 ?_;refine r_s [6] [(.l, 5), (.p, 6)] [(27, (aE p pA pc pB pd)), (28, iN dp)] (rc_C hp0 (rc_C hp1 (rc_C hp2 (rc_C hp3 (rc_C hp4 (rc_C hp5 rc_nil)))))) ?_;refine m_cl #[pN cb 0, .pointer pa, (aE p pA pc pB pd), iN dp] (some 29) (hL f (by omega) hC2 H (hpe.mono hG2) (by omega) (hpa rfl) hin) ?_;rintro _ w1 ⟨G3, κ3, pb, rfl, hG3, hC3, hpb, H⟩;refine nx H ?_;refine r_z [(30, .pointer pb), (31, .bool b0), (6, .pointer pb), (7, .bool b0)] ?_;refine W_ret ?_;refine q_rt [] [] (.tuple #[.pointer pb, .bool b0]) rc_nil H ?_
 exact ⟨G3, κ3, _, rfl, (hG1.trans hG2).trans hG3, hC3, hpb, H⟩

theorem c132 {f : Nat} (hH : ∀ g, g < f + 1 → PH g) {G : GH} {κ R : LH} {w : World} {cb sb : Nat} {mb : MB} {c c' : Chk} {v : Value} {e : E} {dp : Int} {r : T} {b0 : Bool} (hC : IsChk G cb sb mb c κ) (H : St G (κ ++ R) w) (hv : IsExpr G v e) (hsz : E.sz e < lim) (hk : e.kind = 6) (hin : gives (f + 1) c e dp = some ((r, b0), c')) :
  Cal Try.prog 132 #[.pointer (some ⟨cb, 0, none⟩), v, .int .i64 dp] w fun x w' => ∃ G' κ' pa, x = .tuple #[.pointer pa, .bool b0] ∧ Le G G' ∧ IsChk G' cb sb mb c' κ' ∧ (b0 = true → IsTyp G' (.pointer pa) r) ∧ St G' (κ' ++ R) w' := by
 have hlim : lim = 1099511627776 := rfl
 rw [gives_eq, if_neg (by omega), if_neg (by omega), if_neg (by omega), if_neg (by omega), if_neg (by omega), if_pos hk] at hin;obtain ⟨eA, ec, eB, ed, rfl, hec, heks, hety⟩ := id hv.open;refine cal_of_W Try.func132 rfl (Nat.le_of_ble_eq_true e_) ?_
 split at hin
 case h_2 => cases hin
 rename_i q _ hkq
 have hq : e.kids[0]? = some q := by rw [hkq]; rfl
 have hl0 : 0 < e.kids.length := by rw [hkq]; simp
 have hqs := E.sz_kid hq
 have htsz := E.ty_le e
 obtain ⟨⟨x0, c3⟩, hr, hin⟩ := Option.bind_eq_some_iff.1 hin; simp only [o_j, p_j] at hin; obtain ⟨⟨rfl, rfl⟩, rfl⟩ := hin
 refine W_sr [(.f, 0), (.p, 1), (.p, 2)] H ?_;refine m_nw (cE e eA ec eB ed) 4 H (fun b1 w1 H => ?_);refine r_z [(6, .pointer none), (7, .bool false)] ?_;refine W_seq ?_;obtain ⟨G1, hG1, hF2, H⟩ := St.freeze [_] H
 have hf4 := hF2 _ (.head _)
 refine W_rg [(.p, 0), (.l, 1), (.f, 2), (.p, 3)] H ?_;refine r_s [3] [(.p, 0), (.l, 1)] [(9, pN b1 3), (10, (aT e.ty eB ed))] (rc_g 3 hf4 rfl (rc_g 4 hf4 rfl (rc_g 5 hf4 rfl rc_nil))) ?_;refine m_cl #[(aT e.ty eB ed)] (some 11) (c66 lim e.ty (by omega) (Nat.le_refl _) (hety.mono hG1) H) ?_;rintro v1 w1 ⟨G2, hG2, hfr, H⟩;replace hf4 := hG2 _ _ hf4;obtain ⟨fb, _, _, rfl, _⟩ := id hfr.open;refine nx H ?_;refine r_z [(8, pN fb 0)] ?_;refine W_seq ?_
 have heks1 := (heks.mono hG1).mono hG2
 have hstk := H
 obtain ⟨eb, eo, qA, qc, qB, qd, rfl, hq0, hq1, hq2, hq3, hq4, hq5, hqe⟩ := (heks1).elem hq;have H := hstk;refine W_rg [(.p, 0), (.p, 1), (.p, 2), (.l, 3), (.p, 4), (.l, 5), (.p, 6), (.p, 7), (.f, 8), (.p, 9), (.p, 10)] H ?_;refine r_s [1] [(.p, 0), (.p, 1), (.p, 2), (.l, 3)] [(12, pN fb 0), (13, pN cb 0), (14, pN b1 2), (15, sN eb eo e.kids.length ec)] (rc_g 2 hf4 rfl rc_nil) ?_;refine m_idx (sz := 6) (b := eb) (off := eo) (n := e.kids.length) (c := ec) (k := 0) (some 16) (show opAt _ _ _ = some (.indexAddr 50 (.tmp 15) (.const (iN 0)), _) by kernel_rfl) e_ e_ Try.underlying50 sz52 hl0 ?_;refine r_s [6] [(.l, 5), (.p, 6), (.p, 7)] [(17, (aE q qA qc qB qd)), (18, pN fb 0), (19, iN dp)] (rc_C hq0 (rc_C hq1 (rc_C hq2 (rc_C hq3 (rc_C hq4 (rc_C hq5 rc_nil)))))) ?_;refine m_cl #[pN cb 0, (aE q qA qc qB qd), pN fb 0, iN dp] (some 20) (hH f (by omega) ((hC.mono hG1).mono hG2) H hqe (by omega) hfr hr) ?_;rintro _ w1 ⟨G3, κ3, rfl, hG3, hC3, H⟩;refine nx H ?_;refine r_z [(6, pN fb 0), (7, .bool x0)] ?_;refine W_ret ?_;refine q_rt [] [] (.tuple #[pN fb 0, .bool x0]) rc_nil H ?_
 exact ⟨G3, κ3, _, rfl, (hG1.trans hG2).trans hG3, hC3, (fun _ => hfr.mono hG3), H⟩

end Go.Proofs.Ytjgnhhgigickaaa.Wk
