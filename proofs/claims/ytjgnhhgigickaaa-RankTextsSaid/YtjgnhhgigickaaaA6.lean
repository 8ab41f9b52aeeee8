/- The texts W35 M3 M4 W36 K16 Texts, joined by wip/tools/squeeze.py: contracts of the given program's functions and plain laws. Conditions: each theorem's own. -/
import Derived.Test.YtjgnhhgigickaaaA5
import Derived.Test.YtjgnhhgigickaaaRows
import Derived.ProofKit

/- Walks of the given program's functions: awake. Printed by tools/w35.py. Conditions: none. -/

namespace Go.Proofs.Ytjgnhhgigickaaa.Wk
open Go Md
set_option maxRecDepth 20000
set_option linter.unusedVariables false
set_option linter.unusedSimpArgs false
attribute [local irreducible] endQ

theorem St.weak {G G' : GH} {L : LH} {w : World} (h : St G' L w) (hG : Le G G') : St G L w :=
 ⟨fun b o x => h.imm b o (hG b o x), h.loc, (fun p hp => by
  cases hx : G p.1 with
  | none => rfl
  | some o => have h1 := hG _ _ hx; have h2 := h.sep p hp; rw [h1] at h2; cases h2), h.nd, h.os.trans hG.os, h.out.trans hG.out⟩
theorem c18t {G : GH} {L : LH} {w : World} {va vb : Value} {a b : T} (hz : T.sz a < lim) (hva : IsPoly G va a) (hvb : IsPoly G vb b) (h : same a b = true) (hst : St G L w) : Cal Try.prog 18 #[va, vb] w fun x w' => x = .bool true ∧ St G L w' := by
 have := c18 _ (Nat.lt_succ_self _) hz hva hvb hst
 rwa [h] at this

theorem c12 {G : GH} {L : LH} {w : World} (hst : St G L w) : Cal Try.prog 12 #[] w fun x w' => x = .bool true ∧ St G L w' := by
 refine cal_of_W Try.func12 rfl (Nat.le_of_ble_eq_true (by kernel_rfl)) ?_
 refine W_seq ?_
 refine W_rg [(.p, 0)] hst ?_
 refine r_en [] [] [(0, .bool false)] rc_nil ?_
 refine W_seq ?_
 refine W_rg [(.f, 0), (.f, 1), (.f, 2), (.f, 3), (.f, 4), (.p, 5), (.p, 6), (.p, 7), (.p, 8), (.p, 9)] hst ?_
 refine m_cl #[] (some 29) (c48  hst) ?_
 rintro x1 w1 ⟨G1, hG1, hx1, hst⟩
 refine nx hst ?_
 refine m_cl #[] (some 30) (c27  hst) ?_
 rintro x2 w1 ⟨G2, hG2, hx2, hst⟩
 refine nx hst ?_
 refine m_cl #[] (some 31) (c27  hst) ?_
 rintro x3 w1 ⟨G3, hG3, hx3, hst⟩
 refine nx hst ?_
 refine m_cl #[x2, x3] (some 32) (c26 ((hx2).mono (hG3)) (hx3) hst) ?_
 rintro x4 w1 ⟨G4, hG4, hx4, hst⟩
 refine nx hst ?_
 refine m_cl #[x1, x4] (some 33) (c43 ((hx1).mono (((hG2).trans hG3).trans hG4)) (hx4) (by decide) hst aw1 (by decide)) ?_
 rintro _ w1 ⟨G5, A5, k5, hG5, rfl, _, hk5, hst⟩
 refine nx hst ?_
 obtain ⟨eb5, eo5, qA5, qc5, rfl, ha5, hb5, hc_5, hx5⟩ := hk5.elem (i := 0) (t := nt) rfl
 refine r_en [] [] [(28, .tuple #[.slice (some ⟨eb5, eo5, none⟩) 1 k5, .int .i64 0]), (34, .slice (some ⟨eb5, eo5, none⟩) 1 k5), (35, .int .i64 0), (1, .slice (some ⟨eb5, eo5, none⟩) 1 k5), (2, .int .i64 0)] rc_nil ?_
 refine W_seq ?_
 refine W_rg [(.f, 0), (.f, 1), (.f, 2), (.f, 3), (.f, 4), (.f, 5), (.f, 6), (.f, 7), (.f, 8), (.f, 9), (.p, 10), (.p, 11), (.p, 12), (.p, 13), (.p, 14)] hst ?_
 refine m_cl #[] (some 37) (c48  hst) ?_
 rintro x6 w1 ⟨G6, hG6, hx6, hst⟩
 refine nx hst ?_
 refine m_cl #[.int .i64 0] (some 38) (c50  hst) ?_
 rintro x7 w1 ⟨G7, hG7, hx7, hst⟩
 refine nx hst ?_
 refine m_cl #[.int .i64 0] (some 39) (c50  hst) ?_
 rintro x8 w1 ⟨G8, hG8, hx8, hst⟩
 refine nx hst ?_
 refine m_cl #[x7, x8] (some 40) (c26 ((hx7).mono (hG8)) (hx8) hst) ?_
 rintro x9 w1 ⟨G9, hG9, hx9, hst⟩
 refine nx hst ?_
 refine m_cl #[.int .i64 0] (some 41) (c50  hst) ?_
 rintro x10 w1 ⟨G10, hG10, hx10, hst⟩
 refine nx hst ?_
 refine m_cl #[.int .i64 0] (some 42) (c50  hst) ?_
 rintro x11 w1 ⟨G11, hG11, hx11, hst⟩
 refine nx hst ?_
 refine m_cl #[x10, x11] (some 43) (c26 ((hx10).mono (hG11)) (hx11) hst) ?_
 rintro x12 w1 ⟨G12, hG12, hx12, hst⟩
 refine nx hst ?_
 refine m_cl #[x9, x12] (some 44) (c26 ((hx9).mono (((hG10).trans hG11).trans hG12)) (hx12) hst) ?_
 rintro x13 w1 ⟨G13, hG13, hx13, hst⟩
 refine nx hst ?_
 refine m_cl #[x13] (some 45) (c49 (hx13) hst) ?_
 rintro x14 w1 ⟨G14, hG14, hx14, hst⟩
 refine nx hst ?_
 refine m_cl #[x6, x14] (some 46) (c43 ((hx6).mono ((((((((hG7).trans hG8).trans hG9).trans hG10).trans hG11).trans hG12).trans hG13).trans hG14)) (hx14) (by decide) hst aw2 (by decide)) ?_
 rintro _ w1 ⟨G15, A15, k15, hG15, rfl, _, hk15, hst⟩
 refine nx hst ?_
 obtain ⟨eb15, eo15, qA15, qc15, rfl, ha15, hb15, hc_15, hx15⟩ := hk15.elem (i := 0) (t := fn (vr 0) (vr 0)) rfl
 refine r_en [] [] [(36, .tuple #[.slice (some ⟨eb15, eo15, none⟩) 1 k15, .int .i64 0]), (47, .slice (some ⟨eb15, eo15, none⟩) 1 k15), (48, .int .i64 0), (3, .slice (some ⟨eb15, eo15, none⟩) 1 k15), (4, .int .i64 0)] rc_nil ?_
 refine W_seq ?_
 refine W_rg [(.f, 0), (.f, 1), (.f, 2), (.f, 3), (.f, 4), (.p, 5), (.p, 6), (.p, 7), (.p, 8), (.p, 9)] hst ?_
 refine m_cl #[] (some 50) (c27  hst) ?_
 rintro x16 w1 ⟨G16, hG16, hx16, hst⟩
 refine nx hst ?_
 refine m_cl #[] (some 51) (c27  hst) ?_
 rintro x17 w1 ⟨G17, hG17, hx17, hst⟩
 refine nx hst ?_
 refine m_cl #[x16, x17] (some 52) (c26 ((hx16).mono (hG17)) (hx17) hst) ?_
 rintro x18 w1 ⟨G18, hG18, hx18, hst⟩
 refine nx hst ?_
 refine m_cl #[] (some 53) (c48  hst) ?_
 rintro x19 w1 ⟨G19, hG19, hx19, hst⟩
 refine nx hst ?_
 refine m_cl #[x18, x19] (some 54) (c21 ((hx18).mono (hG19)) (hx19) (by decide) hst aw3) ?_
 rintro _ w1 ⟨G20, hG20, rfl, hst⟩
 refine nx hst ?_
 refine r_en [] [] [(49, .tuple #[.bool false, .int .i64 0]), (55, .bool false), (56, .int .i64 0), (5, .bool false), (6, .int .i64 0)] rc_nil ?_
 refine W_seq ?_
 refine W_rg [(.f, 0), (.f, 1), (.f, 2), (.f, 3), (.p, 4), (.p, 5), (.p, 6), (.p, 7), (.p, 8)] hst ?_
 refine m_cl #[] (some 58) (c48  hst) ?_
 rintro x21 w1 ⟨G21, hG21, hx21, hst⟩
 refine nx hst ?_
 refine m_cl #[] (some 59) (c27  hst) ?_
 rintro x22 w1 ⟨G22, hG22, hx22, hst⟩
 refine nx hst ?_
 refine m_cl #[x21, x22] (some 60) (c26 ((hx21).mono (hG22)) (hx22) hst) ?_
 rintro x23 w1 ⟨G23, hG23, hx23, hst⟩
 refine nx hst ?_
 refine m_cl #[x23] (some 61) (c25 (hx23) (by decide) hst aw4) ?_
 rintro _ w1 ⟨G24, hG24, rfl, hst⟩
 refine nx hst ?_
 refine r_en [] [] [(57, .tuple #[.int .i64 2, .int .i64 0]), (62, .int .i64 2), (63, .int .i64 0), (7, .int .i64 2), (8, .int .i64 0)] rc_nil ?_
 refine W_seq ?_
 refine W_seq ?_
 refine W_rgd [(.p, 0), (.p, 1), (.p, 2), (.p, 3), (.p, 4), (.p, 5), (.p, 6), (.p, 7), (.p, 8), (.p, 9), (.p, 10), (.p, 11), (.p, 12), (.p, 13), (.p, 14), (.p, 15), (.p, 16), (.p, 17), (.p, 18), (.p, 19), (.p, 20), (.p, 21), (.l, 22), (.e, 23), (.f, 24), (.p, 25), (.p, 26), (.p, 27), (.p, 28), (.p, 29), (.p, 30), (.p, 31), (.p, 32), (.p, 33), (.p, 34), (.l, 35), (.e, 36), (.e, 37), (.e, 38), (.f, 39), (.p, 40), (.p, 41), (.p, 42), (.p, 43), (.p, 44), (.p, 45), (.p, 46), (.p, 47), (.p, 48)] hst (fun w1 hst => ?_)
 refine r_sg [(.p, 0), (.p, 1), (.p, 2), (.p, 3), (.p, 4), (.p, 5), (.p, 6), (.p, 7), (.p, 8), (.p, 9), (.p, 10), (.p, 11), (.p, 12), (.p, 13), (.p, 14), (.p, 15), (.p, 16), (.p, 17), (.p, 18), (.p, 19), (.p, 20), (.p, 21), (.l, 22)] [[.int .i64 nt.kind, .int .i64 nt.num, .slice qA5 nt.kids.length qc5]] [(⟨eb5, eo5, none⟩, .int .i64 nt.kind), (⟨eb5, eo5 + 1, none⟩, .int .i64 nt.num), (⟨eb5, eo5 + 2, none⟩, .slice qA5 nt.kids.length qc5)] [(64, .int .i64 0), (65, .bool false), (66, .bool false), (67, .int .i64 0), (68, .bool false), (69, .bool false), (70, .bool false), (71, .int .i64 0), (72, .bool false), (73, .bool false), (74, .bool false), (75, .int .i64 0), (76, .bool false), (77, .bool false), (78, .bool false), (79, .slice (some ⟨eb5, eo5, none⟩) 1 k5), (80, .int .i64 1), (81, .bool false), (82, .bool false), (83, .bool false), (84, .slice (some ⟨eb5, eo5, none⟩) 1 k5), (85, .pointer (some ⟨eb5, eo5, none⟩)), (86, .agg #[.int .i64 nt.kind, .int .i64 nt.num, .slice qA5 nt.kids.length qc5])] (rc_C ((ha5).mono (((((((((((((((((((hG6).trans hG7).trans hG8).trans hG9).trans hG10).trans hG11).trans hG12).trans hG13).trans hG14).trans hG15).trans hG16).trans hG17).trans hG18).trans hG19).trans hG20).trans hG21).trans hG22).trans hG23).trans hG24)) (rc_C ((hb5).mono (((((((((((((((((((hG6).trans hG7).trans hG8).trans hG9).trans hG10).trans hG11).trans hG12).trans hG13).trans hG14).trans hG15).trans hG16).trans hG17).trans hG18).trans hG19).trans hG20).trans hG21).trans hG22).trans hG23).trans hG24)) (rc_C ((hc_5).mono (((((((((((((((((((hG6).trans hG7).trans hG8).trans hG9).trans hG10).trans hG11).trans hG12).trans hG13).trans hG14).trans hG15).trans hG16).trans hG17).trans hG18).trans hG19).trans hG20).trans hG21).trans hG22).trans hG23).trans hG24)) rc_nil))) ?_
 refine m_callE #[] (some 87) (by kernel_rfl) (c27  hst) ?_
 rintro x25 w1 ⟨G25, hG25, hx25, hst⟩
 refine ⟨hst.ss' ((Le.refl _).trans hG25) (fun _ hp => hp), ?_⟩
 refine m_cl #[.agg #[.int .i64 nt.kind, .int .i64 nt.num, .slice qA5 nt.kids.length qc5], x25] (some 88) (c18t (a := nt) (b := nt) (by decide) ((hx5).mono ((((((((((((((((((((hG6).trans hG7).trans hG8).trans hG9).trans hG10).trans hG11).trans hG12).trans hG13).trans hG14).trans hG15).trans hG16).trans hG17).trans hG18).trans hG19).trans hG20).trans hG21).trans hG22).trans hG23).trans hG24).trans hG25)) (hx25) (same_refl _) hst) ?_
 rintro _ w1 ⟨rfl, hst⟩
 refine nx hst ?_
 refine r_sg [(.p, 25), (.p, 26), (.p, 27), (.p, 28), (.p, 29), (.p, 30), (.p, 31), (.p, 32), (.p, 33), (.p, 34), (.l, 35)] [[.int .i64 ((fn (vr 0) (vr 0)).kind), .int .i64 ((fn (vr 0) (vr 0)).num), .slice qA15 ((fn (vr 0) (vr 0)).kids.length) qc15]] [(⟨eb15, eo15, none⟩, .int .i64 ((fn (vr 0) (vr 0)).kind)), (⟨eb15, eo15 + 1, none⟩, .int .i64 ((fn (vr 0) (vr 0)).num)), (⟨eb15, eo15 + 2, none⟩, .slice qA15 ((fn (vr 0) (vr 0)).kids.length) qc15)] [(89, .bool false), (90, .bool false), (91, .bool false), (92, .slice (some ⟨eb15, eo15, none⟩) 1 k15), (93, .int .i64 1), (94, .bool false), (95, .bool false), (96, .bool false), (97, .slice (some ⟨eb15, eo15, none⟩) 1 k15), (98, .pointer (some ⟨eb15, eo15, none⟩)), (99, .agg #[.int .i64 ((fn (vr 0) (vr 0)).kind), .int .i64 ((fn (vr 0) (vr 0)).num), .slice qA15 ((fn (vr 0) (vr 0)).kids.length) qc15])] (rc_C ((ha15).mono ((((((((((hG16).trans hG17).trans hG18).trans hG19).trans hG20).trans hG21).trans hG22).trans hG23).trans hG24).trans hG25)) (rc_C ((hb15).mono ((((((((((hG16).trans hG17).trans hG18).trans hG19).trans hG20).trans hG21).trans hG22).trans hG23).trans hG24).trans hG25)) (rc_C ((hc_15).mono ((((((((((hG16).trans hG17).trans hG18).trans hG19).trans hG20).trans hG21).trans hG22).trans hG23).trans hG24).trans hG25)) rc_nil))) ?_
 refine m_callE #[.int .i64 0] (some 100) (by kernel_rfl) (c50  hst) ?_
 rintro x26 w1 ⟨G26, hG26, hx26, hst⟩
 refine ⟨hst.ss' ((Le.refl _).trans hG26) (fun _ hp => hp), ?_⟩
 refine m_callE #[.int .i64 0] (some 101) (by kernel_rfl) (c50  hst) ?_
 rintro x27 w1 ⟨G27, hG27, hx27, hst⟩
 refine ⟨hst.ss' (((Le.refl _).trans hG26).trans hG27) (fun _ hp => hp), ?_⟩
 refine m_callE #[x26, x27] (some 102) (by kernel_rfl) (c26 ((hx26).mono (hG27)) (hx27) hst) ?_
 rintro x28 w1 ⟨G28, hG28, hx28, hst⟩
 refine ⟨hst.ss' ((((Le.refl _).trans hG26).trans hG27).trans hG28) (fun _ hp => hp), ?_⟩
 refine m_cl #[.agg #[.int .i64 ((fn (vr 0) (vr 0)).kind), .int .i64 ((fn (vr 0) (vr 0)).num), .slice qA15 ((fn (vr 0) (vr 0)).kids.length) qc15], x28] (some 103) (c18t (a := fn (vr 0) (vr 0)) (b := fn (vr 0) (vr 0)) (by decide) ((hx15).mono (((((((((((((hG16).trans hG17).trans hG18).trans hG19).trans hG20).trans hG21).trans hG22).trans hG23).trans hG24).trans hG25).trans hG26).trans hG27).trans hG28)) (hx28) (same_refl _) hst) ?_
 rintro _ w1 ⟨rfl, hst⟩
 refine nx hst ?_
 refine r_en [] [] [(104, .bool false), (105, .bool false), (106, .bool false), (107, .bool false), (108, .bool false), (109, .bool false), (110, .int .i64 2), (111, .bool false), (112, .bool false)] rc_nil ?_
 refine W_cF ?_
 refine W_skip ?_
 refine W_seq ?_
 replace hst := hst.weak ((((((((((((((((((((((((((((hG1).trans hG2).trans hG3).trans hG4).trans hG5).trans hG6).trans hG7).trans hG8).trans hG9).trans hG10).trans hG11).trans hG12).trans hG13).trans hG14).trans hG15).trans hG16).trans hG17).trans hG18).trans hG19).trans hG20).trans hG21).trans hG22).trans hG23).trans hG24).trans hG25).trans hG26).trans hG27).trans hG28)
 refine W_rg [(.f, 0), (.f, 1), (.f, 2), (.f, 3), (.f, 4), (.f, 5), (.f, 6), (.f, 7), (.f, 8), (.f, 9), (.p, 10), (.p, 11), (.p, 12), (.p, 13), (.p, 14)] hst ?_
 refine m_cl #[] (some 114) (c27  hst) ?_
 rintro x29 w1 ⟨G29, hG29, hx29, hst⟩
 refine nx hst ?_
 refine m_cl #[] (some 115) (c48  hst) ?_
 rintro x30 w1 ⟨G30, hG30, hx30, hst⟩
 refine nx hst ?_
 refine m_cl #[x29, x30] (some 116) (c26 ((hx29).mono (hG30)) (hx30) hst) ?_
 rintro x31 w1 ⟨G31, hG31, hx31, hst⟩
 refine nx hst ?_
 refine m_cl #[] (some 117) (c27  hst) ?_
 rintro x32 w1 ⟨G32, hG32, hx32, hst⟩
 refine nx hst ?_
 refine m_cl #[.int .i64 0] (some 118) (c50  hst) ?_
 rintro x33 w1 ⟨G33, hG33, hx33, hst⟩
 refine nx hst ?_
 refine m_cl #[.int .i64 0] (some 119) (c50  hst) ?_
 rintro x34 w1 ⟨G34, hG34, hx34, hst⟩
 refine nx hst ?_
 refine m_cl #[x33, x34] (some 120) (c26 ((hx33).mono (hG34)) (hx34) hst) ?_
 rintro x35 w1 ⟨G35, hG35, hx35, hst⟩
 refine nx hst ?_
 refine m_cl #[x32, x35] (some 121) (c26 ((hx32).mono (((hG33).trans hG34).trans hG35)) (hx35) hst) ?_
 rintro x36 w1 ⟨G36, hG36, hx36, hst⟩
 refine nx hst ?_
 refine m_cl #[x36] (some 122) (c49 (hx36) hst) ?_
 rintro x37 w1 ⟨G37, hG37, hx37, hst⟩
 refine nx hst ?_
 refine m_cl #[x31, x37] (some 123) (c43 ((hx31).mono ((((((hG32).trans hG33).trans hG34).trans hG35).trans hG36).trans hG37)) (hx37) (by decide) hst aw5 (by decide)) ?_
 rintro _ w1 ⟨G38, A38, k38, hG38, rfl, _, hk38, hst⟩
 refine nx hst ?_
 obtain ⟨eb38, eo38, qA38, qc38, rfl, ha38, hb38, hc_38, hx38⟩ := hk38.elem (i := 0) (t := vr 0) rfl
 refine r_en [] [] [(113, .tuple #[.slice (some ⟨eb38, eo38, none⟩) 1 k38, .int .i64 0]), (124, .slice (some ⟨eb38, eo38, none⟩) 1 k38), (125, .int .i64 0), (9, .slice (some ⟨eb38, eo38, none⟩) 1 k38), (2, .int .i64 0)] rc_nil ?_
 refine W_seq ?_
 refine W_rg [(.f, 0), (.f, 1), (.f, 2), (.f, 3), (.f, 4), (.f, 5), (.f, 6), (.f, 7), (.f, 8), (.f, 9), (.p, 10), (.p, 11), (.p, 12), (.p, 13), (.p, 14)] hst ?_
 refine m_cl #[] (some 127) (c27  hst) ?_
 rintro x39 w1 ⟨G39, hG39, hx39, hst⟩
 refine nx hst ?_
 refine m_cl #[.int .i64 0] (some 128) (c50  hst) ?_
 rintro x40 w1 ⟨G40, hG40, hx40, hst⟩
 refine nx hst ?_
 refine m_cl #[.int .i64 0] (some 129) (c50  hst) ?_
 rintro x41 w1 ⟨G41, hG41, hx41, hst⟩
 refine nx hst ?_
 refine m_cl #[x40, x41] (some 130) (c26 ((hx40).mono (hG41)) (hx41) hst) ?_
 rintro x42 w1 ⟨G42, hG42, hx42, hst⟩
 refine nx hst ?_
 refine m_cl #[x39, x42] (some 131) (c26 ((hx39).mono (((hG40).trans hG41).trans hG42)) (hx42) hst) ?_
 rintro x43 w1 ⟨G43, hG43, hx43, hst⟩
 refine nx hst ?_
 refine m_cl #[x43] (some 132) (c49 (hx43) hst) ?_
 rintro x44 w1 ⟨G44, hG44, hx44, hst⟩
 refine nx hst ?_
 refine m_cl #[] (some 133) (c27  hst) ?_
 rintro x45 w1 ⟨G45, hG45, hx45, hst⟩
 refine nx hst ?_
 refine m_cl #[] (some 134) (c48  hst) ?_
 rintro x46 w1 ⟨G46, hG46, hx46, hst⟩
 refine nx hst ?_
 refine m_cl #[x45, x46] (some 135) (c26 ((hx45).mono (hG46)) (hx46) hst) ?_
 rintro x47 w1 ⟨G47, hG47, hx47, hst⟩
 refine nx hst ?_
 refine m_cl #[x44, x47] (some 136) (c43 ((hx44).mono (((hG45).trans hG46).trans hG47)) (hx47) (by decide) hst aw6 (by decide)) ?_
 rintro _ w1 ⟨G48, A48, k48, hG48, rfl, _, hk48, hst⟩
 refine nx hst ?_
 refine r_en [] [] [(126, .tuple #[.slice A48 0 k48, .int .i64 6]), (137, .slice A48 0 k48), (138, .int .i64 6), (10, .slice A48 0 k48), (11, .int .i64 6)] rc_nil ?_
 refine W_seq ?_
 refine W_rg [(.f, 0), (.f, 1), (.f, 2), (.f, 3), (.p, 4), (.p, 5), (.p, 6), (.p, 7), (.p, 8)] hst ?_
 refine m_cl #[] (some 140) (c27  hst) ?_
 rintro x49 w1 ⟨G49, hG49, hx49, hst⟩
 refine nx hst ?_
 refine m_cl #[x49] (some 141) (c49 (hx49) hst) ?_
 rintro x50 w1 ⟨G50, hG50, hx50, hst⟩
 refine nx hst ?_
 refine m_cl #[] (some 142) (c27  hst) ?_
 rintro x51 w1 ⟨G51, hG51, hx51, hst⟩
 refine nx hst ?_
 refine m_cl #[x50, x51] (some 143) (c43 ((hx50).mono (hG51)) (hx51) (by decide) hst aw7 (by decide)) ?_
 rintro _ w1 ⟨G52, A52, k52, hG52, rfl, _, hk52, hst⟩
 refine nx hst ?_
 obtain ⟨eb52, eo52, qA52, qc52, rfl, ha52, hb52, hc_52, hx52⟩ := hk52.elem (i := 0) (t := nt) rfl
 refine r_en [] [] [(139, .tuple #[.slice (some ⟨eb52, eo52, none⟩) 1 k52, .int .i64 0]), (144, .slice (some ⟨eb52, eo52, none⟩) 1 k52), (145, .int .i64 0), (12, .slice (some ⟨eb52, eo52, none⟩) 1 k52), (6, .int .i64 0)] rc_nil ?_
 refine W_seq ?_
 refine W_seq ?_
 refine W_rgd [(.p, 0), (.p, 1), (.p, 2), (.p, 3), (.p, 4), (.p, 5), (.p, 6), (.p, 7), (.p, 8), (.p, 9), (.p, 10), (.p, 11), (.p, 12), (.p, 13), (.p, 14), (.p, 15), (.p, 16), (.p, 17), (.l, 18), (.e, 19), (.f, 20), (.p, 21), (.p, 22), (.p, 23), (.p, 24), (.p, 25), (.p, 26), (.p, 27), (.p, 28), (.p, 29), (.p, 30), (.l, 31), (.e, 32), (.f, 33), (.p, 34), (.p, 35)] hst (fun w1 hst => ?_)
 refine r_sg [(.p, 0), (.p, 1), (.p, 2), (.p, 3), (.p, 4), (.p, 5), (.p, 6), (.p, 7), (.p, 8), (.p, 9), (.p, 10), (.p, 11), (.p, 12), (.p, 13), (.p, 14), (.p, 15), (.p, 16), (.p, 17), (.l, 18)] [[.int .i64 ((vr 0).kind), .int .i64 ((vr 0).num), .slice qA38 ((vr 0).kids.length) qc38]] [(⟨eb38, eo38, none⟩, .int .i64 ((vr 0).kind)), (⟨eb38, eo38 + 1, none⟩, .int .i64 ((vr 0).num)), (⟨eb38, eo38 + 2, none⟩, .slice qA38 ((vr 0).kids.length) qc38)] [(146, .int .i64 0), (147, .bool false), (148, .bool false), (149, .int .i64 6), (150, .bool false), (151, .bool false), (152, .bool false), (153, .int .i64 0), (154, .bool false), (155, .bool false), (156, .bool false), (157, .slice (some ⟨eb38, eo38, none⟩) 1 k38), (158, .int .i64 1), (159, .bool false), (160, .bool false), (161, .bool false), (162, .slice (some ⟨eb38, eo38, none⟩) 1 k38), (163, .pointer (some ⟨eb38, eo38, none⟩)), (164, .agg #[.int .i64 ((vr 0).kind), .int .i64 ((vr 0).num), .slice qA38 ((vr 0).kids.length) qc38])] (rc_C ((ha38).mono ((((((((((((((hG39).trans hG40).trans hG41).trans hG42).trans hG43).trans hG44).trans hG45).trans hG46).trans hG47).trans hG48).trans hG49).trans hG50).trans hG51).trans hG52)) (rc_C ((hb38).mono ((((((((((((((hG39).trans hG40).trans hG41).trans hG42).trans hG43).trans hG44).trans hG45).trans hG46).trans hG47).trans hG48).trans hG49).trans hG50).trans hG51).trans hG52)) (rc_C ((hc_38).mono ((((((((((((((hG39).trans hG40).trans hG41).trans hG42).trans hG43).trans hG44).trans hG45).trans hG46).trans hG47).trans hG48).trans hG49).trans hG50).trans hG51).trans hG52)) rc_nil))) ?_
 refine m_callE #[.int .i64 0] (some 165) (by kernel_rfl) (c50  hst) ?_
 rintro x53 w1 ⟨G53, hG53, hx53, hst⟩
 refine ⟨hst.ss' ((Le.refl _).trans hG53) (fun _ hp => hp), ?_⟩
 refine m_cl #[.agg #[.int .i64 ((vr 0).kind), .int .i64 ((vr 0).num), .slice qA38 ((vr 0).kids.length) qc38], x53] (some 166) (c18t (a := vr 0) (b := vr 0) (by decide) ((hx38).mono (((((((((((((((hG39).trans hG40).trans hG41).trans hG42).trans hG43).trans hG44).trans hG45).trans hG46).trans hG47).trans hG48).trans hG49).trans hG50).trans hG51).trans hG52).trans hG53)) (hx53) (same_refl _) hst) ?_
 rintro _ w1 ⟨rfl, hst⟩
 refine nx hst ?_
 refine r_sg [(.p, 21), (.p, 22), (.p, 23), (.p, 24), (.p, 25), (.p, 26), (.p, 27), (.p, 28), (.p, 29), (.p, 30), (.l, 31)] [[.int .i64 nt.kind, .int .i64 nt.num, .slice qA52 nt.kids.length qc52]] [(⟨eb52, eo52, none⟩, .int .i64 nt.kind), (⟨eb52, eo52 + 1, none⟩, .int .i64 nt.num), (⟨eb52, eo52 + 2, none⟩, .slice qA52 nt.kids.length qc52)] [(167, .bool false), (168, .bool false), (169, .bool false), (170, .slice (some ⟨eb52, eo52, none⟩) 1 k52), (171, .int .i64 1), (172, .bool false), (173, .bool false), (174, .bool false), (175, .slice (some ⟨eb52, eo52, none⟩) 1 k52), (176, .pointer (some ⟨eb52, eo52, none⟩)), (177, .agg #[.int .i64 nt.kind, .int .i64 nt.num, .slice qA52 nt.kids.length qc52])] (rc_C ((ha52).mono (hG53)) (rc_C ((hb52).mono (hG53)) (rc_C ((hc_52).mono (hG53)) rc_nil))) ?_
 refine m_callE #[] (some 178) (by kernel_rfl) (c27  hst) ?_
 rintro x54 w1 ⟨G54, hG54, hx54, hst⟩
 refine ⟨hst.ss' ((Le.refl _).trans hG54) (fun _ hp => hp), ?_⟩
 refine m_cl #[.agg #[.int .i64 nt.kind, .int .i64 nt.num, .slice qA52 nt.kids.length qc52], x54] (some 179) (c18t (a := nt) (b := nt) (by decide) ((hx52).mono ((hG53).trans hG54)) (hx54) (same_refl _) hst) ?_
 rintro _ w1 ⟨rfl, hst⟩
 refine nx hst ?_
 refine r_en [] [] [(180, .bool false), (181, .bool false)] rc_nil ?_
 refine W_cF ?_
 refine W_skip ?_
 refine W_seq ?_
 replace hst := hst.weak ((((((((((((((((((((((((((hG29).trans hG30).trans hG31).trans hG32).trans hG33).trans hG34).trans hG35).trans hG36).trans hG37).trans hG38).trans hG39).trans hG40).trans hG41).trans hG42).trans hG43).trans hG44).trans hG45).trans hG46).trans hG47).trans hG48).trans hG49).trans hG50).trans hG51).trans hG52).trans hG53).trans hG54)
 refine W_rg [(.f, 0), (.f, 1), (.f, 2), (.p, 3), (.p, 4), (.p, 5), (.f, 6), (.f, 7), (.p, 8)] hst ?_
 refine m_cl #[.int .i64 0] (some 183) (c52  hst) ?_
 rintro x55 w1 ⟨G55, hG55, hx55, hst⟩
 refine nx hst ?_
 refine m_cl #[x55] (some 184) (c51 (hx55) hst) ?_
 rintro x56 w1 ⟨G56, hG56, hx56, hst⟩
 refine nx hst ?_
 refine m_cl #[.slice none 0 0, x56] (some 185) (c29 (l := []) (IsPolys.nil) (Nat.le_refl _) (by decide) (hx56) (by decide) hst aw8) ?_
 rintro _ w1 ⟨G57, _, hG57, rfl, hx57, hst⟩
 refine nx hst ?_
 obtain ⟨A57, k57, rfl, _, _⟩ := id hx57.open
 refine r_sg [(.p, 3), (.p, 4), (.p, 5)] [] [] [(182, .tuple #[.agg #[.int .i64 idt.kind, .int .i64 idt.num, .slice A57 idt.kids.length k57], .int .i64 0]), (186, .agg #[.int .i64 idt.kind, .int .i64 idt.num, .slice A57 idt.kids.length k57]), (187, .int .i64 0)] rc_nil ?_
 refine m_new (.cells #[.int .i64 0, .int .i64 0, .slice none 0 0] 24) (fun b1 => .pointer (some ⟨b1, 0, none⟩)) (some 13) (fun b => by kernel_rfl) hst (fun b1 w1 hst => ?_)
 refine m_st ((b1, .cells #[.int .i64 idt.kind, .int .i64 idt.num, .slice A57 idt.kids.length k57] 24) :: L) 0 [(0, .int .i64 idt.kind), (1, .int .i64 idt.num), (2, .slice A57 idt.kids.length k57)] [.int .i64 idt.kind, .int .i64 idt.num, .slice A57 idt.kids.length k57] none hst (fun w1 hst => ?_)
 refine r_en [] [] [(2, .int .i64 0)] rc_nil ?_
 refine W_seq ?_
 refine W_rg [(.f, 0), (.f, 1), (.f, 2), (.f, 3), (.f, 4), (.p, 5), (.p, 6), (.p, 7), (.f, 8), (.f, 9), (.p, 10)] hst ?_
 refine m_cl #[.int .i64 0] (some 189) (c52  hst) ?_
 rintro x58 w1 ⟨G58, hG58, hx58, hst⟩
 refine nx hst ?_
 refine m_cl #[.int .i64 0] (some 190) (c52  hst) ?_
 rintro x59 w1 ⟨G59, hG59, hx59, hst⟩
 refine nx hst ?_
 refine m_cl #[x58, x59] (some 191) (c53 ((hx58).mono (hG59)) (hx59) hst) ?_
 rintro x60 w1 ⟨G60, hG60, hx60, hst⟩
 refine nx hst ?_
 refine m_cl #[x60] (some 192) (c51 (hx60) hst) ?_
 rintro x61 w1 ⟨G61, hG61, hx61, hst⟩
 refine nx hst ?_
 refine m_cl #[.slice none 0 0, x61] (some 193) (c29 (l := []) (IsPolys.nil) (Nat.le_refl _) (by decide) (hx61) (by decide) hst aw9) ?_
 rintro _ w1 ⟨G62, _, hG62, rfl, hx62, hst⟩
 refine nx hst ?_
 obtain ⟨A62, k62, rfl, _, _⟩ := id hx62.open
 refine r_sg [(.p, 5), (.p, 6), (.p, 7)] [] [] [(188, .tuple #[.agg #[.int .i64 t0.kind, .int .i64 t0.num, .slice A62 t0.kids.length k62], .int .i64 8]), (194, .agg #[.int .i64 t0.kind, .int .i64 t0.num, .slice A62 t0.kids.length k62]), (195, .int .i64 8)] rc_nil ?_
 refine m_new (.cells #[.int .i64 0, .int .i64 0, .slice none 0 0] 24) (fun b2 => .pointer (some ⟨b2, 0, none⟩)) (some 14) (fun b => by kernel_rfl) hst (fun b2 w1 hst => ?_)
 refine m_st ((b2, .cells #[.int .i64 t0.kind, .int .i64 t0.num, .slice A62 t0.kids.length k62] 24) :: (b1, .cells #[.int .i64 idt.kind, .int .i64 idt.num, .slice A57 idt.kids.length k57] 24) :: L) 0 [(0, .int .i64 t0.kind), (1, .int .i64 t0.num), (2, .slice A62 t0.kids.length k62)] [.int .i64 t0.kind, .int .i64 t0.num, .slice A62 t0.kids.length k62] none hst (fun w1 hst => ?_)
 refine r_en [] [] [(15, .int .i64 8)] rc_nil ?_
 refine W_seq ?_
 refine W_rg [(.f, 0), (.f, 1), (.f, 2), (.f, 3), (.f, 4), (.f, 5), (.p, 6), (.p, 7), (.p, 8), (.f, 9), (.f, 10), (.p, 11)] hst ?_
 refine m_cl #[] (some 197) (c48  hst) ?_
 rintro x63 w1 ⟨G63, hG63, hx63, hst⟩
 refine nx hst ?_
 refine m_cl #[.int .i64 0] (some 198) (c52  hst) ?_
 rintro x64 w1 ⟨G64, hG64, hx64, hst⟩
 refine nx hst ?_
 refine m_cl #[.int .i64 0] (some 199) (c52  hst) ?_
 rintro x65 w1 ⟨G65, hG65, hx65, hst⟩
 refine nx hst ?_
 refine m_cl #[x64, x65] (some 200) (c53 ((hx64).mono (hG65)) (hx65) hst) ?_
 rintro x66 w1 ⟨G66, hG66, hx66, hst⟩
 refine nx hst ?_
 refine m_cl #[x63, x66] (some 201) (c54 ((hx63).mono (((hG64).trans hG65).trans hG66)) (hx66) hst) ?_
 rintro x67 w1 ⟨G67, hG67, hx67, hst⟩
 refine nx hst ?_
 refine m_cl #[.slice none 0 0, x67] (some 202) (c29 (l := []) (IsPolys.nil) (Nat.le_refl _) (by decide) (hx67) (by decide) hst aw10) ?_
 rintro _ w1 ⟨G68, _, hG68, rfl, hx68, hst⟩
 refine nx hst ?_
 obtain ⟨A68, k68, rfl, _, _⟩ := id hx68.open
 refine r_sg [(.p, 6), (.p, 7), (.p, 8)] [] [] [(196, .tuple #[.agg #[.int .i64 ((al (fn idt (fn (vr 0) (vr 0)))).kind), .int .i64 ((al (fn idt (fn (vr 0) (vr 0)))).num), .slice A68 ((al (fn idt (fn (vr 0) (vr 0)))).kids.length) k68], .int .i64 0]), (203, .agg #[.int .i64 ((al (fn idt (fn (vr 0) (vr 0)))).kind), .int .i64 ((al (fn idt (fn (vr 0) (vr 0)))).num), .slice A68 ((al (fn idt (fn (vr 0) (vr 0)))).kids.length) k68]), (204, .int .i64 0)] rc_nil ?_
 refine m_new (.cells #[.int .i64 0, .int .i64 0, .slice none 0 0] 24) (fun b3 => .pointer (some ⟨b3, 0, none⟩)) (some 16) (fun b => by kernel_rfl) hst (fun b3 w1 hst => ?_)
 refine m_st ((b3, .cells #[.int .i64 ((al (fn idt (fn (vr 0) (vr 0)))).kind), .int .i64 ((al (fn idt (fn (vr 0) (vr 0)))).num), .slice A68 ((al (fn idt (fn (vr 0) (vr 0)))).kids.length) k68] 24) :: (b2, .cells #[.int .i64 t0.kind, .int .i64 t0.num, .slice A62 t0.kids.length k62] 24) :: (b1, .cells #[.int .i64 idt.kind, .int .i64 idt.num, .slice A57 idt.kids.length k57] 24) :: L) 0 [(0, .int .i64 ((al (fn idt (fn (vr 0) (vr 0)))).kind)), (1, .int .i64 ((al (fn idt (fn (vr 0) (vr 0)))).num)), (2, .slice A68 ((al (fn idt (fn (vr 0) (vr 0)))).kids.length) k68)] [.int .i64 ((al (fn idt (fn (vr 0) (vr 0)))).kind), .int .i64 ((al (fn idt (fn (vr 0) (vr 0)))).num), .slice A68 ((al (fn idt (fn (vr 0) (vr 0)))).kids.length) k68] none hst (fun w1 hst => ?_)
 refine r_en [] [] [(6, .int .i64 0)] rc_nil ?_
 refine W_seq ?_
 refine W_rg [(.f, 0), (.f, 1), (.f, 2), (.f, 3), (.f, 4), (.f, 5), (.f, 6), (.f, 7), (.f, 8), (.p, 9), (.p, 10), (.p, 11), (.f, 12), (.f, 13), (.p, 14)] hst ?_
 refine m_cl #[] (some 206) (c48  hst) ?_
 rintro x69 w1 ⟨G69, hG69, hx69, hst⟩
 refine nx hst ?_
 refine m_cl #[] (some 207) (c27  hst) ?_
 rintro x70 w1 ⟨G70, hG70, hx70, hst⟩
 refine nx hst ?_
 refine m_cl #[x69, x70] (some 208) (c26 ((hx69).mono (hG70)) (hx70) hst) ?_
 rintro x71 w1 ⟨G71, hG71, hx71, hst⟩
 refine nx hst ?_
 obtain ⟨A71, k71, rfl, _, _⟩ := id hx71.open
 refine m_new (.cells #[.int .i64 ((fn idt nt).kind), .int .i64 ((fn idt nt).num), .slice A71 ((fn idt nt).kids.length) k71] 24) (fun b4 => .slice (some ⟨b4, 0, none⟩) 1 1) (some 209) (fun b => by kernel_rfl) hst (fun b4 w1 hst => ?_)
 refine m_cl #[.int .i64 0] (some 210) (c52  hst) ?_
 rintro x72 w1 ⟨G72, hG72, hx72, hst⟩
 refine nx hst ?_
 refine m_cl #[.int .i64 0] (some 211) (c52  hst) ?_
 rintro x73 w1 ⟨G73, hG73, hx73, hst⟩
 refine nx hst ?_
 refine m_cl #[x73] (some 212) (c51 (hx73) hst) ?_
 rintro x74 w1 ⟨G74, hG74, hx74, hst⟩
 refine nx hst ?_
 refine m_cl #[x72, x74] (some 213) (c53 ((hx72).mono ((hG73).trans hG74)) (hx74) hst) ?_
 rintro x75 w1 ⟨G75, hG75, hx75, hst⟩
 refine nx hst ?_
 obtain ⟨G76, hG76, hF76, hst⟩ := St.freeze [_] hst
 have hl76 := polys_of (cs := [.int .i64 ((fn idt nt).kind), .int .i64 ((fn idt nt).num), .slice A71 ((fn idt nt).kids.length) k71]) (ts := [fn idt nt]) ⟨((hx71).mono ((((hG72).trans hG73).trans hG74).trans hG75)).mono hG76, trivial⟩ (hF76 _ (.head _))
 refine m_cl #[.slice (some ⟨b4, 0, none⟩) 1 1, x75] (some 214) (c29 (l := [fn idt nt]) hl76 (Nat.le_refl _) (by decide) ((hx75).mono (hG76)) (by decide) hst aw11) ?_
 rintro _ w1 ⟨G77, _, hG77, rfl, hx77, hst⟩
 refine nx hst ?_
 obtain ⟨A77, k77, rfl, _, _⟩ := id hx77.open
 refine r_sg [(.p, 9), (.p, 10), (.p, 11)] [] [] [(205, .tuple #[.agg #[.int .i64 nt.kind, .int .i64 nt.num, .slice A77 nt.kids.length k77], .int .i64 0]), (215, .agg #[.int .i64 nt.kind, .int .i64 nt.num, .slice A77 nt.kids.length k77]), (216, .int .i64 0)] rc_nil ?_
 refine m_new (.cells #[.int .i64 0, .int .i64 0, .slice none 0 0] 24) (fun b5 => .pointer (some ⟨b5, 0, none⟩)) (some 17) (fun b => by kernel_rfl) hst (fun b5 w1 hst => ?_)
 refine m_st ((b5, .cells #[.int .i64 nt.kind, .int .i64 nt.num, .slice A77 nt.kids.length k77] 24) :: (b3, .cells #[.int .i64 ((al (fn idt (fn (vr 0) (vr 0)))).kind), .int .i64 ((al (fn idt (fn (vr 0) (vr 0)))).num), .slice A68 ((al (fn idt (fn (vr 0) (vr 0)))).kids.length) k68] 24) :: (b2, .cells #[.int .i64 t0.kind, .int .i64 t0.num, .slice A62 t0.kids.length k62] 24) :: (b1, .cells #[.int .i64 idt.kind, .int .i64 idt.num, .slice A57 idt.kids.length k57] 24) :: L) 0 [(0, .int .i64 nt.kind), (1, .int .i64 nt.num), (2, .slice A77 nt.kids.length k77)] [.int .i64 nt.kind, .int .i64 nt.num, .slice A77 nt.kids.length k77] none hst (fun w1 hst => ?_)
 refine r_en [] [] [(8, .int .i64 0)] rc_nil ?_
 refine W_seq ?_
 refine W_rg [(.f, 0), (.f, 1), (.f, 2), (.f, 3), (.f, 4), (.f, 5), (.f, 6), (.f, 7), (.f, 8), (.p, 9), (.p, 10), (.p, 11), (.f, 12), (.f, 13), (.p, 14)] hst ?_
 refine m_cl #[] (some 218) (c48  hst) ?_
 rintro x78 w1 ⟨G78, hG78, hx78, hst⟩
 refine nx hst ?_
 refine m_cl #[] (some 219) (c27  hst) ?_
 rintro x79 w1 ⟨G79, hG79, hx79, hst⟩
 refine nx hst ?_
 refine m_cl #[x78, x79] (some 220) (c26 ((hx78).mono (hG79)) (hx79) hst) ?_
 rintro x80 w1 ⟨G80, hG80, hx80, hst⟩
 refine nx hst ?_
 obtain ⟨A80, k80, rfl, _, _⟩ := id hx80.open
 refine m_new (.cells #[.int .i64 ((fn idt nt).kind), .int .i64 ((fn idt nt).num), .slice A80 ((fn idt nt).kids.length) k80] 24) (fun b6 => .slice (some ⟨b6, 0, none⟩) 1 1) (some 221) (fun b => by kernel_rfl) hst (fun b6 w1 hst => ?_)
 refine m_cl #[.int .i64 0] (some 222) (c52  hst) ?_
 rintro x81 w1 ⟨G81, hG81, hx81, hst⟩
 refine nx hst ?_
 refine m_cl #[.int .i64 3] (some 223) (c55  hst) ?_
 rintro x82 w1 ⟨G82, hG82, hx82, hst⟩
 refine nx hst ?_
 refine m_cl #[x82] (some 224) (c51 (hx82) hst) ?_
 rintro x83 w1 ⟨G83, hG83, hx83, hst⟩
 refine nx hst ?_
 refine m_cl #[x81, x83] (some 225) (c53 ((hx81).mono ((hG82).trans hG83)) (hx83) hst) ?_
 rintro x84 w1 ⟨G84, hG84, hx84, hst⟩
 refine nx hst ?_
 obtain ⟨G85, hG85, hF85, hst⟩ := St.freeze [_] hst
 have hl85 := polys_of (cs := [.int .i64 ((fn idt nt).kind), .int .i64 ((fn idt nt).num), .slice A80 ((fn idt nt).kids.length) k80]) (ts := [fn idt nt]) ⟨((hx80).mono ((((hG81).trans hG82).trans hG83).trans hG84)).mono hG85, trivial⟩ (hF85 _ (.head _))
 refine m_cl #[.slice (some ⟨b6, 0, none⟩) 1 1, x84] (some 226) (c29 (l := [fn idt nt]) hl85 (Nat.le_refl _) (by decide) ((hx84).mono (hG85)) (by decide) hst aw12) ?_
 rintro _ w1 ⟨G86, _, hG86, rfl, hx86, hst⟩
 refine nx hst ?_
 obtain ⟨A86, k86, rfl, _, _⟩ := id hx86.open
 refine r_sg [(.p, 9), (.p, 10), (.p, 11)] [] [] [(217, .tuple #[.agg #[.int .i64 t0.kind, .int .i64 t0.num, .slice A86 t0.kids.length k86], .int .i64 8]), (227, .agg #[.int .i64 t0.kind, .int .i64 t0.num, .slice A86 t0.kids.length k86]), (228, .int .i64 8)] rc_nil ?_
 refine m_new (.cells #[.int .i64 0, .int .i64 0, .slice none 0 0] 24) (fun b7 => .pointer (some ⟨b7, 0, none⟩)) (some 18) (fun b => by kernel_rfl) hst (fun b7 w1 hst => ?_)
 refine m_st ((b7, .cells #[.int .i64 t0.kind, .int .i64 t0.num, .slice A86 t0.kids.length k86] 24) :: (b5, .cells #[.int .i64 nt.kind, .int .i64 nt.num, .slice A77 nt.kids.length k77] 24) :: (b3, .cells #[.int .i64 ((al (fn idt (fn (vr 0) (vr 0)))).kind), .int .i64 ((al (fn idt (fn (vr 0) (vr 0)))).num), .slice A68 ((al (fn idt (fn (vr 0) (vr 0)))).kids.length) k68] 24) :: (b2, .cells #[.int .i64 t0.kind, .int .i64 t0.num, .slice A62 t0.kids.length k62] 24) :: (b1, .cells #[.int .i64 idt.kind, .int .i64 idt.num, .slice A57 idt.kids.length k57] 24) :: L) 0 [(0, .int .i64 t0.kind), (1, .int .i64 t0.num), (2, .slice A86 t0.kids.length k86)] [.int .i64 t0.kind, .int .i64 t0.num, .slice A86 t0.kids.length k86] none hst (fun w1 hst => ?_)
 refine r_en [] [] [(19, .int .i64 8)] rc_nil ?_
 refine W_seq ?_
 refine W_rg [(.f, 0), (.f, 1), (.f, 2), (.f, 3), (.f, 4), (.f, 5), (.f, 6), (.p, 7), (.p, 8), (.p, 9), (.f, 10), (.f, 11), (.p, 12)] hst ?_
 refine m_cl #[.int .i64 0] (some 230) (c52  hst) ?_
 rintro x87 w1 ⟨G87, hG87, hx87, hst⟩
 refine nx hst ?_
 refine m_cl #[x87] (some 231) (c51 (hx87) hst) ?_
 rintro x88 w1 ⟨G88, hG88, hx88, hst⟩
 refine nx hst ?_
 refine m_cl #[] (some 232) (c27  hst) ?_
 rintro x89 w1 ⟨G89, hG89, hx89, hst⟩
 refine nx hst ?_
 refine m_cl #[] (some 233) (c27  hst) ?_
 rintro x90 w1 ⟨G90, hG90, hx90, hst⟩
 refine nx hst ?_
 refine m_cl #[x89, x90] (some 234) (c26 ((hx89).mono (hG90)) (hx90) hst) ?_
 rintro x91 w1 ⟨G91, hG91, hx91, hst⟩
 refine nx hst ?_
 refine m_cl #[x88, x91] (some 235) (c31 ((hx88).mono (((hG89).trans hG90).trans hG91)) (hx91) hst) ?_
 rintro x92 w1 ⟨G92, hG92, hx92, hst⟩
 refine nx hst ?_
 refine m_cl #[.slice none 0 0, x92] (some 236) (c29 (l := []) (IsPolys.nil) (Nat.le_refl _) (by decide) (hx92) (by decide) hst aw13) ?_
 rintro _ w1 ⟨G93, _, hG93, rfl, hx93, hst⟩
 refine nx hst ?_
 obtain ⟨A93, k93, rfl, _, _⟩ := id hx93.open
 refine r_sg [(.p, 7), (.p, 8), (.p, 9)] [] [] [(229, .tuple #[.agg #[.int .i64 ((fn nt nt).kind), .int .i64 ((fn nt nt).num), .slice A93 ((fn nt nt).kids.length) k93], .int .i64 0]), (237, .agg #[.int .i64 ((fn nt nt).kind), .int .i64 ((fn nt nt).num), .slice A93 ((fn nt nt).kids.length) k93]), (238, .int .i64 0)] rc_nil ?_
 refine m_new (.cells #[.int .i64 0, .int .i64 0, .slice none 0 0] 24) (fun b8 => .pointer (some ⟨b8, 0, none⟩)) (some 20) (fun b => by kernel_rfl) hst (fun b8 w1 hst => ?_)
 refine m_st ((b8, .cells #[.int .i64 ((fn nt nt).kind), .int .i64 ((fn nt nt).num), .slice A93 ((fn nt nt).kids.length) k93] 24) :: (b7, .cells #[.int .i64 t0.kind, .int .i64 t0.num, .slice A86 t0.kids.length k86] 24) :: (b5, .cells #[.int .i64 nt.kind, .int .i64 nt.num, .slice A77 nt.kids.length k77] 24) :: (b3, .cells #[.int .i64 ((al (fn idt (fn (vr 0) (vr 0)))).kind), .int .i64 ((al (fn idt (fn (vr 0) (vr 0)))).num), .slice A68 ((al (fn idt (fn (vr 0) (vr 0)))).kids.length) k68] 24) :: (b2, .cells #[.int .i64 t0.kind, .int .i64 t0.num, .slice A62 t0.kids.length k62] 24) :: (b1, .cells #[.int .i64 idt.kind, .int .i64 idt.num, .slice A57 idt.kids.length k57] 24) :: L) 0 [(0, .int .i64 ((fn nt nt).kind)), (1, .int .i64 ((fn nt nt).num)), (2, .slice A93 ((fn nt nt).kids.length) k93)] [.int .i64 ((fn nt nt).kind), .int .i64 ((fn nt nt).num), .slice A93 ((fn nt nt).kids.length) k93] none hst (fun w1 hst => ?_)
 refine r_en [] [] [(21, .int .i64 0)] rc_nil ?_
 refine W_seq ?_
 refine W_seq ?_
 refine W_rgd [(.p, 0), (.p, 1), (.p, 2), (.p, 3), (.p, 4), (.p, 5), (.p, 6), (.p, 7), (.p, 8), (.p, 9), (.p, 10), (.p, 11), (.p, 12), (.p, 13), (.p, 14), (.p, 15), (.p, 16), (.p, 17), (.p, 18), (.p, 19), (.p, 20), (.p, 21), (.p, 22), (.l, 23), (.e, 24), (.f, 25), (.p, 26), (.p, 27), (.p, 28), (.l, 29), (.e, 30), (.e, 31), (.e, 32), (.e, 33), (.e, 34), (.e, 35), (.f, 36), (.p, 37), (.p, 38), (.p, 39), (.l, 40), (.e, 41), (.f, 42), (.p, 43), (.p, 44), (.p, 45), (.l, 46), (.e, 47), (.e, 48), (.e, 49), (.f, 50), (.p, 51), (.p, 52)] hst (fun w1 hst => ?_)
 refine r_sg [(.p, 0), (.p, 1), (.p, 2), (.p, 3), (.p, 4), (.p, 5), (.p, 6), (.p, 7), (.p, 8), (.p, 9), (.p, 10), (.p, 11), (.p, 12), (.p, 13), (.p, 14), (.p, 15), (.p, 16), (.p, 17), (.p, 18), (.p, 19), (.p, 20), (.p, 21), (.p, 22), (.l, 23)] [[.int .i64 idt.kind, .int .i64 idt.num, .slice A57 idt.kids.length k57]] [(⟨b1, 0, none⟩, .int .i64 idt.kind), (⟨b1, 1, none⟩, .int .i64 idt.num), (⟨b1, 2, none⟩, .slice A57 idt.kids.length k57)] [(239, .int .i64 0), (240, .bool false), (241, .bool false), (242, .int .i64 8), (243, .bool false), (244, .bool false), (245, .bool false), (246, .int .i64 0), (247, .bool false), (248, .bool false), (249, .bool false), (250, .int .i64 0), (251, .bool false), (252, .bool false), (253, .bool false), (254, .int .i64 8), (255, .bool false), (256, .bool false), (257, .bool false), (258, .int .i64 0), (259, .bool false), (260, .bool false), (261, .bool false), (262, .agg #[.int .i64 idt.kind, .int .i64 idt.num, .slice A57 idt.kids.length k57])] (rc_L 5 rfl rfl (rc_L 5 rfl rfl (rc_L 5 rfl rfl rc_nil))) ?_
 refine m_callE #[] (some 263) (by kernel_rfl) (c48  hst) ?_
 rintro x94 w1 ⟨G94, hG94, hx94, hst⟩
 refine ⟨hst.ss' ((Le.refl _).trans hG94) (fun _ hp => hp), ?_⟩
 refine m_cl #[.agg #[.int .i64 idt.kind, .int .i64 idt.num, .slice A57 idt.kids.length k57], x94] (some 264) (c18t (a := idt) (b := idt) (by decide) ((hx57).mono (((((((((((((((((((((((((((((((((((((hG58).trans hG59).trans hG60).trans hG61).trans hG62).trans hG63).trans hG64).trans hG65).trans hG66).trans hG67).trans hG68).trans hG69).trans hG70).trans hG71).trans hG72).trans hG73).trans hG74).trans hG75).trans hG76).trans hG77).trans hG78).trans hG79).trans hG80).trans hG81).trans hG82).trans hG83).trans hG84).trans hG85).trans hG86).trans hG87).trans hG88).trans hG89).trans hG90).trans hG91).trans hG92).trans hG93).trans hG94)) (hx94) (same_refl _) hst) ?_
 rintro _ w1 ⟨rfl, hst⟩
 refine nx hst ?_
 refine r_sg [(.p, 26), (.p, 27), (.p, 28), (.l, 29)] [[.int .i64 ((al (fn idt (fn (vr 0) (vr 0)))).kind), .int .i64 ((al (fn idt (fn (vr 0) (vr 0)))).num), .slice A68 ((al (fn idt (fn (vr 0) (vr 0)))).kids.length) k68]] [(⟨b3, 0, none⟩, .int .i64 ((al (fn idt (fn (vr 0) (vr 0)))).kind)), (⟨b3, 1, none⟩, .int .i64 ((al (fn idt (fn (vr 0) (vr 0)))).num)), (⟨b3, 2, none⟩, .slice A68 ((al (fn idt (fn (vr 0) (vr 0)))).kids.length) k68)] [(265, .bool false), (266, .bool false), (267, .bool false), (268, .agg #[.int .i64 ((al (fn idt (fn (vr 0) (vr 0)))).kind), .int .i64 ((al (fn idt (fn (vr 0) (vr 0)))).num), .slice A68 ((al (fn idt (fn (vr 0) (vr 0)))).kids.length) k68])] (rc_L 3 rfl rfl (rc_L 3 rfl rfl (rc_L 3 rfl rfl rc_nil))) ?_
 refine m_callE #[] (some 269) (by kernel_rfl) (c48  hst) ?_
 rintro x95 w1 ⟨G95, hG95, hx95, hst⟩
 refine ⟨hst.ss' ((Le.refl _).trans hG95) (fun _ hp => hp), ?_⟩
 refine m_callE #[.int .i64 0] (some 270) (by kernel_rfl) (c50  hst) ?_
 rintro x96 w1 ⟨G96, hG96, hx96, hst⟩
 refine ⟨hst.ss' (((Le.refl _).trans hG95).trans hG96) (fun _ hp => hp), ?_⟩
 refine m_callE #[.int .i64 0] (some 271) (by kernel_rfl) (c50  hst) ?_
 rintro x97 w1 ⟨G97, hG97, hx97, hst⟩
 refine ⟨hst.ss' ((((Le.refl _).trans hG95).trans hG96).trans hG97) (fun _ hp => hp), ?_⟩
 refine m_callE #[x96, x97] (some 272) (by kernel_rfl) (c26 ((hx96).mono (hG97)) (hx97) hst) ?_
 rintro x98 w1 ⟨G98, hG98, hx98, hst⟩
 refine ⟨hst.ss' (((((Le.refl _).trans hG95).trans hG96).trans hG97).trans hG98) (fun _ hp => hp), ?_⟩
 refine m_callE #[x95, x98] (some 273) (by kernel_rfl) (c26 ((hx95).mono (((hG96).trans hG97).trans hG98)) (hx98) hst) ?_
 rintro x99 w1 ⟨G99, hG99, hx99, hst⟩
 refine ⟨hst.ss' ((((((Le.refl _).trans hG95).trans hG96).trans hG97).trans hG98).trans hG99) (fun _ hp => hp), ?_⟩
 refine m_callE #[x99] (some 274) (by kernel_rfl) (c49 (hx99) hst) ?_
 rintro x100 w1 ⟨G100, hG100, hx100, hst⟩
 refine ⟨hst.ss' (((((((Le.refl _).trans hG95).trans hG96).trans hG97).trans hG98).trans hG99).trans hG100) (fun _ hp => hp), ?_⟩
 refine m_cl #[.agg #[.int .i64 ((al (fn idt (fn (vr 0) (vr 0)))).kind), .int .i64 ((al (fn idt (fn (vr 0) (vr 0)))).num), .slice A68 ((al (fn idt (fn (vr 0) (vr 0)))).kids.length) k68], x100] (some 275) (c18t (a := al (fn idt (fn (vr 0) (vr 0)))) (b := al (fn idt (fn (vr 0) (vr 0)))) (by decide) ((hx68).mono ((((((((((((((((((((((((((((((((hG69).trans hG70).trans hG71).trans hG72).trans hG73).trans hG74).trans hG75).trans hG76).trans hG77).trans hG78).trans hG79).trans hG80).trans hG81).trans hG82).trans hG83).trans hG84).trans hG85).trans hG86).trans hG87).trans hG88).trans hG89).trans hG90).trans hG91).trans hG92).trans hG93).trans hG94).trans hG95).trans hG96).trans hG97).trans hG98).trans hG99).trans hG100)) (hx100) (same_refl _) hst) ?_
 rintro _ w1 ⟨rfl, hst⟩
 refine nx hst ?_
 refine r_sg [(.p, 37), (.p, 38), (.p, 39), (.l, 40)] [[.int .i64 nt.kind, .int .i64 nt.num, .slice A77 nt.kids.length k77]] [(⟨b5, 0, none⟩, .int .i64 nt.kind), (⟨b5, 1, none⟩, .int .i64 nt.num), (⟨b5, 2, none⟩, .slice A77 nt.kids.length k77)] [(276, .bool false), (277, .bool false), (278, .bool false), (279, .agg #[.int .i64 nt.kind, .int .i64 nt.num, .slice A77 nt.kids.length k77])] (rc_L 2 rfl rfl (rc_L 2 rfl rfl (rc_L 2 rfl rfl rc_nil))) ?_
 refine m_callE #[] (some 280) (by kernel_rfl) (c27  hst) ?_
 rintro x101 w1 ⟨G101, hG101, hx101, hst⟩
 refine ⟨hst.ss' ((Le.refl _).trans hG101) (fun _ hp => hp), ?_⟩
 refine m_cl #[.agg #[.int .i64 nt.kind, .int .i64 nt.num, .slice A77 nt.kids.length k77], x101] (some 281) (c18t (a := nt) (b := nt) (by decide) ((hx77).mono ((((((((((((((((((((((((hG78).trans hG79).trans hG80).trans hG81).trans hG82).trans hG83).trans hG84).trans hG85).trans hG86).trans hG87).trans hG88).trans hG89).trans hG90).trans hG91).trans hG92).trans hG93).trans hG94).trans hG95).trans hG96).trans hG97).trans hG98).trans hG99).trans hG100).trans hG101)) (hx101) (same_refl _) hst) ?_
 rintro _ w1 ⟨rfl, hst⟩
 refine nx hst ?_
 refine r_sg [(.p, 43), (.p, 44), (.p, 45), (.l, 46)] [[.int .i64 ((fn nt nt).kind), .int .i64 ((fn nt nt).num), .slice A93 ((fn nt nt).kids.length) k93]] [(⟨b8, 0, none⟩, .int .i64 ((fn nt nt).kind)), (⟨b8, 1, none⟩, .int .i64 ((fn nt nt).num)), (⟨b8, 2, none⟩, .slice A93 ((fn nt nt).kids.length) k93)] [(282, .bool false), (283, .bool false), (284, .bool false), (285, .agg #[.int .i64 ((fn nt nt).kind), .int .i64 ((fn nt nt).num), .slice A93 ((fn nt nt).kids.length) k93])] (rc_L 0 rfl rfl (rc_L 0 rfl rfl (rc_L 0 rfl rfl rc_nil))) ?_
 refine m_callE #[] (some 286) (by kernel_rfl) (c27  hst) ?_
 rintro x102 w1 ⟨G102, hG102, hx102, hst⟩
 refine ⟨hst.ss' ((Le.refl _).trans hG102) (fun _ hp => hp), ?_⟩
 refine m_callE #[] (some 287) (by kernel_rfl) (c27  hst) ?_
 rintro x103 w1 ⟨G103, hG103, hx103, hst⟩
 refine ⟨hst.ss' (((Le.refl _).trans hG102).trans hG103) (fun _ hp => hp), ?_⟩
 refine m_callE #[x102, x103] (some 288) (by kernel_rfl) (c26 ((hx102).mono (hG103)) (hx103) hst) ?_
 rintro x104 w1 ⟨G104, hG104, hx104, hst⟩
 refine ⟨hst.ss' ((((Le.refl _).trans hG102).trans hG103).trans hG104) (fun _ hp => hp), ?_⟩
 refine m_cl #[.agg #[.int .i64 ((fn nt nt).kind), .int .i64 ((fn nt nt).num), .slice A93 ((fn nt nt).kids.length) k93], x104] (some 289) (c18t (a := fn nt nt) (b := fn nt nt) (by decide) ((hx93).mono (((((((((((hG94).trans hG95).trans hG96).trans hG97).trans hG98).trans hG99).trans hG100).trans hG101).trans hG102).trans hG103).trans hG104)) (hx104) (same_refl _) hst) ?_
 rintro _ w1 ⟨rfl, hst⟩
 refine nx hst ?_
 refine r_en [] [] [(290, .bool false), (291, .bool false)] rc_nil ?_
 refine W_cF ?_
 refine W_skip ?_
 refine W_seq ?_
 refine W_seq ?_
 replace hst := hst.weak ((((((((((((((((((((((((((((((((((((((((((((((((((hG55).trans hG56).trans hG57).trans hG58).trans hG59).trans hG60).trans hG61).trans hG62).trans hG63).trans hG64).trans hG65).trans hG66).trans hG67).trans hG68).trans hG69).trans hG70).trans hG71).trans hG72).trans hG73).trans hG74).trans hG75).trans hG76).trans hG77).trans hG78).trans hG79).trans hG80).trans hG81).trans hG82).trans hG83).trans hG84).trans hG85).trans hG86).trans hG87).trans hG88).trans hG89).trans hG90).trans hG91).trans hG92).trans hG93).trans hG94).trans hG95).trans hG96).trans hG97).trans hG98).trans hG99).trans hG100).trans hG101).trans hG102).trans hG103).trans hG104)
 refine W_rg [(.p, 0), (.p, 1), (.p, 2), (.p, 3), (.p, 4), (.p, 5), (.f, 6), (.p, 7), (.p, 8)] hst ?_
 refine r_sg [(.p, 0), (.p, 1), (.p, 2), (.p, 3), (.p, 4), (.p, 5)] [] [] [(292, .agg #[.string (bs [98]), .int .i64 0]), (293, .agg #[.string (bs [97]), .int .i64 1]), (294, .agg #[.string (bs [97, 108, 108, 32, 98, 46, 32, 98]), .int .i64 4]), (295, .agg #[.string (bs [40, 78, 41]), .int .i64 2]), (296, .agg #[.string (bs [78, 32, 45, 62, 32]), .int .i64 5]), (297, .agg #[.string (bs [78, 32, 45, 62, 78]), .int .i64 4])] rc_nil ?_
 refine m_new (.cells #[.string (bs [98]), .int .i64 0, .string (bs [97]), .int .i64 1, .string (bs [97, 108, 108, 32, 98, 46, 32, 98]), .int .i64 4, .string (bs [40, 78, 41]), .int .i64 2, .string (bs [78, 32, 45, 62, 32]), .int .i64 5, .string (bs [78, 32, 45, 62, 78]), .int .i64 4] 81) (fun b9 => .slice (some ⟨b9, 0, none⟩) 6 6) (some 298) (fun b => by kernel_rfl) hst (fun b9 w1 hst => ?_)
 refine r_en [] [] [(299, .int .i64 6), (300, .int .i64 0)] rc_nil ?_
 refine W_block ?_
 refine W_loop (fun m ρ D w => D = [] ∧ ((m = 6 ∧ EqS ρ [(298, .slice (some ⟨b9, 0, none⟩) 6 6), (299, .int .i64 6), (300, .int .i64 0)] ∧ St G ((b9, .cells #[.string (bs [98]), .int .i64 0, .string (bs [97]), .int .i64 1, .string (bs [97, 108, 108, 32, 98, 46, 32, 98]), .int .i64 4, .string (bs [40, 78, 41]), .int .i64 2, .string (bs [78, 32, 45, 62, 32]), .int .i64 5, .string (bs [78, 32, 45, 62, 78]), .int .i64 4] 81) :: (b8, .cells #[.int .i64 ((fn nt nt).kind), .int .i64 ((fn nt nt).num), .slice A93 ((fn nt nt).kids.length) k93] 24) :: (b7, .cells #[.int .i64 t0.kind, .int .i64 t0.num, .slice A86 t0.kids.length k86] 24) :: (b5, .cells #[.int .i64 nt.kind, .int .i64 nt.num, .slice A77 nt.kids.length k77] 24) :: (b3, .cells #[.int .i64 ((al (fn idt (fn (vr 0) (vr 0)))).kind), .int .i64 ((al (fn idt (fn (vr 0) (vr 0)))).num), .slice A68 ((al (fn idt (fn (vr 0) (vr 0)))).kids.length) k68] 24) :: (b2, .cells #[.int .i64 t0.kind, .int .i64 t0.num, .slice A62 t0.kids.length k62] 24) :: (b1, .cells #[.int .i64 idt.kind, .int .i64 idt.num, .slice A57 idt.kids.length k57] 24) :: L) w) ∨ ((m = 5 ∧ EqS ρ [(298, .slice (some ⟨b9, 0, none⟩) 6 6), (299, .int .i64 6), (300, .int .i64 1)] ∧ St G ((b9, .cells #[.string (bs [98]), .int .i64 0, .string (bs [97]), .int .i64 1, .string (bs [97, 108, 108, 32, 98, 46, 32, 98]), .int .i64 4, .string (bs [40, 78, 41]), .int .i64 2, .string (bs [78, 32, 45, 62, 32]), .int .i64 5, .string (bs [78, 32, 45, 62, 78]), .int .i64 4] 81) :: (b8, .cells #[.int .i64 ((fn nt nt).kind), .int .i64 ((fn nt nt).num), .slice A93 ((fn nt nt).kids.length) k93] 24) :: (b7, .cells #[.int .i64 t0.kind, .int .i64 t0.num, .slice A86 t0.kids.length k86] 24) :: (b5, .cells #[.int .i64 nt.kind, .int .i64 nt.num, .slice A77 nt.kids.length k77] 24) :: (b3, .cells #[.int .i64 ((al (fn idt (fn (vr 0) (vr 0)))).kind), .int .i64 ((al (fn idt (fn (vr 0) (vr 0)))).num), .slice A68 ((al (fn idt (fn (vr 0) (vr 0)))).kids.length) k68] 24) :: (b2, .cells #[.int .i64 t0.kind, .int .i64 t0.num, .slice A62 t0.kids.length k62] 24) :: (b1, .cells #[.int .i64 idt.kind, .int .i64 idt.num, .slice A57 idt.kids.length k57] 24) :: L) w) ∨ ((m = 4 ∧ EqS ρ [(298, .slice (some ⟨b9, 0, none⟩) 6 6), (299, .int .i64 6), (300, .int .i64 2)] ∧ St G ((b9, .cells #[.string (bs [98]), .int .i64 0, .string (bs [97]), .int .i64 1, .string (bs [97, 108, 108, 32, 98, 46, 32, 98]), .int .i64 4, .string (bs [40, 78, 41]), .int .i64 2, .string (bs [78, 32, 45, 62, 32]), .int .i64 5, .string (bs [78, 32, 45, 62, 78]), .int .i64 4] 81) :: (b8, .cells #[.int .i64 ((fn nt nt).kind), .int .i64 ((fn nt nt).num), .slice A93 ((fn nt nt).kids.length) k93] 24) :: (b7, .cells #[.int .i64 t0.kind, .int .i64 t0.num, .slice A86 t0.kids.length k86] 24) :: (b5, .cells #[.int .i64 nt.kind, .int .i64 nt.num, .slice A77 nt.kids.length k77] 24) :: (b3, .cells #[.int .i64 ((al (fn idt (fn (vr 0) (vr 0)))).kind), .int .i64 ((al (fn idt (fn (vr 0) (vr 0)))).num), .slice A68 ((al (fn idt (fn (vr 0) (vr 0)))).kids.length) k68] 24) :: (b2, .cells #[.int .i64 t0.kind, .int .i64 t0.num, .slice A62 t0.kids.length k62] 24) :: (b1, .cells #[.int .i64 idt.kind, .int .i64 idt.num, .slice A57 idt.kids.length k57] 24) :: L) w) ∨ ((m = 3 ∧ EqS ρ [(298, .slice (some ⟨b9, 0, none⟩) 6 6), (299, .int .i64 6), (300, .int .i64 3)] ∧ St G ((b9, .cells #[.string (bs [98]), .int .i64 0, .string (bs [97]), .int .i64 1, .string (bs [97, 108, 108, 32, 98, 46, 32, 98]), .int .i64 4, .string (bs [40, 78, 41]), .int .i64 2, .string (bs [78, 32, 45, 62, 32]), .int .i64 5, .string (bs [78, 32, 45, 62, 78]), .int .i64 4] 81) :: (b8, .cells #[.int .i64 ((fn nt nt).kind), .int .i64 ((fn nt nt).num), .slice A93 ((fn nt nt).kids.length) k93] 24) :: (b7, .cells #[.int .i64 t0.kind, .int .i64 t0.num, .slice A86 t0.kids.length k86] 24) :: (b5, .cells #[.int .i64 nt.kind, .int .i64 nt.num, .slice A77 nt.kids.length k77] 24) :: (b3, .cells #[.int .i64 ((al (fn idt (fn (vr 0) (vr 0)))).kind), .int .i64 ((al (fn idt (fn (vr 0) (vr 0)))).num), .slice A68 ((al (fn idt (fn (vr 0) (vr 0)))).kids.length) k68] 24) :: (b2, .cells #[.int .i64 t0.kind, .int .i64 t0.num, .slice A62 t0.kids.length k62] 24) :: (b1, .cells #[.int .i64 idt.kind, .int .i64 idt.num, .slice A57 idt.kids.length k57] 24) :: L) w) ∨ ((m = 2 ∧ EqS ρ [(298, .slice (some ⟨b9, 0, none⟩) 6 6), (299, .int .i64 6), (300, .int .i64 4)] ∧ St G ((b9, .cells #[.string (bs [98]), .int .i64 0, .string (bs [97]), .int .i64 1, .string (bs [97, 108, 108, 32, 98, 46, 32, 98]), .int .i64 4, .string (bs [40, 78, 41]), .int .i64 2, .string (bs [78, 32, 45, 62, 32]), .int .i64 5, .string (bs [78, 32, 45, 62, 78]), .int .i64 4] 81) :: (b8, .cells #[.int .i64 ((fn nt nt).kind), .int .i64 ((fn nt nt).num), .slice A93 ((fn nt nt).kids.length) k93] 24) :: (b7, .cells #[.int .i64 t0.kind, .int .i64 t0.num, .slice A86 t0.kids.length k86] 24) :: (b5, .cells #[.int .i64 nt.kind, .int .i64 nt.num, .slice A77 nt.kids.length k77] 24) :: (b3, .cells #[.int .i64 ((al (fn idt (fn (vr 0) (vr 0)))).kind), .int .i64 ((al (fn idt (fn (vr 0) (vr 0)))).num), .slice A68 ((al (fn idt (fn (vr 0) (vr 0)))).kids.length) k68] 24) :: (b2, .cells #[.int .i64 t0.kind, .int .i64 t0.num, .slice A62 t0.kids.length k62] 24) :: (b1, .cells #[.int .i64 idt.kind, .int .i64 idt.num, .slice A57 idt.kids.length k57] 24) :: L) w) ∨ ((m = 1 ∧ EqS ρ [(298, .slice (some ⟨b9, 0, none⟩) 6 6), (299, .int .i64 6), (300, .int .i64 5)] ∧ St G ((b9, .cells #[.string (bs [98]), .int .i64 0, .string (bs [97]), .int .i64 1, .string (bs [97, 108, 108, 32, 98, 46, 32, 98]), .int .i64 4, .string (bs [40, 78, 41]), .int .i64 2, .string (bs [78, 32, 45, 62, 32]), .int .i64 5, .string (bs [78, 32, 45, 62, 78]), .int .i64 4] 81) :: (b8, .cells #[.int .i64 ((fn nt nt).kind), .int .i64 ((fn nt nt).num), .slice A93 ((fn nt nt).kids.length) k93] 24) :: (b7, .cells #[.int .i64 t0.kind, .int .i64 t0.num, .slice A86 t0.kids.length k86] 24) :: (b5, .cells #[.int .i64 nt.kind, .int .i64 nt.num, .slice A77 nt.kids.length k77] 24) :: (b3, .cells #[.int .i64 ((al (fn idt (fn (vr 0) (vr 0)))).kind), .int .i64 ((al (fn idt (fn (vr 0) (vr 0)))).num), .slice A68 ((al (fn idt (fn (vr 0) (vr 0)))).kids.length) k68] 24) :: (b2, .cells #[.int .i64 t0.kind, .int .i64 t0.num, .slice A62 t0.kids.length k62] 24) :: (b1, .cells #[.int .i64 idt.kind, .int .i64 idt.num, .slice A57 idt.kids.length k57] 24) :: L) w) ∨ ((m = 0 ∧ EqS ρ [(298, .slice (some ⟨b9, 0, none⟩) 6 6), (299, .int .i64 6), (300, .int .i64 6)] ∧ St G ((b9, .cells #[.string (bs [98]), .int .i64 0, .string (bs [97]), .int .i64 1, .string (bs [97, 108, 108, 32, 98, 46, 32, 98]), .int .i64 4, .string (bs [40, 78, 41]), .int .i64 2, .string (bs [78, 32, 45, 62, 32]), .int .i64 5, .string (bs [78, 32, 45, 62, 78]), .int .i64 4] 81) :: (b8, .cells #[.int .i64 ((fn nt nt).kind), .int .i64 ((fn nt nt).num), .slice A93 ((fn nt nt).kids.length) k93] 24) :: (b7, .cells #[.int .i64 t0.kind, .int .i64 t0.num, .slice A86 t0.kids.length k86] 24) :: (b5, .cells #[.int .i64 nt.kind, .int .i64 nt.num, .slice A77 nt.kids.length k77] 24) :: (b3, .cells #[.int .i64 ((al (fn idt (fn (vr 0) (vr 0)))).kind), .int .i64 ((al (fn idt (fn (vr 0) (vr 0)))).num), .slice A68 ((al (fn idt (fn (vr 0) (vr 0)))).kids.length) k68] 24) :: (b2, .cells #[.int .i64 t0.kind, .int .i64 t0.num, .slice A62 t0.kids.length k62] 24) :: (b1, .cells #[.int .i64 idt.kind, .int .i64 idt.num, .slice A57 idt.kids.length k57] 24) :: L) w))))))))) 6 ⟨rfl, .inl (⟨rfl, ⟨by kernel_rfl, by kernel_rfl, by kernel_rfl, trivial⟩, hst⟩)⟩ ?_
 clear hst; rintro m ρ D w1 ⟨rfl, ⟨rfl, hE, hst⟩ | ⟨rfl, hE, hst⟩ | ⟨rfl, hE, hst⟩ | ⟨rfl, hE, hst⟩ | ⟨rfl, hE, hst⟩ | ⟨rfl, hE, hst⟩ | ⟨rfl, hE, hst⟩⟩
 ·refine W_env hE ?_
  refine W_seq ?_
  refine W_rg [(.p, 0)] hst ?_
  refine r_en [] [] [(301, .bool true)] rc_nil ?_
  refine W_seq ?_
  refine W_cT ?_
  refine W_skip ?_
  refine W_seq ?_
  refine W_block ?_
  refine W_seq ?_
  refine W_rg [(.p, 0), (.l, 1), (.f, 2), (.f, 3)] hst ?_
  refine r_sg [(.p, 0), (.l, 1)] [[.string (bs [98]), .int .i64 0]] [(⟨b9, 0, none⟩, .string (bs [98])), (⟨b9, 1, none⟩, .int .i64 0)] [(302, .pointer (some ⟨b9, 0, none⟩)), (303, .agg #[.string (bs [98]), .int .i64 0])] (rc_L 0 rfl rfl (rc_L 0 rfl rfl rc_nil)) ?_
  refine m_new (.cells #[.string (bs []), .int .i64 0] 81) (fun b22 => .pointer (some ⟨b22, 0, none⟩)) (some 23) (fun b => by kernel_rfl) hst (fun b22 w1 hst => ?_)
  refine m_st ((b22, .cells #[.string (bs [98]), .int .i64 0] 81) :: (b9, .cells #[.string (bs [98]), .int .i64 0, .string (bs [97]), .int .i64 1, .string (bs [97, 108, 108, 32, 98, 46, 32, 98]), .int .i64 4, .string (bs [40, 78, 41]), .int .i64 2, .string (bs [78, 32, 45, 62, 32]), .int .i64 5, .string (bs [78, 32, 45, 62, 78]), .int .i64 4] 81) :: (b8, .cells #[.int .i64 ((fn nt nt).kind), .int .i64 ((fn nt nt).num), .slice A93 ((fn nt nt).kids.length) k93] 24) :: (b7, .cells #[.int .i64 t0.kind, .int .i64 t0.num, .slice A86 t0.kids.length k86] 24) :: (b5, .cells #[.int .i64 nt.kind, .int .i64 nt.num, .slice A77 nt.kids.length k77] 24) :: (b3, .cells #[.int .i64 ((al (fn idt (fn (vr 0) (vr 0)))).kind), .int .i64 ((al (fn idt (fn (vr 0) (vr 0)))).num), .slice A68 ((al (fn idt (fn (vr 0) (vr 0)))).kids.length) k68] 24) :: (b2, .cells #[.int .i64 t0.kind, .int .i64 t0.num, .slice A62 t0.kids.length k62] 24) :: (b1, .cells #[.int .i64 idt.kind, .int .i64 idt.num, .slice A57 idt.kids.length k57] 24) :: L) 0 [(0, .string (bs [98])), (1, .int .i64 0)] [.string (bs [98]), .int .i64 0] none hst (fun w1 hst => ?_)
  refine r_nil ?_
  refine W_seq ?_
  refine W_rg [(.p, 0), (.l, 1), (.f, 2), (.p, 3), (.p, 4), (.p, 5), (.p, 6), (.f, 7), (.f, 8), (.p, 9), (.p, 10)] hst ?_
  refine r_sg [(.p, 0), (.l, 1)] [[.string (bs [98])]] [(⟨b22, 0, none⟩, .string (bs [98]))] [(305, .pointer (some ⟨b22, 0, none⟩)), (306, .string (bs [98]))] (rc_L 0 rfl rfl rc_nil) ?_
  refine m_cl #[.string (bs [98])] (some 307) (c16 (by decide) hst aw14) ?_
  rintro _ w1 ⟨G111, zA, zc, rfl, hG111, _, hst⟩
  refine nx hst ?_
  refine r_sg [(.p, 3), (.p, 4), (.p, 5), (.p, 6)] [] [] [(304, .tuple #[.agg #[.int .i64 t0.kind, .int .i64 t0.num, .slice zA t0.kids.length zc], .int .i64 0, .int .i64 4]), (308, .agg #[.int .i64 t0.kind, .int .i64 t0.num, .slice zA t0.kids.length zc]), (309, .int .i64 0), (310, .int .i64 4)] rc_nil ?_
  refine m_new (.cells #[.int .i64 0, .int .i64 0, .slice none 0 0] 24) (fun b23 => .pointer (some ⟨b23, 0, none⟩)) (some 24) (fun b => by kernel_rfl) hst (fun b23 w1 hst => ?_)
  refine m_st ((b23, .cells #[.int .i64 t0.kind, .int .i64 t0.num, .slice zA t0.kids.length zc] 24) :: (b22, .cells #[.string (bs [98]), .int .i64 0] 81) :: (b9, .cells #[.string (bs [98]), .int .i64 0, .string (bs [97]), .int .i64 1, .string (bs [97, 108, 108, 32, 98, 46, 32, 98]), .int .i64 4, .string (bs [40, 78, 41]), .int .i64 2, .string (bs [78, 32, 45, 62, 32]), .int .i64 5, .string (bs [78, 32, 45, 62, 78]), .int .i64 4] 81) :: (b8, .cells #[.int .i64 ((fn nt nt).kind), .int .i64 ((fn nt nt).num), .slice A93 ((fn nt nt).kids.length) k93] 24) :: (b7, .cells #[.int .i64 t0.kind, .int .i64 t0.num, .slice A86 t0.kids.length k86] 24) :: (b5, .cells #[.int .i64 nt.kind, .int .i64 nt.num, .slice A77 nt.kids.length k77] 24) :: (b3, .cells #[.int .i64 ((al (fn idt (fn (vr 0) (vr 0)))).kind), .int .i64 ((al (fn idt (fn (vr 0) (vr 0)))).num), .slice A68 ((al (fn idt (fn (vr 0) (vr 0)))).kids.length) k68] 24) :: (b2, .cells #[.int .i64 t0.kind, .int .i64 t0.num, .slice A62 t0.kids.length k62] 24) :: (b1, .cells #[.int .i64 idt.kind, .int .i64 idt.num, .slice A57 idt.kids.length k57] 24) :: L) 0 [(0, .int .i64 t0.kind), (1, .int .i64 t0.num), (2, .slice zA t0.kids.length zc)] [.int .i64 t0.kind, .int .i64 t0.num, .slice zA t0.kids.length zc] none hst (fun w1 hst => ?_)
  refine r_en [] [] [(25, .int .i64 0), (26, .int .i64 4)] rc_nil ?_
  refine W_seq ?_
  refine W_rg [(.p, 0), (.p, 1), (.l, 2), (.p, 3), (.p, 4), (.p, 5), (.p, 6), (.p, 7)] hst ?_
  refine r_en [[.int .i64 0]] [(⟨b22, 1, none⟩, .int .i64 0)] [(311, .int .i64 0), (312, .pointer (some ⟨b22, 1, none⟩)), (313, .int .i64 0), (314, .bool false), (315, .bool false), (316, .int .i64 4), (317, .bool false), (318, .bool false)] (rc_L 1 rfl rfl rc_nil) ?_
  refine W_cF ?_
  refine W_skip ?_
  replace hst := hst.weak (hG111)
  have hst := hst.drop [_, _]
  refine W_rg [(.p, 0), (.p, 1)] hst ?_
  refine r_en [] [] [(319, .int .i64 1), (300, .int .i64 1)] rc_nil ?_
  exact ⟨5, by decide, rfl, .inr (.inl (⟨rfl, ⟨by kernel_rfl, by kernel_rfl, by kernel_rfl, trivial⟩, hst⟩))⟩
 ·refine W_env hE ?_
  refine W_seq ?_
  refine W_rg [(.p, 0)] hst ?_
  refine r_en [] [] [(301, .bool true)] rc_nil ?_
  refine W_seq ?_
  refine W_cT ?_
  refine W_skip ?_
  refine W_seq ?_
  refine W_block ?_
  refine W_seq ?_
  refine W_rg [(.p, 0), (.l, 1), (.f, 2), (.f, 3)] hst ?_
  refine r_sg [(.p, 0), (.l, 1)] [[.string (bs [97]), .int .i64 1]] [(⟨b9, 2, none⟩, .string (bs [97])), (⟨b9, 3, none⟩, .int .i64 1)] [(302, .pointer (some ⟨b9, 2, none⟩)), (303, .agg #[.string (bs [97]), .int .i64 1])] (rc_L 0 rfl rfl (rc_L 0 rfl rfl rc_nil)) ?_
  refine m_new (.cells #[.string (bs []), .int .i64 0] 81) (fun b24 => .pointer (some ⟨b24, 0, none⟩)) (some 23) (fun b => by kernel_rfl) hst (fun b24 w1 hst => ?_)
  refine m_st ((b24, .cells #[.string (bs [97]), .int .i64 1] 81) :: (b9, .cells #[.string (bs [98]), .int .i64 0, .string (bs [97]), .int .i64 1, .string (bs [97, 108, 108, 32, 98, 46, 32, 98]), .int .i64 4, .string (bs [40, 78, 41]), .int .i64 2, .string (bs [78, 32, 45, 62, 32]), .int .i64 5, .string (bs [78, 32, 45, 62, 78]), .int .i64 4] 81) :: (b8, .cells #[.int .i64 ((fn nt nt).kind), .int .i64 ((fn nt nt).num), .slice A93 ((fn nt nt).kids.length) k93] 24) :: (b7, .cells #[.int .i64 t0.kind, .int .i64 t0.num, .slice A86 t0.kids.length k86] 24) :: (b5, .cells #[.int .i64 nt.kind, .int .i64 nt.num, .slice A77 nt.kids.length k77] 24) :: (b3, .cells #[.int .i64 ((al (fn idt (fn (vr 0) (vr 0)))).kind), .int .i64 ((al (fn idt (fn (vr 0) (vr 0)))).num), .slice A68 ((al (fn idt (fn (vr 0) (vr 0)))).kids.length) k68] 24) :: (b2, .cells #[.int .i64 t0.kind, .int .i64 t0.num, .slice A62 t0.kids.length k62] 24) :: (b1, .cells #[.int .i64 idt.kind, .int .i64 idt.num, .slice A57 idt.kids.length k57] 24) :: L) 0 [(0, .string (bs [97])), (1, .int .i64 1)] [.string (bs [97]), .int .i64 1] none hst (fun w1 hst => ?_)
  refine r_nil ?_
  refine W_seq ?_
  refine W_rg [(.p, 0), (.l, 1), (.f, 2), (.p, 3), (.p, 4), (.p, 5), (.p, 6), (.f, 7), (.f, 8), (.p, 9), (.p, 10)] hst ?_
  refine r_sg [(.p, 0), (.l, 1)] [[.string (bs [97])]] [(⟨b24, 0, none⟩, .string (bs [97]))] [(305, .pointer (some ⟨b24, 0, none⟩)), (306, .string (bs [97]))] (rc_L 0 rfl rfl rc_nil) ?_
  refine m_cl #[.string (bs [97])] (some 307) (c16 (by decide) hst aw15) ?_
  rintro _ w1 ⟨G112, zA, zc, rfl, hG112, _, hst⟩
  refine nx hst ?_
  refine r_sg [(.p, 3), (.p, 4), (.p, 5), (.p, 6)] [] [] [(304, .tuple #[.agg #[.int .i64 t0.kind, .int .i64 t0.num, .slice zA t0.kids.length zc], .int .i64 1, .int .i64 4]), (308, .agg #[.int .i64 t0.kind, .int .i64 t0.num, .slice zA t0.kids.length zc]), (309, .int .i64 1), (310, .int .i64 4)] rc_nil ?_
  refine m_new (.cells #[.int .i64 0, .int .i64 0, .slice none 0 0] 24) (fun b25 => .pointer (some ⟨b25, 0, none⟩)) (some 24) (fun b => by kernel_rfl) hst (fun b25 w1 hst => ?_)
  refine m_st ((b25, .cells #[.int .i64 t0.kind, .int .i64 t0.num, .slice zA t0.kids.length zc] 24) :: (b24, .cells #[.string (bs [97]), .int .i64 1] 81) :: (b9, .cells #[.string (bs [98]), .int .i64 0, .string (bs [97]), .int .i64 1, .string (bs [97, 108, 108, 32, 98, 46, 32, 98]), .int .i64 4, .string (bs [40, 78, 41]), .int .i64 2, .string (bs [78, 32, 45, 62, 32]), .int .i64 5, .string (bs [78, 32, 45, 62, 78]), .int .i64 4] 81) :: (b8, .cells #[.int .i64 ((fn nt nt).kind), .int .i64 ((fn nt nt).num), .slice A93 ((fn nt nt).kids.length) k93] 24) :: (b7, .cells #[.int .i64 t0.kind, .int .i64 t0.num, .slice A86 t0.kids.length k86] 24) :: (b5, .cells #[.int .i64 nt.kind, .int .i64 nt.num, .slice A77 nt.kids.length k77] 24) :: (b3, .cells #[.int .i64 ((al (fn idt (fn (vr 0) (vr 0)))).kind), .int .i64 ((al (fn idt (fn (vr 0) (vr 0)))).num), .slice A68 ((al (fn idt (fn (vr 0) (vr 0)))).kids.length) k68] 24) :: (b2, .cells #[.int .i64 t0.kind, .int .i64 t0.num, .slice A62 t0.kids.length k62] 24) :: (b1, .cells #[.int .i64 idt.kind, .int .i64 idt.num, .slice A57 idt.kids.length k57] 24) :: L) 0 [(0, .int .i64 t0.kind), (1, .int .i64 t0.num), (2, .slice zA t0.kids.length zc)] [.int .i64 t0.kind, .int .i64 t0.num, .slice zA t0.kids.length zc] none hst (fun w1 hst => ?_)
  refine r_en [] [] [(25, .int .i64 1), (26, .int .i64 4)] rc_nil ?_
  refine W_seq ?_
  refine W_rg [(.p, 0), (.p, 1), (.l, 2), (.p, 3), (.p, 4), (.p, 5), (.p, 6), (.p, 7)] hst ?_
  refine r_en [[.int .i64 1]] [(⟨b24, 1, none⟩, .int .i64 1)] [(311, .int .i64 1), (312, .pointer (some ⟨b24, 1, none⟩)), (313, .int .i64 1), (314, .bool false), (315, .bool false), (316, .int .i64 4), (317, .bool false), (318, .bool false)] (rc_L 1 rfl rfl rc_nil) ?_
  refine W_cF ?_
  refine W_skip ?_
  replace hst := hst.weak (hG112)
  have hst := hst.drop [_, _]
  refine W_rg [(.p, 0), (.p, 1)] hst ?_
  refine r_en [] [] [(319, .int .i64 2), (300, .int .i64 2)] rc_nil ?_
  exact ⟨4, by decide, rfl, .inr (.inr (.inl (⟨rfl, ⟨by kernel_rfl, by kernel_rfl, by kernel_rfl, trivial⟩, hst⟩)))⟩
 ·refine W_env hE ?_
  refine W_seq ?_
  refine W_rg [(.p, 0)] hst ?_
  refine r_en [] [] [(301, .bool true)] rc_nil ?_
  refine W_seq ?_
  refine W_cT ?_
  refine W_skip ?_
  refine W_seq ?_
  refine W_block ?_
  refine W_seq ?_
  refine W_rg [(.p, 0), (.l, 1), (.f, 2), (.f, 3)] hst ?_
  refine r_sg [(.p, 0), (.l, 1)] [[.string (bs [97, 108, 108, 32, 98, 46, 32, 98]), .int .i64 4]] [(⟨b9, 4, none⟩, .string (bs [97, 108, 108, 32, 98, 46, 32, 98])), (⟨b9, 5, none⟩, .int .i64 4)] [(302, .pointer (some ⟨b9, 4, none⟩)), (303, .agg #[.string (bs [97, 108, 108, 32, 98, 46, 32, 98]), .int .i64 4])] (rc_L 0 rfl rfl (rc_L 0 rfl rfl rc_nil)) ?_
  refine m_new (.cells #[.string (bs []), .int .i64 0] 81) (fun b26 => .pointer (some ⟨b26, 0, none⟩)) (some 23) (fun b => by kernel_rfl) hst (fun b26 w1 hst => ?_)
  refine m_st ((b26, .cells #[.string (bs [97, 108, 108, 32, 98, 46, 32, 98]), .int .i64 4] 81) :: (b9, .cells #[.string (bs [98]), .int .i64 0, .string (bs [97]), .int .i64 1, .string (bs [97, 108, 108, 32, 98, 46, 32, 98]), .int .i64 4, .string (bs [40, 78, 41]), .int .i64 2, .string (bs [78, 32, 45, 62, 32]), .int .i64 5, .string (bs [78, 32, 45, 62, 78]), .int .i64 4] 81) :: (b8, .cells #[.int .i64 ((fn nt nt).kind), .int .i64 ((fn nt nt).num), .slice A93 ((fn nt nt).kids.length) k93] 24) :: (b7, .cells #[.int .i64 t0.kind, .int .i64 t0.num, .slice A86 t0.kids.length k86] 24) :: (b5, .cells #[.int .i64 nt.kind, .int .i64 nt.num, .slice A77 nt.kids.length k77] 24) :: (b3, .cells #[.int .i64 ((al (fn idt (fn (vr 0) (vr 0)))).kind), .int .i64 ((al (fn idt (fn (vr 0) (vr 0)))).num), .slice A68 ((al (fn idt (fn (vr 0) (vr 0)))).kids.length) k68] 24) :: (b2, .cells #[.int .i64 t0.kind, .int .i64 t0.num, .slice A62 t0.kids.length k62] 24) :: (b1, .cells #[.int .i64 idt.kind, .int .i64 idt.num, .slice A57 idt.kids.length k57] 24) :: L) 0 [(0, .string (bs [97, 108, 108, 32, 98, 46, 32, 98])), (1, .int .i64 4)] [.string (bs [97, 108, 108, 32, 98, 46, 32, 98]), .int .i64 4] none hst (fun w1 hst => ?_)
  refine r_nil ?_
  refine W_seq ?_
  refine W_rg [(.p, 0), (.l, 1), (.f, 2), (.p, 3), (.p, 4), (.p, 5), (.p, 6), (.f, 7), (.f, 8), (.p, 9), (.p, 10)] hst ?_
  refine r_sg [(.p, 0), (.l, 1)] [[.string (bs [97, 108, 108, 32, 98, 46, 32, 98])]] [(⟨b26, 0, none⟩, .string (bs [97, 108, 108, 32, 98, 46, 32, 98]))] [(305, .pointer (some ⟨b26, 0, none⟩)), (306, .string (bs [97, 108, 108, 32, 98, 46, 32, 98]))] (rc_L 0 rfl rfl rc_nil) ?_
  refine m_cl #[.string (bs [97, 108, 108, 32, 98, 46, 32, 98])] (some 307) (c16 (by decide) hst aw16) ?_
  rintro _ w1 ⟨G113, zA, zc, rfl, hG113, _, hst⟩
  refine nx hst ?_
  refine r_sg [(.p, 3), (.p, 4), (.p, 5), (.p, 6)] [] [] [(304, .tuple #[.agg #[.int .i64 t0.kind, .int .i64 t0.num, .slice zA t0.kids.length zc], .int .i64 4, .int .i64 4]), (308, .agg #[.int .i64 t0.kind, .int .i64 t0.num, .slice zA t0.kids.length zc]), (309, .int .i64 4), (310, .int .i64 4)] rc_nil ?_
  refine m_new (.cells #[.int .i64 0, .int .i64 0, .slice none 0 0] 24) (fun b27 => .pointer (some ⟨b27, 0, none⟩)) (some 24) (fun b => by kernel_rfl) hst (fun b27 w1 hst => ?_)
  refine m_st ((b27, .cells #[.int .i64 t0.kind, .int .i64 t0.num, .slice zA t0.kids.length zc] 24) :: (b26, .cells #[.string (bs [97, 108, 108, 32, 98, 46, 32, 98]), .int .i64 4] 81) :: (b9, .cells #[.string (bs [98]), .int .i64 0, .string (bs [97]), .int .i64 1, .string (bs [97, 108, 108, 32, 98, 46, 32, 98]), .int .i64 4, .string (bs [40, 78, 41]), .int .i64 2, .string (bs [78, 32, 45, 62, 32]), .int .i64 5, .string (bs [78, 32, 45, 62, 78]), .int .i64 4] 81) :: (b8, .cells #[.int .i64 ((fn nt nt).kind), .int .i64 ((fn nt nt).num), .slice A93 ((fn nt nt).kids.length) k93] 24) :: (b7, .cells #[.int .i64 t0.kind, .int .i64 t0.num, .slice A86 t0.kids.length k86] 24) :: (b5, .cells #[.int .i64 nt.kind, .int .i64 nt.num, .slice A77 nt.kids.length k77] 24) :: (b3, .cells #[.int .i64 ((al (fn idt (fn (vr 0) (vr 0)))).kind), .int .i64 ((al (fn idt (fn (vr 0) (vr 0)))).num), .slice A68 ((al (fn idt (fn (vr 0) (vr 0)))).kids.length) k68] 24) :: (b2, .cells #[.int .i64 t0.kind, .int .i64 t0.num, .slice A62 t0.kids.length k62] 24) :: (b1, .cells #[.int .i64 idt.kind, .int .i64 idt.num, .slice A57 idt.kids.length k57] 24) :: L) 0 [(0, .int .i64 t0.kind), (1, .int .i64 t0.num), (2, .slice zA t0.kids.length zc)] [.int .i64 t0.kind, .int .i64 t0.num, .slice zA t0.kids.length zc] none hst (fun w1 hst => ?_)
  refine r_en [] [] [(25, .int .i64 4), (26, .int .i64 4)] rc_nil ?_
  refine W_seq ?_
  refine W_rg [(.p, 0), (.p, 1), (.l, 2), (.p, 3), (.p, 4), (.p, 5), (.p, 6), (.p, 7)] hst ?_
  refine r_en [[.int .i64 4]] [(⟨b26, 1, none⟩, .int .i64 4)] [(311, .int .i64 4), (312, .pointer (some ⟨b26, 1, none⟩)), (313, .int .i64 4), (314, .bool false), (315, .bool false), (316, .int .i64 4), (317, .bool false), (318, .bool false)] (rc_L 1 rfl rfl rc_nil) ?_
  refine W_cF ?_
  refine W_skip ?_
  replace hst := hst.weak (hG113)
  have hst := hst.drop [_, _]
  refine W_rg [(.p, 0), (.p, 1)] hst ?_
  refine r_en [] [] [(319, .int .i64 3), (300, .int .i64 3)] rc_nil ?_
  exact ⟨3, by decide, rfl, .inr (.inr (.inr (.inl (⟨rfl, ⟨by kernel_rfl, by kernel_rfl, by kernel_rfl, trivial⟩, hst⟩))))⟩
 ·refine W_env hE ?_
  refine W_seq ?_
  refine W_rg [(.p, 0)] hst ?_
  refine r_en [] [] [(301, .bool true)] rc_nil ?_
  refine W_seq ?_
  refine W_cT ?_
  refine W_skip ?_
  refine W_seq ?_
  refine W_block ?_
  refine W_seq ?_
  refine W_rg [(.p, 0), (.l, 1), (.f, 2), (.f, 3)] hst ?_
  refine r_sg [(.p, 0), (.l, 1)] [[.string (bs [40, 78, 41]), .int .i64 2]] [(⟨b9, 6, none⟩, .string (bs [40, 78, 41])), (⟨b9, 7, none⟩, .int .i64 2)] [(302, .pointer (some ⟨b9, 6, none⟩)), (303, .agg #[.string (bs [40, 78, 41]), .int .i64 2])] (rc_L 0 rfl rfl (rc_L 0 rfl rfl rc_nil)) ?_
  refine m_new (.cells #[.string (bs []), .int .i64 0] 81) (fun b28 => .pointer (some ⟨b28, 0, none⟩)) (some 23) (fun b => by kernel_rfl) hst (fun b28 w1 hst => ?_)
  refine m_st ((b28, .cells #[.string (bs [40, 78, 41]), .int .i64 2] 81) :: (b9, .cells #[.string (bs [98]), .int .i64 0, .string (bs [97]), .int .i64 1, .string (bs [97, 108, 108, 32, 98, 46, 32, 98]), .int .i64 4, .string (bs [40, 78, 41]), .int .i64 2, .string (bs [78, 32, 45, 62, 32]), .int .i64 5, .string (bs [78, 32, 45, 62, 78]), .int .i64 4] 81) :: (b8, .cells #[.int .i64 ((fn nt nt).kind), .int .i64 ((fn nt nt).num), .slice A93 ((fn nt nt).kids.length) k93] 24) :: (b7, .cells #[.int .i64 t0.kind, .int .i64 t0.num, .slice A86 t0.kids.length k86] 24) :: (b5, .cells #[.int .i64 nt.kind, .int .i64 nt.num, .slice A77 nt.kids.length k77] 24) :: (b3, .cells #[.int .i64 ((al (fn idt (fn (vr 0) (vr 0)))).kind), .int .i64 ((al (fn idt (fn (vr 0) (vr 0)))).num), .slice A68 ((al (fn idt (fn (vr 0) (vr 0)))).kids.length) k68] 24) :: (b2, .cells #[.int .i64 t0.kind, .int .i64 t0.num, .slice A62 t0.kids.length k62] 24) :: (b1, .cells #[.int .i64 idt.kind, .int .i64 idt.num, .slice A57 idt.kids.length k57] 24) :: L) 0 [(0, .string (bs [40, 78, 41])), (1, .int .i64 2)] [.string (bs [40, 78, 41]), .int .i64 2] none hst (fun w1 hst => ?_)
  refine r_nil ?_
  refine W_seq ?_
  refine W_rg [(.p, 0), (.l, 1), (.f, 2), (.p, 3), (.p, 4), (.p, 5), (.p, 6), (.f, 7), (.f, 8), (.p, 9), (.p, 10)] hst ?_
  refine r_sg [(.p, 0), (.l, 1)] [[.string (bs [40, 78, 41])]] [(⟨b28, 0, none⟩, .string (bs [40, 78, 41]))] [(305, .pointer (some ⟨b28, 0, none⟩)), (306, .string (bs [40, 78, 41]))] (rc_L 0 rfl rfl rc_nil) ?_
  refine m_cl #[.string (bs [40, 78, 41])] (some 307) (c16 (by decide) hst aw17) ?_
  rintro _ w1 ⟨G114, zA, zc, rfl, hG114, _, hst⟩
  refine nx hst ?_
  refine r_sg [(.p, 3), (.p, 4), (.p, 5), (.p, 6)] [] [] [(304, .tuple #[.agg #[.int .i64 t0.kind, .int .i64 t0.num, .slice zA t0.kids.length zc], .int .i64 2, .int .i64 4]), (308, .agg #[.int .i64 t0.kind, .int .i64 t0.num, .slice zA t0.kids.length zc]), (309, .int .i64 2), (310, .int .i64 4)] rc_nil ?_
  refine m_new (.cells #[.int .i64 0, .int .i64 0, .slice none 0 0] 24) (fun b29 => .pointer (some ⟨b29, 0, none⟩)) (some 24) (fun b => by kernel_rfl) hst (fun b29 w1 hst => ?_)
  refine m_st ((b29, .cells #[.int .i64 t0.kind, .int .i64 t0.num, .slice zA t0.kids.length zc] 24) :: (b28, .cells #[.string (bs [40, 78, 41]), .int .i64 2] 81) :: (b9, .cells #[.string (bs [98]), .int .i64 0, .string (bs [97]), .int .i64 1, .string (bs [97, 108, 108, 32, 98, 46, 32, 98]), .int .i64 4, .string (bs [40, 78, 41]), .int .i64 2, .string (bs [78, 32, 45, 62, 32]), .int .i64 5, .string (bs [78, 32, 45, 62, 78]), .int .i64 4] 81) :: (b8, .cells #[.int .i64 ((fn nt nt).kind), .int .i64 ((fn nt nt).num), .slice A93 ((fn nt nt).kids.length) k93] 24) :: (b7, .cells #[.int .i64 t0.kind, .int .i64 t0.num, .slice A86 t0.kids.length k86] 24) :: (b5, .cells #[.int .i64 nt.kind, .int .i64 nt.num, .slice A77 nt.kids.length k77] 24) :: (b3, .cells #[.int .i64 ((al (fn idt (fn (vr 0) (vr 0)))).kind), .int .i64 ((al (fn idt (fn (vr 0) (vr 0)))).num), .slice A68 ((al (fn idt (fn (vr 0) (vr 0)))).kids.length) k68] 24) :: (b2, .cells #[.int .i64 t0.kind, .int .i64 t0.num, .slice A62 t0.kids.length k62] 24) :: (b1, .cells #[.int .i64 idt.kind, .int .i64 idt.num, .slice A57 idt.kids.length k57] 24) :: L) 0 [(0, .int .i64 t0.kind), (1, .int .i64 t0.num), (2, .slice zA t0.kids.length zc)] [.int .i64 t0.kind, .int .i64 t0.num, .slice zA t0.kids.length zc] none hst (fun w1 hst => ?_)
  refine r_en [] [] [(25, .int .i64 2), (26, .int .i64 4)] rc_nil ?_
  refine W_seq ?_
  refine W_rg [(.p, 0), (.p, 1), (.l, 2), (.p, 3), (.p, 4), (.p, 5), (.p, 6), (.p, 7)] hst ?_
  refine r_en [[.int .i64 2]] [(⟨b28, 1, none⟩, .int .i64 2)] [(311, .int .i64 2), (312, .pointer (some ⟨b28, 1, none⟩)), (313, .int .i64 2), (314, .bool false), (315, .bool false), (316, .int .i64 4), (317, .bool false), (318, .bool false)] (rc_L 1 rfl rfl rc_nil) ?_
  refine W_cF ?_
  refine W_skip ?_
  replace hst := hst.weak (hG114)
  have hst := hst.drop [_, _]
  refine W_rg [(.p, 0), (.p, 1)] hst ?_
  refine r_en [] [] [(319, .int .i64 4), (300, .int .i64 4)] rc_nil ?_
  exact ⟨2, by decide, rfl, .inr (.inr (.inr (.inr (.inl (⟨rfl, ⟨by kernel_rfl, by kernel_rfl, by kernel_rfl, trivial⟩, hst⟩)))))⟩
 ·refine W_env hE ?_
  refine W_seq ?_
  refine W_rg [(.p, 0)] hst ?_
  refine r_en [] [] [(301, .bool true)] rc_nil ?_
  refine W_seq ?_
  refine W_cT ?_
  refine W_skip ?_
  refine W_seq ?_
  refine W_block ?_
  refine W_seq ?_
  refine W_rg [(.p, 0), (.l, 1), (.f, 2), (.f, 3)] hst ?_
  refine r_sg [(.p, 0), (.l, 1)] [[.string (bs [78, 32, 45, 62, 32]), .int .i64 5]] [(⟨b9, 8, none⟩, .string (bs [78, 32, 45, 62, 32])), (⟨b9, 9, none⟩, .int .i64 5)] [(302, .pointer (some ⟨b9, 8, none⟩)), (303, .agg #[.string (bs [78, 32, 45, 62, 32]), .int .i64 5])] (rc_L 0 rfl rfl (rc_L 0 rfl rfl rc_nil)) ?_
  refine m_new (.cells #[.string (bs []), .int .i64 0] 81) (fun b30 => .pointer (some ⟨b30, 0, none⟩)) (some 23) (fun b => by kernel_rfl) hst (fun b30 w1 hst => ?_)
  refine m_st ((b30, .cells #[.string (bs [78, 32, 45, 62, 32]), .int .i64 5] 81) :: (b9, .cells #[.string (bs [98]), .int .i64 0, .string (bs [97]), .int .i64 1, .string (bs [97, 108, 108, 32, 98, 46, 32, 98]), .int .i64 4, .string (bs [40, 78, 41]), .int .i64 2, .string (bs [78, 32, 45, 62, 32]), .int .i64 5, .string (bs [78, 32, 45, 62, 78]), .int .i64 4] 81) :: (b8, .cells #[.int .i64 ((fn nt nt).kind), .int .i64 ((fn nt nt).num), .slice A93 ((fn nt nt).kids.length) k93] 24) :: (b7, .cells #[.int .i64 t0.kind, .int .i64 t0.num, .slice A86 t0.kids.length k86] 24) :: (b5, .cells #[.int .i64 nt.kind, .int .i64 nt.num, .slice A77 nt.kids.length k77] 24) :: (b3, .cells #[.int .i64 ((al (fn idt (fn (vr 0) (vr 0)))).kind), .int .i64 ((al (fn idt (fn (vr 0) (vr 0)))).num), .slice A68 ((al (fn idt (fn (vr 0) (vr 0)))).kids.length) k68] 24) :: (b2, .cells #[.int .i64 t0.kind, .int .i64 t0.num, .slice A62 t0.kids.length k62] 24) :: (b1, .cells #[.int .i64 idt.kind, .int .i64 idt.num, .slice A57 idt.kids.length k57] 24) :: L) 0 [(0, .string (bs [78, 32, 45, 62, 32])), (1, .int .i64 5)] [.string (bs [78, 32, 45, 62, 32]), .int .i64 5] none hst (fun w1 hst => ?_)
  refine r_nil ?_
  refine W_seq ?_
  refine W_rg [(.p, 0), (.l, 1), (.f, 2), (.p, 3), (.p, 4), (.p, 5), (.p, 6), (.f, 7), (.f, 8), (.p, 9), (.p, 10)] hst ?_
  refine r_sg [(.p, 0), (.l, 1)] [[.string (bs [78, 32, 45, 62, 32])]] [(⟨b30, 0, none⟩, .string (bs [78, 32, 45, 62, 32]))] [(305, .pointer (some ⟨b30, 0, none⟩)), (306, .string (bs [78, 32, 45, 62, 32]))] (rc_L 0 rfl rfl rc_nil) ?_
  refine m_cl #[.string (bs [78, 32, 45, 62, 32])] (some 307) (c16 (by decide) hst aw18) ?_
  rintro _ w1 ⟨G115, zA, zc, rfl, hG115, _, hst⟩
  refine nx hst ?_
  refine r_sg [(.p, 3), (.p, 4), (.p, 5), (.p, 6)] [] [] [(304, .tuple #[.agg #[.int .i64 t0.kind, .int .i64 t0.num, .slice zA t0.kids.length zc], .int .i64 5, .int .i64 4]), (308, .agg #[.int .i64 t0.kind, .int .i64 t0.num, .slice zA t0.kids.length zc]), (309, .int .i64 5), (310, .int .i64 4)] rc_nil ?_
  refine m_new (.cells #[.int .i64 0, .int .i64 0, .slice none 0 0] 24) (fun b31 => .pointer (some ⟨b31, 0, none⟩)) (some 24) (fun b => by kernel_rfl) hst (fun b31 w1 hst => ?_)
  refine m_st ((b31, .cells #[.int .i64 t0.kind, .int .i64 t0.num, .slice zA t0.kids.length zc] 24) :: (b30, .cells #[.string (bs [78, 32, 45, 62, 32]), .int .i64 5] 81) :: (b9, .cells #[.string (bs [98]), .int .i64 0, .string (bs [97]), .int .i64 1, .string (bs [97, 108, 108, 32, 98, 46, 32, 98]), .int .i64 4, .string (bs [40, 78, 41]), .int .i64 2, .string (bs [78, 32, 45, 62, 32]), .int .i64 5, .string (bs [78, 32, 45, 62, 78]), .int .i64 4] 81) :: (b8, .cells #[.int .i64 ((fn nt nt).kind), .int .i64 ((fn nt nt).num), .slice A93 ((fn nt nt).kids.length) k93] 24) :: (b7, .cells #[.int .i64 t0.kind, .int .i64 t0.num, .slice A86 t0.kids.length k86] 24) :: (b5, .cells #[.int .i64 nt.kind, .int .i64 nt.num, .slice A77 nt.kids.length k77] 24) :: (b3, .cells #[.int .i64 ((al (fn idt (fn (vr 0) (vr 0)))).kind), .int .i64 ((al (fn idt (fn (vr 0) (vr 0)))).num), .slice A68 ((al (fn idt (fn (vr 0) (vr 0)))).kids.length) k68] 24) :: (b2, .cells #[.int .i64 t0.kind, .int .i64 t0.num, .slice A62 t0.kids.length k62] 24) :: (b1, .cells #[.int .i64 idt.kind, .int .i64 idt.num, .slice A57 idt.kids.length k57] 24) :: L) 0 [(0, .int .i64 t0.kind), (1, .int .i64 t0.num), (2, .slice zA t0.kids.length zc)] [.int .i64 t0.kind, .int .i64 t0.num, .slice zA t0.kids.length zc] none hst (fun w1 hst => ?_)
  refine r_en [] [] [(25, .int .i64 5), (26, .int .i64 4)] rc_nil ?_
  refine W_seq ?_
  refine W_rg [(.p, 0), (.p, 1), (.l, 2), (.p, 3), (.p, 4), (.p, 5), (.p, 6), (.p, 7)] hst ?_
  refine r_en [[.int .i64 5]] [(⟨b30, 1, none⟩, .int .i64 5)] [(311, .int .i64 5), (312, .pointer (some ⟨b30, 1, none⟩)), (313, .int .i64 5), (314, .bool false), (315, .bool false), (316, .int .i64 4), (317, .bool false), (318, .bool false)] (rc_L 1 rfl rfl rc_nil) ?_
  refine W_cF ?_
  refine W_skip ?_
  replace hst := hst.weak (hG115)
  have hst := hst.drop [_, _]
  refine W_rg [(.p, 0), (.p, 1)] hst ?_
  refine r_en [] [] [(319, .int .i64 5), (300, .int .i64 5)] rc_nil ?_
  exact ⟨1, by decide, rfl, .inr (.inr (.inr (.inr (.inr (.inl (⟨rfl, ⟨by kernel_rfl, by kernel_rfl, by kernel_rfl, trivial⟩, hst⟩))))))⟩
 ·refine W_env hE ?_
  refine W_seq ?_
  refine W_rg [(.p, 0)] hst ?_
  refine r_en [] [] [(301, .bool true)] rc_nil ?_
  refine W_seq ?_
  refine W_cT ?_
  refine W_skip ?_
  refine W_seq ?_
  refine W_block ?_
  refine W_seq ?_
  refine W_rg [(.p, 0), (.l, 1), (.f, 2), (.f, 3)] hst ?_
  refine r_sg [(.p, 0), (.l, 1)] [[.string (bs [78, 32, 45, 62, 78]), .int .i64 4]] [(⟨b9, 10, none⟩, .string (bs [78, 32, 45, 62, 78])), (⟨b9, 11, none⟩, .int .i64 4)] [(302, .pointer (some ⟨b9, 10, none⟩)), (303, .agg #[.string (bs [78, 32, 45, 62, 78]), .int .i64 4])] (rc_L 0 rfl rfl (rc_L 0 rfl rfl rc_nil)) ?_
  refine m_new (.cells #[.string (bs []), .int .i64 0] 81) (fun b32 => .pointer (some ⟨b32, 0, none⟩)) (some 23) (fun b => by kernel_rfl) hst (fun b32 w1 hst => ?_)
  refine m_st ((b32, .cells #[.string (bs [78, 32, 45, 62, 78]), .int .i64 4] 81) :: (b9, .cells #[.string (bs [98]), .int .i64 0, .string (bs [97]), .int .i64 1, .string (bs [97, 108, 108, 32, 98, 46, 32, 98]), .int .i64 4, .string (bs [40, 78, 41]), .int .i64 2, .string (bs [78, 32, 45, 62, 32]), .int .i64 5, .string (bs [78, 32, 45, 62, 78]), .int .i64 4] 81) :: (b8, .cells #[.int .i64 ((fn nt nt).kind), .int .i64 ((fn nt nt).num), .slice A93 ((fn nt nt).kids.length) k93] 24) :: (b7, .cells #[.int .i64 t0.kind, .int .i64 t0.num, .slice A86 t0.kids.length k86] 24) :: (b5, .cells #[.int .i64 nt.kind, .int .i64 nt.num, .slice A77 nt.kids.length k77] 24) :: (b3, .cells #[.int .i64 ((al (fn idt (fn (vr 0) (vr 0)))).kind), .int .i64 ((al (fn idt (fn (vr 0) (vr 0)))).num), .slice A68 ((al (fn idt (fn (vr 0) (vr 0)))).kids.length) k68] 24) :: (b2, .cells #[.int .i64 t0.kind, .int .i64 t0.num, .slice A62 t0.kids.length k62] 24) :: (b1, .cells #[.int .i64 idt.kind, .int .i64 idt.num, .slice A57 idt.kids.length k57] 24) :: L) 0 [(0, .string (bs [78, 32, 45, 62, 78])), (1, .int .i64 4)] [.string (bs [78, 32, 45, 62, 78]), .int .i64 4] none hst (fun w1 hst => ?_)
  refine r_nil ?_
  refine W_seq ?_
  refine W_rg [(.p, 0), (.l, 1), (.f, 2), (.p, 3), (.p, 4), (.p, 5), (.p, 6), (.f, 7), (.f, 8), (.p, 9), (.p, 10)] hst ?_
  refine r_sg [(.p, 0), (.l, 1)] [[.string (bs [78, 32, 45, 62, 78])]] [(⟨b32, 0, none⟩, .string (bs [78, 32, 45, 62, 78]))] [(305, .pointer (some ⟨b32, 0, none⟩)), (306, .string (bs [78, 32, 45, 62, 78]))] (rc_L 0 rfl rfl rc_nil) ?_
  refine m_cl #[.string (bs [78, 32, 45, 62, 78])] (some 307) (c16 (by decide) hst aw19) ?_
  rintro _ w1 ⟨G116, zA, zc, rfl, hG116, _, hst⟩
  refine nx hst ?_
  refine r_sg [(.p, 3), (.p, 4), (.p, 5), (.p, 6)] [] [] [(304, .tuple #[.agg #[.int .i64 t0.kind, .int .i64 t0.num, .slice zA t0.kids.length zc], .int .i64 4, .int .i64 4]), (308, .agg #[.int .i64 t0.kind, .int .i64 t0.num, .slice zA t0.kids.length zc]), (309, .int .i64 4), (310, .int .i64 4)] rc_nil ?_
  refine m_new (.cells #[.int .i64 0, .int .i64 0, .slice none 0 0] 24) (fun b33 => .pointer (some ⟨b33, 0, none⟩)) (some 24) (fun b => by kernel_rfl) hst (fun b33 w1 hst => ?_)
  refine m_st ((b33, .cells #[.int .i64 t0.kind, .int .i64 t0.num, .slice zA t0.kids.length zc] 24) :: (b32, .cells #[.string (bs [78, 32, 45, 62, 78]), .int .i64 4] 81) :: (b9, .cells #[.string (bs [98]), .int .i64 0, .string (bs [97]), .int .i64 1, .string (bs [97, 108, 108, 32, 98, 46, 32, 98]), .int .i64 4, .string (bs [40, 78, 41]), .int .i64 2, .string (bs [78, 32, 45, 62, 32]), .int .i64 5, .string (bs [78, 32, 45, 62, 78]), .int .i64 4] 81) :: (b8, .cells #[.int .i64 ((fn nt nt).kind), .int .i64 ((fn nt nt).num), .slice A93 ((fn nt nt).kids.length) k93] 24) :: (b7, .cells #[.int .i64 t0.kind, .int .i64 t0.num, .slice A86 t0.kids.length k86] 24) :: (b5, .cells #[.int .i64 nt.kind, .int .i64 nt.num, .slice A77 nt.kids.length k77] 24) :: (b3, .cells #[.int .i64 ((al (fn idt (fn (vr 0) (vr 0)))).kind), .int .i64 ((al (fn idt (fn (vr 0) (vr 0)))).num), .slice A68 ((al (fn idt (fn (vr 0) (vr 0)))).kids.length) k68] 24) :: (b2, .cells #[.int .i64 t0.kind, .int .i64 t0.num, .slice A62 t0.kids.length k62] 24) :: (b1, .cells #[.int .i64 idt.kind, .int .i64 idt.num, .slice A57 idt.kids.length k57] 24) :: L) 0 [(0, .int .i64 t0.kind), (1, .int .i64 t0.num), (2, .slice zA t0.kids.length zc)] [.int .i64 t0.kind, .int .i64 t0.num, .slice zA t0.kids.length zc] none hst (fun w1 hst => ?_)
  refine r_en [] [] [(25, .int .i64 4), (26, .int .i64 4)] rc_nil ?_
  refine W_seq ?_
  refine W_rg [(.p, 0), (.p, 1), (.l, 2), (.p, 3), (.p, 4), (.p, 5), (.p, 6), (.p, 7)] hst ?_
  refine r_en [[.int .i64 4]] [(⟨b32, 1, none⟩, .int .i64 4)] [(311, .int .i64 4), (312, .pointer (some ⟨b32, 1, none⟩)), (313, .int .i64 4), (314, .bool false), (315, .bool false), (316, .int .i64 4), (317, .bool false), (318, .bool false)] (rc_L 1 rfl rfl rc_nil) ?_
  refine W_cF ?_
  refine W_skip ?_
  replace hst := hst.weak (hG116)
  have hst := hst.drop [_, _]
  refine W_rg [(.p, 0), (.p, 1)] hst ?_
  refine r_en [] [] [(319, .int .i64 6), (300, .int .i64 6)] rc_nil ?_
  exact ⟨0, by decide, rfl, .inr (.inr (.inr (.inr (.inr (.inr (⟨rfl, ⟨by kernel_rfl, by kernel_rfl, by kernel_rfl, trivial⟩, hst⟩))))))⟩
 ·refine W_env hE ?_
  refine W_seq ?_
  refine W_rg [(.p, 0)] hst ?_
  refine r_en [] [] [(301, .bool false)] rc_nil ?_
  refine W_seq ?_
  refine W_cF ?_
  refine W_exit ?_
  refine W_seq ?_
  refine W_rg [(.f, 0), (.f, 1), (.f, 2), (.f, 3), (.p, 4), (.p, 5), (.p, 6), (.p, 7), (.p, 8)] hst ?_
  refine m_cl #[] (some 321) (c48  hst) ?_
  rintro x117 w1 ⟨G117, hG117, hx117, hst⟩
  refine nx hst ?_
  refine m_cl #[] (some 322) (c27  hst) ?_
  rintro x118 w1 ⟨G118, hG118, hx118, hst⟩
  refine nx hst ?_
  refine m_cl #[x117, x118] (some 323) (c26 ((hx117).mono (hG118)) (hx118) hst) ?_
  rintro x119 w1 ⟨G119, hG119, hx119, hst⟩
  refine nx hst ?_
  refine m_cl #[x119] (some 324) (c14 (hx119) (by decide) hst aw20) ?_
  rintro _ w1 ⟨G120, hG120, rfl, hst⟩
  refine nx hst ?_
  refine r_en [] [] [(320, .tuple #[.string (bs [40, 97, 108, 108, 32, 97, 46, 32, 97, 32, 45, 62, 32, 97, 41, 32, 45, 62, 32, 78]), .int .i64 0]), (325, .string (bs [40, 97, 108, 108, 32, 97, 46, 32, 97, 32, 45, 62, 32, 97, 41, 32, 45, 62, 32, 78])), (326, .int .i64 0), (27, .string (bs [40, 97, 108, 108, 32, 97, 46, 32, 97, 32, 45, 62, 32, 97, 41, 32, 45, 62, 32, 78])), (2, .int .i64 0)] rc_nil ?_
  refine W_seq ?_
  refine W_rg [(.p, 0), (.p, 1), (.p, 2), (.p, 3), (.p, 4), (.p, 5), (.p, 6)] hst ?_
  refine r_en [] [] [(327, .int .i64 0), (328, .bool true), (329, .bool true), (330, .string (bs [40, 97, 108, 108, 32, 97, 46, 32, 97, 32, 45, 62, 32, 97, 41, 32, 45, 62, 32, 78])), (331, .bool true), (332, .bool true), (0, .bool true)] rc_nil ?_
  refine W_ret ?_
  refine q_rt [] [] (.bool true) rc_nil hst ?_
  replace hst := hst.weak ((((hG117).trans hG118).trans hG119).trans hG120)
  exact ⟨rfl, hst.drop [_, _, _, _, _, _, _]⟩

end Go.Proofs.Ytjgnhhgigickaaa.Wk
/- The plain laws behind RankTexts: whether a type is right, its text, and the type of a text, are in the program as in the reference. Conditions: none. -/

namespace Go.Proofs.Ytjgnhhgigickaaa.Wk
open Go Md

theorem w64_def (x : Int) : w64 x = (x + 9223372036854775808) % 18446744073709551616 - 9223372036854775808 := by
  unfold w64
  simp only [IntKind.wrap, IntKind.bits, IntKind.signed]
  simp
  split <;> omega
theorem w64_id {x : Int} (h : -9223372036854775808 ≤ x) (h2 : x < 9223372036854775808) : w64 x = x := by rw [w64_def]; omega
theorem w64_l (a b : Int) : w64 (w64 a + b) = w64 (a + b) := by simp only [w64_def]; omega
theorem w64_m (a b : Int) : w64 (w64 a - b) = w64 (a - b) := by simp only [w64_def]; omega

/-! ### right -/
theorem kidsOk_eq {k : Int} {n : Nat} (h : 1 ≤ k) (h2 : k ≤ 4) : (kidsOk k n = false) ↔ (n : Int) ≠ wantsR k := by
  unfold kidsOk wantsR
  by_cases h1 : k = 1
  · subst h1; simp
  by_cases h22 : k = 2
  · subst h22; simp
  by_cases h3 : k = 3
  · subst h3; simp; try omega
  by_cases h4 : k = 4
  · subst h4; simp; try omega
  omega
/-- well formed, as far as kinds and Kids go -/
def wfn (k : Int) (n : Nat) : Prop := (k = 1 ∨ k = 2) ∧ n = 0 ∨ k = 3 ∧ n = 2 ∨ k = 4 ∧ n = 1
mutual
def wf : T → Prop
  | .mk k _ ks => wfn k ks.length ∧ wfs ks
def wfs : List T → Prop
  | [] => True
  | t :: ts => wf t ∧ wfs ts
end
theorem rtNode_eq {ar n m k num wi : Int} {len : Nat} (hm : m ≤ 12) (hw : wi = w64 (ar + n)) :
    rtNode ar n m k num len = (if m ≥ 12 then 2 else if k < 1 ∨ k > 4 ∨ num < 0 ∨ (num > 0 ∧ k ≠ 1) then 3 else if (len : Int) ≠ wantsR k then 4 else if k = 1 ∧ num ≥ wi then 1 else 0) := by
  unfold rtNode
  rw [← hw]
  by_cases h1 : m = 12
  · rw [if_pos h1, if_pos (by omega)]
  rw [if_neg h1, if_neg (show ¬ m ≥ 12 by omega)]
  by_cases h2 : k < 1 ∨ k > 4 ∨ num < 0 ∨ (num > 0 ∧ k ≠ 1)
  · rw [if_pos h2, if_pos h2]
  rw [if_neg h2, if_neg h2]
  have h3 := kidsOk_eq (k := k) (n := len) (by omega) (by omega)
  by_cases h4 : kidsOk k len = false
  · rw [if_pos h4, if_pos (h3.1 h4)]
  · rw [if_neg h4, if_neg (fun h => h4 (h3.2 h))]
mutual
theorem rt_eq : ∀ (t : T) {n ar m wi : Int}, 0 ≤ m → m ≤ 12 → wi = w64 (ar + n) → (rtWalk n ar m t).1 = (rR t m wi).2 ∧ ((rtWalk n ar m t).1 = 0 → (rtWalk n ar m t).2 = (rR t m wi).1 ∧ (rtWalk n ar m t).2 = m + (nds t : Int) ∧ (rtWalk n ar m t).2 ≤ 12 ∧ wf t)
  | .mk k num ks, n, ar, m, wi, h0, h1, hw => by
    have hn := rtNode_eq (k := k) (num := num) (len := ks.length) h1 hw
    unfold rtWalk rR
    dsimp only
    rw [hn]
    by_cases c1 : m ≥ 12
    · simp only [if_pos c1]; rw [if_neg (by decide)]; exact ⟨rfl, fun h => by simp at h⟩
    simp only [if_neg c1]
    by_cases c2 : k < 1 ∨ k > 4 ∨ num < 0 ∨ (num > 0 ∧ k ≠ 1)
    · simp only [if_pos c2]; rw [if_neg (by decide)]; exact ⟨rfl, fun h => by simp at h⟩
    simp only [if_neg c2]
    by_cases c3 : (ks.length : Int) ≠ wantsR k
    · simp only [if_pos c3]; rw [if_neg (by decide)]; exact ⟨rfl, fun h => by simp at h⟩
    simp only [if_neg c3]
    by_cases c4 : k = 1 ∧ num ≥ wi
    · simp only [if_pos c4]; rw [if_neg (by decide)]; exact ⟨rfl, fun h => by simp at h⟩
    simp only [if_neg c4, if_true]
    have hm1 : w64 (m + 1) = m + 1 := w64_id (by omega) (by omega)
    rw [hm1]
    have hwi : (if k = 4 then w64 (wi + 1) else wi) = w64 ((if k = 4 then w64 (ar + 1) else ar) + n) := by
      split
      · rw [hw, w64_l, w64_l]; congr 1; omega
      · exact hw
    have ih := rts_eq ks (n := n) (ar := if k = 4 then w64 (ar + 1) else ar) (m := m + 1) (wi := if k = 4 then w64 (wi + 1) else wi) (by omega) (by omega) hwi
    refine ⟨ih.1, fun h => ?_⟩
    obtain ⟨a1, a2, a3, a4⟩ := ih.2 h
    refine ⟨a1, ?_, a3, ?_⟩
    · rw [a2]; unfold nds; omega
    · unfold wf
      refine ⟨?_, a4⟩
      unfold wfn
      have c3 : (ks.length : Int) = wantsR k := Classical.byContradiction c3
      unfold wantsR at c3
      split at c3
      · omega
      · split at c3 <;> omega
theorem rts_eq : ∀ (ts : List T) {n ar m wi : Int}, 0 ≤ m → m ≤ 12 → wi = w64 (ar + n) → (rtList n ar m ts).1 = (rRs ts m wi).2 ∧ ((rtList n ar m ts).1 = 0 → (rtList n ar m ts).2 = (rRs ts m wi).1 ∧ (rtList n ar m ts).2 = m + (ndss ts : Int) ∧ (rtList n ar m ts).2 ≤ 12 ∧ wfs ts)
  | [], n, ar, m, wi, h0, h1, hw => by
    unfold rtList rRs
    exact ⟨rfl, fun _ => ⟨rfl, by unfold ndss; simp, h1, by unfold wfs; trivial⟩⟩
  | t :: ts, n, ar, m, wi, h0, h1, hw => by
    have i1 := rt_eq t (n := n) (ar := ar) (m := m) (wi := wi) h0 h1 hw
    unfold rtList rRs
    dsimp only
    by_cases c : (rtWalk n ar m t).1 = 0
    · obtain ⟨a1, a2, a3, a4⟩ := i1.2 c
      rw [if_pos c, if_neg (by rw [← i1.1]; exact fun h => h c)]
      have i2 := rts_eq ts (n := n) (ar := ar) (m := (rtWalk n ar m t).2) (wi := wi) (by omega) a3 hw
      rw [← a1]
      refine ⟨i2.1, fun h => ?_⟩
      obtain ⟨b1, b2, b3, b4⟩ := i2.2 h
      exact ⟨b1, by unfold ndss; omega, b3, by unfold wfs; exact ⟨a4, b4⟩⟩
    · rw [if_neg c, if_pos (by rw [← i1.1]; exact c)]
      exact ⟨i1.1, fun h => absurd h c⟩
end
theorem right_eq (t : T) (n : Int) : right t n = rRight t n := by
  unfold right rRight
  split
  · rfl
  · rename_i h
    exact (rt_eq t (n := n) (ar := 0) (m := 0) (wi := n) (by decide) (by decide) (by rw [w64_id (by omega) (by omega)]; omega)).1
theorem right_wf {t : T} {n : Int} (h : right t n = 0) : wf t ∧ nds t ≤ 12 := by
  unfold right at h
  split at h
  · cases h
  · rename_i hn
    obtain ⟨_, a, b, c⟩ := (rt_eq t (n := n) (ar := 0) (m := 0) (wi := n) (by decide) (by decide) (by rw [w64_id (by omega) (by omega)]; omega)).2 h
    exact ⟨c, by omega⟩
theorem closed_one (t : T) : closed [t] = rRight t 0 := by
  unfold closed
  rw [right_eq]
  split
  · rename_i h; rw [h]; rfl
  · rfl

/-! ### texts -/
mutual
theorem sz_nds : ∀ (t : T), T.sz t + 1 ≤ 2 * nds t
  | .mk _ _ ks => by unfold T.sz nds; have := szs_ndss ks; omega
theorem szs_ndss : ∀ (ts : List T), T.szs ts ≤ 2 * ndss ts
  | [] => by unfold T.szs ndss; omega
  | t :: ts => by unfold T.szs ndss; have := sz_nds t; have := szs_ndss ts; omega
end
theorem printed_eq : ∀ (f : Nat) {t : T} {n : Int}, wf t → nds t ≤ f → nds t ≤ 1000000 → ∃ r, Md.printed f t n = some r ∧ Md.rprinted f t n = some r ∧ r.length ≤ 10 * nds t
  | 0, .mk _ _ _, _, _, h, _ => by unfold nds at h; omega
  | f + 1, .mk k num ks, n, hw, hf, hb => by
    have hlim : lim = 1099511627776 := rfl
    unfold wf at hw
    unfold nds at hf hb ⊢
    obtain ⟨hk, hks⟩ := hw
    unfold Md.printed Md.rprinted
    dsimp only [T.kind, T.num, T.kids]
    rcases hk with ⟨hk | hk, hl⟩ | ⟨hk, hl⟩ | ⟨hk, hl⟩
    · subst hk
      refine ⟨rletter (w64 (w64 (n - 1) - num)), ?_, rfl, by simp [rletter]; omega⟩
      rw [if_neg (by decide), if_pos rfl]
      unfold rletter
      have e : w64 (w64 (w64 (97 + n) - 1) - num) = w64 (97 + w64 (w64 (n - 1) - num)) := by simp only [w64_def]; omega
      rw [e]
    · subst hk
      exact ⟨[78], by rw [if_pos rfl], by rw [if_neg (by decide), if_neg (by decide), if_neg (by decide)], by simp; omega⟩
    · subst hk
      match ks, hl, hks with
      | [a, b], _, hks =>
        unfold wfs wfs at hks
        simp only [ndss] at hf hb ⊢
        obtain ⟨r1, p1, q1, l1⟩ := printed_eq f (n := n) hks.1 (by omega) (by omega)
        obtain ⟨r2, p2, q2, l2⟩ := printed_eq f (n := n) hks.2.1 (by omega) (by omega)
        have hc : (a.kids.length > 0) ↔ (a.kind = 3 ∨ a.kind = 4) := by
          obtain ⟨ka, na, la⟩ := a
          have := hks.1; unfold wf wfn at this
          simp only [T.kids, T.kind]; omega
        have hlen : ((if a.kids.length > 0 then ([40] ++ r1) ++ [41] else r1) ++ [32, 45, 62, 32] ++ r2).length ≤ 10 * (nds a + (nds b + 0) + 1) := by
          split <;> simp <;> omega
        have hcap : cap ((if a.kids.length > 0 then ([40] ++ r1) ++ [41] else r1) ++ [32, 45, 62, 32] ++ r2) = some ((if a.kids.length > 0 then ([40] ++ r1) ++ [41] else r1) ++ [32, 45, 62, 32] ++ r2) := by
          unfold cap; rw [if_pos (by omega)]
        have hsame : (if a.kind = 3 ∨ a.kind = 4 then ([40] ++ r1) ++ [41] else r1) = (if a.kids.length > 0 then ([40] ++ r1) ++ [41] else r1) := by
          by_cases h : a.kids.length > 0
          · rw [if_pos h, if_pos (hc.1 h)]
          · rw [if_neg h, if_neg (fun x => h (hc.2 x))]
        refine ⟨_, ?_, ?_, hlen⟩
        · rw [if_neg (by decide), if_neg (by decide), if_neg (by decide)]
          rw [p1, p2]; exact hcap
        · rw [if_neg (by decide), if_neg (by decide), if_pos (by trivial)]
          rw [q1, q2]; show cap _ = _; rw [hsame]; exact hcap
    · subst hk
      match ks, hl, hks with
      | [a], _, hks =>
        unfold wfs at hks
        simp only [ndss] at hf hb ⊢
        obtain ⟨r1, p1, q1, l1⟩ := printed_eq f (n := w64 (n + 1)) hks.1 (by omega) (by omega)
        have hcap : cap (([97, 108, 108, 32] ++ [byt (w64 (97 + n))] ++ [46, 32]) ++ r1) = some (([97, 108, 108, 32] ++ [byt (w64 (97 + n))] ++ [46, 32]) ++ r1) := by
          unfold cap; rw [if_pos (by simp; omega)]
        refine ⟨([97, 108, 108, 32] ++ [byt (w64 (97 + n))] ++ [46, 32]) ++ r1, ?_, ?_, ?_⟩
        · rw [if_neg (by decide), if_neg (by decide), if_pos (by trivial)]
          rw [p1]; exact hcap
        · rw [if_neg (by decide), if_pos (by trivial)]
          rw [q1]; exact hcap
        · simp; omega
theorem print_law (t : T) : ∃ f r e, Md.Print f t = some (r, e) ∧ Md.rPrint f t = some (r, e) := by
  by_cases h : closed [t] = 0
  · have hr : right t 0 = 0 := by rw [closed_one, ← right_eq] at h; exact h
    obtain ⟨hw, hn⟩ := right_wf hr
    obtain ⟨r, p, q, _⟩ := printed_eq (nds t) (n := 0) hw (Nat.le_refl _) (by omega)
    refine ⟨nds t, r, 0, ?_, ?_⟩
    · unfold Md.Print; rw [if_neg (fun x => x h), p]; rfl
    · unfold Md.rPrint; rw [if_neg (fun x => x (by rw [← closed_one]; exact h)), q]; rfl
  · exact ⟨0, [], closed [t], by unfold Md.Print; rw [if_pos h], by unfold Md.rPrint; rw [if_pos (by rw [← closed_one]; exact h), closed_one]⟩
end Go.Proofs.Ytjgnhhgigickaaa.Wk
/- The plain law behind RankTexts: the program and the reference read a text alike. Conditions: none. -/

namespace Go.Proofs.Ytjgnhhgigickaaa.Wk
open Go Md

theorem word_append : ∀ (l1 l2 s : List UInt8) (a : Nat), word (l1 ++ l2) s a = if (word l1 s a).1 = false then (false, (word l1 s a).2) else word l2 s (word l1 s a).2
  | [], l2, s, a => by simp [word]
  | c :: l1, l2, s, a => by
    simp only [List.cons_append, word]
    split
    · exact word_append l1 l2 s (a + 1)
    · simp
theorem word_ge : ∀ (l s : List UInt8) (a : Nat), a ≤ (word l s a).2
  | [], _, _ => Nat.le_refl _
  | c :: l, s, a => by
    unfold word; split
    · have := word_ge l s (a + 1); omega
    · exact Nat.le_refl _
theorem word_fst {c : UInt8} {l s : List UInt8} {a : Nat} (h : ¬ s[a]? = some c) : word (c :: l) s a = (false, a) := by unfold word; rw [if_neg h]
theorem next_is {s : List UInt8} {a : Nat} {c : UInt8} (hc : c ≠ 0) : Md.next s a = c ↔ s[a]? = some c := by
  unfold Md.next
  cases h : s[a]? with
  | none => simp; exact fun h => hc h.symm
  | some b => simp

/-- what the answers of both have to do with one another -/
def Rel (s : List UInt8) (inner : Bool) (at_ : Nat) (q r : (T × Bool) × Nat) : Prop :=
  q.2 = r.2 ∧ at_ ≤ q.2 ∧ q.2 ≤ s.length ∧
  (q.1.2 = true → r.1.2 = false ∧ r.1.1 = q.1.1 ∧ (q.1.1.kids.length = 0 ↔ q.1.1.kind ≠ 3 ∧ q.1.1.kind ≠ 4) ∧ (inner = false → q.2 = s.length) ∧ (inner = true → s[q.2]? = some 41)) ∧
  (q.1.2 = false → r.1.2 = true ∨ (inner = false → q.2 ≠ s.length) ∧ (inner = true → ¬ s[q.2]? = some 41))
/-- the reference, behind the first part of a type -/
def rcont (f : Nat) (s : List UInt8) (at_ : Nat) (n : Int) (must : Bool) (t : T) : Option ((T × Bool) × Nat) :=
  if must = false ∧ ¬ s[at_]? = some 32 then some ((t, false), at_)
  else if (word [32, 45, 62, 32] s at_).1 = false then some ((t, true), (word [32, 45, 62, 32] s at_).2)
  else (rtyped f s (word [32, 45, 62, 32] s at_).2 n).bind fun p => some ((.mk 3 0 [t, p.1.1], p.1.2), p.2)
def Both (s : List UInt8) (m : Nat) : Prop := ∀ (at_ : Nat) (n : Int) (inner : Bool) (f g : Nat), at_ ≤ s.length → s.length - at_ ≤ m → 0 ≤ n → n ≤ 26 → 3 * (s.length - at_) + 3 ≤ f → 3 * (s.length - at_) + 3 ≤ g →
  ∃ q r, Md.typ f s at_ n inner = some q ∧ rtyped g s at_ n = some r ∧ Rel s inner at_ q r
theorem rest_law {s : List UInt8} {m : Nat} (ih : ∀ k, k < m → Both s k) {at_ : Nat} {n : Int} {inner must : Bool} {f g : Nat} {t : T} (h1 : at_ ≤ s.length) (h2 : s.length - at_ < m) (h3 : 0 ≤ n) (h4 : n ≤ 26) (hf : 3 * (s.length - at_) + 2 ≤ f) (hg : 3 * (s.length - at_) + 2 ≤ g)
    (hk : t.kids.length = 0 ↔ t.kind ≠ 3 ∧ t.kind ≠ 4) : ∃ q r, Md.rest f s at_ n inner must t = some q ∧ rcont g s at_ n must t = some r ∧ Rel s inner at_ q r := by
  obtain _ | f := f
  · omega
  unfold Md.rest rcont
  by_cases c : must = false ∧ (at_ = s.length ∧ inner = false ∨ inner = true ∧ Md.next s at_ = 41)
  · rw [if_pos c]
    obtain ⟨rfl, c⟩ := c
    have hn : ¬ s[at_]? = some 32 := by
      rcases c with ⟨c, _⟩ | ⟨_, c⟩
      · rw [List.getElem?_eq_none (by omega)]; simp
      · rw [(next_is (by decide)).1 c]; simp
    rw [if_pos ⟨rfl, hn⟩]
    refine ⟨_, _, rfl, rfl, rfl, Nat.le_refl _, h1, fun _ => ⟨rfl, rfl, hk, ?_, ?_⟩, fun h => by cases h⟩
    · rcases c with ⟨c, _⟩ | ⟨c, _⟩
      · exact fun _ => c
      · exact fun h => by rw [c] at h; cases h
    · rcases c with ⟨_, c⟩ | ⟨_, c⟩
      · exact fun h => by rw [c] at h; cases h
      · exact fun _ => (next_is (by decide)).1 c
  · rw [if_neg c]
    have hle := word_le [32, 45, 62, 32] s at_ h1
    have hge := word_ge [32, 45, 62, 32] s at_
    by_cases w : (word [32, 45, 62, 32] s at_).1 = false
    · rw [if_pos w]
      by_cases c2 : must = false ∧ ¬ s[at_]? = some 32
      · rw [if_pos c2]
        have hw := word_fst (l := [45, 62, 32]) c2.2
        refine ⟨_, _, rfl, rfl, by rw [hw], hge, hle, (fun h => by cases h), fun _ => .inr ⟨fun hi hx => c ⟨c2.1, .inl ⟨by rw [hw] at hx; exact hx, hi⟩⟩, fun hi hx => c ⟨c2.1, .inr ⟨hi, (next_is (by decide)).2 (by rw [hw] at hx; exact hx)⟩⟩⟩⟩
      · rw [if_neg c2, if_pos w]
        exact ⟨_, _, rfl, rfl, rfl, hge, hle, (fun h => by cases h), fun _ => .inl rfl⟩
    · rw [if_neg w]
      have hs := word_step _ _ _ (by simpa using w)
      simp only [List.length_cons, List.length_nil] at hs
      have c2 : ¬ (must = false ∧ ¬ s[at_]? = some 32) := fun hx => by rw [word_fst hx.2] at w; exact w rfl
      rw [if_neg c2, if_neg w]
      obtain ⟨q, r, hq, hr, e1, e2, e3, e4, e5⟩ := ih (s.length - (word [32, 45, 62, 32] s at_).2) (by omega) (word [32, 45, 62, 32] s at_).2 n inner f g hle (Nat.le_refl _) h3 h4 (by omega) (by omega)
      rw [hq, hr]
      refine ⟨_, _, rfl, rfl, e1, by show _ ≤ q.2; omega, e3, fun h => ?_, e5⟩
      obtain ⟨a1, a2, a3, a4, a5⟩ := e4 h
      refine ⟨a1, by show T.mk 3 0 [t, r.1.1] = _; rw [a2], ?_, a4, a5⟩
      simp
theorem typ_law {s : List UInt8} : ∀ m, Both s m := by
  intro m
  induction m using Nat.strongRecOn with
  | _ m ih =>
  intro at_ n inner f g h1 h2 h3 h4 hf hg
  obtain _ | f := f
  · omega
  obtain _ | g := g
  · omega
  unfold Md.typ rtyped
  dsimp only
  have hq26 : (Md.next s at_ = 97 ∧ n < 26 ∧ (n = 0 ∨ s[at_ + 1]? = some 108)) ↔ (s[at_]? = some 97 ∧ n ≠ 26 ∧ (n = 0 ∨ s[at_ + 1]? = some 108)) := by
    rw [next_is (by decide)]
    exact ⟨fun ⟨a, b, c⟩ => ⟨a, by omega, c⟩, fun ⟨a, b, c⟩ => ⟨a, by omega, c⟩⟩
  -- the end of a simple part
  have fin : ∀ (must : Bool) (t : T) (a : Nat), (must = true ↔ s[at_]? = some 40) → at_ < a → a ≤ s.length → (t.kids.length = 0 ↔ t.kind ≠ 3 ∧ t.kind ≠ 4) →
      ∃ q r, Md.rest f s a n inner must t = some q ∧ (if (((t, false), a) : (T × Bool) × Nat).1.2 = true ∨ (s[at_]? ≠ some 40 ∧ s[(((t, false), a) : (T × Bool) × Nat).2]? ≠ some 32) then some ((t, false), a)
        else if (word [32, 45, 62, 32] s a).1 = false then some ((t, true), (word [32, 45, 62, 32] s a).2)
        else (rtyped g s (word [32, 45, 62, 32] s a).2 n).bind fun p => some ((.mk 3 0 [t, p.1.1], p.1.2), p.2)) = some r ∧ Rel s inner at_ q r := by
    intro must t a hm ha1 ha2 hk
    obtain ⟨q, r, hq, hr, e1, e2, e3, e4, e5⟩ := rest_law ih (inner := inner) (must := must) (f := f) (g := g) (t := t) ha2 (by omega) h3 h4 (by omega) (by omega) hk
    refine ⟨q, r, hq, ?_, e1, by omega, e3, e4, e5⟩
    rw [← hr]
    unfold rcont
    by_cases c : must = false ∧ ¬ s[a]? = some 32
    · rw [if_pos c, if_pos (.inr ⟨fun h => by rw [hm.2 h] at c; exact absurd c.1 (by decide), c.2⟩)]
    · rw [if_neg c, if_neg]
      rintro (h | ⟨h, h'⟩)
      · cases h
      · refine c ⟨?_, h'⟩
        cases must
        · rfl
        · exact absurd (hm.1 rfl) h
  by_cases k78 : Md.next s at_ = 78
  · have k := (next_is (by decide)).1 k78
    have hlt := (List.getElem?_eq_some_iff.1 k).1
    rw [if_pos k78, if_neg (by rw [k]; intro h; simp at h)]
    obtain _ | g := g
    · omega
    unfold rsimple
    rw [if_pos k]
    exact fin false (.mk 2 0 []) (at_ + 1) (by rw [k]; simp) (by omega) hlt (by simp [T.kind])
  rw [if_neg k78]
  by_cases k40 : Md.next s at_ = 40
  · have k := (next_is (by decide)).1 k40
    have hlt := (List.getElem?_eq_some_iff.1 k).1
    rw [if_pos k40, if_neg (by rw [k]; intro h; simp at h)]
    obtain _ | g := g
    · omega
    unfold rsimple
    rw [if_neg (by rw [k]; simp), if_pos k]
    obtain ⟨q, r, hq, hr, e1, e2, e3, e4, e5⟩ := ih (s.length - (at_ + 1)) (by omega) (at_ + 1) n true f g hlt (Nat.le_refl _) h3 h4 (by omega) (by omega)
    rw [hq, hr]
    obtain ⟨⟨t, ok⟩, a⟩ := q
    obtain ⟨⟨u, wr⟩, a'⟩ := r
    dsimp only at e1 e2 e3 e4 e5
    subst e1
    simp only [Option.bind_some]
    cases ok
    · rw [if_pos (.inl rfl)]
      have hwr : ∃ z, (if wr = false ∧ u.kind ≠ 3 ∧ u.kind ≠ 4 then some ((u, true), a) else if wr = true then some ((u, true), a) else some ((u, !(word [41] s a).1), (word [41] s a).2)) = some ((z, true), a) := by
        cases wr
        · by_cases c : u.kind ≠ 3 ∧ u.kind ≠ 4
          · exact ⟨u, by rw [if_pos ⟨rfl, c⟩]⟩
          · refine ⟨u, ?_⟩
            rw [if_neg (fun h => c h.2), if_neg (by decide)]
            rcases e5 rfl with h | ⟨_, h⟩
            · cases h
            · rw [word_fst (h rfl)]; rfl
        · exact ⟨u, by rw [if_neg (fun h => by cases h.1), if_pos rfl]⟩
      obtain ⟨z, hz⟩ := hwr
      rw [hz]
      simp only [Option.bind_some]
      refine ⟨_, ((z, true), a), rfl, by rw [if_pos (.inl (by trivial))], rfl, by show at_ ≤ a; omega, e3, (fun h => by cases h), fun _ => .inl rfl⟩
    · obtain ⟨hw0, rfl, hk, _, h41⟩ := e4 rfl
      subst hw0
      have h41 := h41 rfl
      have hlt2 := (List.getElem?_eq_some_iff.1 h41).1
      have hw : word [41] s a = (true, a + 1) := by unfold word; rw [if_pos h41]; rfl
      by_cases c : u.kids.length = 0
      · rw [if_pos (.inr c), if_pos ⟨rfl, hk.1 c⟩]
        simp only [Option.bind_some]
        refine ⟨_, ((u, true), a), rfl, by rw [if_pos (.inl (by trivial))], rfl, by show at_ ≤ a; omega, e3, (fun h => by cases h), fun _ => .inl rfl⟩
      · rw [if_neg (fun h => h.elim (fun h => by cases h) c), hw, if_neg (by simp), if_neg (fun h => c (hk.2 h.2)), if_neg (by simp)]
        simp only [Option.bind_some, Bool.not_true]
        exact fin true u (a + 1) (by rw [k]; simp) (by omega) hlt2 hk
  rw [if_neg k40]
  by_cases kq : Md.next s at_ = 97 ∧ n < 26 ∧ (n = 0 ∨ s[at_ + 1]? = some 108)
  · rw [if_pos kq, if_pos (hq26.1 kq)]
    obtain _ | f := f
    · omega
    obtain _ | g := g
    · omega
    unfold Md.quantifier rall
    dsimp only
    have l1 := word_le [97, 108, 108, 32] s at_ h1
    have g1 := word_ge [97, 108, 108, 32] s at_
    by_cases w1 : (word [97, 108, 108, 32] s at_).1 = false
    · rw [if_pos w1, if_pos w1]
      exact ⟨_, _, rfl, rfl, rfl, g1, l1, (fun h => by cases h), fun _ => .inl rfl⟩
    rw [if_neg w1, if_neg w1]
    have s1 := word_step _ _ _ (by simpa using w1)
    simp only [List.length_cons, List.length_nil] at s1
    rw [word_append (rletter n)]
    have l2 := word_le (rletter n) s _ l1
    have g2 := word_ge (rletter n) s (word [97, 108, 108, 32] s at_).2
    by_cases w2 : (word (rletter n) s (word [97, 108, 108, 32] s at_).2).1 = false
    · rw [if_pos w2]
      have w2' : (word [byt (w64 (97 + n))] s (word [97, 108, 108, 32] s at_).2).1 = false := w2
      rw [if_pos w2', if_pos rfl]
      exact ⟨_, _, rfl, rfl, rfl, Nat.le_trans g1 g2, l2, (fun h => by cases h), fun _ => .inl rfl⟩
    rw [if_neg w2]
    have w2' : ¬ (word [byt (w64 (97 + n))] s (word [97, 108, 108, 32] s at_).2).1 = false := w2
    rw [if_neg w2']
    have l3 := word_le [46, 32] s _ l2
    have g3 := word_ge [46, 32] s (word (rletter n) s (word [97, 108, 108, 32] s at_).2).2
    by_cases w3 : (word [46, 32] s (word (rletter n) s (word [97, 108, 108, 32] s at_).2).2).1 = false
    · rw [if_pos w3]
      have w3' : (word [46, 32] s (word [byt (w64 (97 + n))] s (word [97, 108, 108, 32] s at_).2).2).1 = false := w3
      rw [if_pos w3']
      exact ⟨_, _, rfl, rfl, rfl, Nat.le_trans g1 (Nat.le_trans g2 g3), l3, (fun h => by cases h), fun _ => .inl rfl⟩
    rw [if_neg w3]
    have w3' : ¬ (word [46, 32] s (word [byt (w64 (97 + n))] s (word [97, 108, 108, 32] s at_).2).2).1 = false := w3
    rw [if_neg w3']
    have hn1 : w64 (n + 1) = n + 1 := w64_id (by omega) (by omega)
    rw [hn1]
    obtain ⟨q, r, hq, hr, e1, e2, e3, e4, e5⟩ := ih (s.length - (word [46, 32] s (word (rletter n) s (word [97, 108, 108, 32] s at_).2).2).2) (by omega) (word [46, 32] s (word (rletter n) s (word [97, 108, 108, 32] s at_).2).2).2 (n + 1) inner f g l3 (Nat.le_refl _) (by omega) (by omega) (by omega) (by omega)
    have hq' : Md.typ f s (word [46, 32] s (word [byt (w64 (97 + n))] s (word [97, 108, 108, 32] s at_).2).2).2 (n + 1) inner = some q := hq
    rw [hq', hr]
    refine ⟨_, _, rfl, rfl, e1, by show at_ ≤ q.2; omega, e3, fun h => ?_, e5⟩
    obtain ⟨a1, a2, a3, a4, a5⟩ := e4 h
    exact ⟨a1, by show T.mk 4 0 [r.1.1] = _; rw [a2], by simp, a4, a5⟩
  rw [if_neg kq, if_neg (fun h => kq (hq26.2 h))]
  obtain _ | g := g
  · omega
  unfold rsimple
  have n78 : ¬ s[at_]? = some 78 := fun h => k78 ((next_is (by decide)).2 h)
  have n40 : ¬ s[at_]? = some 40 := fun h => k40 ((next_is (by decide)).2 h)
  rw [if_neg n78, if_neg n40]
  cases hc : s[at_]? with
  | none =>
    have hnx : Md.next s at_ = 0 := by unfold Md.next; rw [hc]; rfl
    rw [hnx, if_neg (fun h => absurd h.1 (by decide))]
    exact ⟨_, ((t0, true), at_), rfl, by simp only [Option.bind_some]; rw [if_pos (.inl (by trivial))], rfl, Nat.le_refl _, h1, (fun h => by cases h), fun _ => .inl rfl⟩
  | some c =>
    have hnx : Md.next s at_ = c := by unfold Md.next; rw [hc]; rfl
    have hlt := (List.getElem?_eq_some_iff.1 hc).1
    rw [hnx]
    by_cases k : c ≥ 97 ∧ ((c - 97).toNat : Int) < n
    · rw [if_pos k]
      dsimp only
      rw [if_pos k]
      simp only [Option.bind_some]
      have := fin false (.mk 1 (w64 (w64 (n - 1) - ((c - 97).toNat : Int))) []) (at_ + 1) ⟨fun h => (by cases h), fun h => absurd h n40⟩ (by omega) hlt (by simp [T.kind])
      rw [hc] at this
      exact this
    · rw [if_neg k]
      dsimp only
      rw [if_neg k]
      exact ⟨_, ((t0, true), at_), rfl, by simp only [Option.bind_some]; rw [if_pos (.inl (by trivial))], rfl, Nat.le_refl _, h1, (fun h => by cases h), fun _ => .inl rfl⟩
theorem parse_law (s : List UInt8) : ∃ f t a e, Md.Parse f s = some ((t, a), e) ∧ rParse f s = some ((t, a), e) ∧ T.sz t < lim := by
  have hlim : lim = 1099511627776 := rfl
  unfold Md.Parse rParse
  by_cases hl : (s.length : Int) > 65536
  · exact ⟨0, t0, 0, 11, by rw [if_pos hl], by rw [if_pos hl], by decide⟩
  · obtain ⟨q, r, hq, hr, e1, e2, e3, e4, e5⟩ := typ_law (s := s) s.length 0 0 false (3 * s.length + 3) (3 * s.length + 3) (Nat.zero_le _) (by omega) (by decide) (by decide) (by omega) (by omega)
    refine ⟨3 * s.length + 3, ?_⟩
    rw [if_neg hl, if_neg hl, hq, hr]
    obtain ⟨⟨t, ok⟩, a⟩ := q
    obtain ⟨⟨u, wr⟩, a'⟩ := r
    dsimp only at e1 e2 e3 e4 e5
    subst e1
    simp only [Option.bind_some]
    cases ok
    · refine ⟨t0, (a : Int), 4, by rw [if_pos rfl], ?_, by decide⟩
      rw [if_pos]
      rcases e5 rfl with h | ⟨h, _⟩
      · exact .inl h
      · exact .inr (by have := h rfl; omega)
    · obtain ⟨hw, hu, hk, hlen, _⟩ := e4 rfl
      subst hw; subst hu
      have hlen := hlen rfl
      have hsz := (typ_sz _).1 hq
      rw [if_neg (by decide), if_neg (show ¬ (false = true ∨ a < s.length) from fun h => h.elim (fun h => by cases h) (fun h => by omega)), closed_one]
      by_cases hc : rRight u 0 ≠ 0
      · exact ⟨t0, 0, rRight u 0, by rw [if_pos hc], by rw [if_pos hc], by decide⟩
      · exact ⟨u, 0, 0, by rw [if_neg hc], by rw [if_neg hc], by omega⟩
end Go.Proofs.Ytjgnhhgigickaaa.Wk
/- Walks of the given program's functions: RankTexts. Printed by tools/w36.py. Conditions: none. -/

namespace Go.Proofs.Ytjgnhhgigickaaa.Wk
open Go Md
set_option maxRecDepth 20000
set_option linter.unusedVariables false
set_option linter.unusedSimpArgs false
attribute [local irreducible] endQ

theorem c3 {G : GH} {L : LH} {w : World} {v : Value} {t : T} {s : List UInt8} (hv : IsPoly G v t) (hst : St G L w) : Cal Try.prog 3 #[v, .string (bs s)] w fun x w' => x = .bool true ∧ St G L w' := by
 have hlim : lim = 1099511627776 := rfl
 obtain ⟨tA, tc, rfl, htc, htk⟩ := id hv.open
 refine cal_of_W Try.func3 rfl (Nat.le_of_ble_eq_true (by kernel_rfl)) ?_
 refine W_seq ?_
 refine W_rg [(.f, 0), (.p, 1)] hst ?_
 refine m_new (.cells #[.int .i64 t.kind, .int .i64 t.num, .slice tA t.kids.length tc] 24) (fun b1 => .pointer (some ⟨b1, 0, none⟩)) (some 2) (fun b => by kernel_rfl) hst (fun b1 w1 hst => ?_)
 refine r_en [] [] [(4, .bool false)] rc_nil ?_
 refine W_seq ?_
 refine W_seq ?_
 refine W_rg [(.l, 0), (.f, 1), (.p, 2), (.p, 3), (.p, 4), (.p, 5), (.p, 6)] hst ?_
 refine r_sg [(.l, 0)] [[.int .i64 t.kind, .int .i64 t.num, .slice tA t.kids.length tc]] [(⟨b1, 0, none⟩, .int .i64 t.kind), (⟨b1, 1, none⟩, .int .i64 t.num), (⟨b1, 2, none⟩, .slice tA t.kids.length tc)] [(16, .agg #[.int .i64 t.kind, .int .i64 t.num, .slice tA t.kids.length tc])] (rc_L 0 rfl rfl (rc_L 0 rfl rfl (rc_L 0 rfl rfl rc_nil))) ?_
 refine m_cl #[.agg #[.int .i64 t.kind, .int .i64 t.num, .slice tA t.kids.length tc]] (some 17) (c11 hv hst) ?_
 rintro _ w1 ⟨rfl, hst⟩
 refine nx hst ?_
 refine r_sg [(.p, 2)] [] [] [(18, .bool (decide (cnt t 0 0 > 40)))] rc_nil ?_
 rcases Bool.eq_false_or_eq_true (decide (cnt t 0 0 > 40)) with hc2 | hc2
 ·rw [hc2]
  refine r_en [] [] [(19, undef), (20, undef), (21, undef), (22, .bool true)] rc_nil ?_
  refine W_cT ?_
  refine W_seq ?_
  refine W_rg [(.f, 0), (.p, 1)] hst ?_
  refine m_cl #[] (some 23) (c12 hst) ?_
  rintro _ w1 ⟨rfl, hst⟩
  refine nx hst ?_
  refine r_en [] [] [(4, .bool true)] rc_nil ?_
  refine W_ret ?_
  refine q_rt [] [] (.bool true) rc_nil hst ?_
  exact ⟨rfl, hst.drop [_]⟩
 ·rw [hc2]
  have hcn := of_decide_eq_false hc2
  refine r_en [] [] [(19, .string (bs s)), (20, .int .i64 (((s.length : Nat) : Int))), (21, .bool (decide ((((s.length : Nat) : Int)) > 70000))), (22, .bool (decide ((((s.length : Nat) : Int)) > 70000)))] rc_nil ?_
  refine W_cd (b := decide ((((s.length : Nat) : Int)) > 70000)) (fun hc3 => ?_) (fun hc3 => ?_)
  ·skip
   refine W_seq ?_
   refine W_rg [(.f, 0), (.p, 1)] hst ?_
   refine m_cl #[] (some 23) (c12 hst) ?_
   rintro _ w1 ⟨rfl, hst⟩
   refine nx hst ?_
   refine r_en [] [] [(4, .bool true)] rc_nil ?_
   refine W_ret ?_
   refine q_rt [] [] (.bool true) rc_nil hst ?_
   exact ⟨rfl, hst.drop [_]⟩
  ·skip
   have hsl := of_decide_eq_false hc3
   refine W_skip ?_
   refine W_seq ?_
   refine W_rg [(.l, 0), (.f, 1), (.f, 2), (.f, 3)] hst ?_
   refine r_sg [(.l, 0)] [[.int .i64 t.kind, .int .i64 t.num, .slice tA t.kids.length tc]] [(⟨b1, 0, none⟩, .int .i64 t.kind), (⟨b1, 1, none⟩, .int .i64 t.num), (⟨b1, 2, none⟩, .slice tA t.kids.length tc)] [(24, .agg #[.int .i64 t.kind, .int .i64 t.num, .slice tA t.kids.length tc])] (rc_L 0 rfl rfl (rc_L 0 rfl rfl (rc_L 0 rfl rfl rc_nil))) ?_
   have hsz : T.sz t < lim := by have a := cnt_bd t (m := 0) (d := 0) (by decide) (by decide); have b := sz_nds t; omega
   refine m_cl #[.agg #[.int .i64 t.kind, .int .i64 t.num, .slice tA t.kids.length tc]] (some 25) (c13 _ (Nat.lt_succ_self _) hsz hv hst) ?_
   rintro ox w1 ⟨G1, hG1, hox, hst⟩
   refine nx hst ?_
   obtain ⟨oA, oc, rfl, _, _⟩ := id hox.open
   refine m_new (.cells #[.int .i64 0, .int .i64 0, .slice none 0 0] 24) (fun b4 => .pointer (some ⟨b4, 0, none⟩)) (some 5) (fun b => by kernel_rfl) hst (fun b4 w1 hst => ?_)
   refine m_st ((b4, .cells #[.int .i64 t.kind, .int .i64 t.num, .slice oA t.kids.length oc] 24) :: (b1, .cells #[.int .i64 t.kind, .int .i64 t.num, .slice tA t.kids.length tc] 24) :: L) 0 [(0, .int .i64 t.kind), (1, .int .i64 t.num), (2, .slice oA t.kids.length oc)] [.int .i64 t.kind, .int .i64 t.num, .slice oA t.kids.length oc] none hst (fun w1 hst => ?_)
   refine r_nil ?_
   refine W_seq ?_
   refine W_rg [(.l, 0), (.f, 1), (.p, 2), (.p, 3), (.p, 4), (.p, 5), (.p, 6)] hst ?_
   refine r_sg [(.l, 0)] [[.int .i64 t.kind, .int .i64 t.num, .slice oA t.kids.length oc]] [(⟨b4, 0, none⟩, .int .i64 t.kind), (⟨b4, 1, none⟩, .int .i64 t.num), (⟨b4, 2, none⟩, .slice oA t.kids.length oc)] [(27, .agg #[.int .i64 t.kind, .int .i64 t.num, .slice oA t.kids.length oc])] (rc_L 0 rfl rfl (rc_L 0 rfl rfl (rc_L 0 rfl rfl rc_nil))) ?_
   obtain ⟨fp, pr, pe, hp1, hp2⟩ := print_law t
   refine m_cl #[.agg #[.int .i64 t.kind, .int .i64 t.num, .slice oA t.kids.length oc]] (some 28) (c14 hox (by have a := cnt_bd t (m := 0) (d := 0) (by decide) (by decide); have b := sz_nds t; omega) hst hp1) ?_
   rintro _ w1 ⟨G2, hG2, rfl, hst⟩
   refine nx hst ?_
   refine r_en [] [] [(26, .tuple #[.string (bs pr), .int .i64 pe]), (29, .string (bs pr)), (30, .int .i64 pe), (6, .string (bs pr)), (7, .int .i64 pe)] rc_nil ?_
   refine W_seq ?_
   refine W_rg [(.l, 0), (.f, 1), (.p, 2), (.p, 3), (.p, 4), (.p, 5), (.p, 6)] hst ?_
   refine r_sg [(.l, 0)] [[.int .i64 t.kind, .int .i64 t.num, .slice tA t.kids.length tc]] [(⟨b1, 0, none⟩, .int .i64 t.kind), (⟨b1, 1, none⟩, .int .i64 t.num), (⟨b1, 2, none⟩, .slice tA t.kids.length tc)] [(32, .agg #[.int .i64 t.kind, .int .i64 t.num, .slice tA t.kids.length tc])] (rc_L 1 rfl rfl (rc_L 1 rfl rfl (rc_L 1 rfl rfl rc_nil))) ?_
   refine m_cl #[.agg #[.int .i64 t.kind, .int .i64 t.num, .slice tA t.kids.length tc]] (some 33) (c15 hsz (hv.mono (hG1.trans hG2)) hst hp2) ?_
   rintro _ w1 ⟨rfl, hst⟩
   refine nx hst ?_
   refine r_en [] [] [(31, .tuple #[.string (bs pr), .int .i64 pe]), (34, .string (bs pr)), (35, .int .i64 pe), (8, .string (bs pr)), (9, .int .i64 pe)] rc_nil ?_
   refine W_seq ?_
   refine W_rg [(.p, 0), (.f, 1), (.p, 2), (.p, 3), (.p, 4), (.p, 5), (.f, 6), (.f, 7), (.p, 8), (.p, 9)] hst ?_
   refine r_sg [(.p, 0)] [] [] [(37, .string (bs s))] rc_nil ?_
   obtain ⟨fq, u, ua, ue, hq1, hq2, hqz⟩ := parse_law s
   refine m_cl #[.string (bs s)] (some 38) (c16 (by omega) hst hq1) ?_
   rintro _ w1 ⟨G3, yA, yc, rfl, hG3, hy, hst⟩
   refine nx hst ?_
   refine r_sg [(.p, 2), (.p, 3), (.p, 4), (.p, 5)] [] [] [(36, .tuple #[.agg #[.int .i64 u.kind, .int .i64 u.num, .slice yA u.kids.length yc], .int .i64 ua, .int .i64 ue]), (39, .agg #[.int .i64 u.kind, .int .i64 u.num, .slice yA u.kids.length yc]), (40, .int .i64 ua), (41, .int .i64 ue)] rc_nil ?_
   refine m_new (.cells #[.int .i64 0, .int .i64 0, .slice none 0 0] 24) (fun b5 => .pointer (some ⟨b5, 0, none⟩)) (some 10) (fun b => by kernel_rfl) hst (fun b5 w1 hst => ?_)
   refine m_st ((b5, .cells #[.int .i64 u.kind, .int .i64 u.num, .slice yA u.kids.length yc] 24) :: (b4, .cells #[.int .i64 t.kind, .int .i64 t.num, .slice oA t.kids.length oc] 24) :: (b1, .cells #[.int .i64 t.kind, .int .i64 t.num, .slice tA t.kids.length tc] 24) :: L) 0 [(0, .int .i64 u.kind), (1, .int .i64 u.num), (2, .slice yA u.kids.length yc)] [.int .i64 u.kind, .int .i64 u.num, .slice yA u.kids.length yc] none hst (fun w1 hst => ?_)
   refine r_en [] [] [(11, .int .i64 ua), (12, .int .i64 ue)] rc_nil ?_
   refine W_seq ?_
   refine W_rg [(.p, 0), (.f, 1), (.p, 2), (.p, 3), (.p, 4), (.p, 5), (.f, 6), (.f, 7), (.p, 8), (.p, 9)] hst ?_
   refine r_sg [(.p, 0)] [] [] [(43, .string (bs s))] rc_nil ?_
   refine m_cl #[.string (bs s)] (some 44) (c17 (by omega) hst hq2) ?_
   rintro _ w1 ⟨G4, zA, zc, rfl, hG4, hz, hst⟩
   refine nx hst ?_
   refine r_sg [(.p, 2), (.p, 3), (.p, 4), (.p, 5)] [] [] [(42, .tuple #[.agg #[.int .i64 u.kind, .int .i64 u.num, .slice zA u.kids.length zc], .int .i64 ua, .int .i64 ue]), (45, .agg #[.int .i64 u.kind, .int .i64 u.num, .slice zA u.kids.length zc]), (46, .int .i64 ua), (47, .int .i64 ue)] rc_nil ?_
   refine m_new (.cells #[.int .i64 0, .int .i64 0, .slice none 0 0] 24) (fun b6 => .pointer (some ⟨b6, 0, none⟩)) (some 13) (fun b => by kernel_rfl) hst (fun b6 w1 hst => ?_)
   refine m_st ((b6, .cells #[.int .i64 u.kind, .int .i64 u.num, .slice zA u.kids.length zc] 24) :: (b5, .cells #[.int .i64 u.kind, .int .i64 u.num, .slice yA u.kids.length yc] 24) :: (b4, .cells #[.int .i64 t.kind, .int .i64 t.num, .slice oA t.kids.length oc] 24) :: (b1, .cells #[.int .i64 t.kind, .int .i64 t.num, .slice tA t.kids.length tc] 24) :: L) 0 [(0, .int .i64 u.kind), (1, .int .i64 u.num), (2, .slice zA u.kids.length zc)] [.int .i64 u.kind, .int .i64 u.num, .slice zA u.kids.length zc] none hst (fun w1 hst => ?_)
   refine r_en [] [] [(14, .int .i64 ua), (15, .int .i64 ue)] rc_nil ?_
   refine W_seq ?_
   refine W_rg [(.p, 0), (.p, 1), (.p, 2), (.p, 3), (.p, 4), (.p, 5), (.p, 6), (.p, 7), (.p, 8), (.p, 9), (.p, 10), (.l, 11), (.l, 12), (.f, 13), (.p, 14), (.p, 15), (.p, 16), (.p, 17), (.p, 18), (.p, 19), (.p, 20), (.p, 21), (.p, 22), (.p, 23), (.p, 24), (.p, 25), (.l, 26), (.l, 27), (.f, 28), (.p, 29), (.p, 30), (.f, 31), (.p, 32), (.p, 33)] hst ?_
   refine r_sg [(.p, 0), (.p, 1), (.p, 2), (.p, 3), (.p, 4), (.p, 5)] [] [] [(48, .bool true), (49, .string (bs pr)), (50, .string (bs pr)), (51, .bool ((bs pr).toList == (bs pr).toList)), (52, .bool ((bs pr).toList == (bs pr).toList)), (53, .bool ((bs pr).toList == (bs pr).toList))] rc_nil ?_
   have hd8 : ((bs pr).toList == (bs pr).toList) = true := by simp
   rw [hd8]
   refine r_sg [(.p, 6), (.p, 7), (.p, 8), (.p, 9), (.p, 10)] [] [] [(54, .int .i64 pe), (55, .int .i64 pe), (56, .bool (pe == pe)), (57, .bool (pe == pe)), (58, .bool (pe == pe))] rc_nil ?_
   have hd10 : (pe == pe) = true := by simp
   rw [hd10]
   refine r_sg [(.l, 11), (.l, 12)] [[.int .i64 u.kind, .int .i64 u.num, .slice yA u.kids.length yc], [.int .i64 u.kind, .int .i64 u.num, .slice zA u.kids.length zc]] [(⟨b5, 0, none⟩, .int .i64 u.kind), (⟨b5, 1, none⟩, .int .i64 u.num), (⟨b5, 2, none⟩, .slice yA u.kids.length yc), (⟨b6, 0, none⟩, .int .i64 u.kind), (⟨b6, 1, none⟩, .int .i64 u.num), (⟨b6, 2, none⟩, .slice zA u.kids.length zc)] [(59, .agg #[.int .i64 u.kind, .int .i64 u.num, .slice yA u.kids.length yc]), (60, .agg #[.int .i64 u.kind, .int .i64 u.num, .slice zA u.kids.length zc])] (rc_L 1 rfl rfl (rc_L 1 rfl rfl (rc_L 1 rfl rfl (rc_L 0 rfl rfl (rc_L 0 rfl rfl (rc_L 0 rfl rfl rc_nil)))))) ?_
   refine m_cl #[.agg #[.int .i64 u.kind, .int .i64 u.num, .slice yA u.kids.length yc], .agg #[.int .i64 u.kind, .int .i64 u.num, .slice zA u.kids.length zc]] (some 61) (c18t (a := u) (b := u) hqz (hy.mono hG4) hz (same_refl _) hst) ?_
   rintro _ w1 ⟨rfl, hst⟩
   refine nx hst ?_
   refine r_sg [(.p, 14), (.p, 15), (.p, 16), (.p, 17), (.p, 18), (.p, 19), (.p, 20)] [] [] [(62, .bool true), (63, .bool true), (64, .int .i64 ua), (65, .int .i64 ua), (66, .bool (ua == ua)), (67, .bool (ua == ua)), (68, .bool (ua == ua))] rc_nil ?_
   have hd12 : (ua == ua) = true := by simp
   rw [hd12]
   refine r_sg [(.p, 21), (.p, 22), (.p, 23), (.p, 24), (.p, 25)] [] [] [(69, .int .i64 ue), (70, .int .i64 ue), (71, .bool (ue == ue)), (72, .bool (ue == ue)), (73, .bool (ue == ue))] rc_nil ?_
   have hd14 : (ue == ue) = true := by simp
   rw [hd14]
   refine r_sg [(.l, 26), (.l, 27)] [[.int .i64 t.kind, .int .i64 t.num, .slice oA t.kids.length oc], [.int .i64 t.kind, .int .i64 t.num, .slice tA t.kids.length tc]] [(⟨b4, 0, none⟩, .int .i64 t.kind), (⟨b4, 1, none⟩, .int .i64 t.num), (⟨b4, 2, none⟩, .slice oA t.kids.length oc), (⟨b1, 0, none⟩, .int .i64 t.kind), (⟨b1, 1, none⟩, .int .i64 t.num), (⟨b1, 2, none⟩, .slice tA t.kids.length tc)] [(74, .agg #[.int .i64 t.kind, .int .i64 t.num, .slice oA t.kids.length oc]), (75, .agg #[.int .i64 t.kind, .int .i64 t.num, .slice tA t.kids.length tc])] (rc_L 2 rfl rfl (rc_L 2 rfl rfl (rc_L 2 rfl rfl (rc_L 3 rfl rfl (rc_L 3 rfl rfl (rc_L 3 rfl rfl rc_nil)))))) ?_
   refine m_cl #[.agg #[.int .i64 t.kind, .int .i64 t.num, .slice oA t.kids.length oc], .agg #[.int .i64 t.kind, .int .i64 t.num, .slice tA t.kids.length tc]] (some 76) (c18t (a := t) (b := t) hsz (hox.mono ((hG2.trans hG3).trans hG4)) (hv.mono (((hG1.trans hG2).trans hG3).trans hG4)) (same_refl _) hst) ?_
   rintro _ w1 ⟨rfl, hst⟩
   refine nx hst ?_
   refine r_sg [(.p, 29), (.p, 30)] [] [] [(77, .bool true), (78, .bool true)] rc_nil ?_
   refine m_cl #[] (some 79) (c12 hst) ?_
   rintro _ w1 ⟨rfl, hst⟩
   refine nx hst ?_
   refine r_en [] [] [(80, .bool true), (4, .bool true)] rc_nil ?_
   refine W_ret ?_
   refine q_rt [] [] (.bool true) rc_nil hst ?_
   replace hst := hst.weak (((hG1.trans hG2).trans hG3).trans hG4)
   exact ⟨rfl, hst.drop [_, _, _, _]⟩

end Go.Proofs.Ytjgnhhgigickaaa.Wk
/- From a reading of an argument to the walk's words: a type read as data is a tree in memory; and back: behind a call that leaves all old blocks alone the arguments read as before. Conditions: none. -/

namespace Go.Proofs.Ytjgnhhgigickaaa.Wk
open Go Md Go.ChangeShapes Go.WideShapes Go.ChangeAt Go.RowKit

/-- all that is there -/
def WG (w : World) : GH := ⟨fun b => w.heap[b]?, w.os, w.output⟩
theorem WG.st (w : World) : St (WG w) [] w := ⟨fun _ _ h => h, (fun p hp => by cases hp), (fun p hp => by cases hp), List.nodup_nil, rfl, rfl⟩

theorem cells3 {w : World} {a : Addr} {cs : List Value} (h : w.cells? 0 a 3 = some cs) : ∃ v0 v1 v2, cs = [v0, v1, v2] ∧ a.spot = none ∧ GC (WG w) ⟨a.block, a.off, none⟩ v0 ∧ GC (WG w) ⟨a.block, a.off + 1, none⟩ v1 ∧ GC (WG w) ⟨a.block, a.off + 2, none⟩ v2 := by
  unfold World.cells? at h
  rw [if_pos (Nat.zero_le _)] at h
  have e : List.range 3 = [0, 1, 2] := by decide
  rw [e] at h
  simp only [List.mapM_cons, List.mapM_nil, Option.bind_eq_bind, Option.pure_def] at h
  obtain ⟨v0, h0, h⟩ := Option.bind_eq_some_iff.1 h
  obtain ⟨l1, h1, h⟩ := Option.bind_eq_some_iff.1 h
  obtain ⟨v1, g1, h2⟩ := Option.bind_eq_some_iff.1 h1
  obtain ⟨l2, h3, h4⟩ := Option.bind_eq_some_iff.1 h2
  obtain ⟨v2, g2, h5⟩ := Option.bind_eq_some_iff.1 h3
  simp only [Option.bind_some, Option.some.injEq] at h h4 h5
  subst h5; subst h4; subst h
  have key : ∀ {x : Addr} {v : Value}, w.cell? x = some v → x.spot = none ∧ GC (WG w) ⟨x.block, x.off, none⟩ v := by
    intro x v hx
    unfold World.cell? at hx
    split at hx
    · rename_i c T fz hb
      split at hx
      · cases hx
      · rename_i hs
        exact ⟨by cases hh : x.spot with | none => rfl | some y => rw [hh] at hs; simp at hs, c, T, fz, hb, rfl, hx⟩
    · cases hx
  have k0 := key h0
  have k1 := key g1
  have k2 := key g2
  exact ⟨v0, v1, v2, rfl, k0.1, k0.2, k1.2, k2.2⟩

theorem polys_cells {G : GH} : ∀ {n : Nat} {b off : Nat} (h : ∀ i, i < n → ∃ v0 v1 v2 t, GC G ⟨b, off + i * 3, none⟩ v0 ∧ GC G ⟨b, off + i * 3 + 1, none⟩ v1 ∧ GC G ⟨b, off + i * 3 + 2, none⟩ v2 ∧ IsPoly G (.agg #[v0, v1, v2]) t), ∃ ts, ts.length = n ∧ IsPolys G (some ⟨b, off, none⟩) ts
  | 0, b, off, _ => ⟨[], rfl, IsPolys.nil⟩
  | n + 1, b, off, h => by
    obtain ⟨v0, v1, v2, t, h0, h1, h2, ht⟩ := h 0 (Nat.succ_pos _)
    obtain ⟨ts, hl, hts⟩ := polys_cells (n := n) (b := b) (off := off + 3) (fun i hi => by
      obtain ⟨v0, v1, v2, t, h0, h1, h2, ht⟩ := h (i + 1) (by omega)
      have e : off + (i + 1) * 3 = off + 3 + i * 3 := by omega
      rw [e] at h0 h1 h2
      exact ⟨v0, v1, v2, t, h0, h1, h2, ht⟩)
    refine ⟨t :: ts, by simp [hl], ?_⟩
    unfold IsPolys
    exact ⟨b, off, v0, v1, v2, rfl, by simpa using h0, by simpa using h1, by simpa using h2, ht, hts⟩

set_option maxRecDepth 100000 in
theorem trod_poly {H : Type} {enc : TypeId × Value → H} {w : World} {sp : Nat → Bool} {held : Bool} : ∀ (f : Nat) {cs : List Value} {x : DataW H × List MemPlace}, DataW.trod enc Try.prog w 0 sp held f 24 cs = some x → ∃ v0 v1 v2 t, cs = [v0, v1, v2] ∧ IsPoly (WG w) (.agg #[v0, v1, v2]) t := by
  intro f
  induction f using Nat.strongRecOn with
  | _ f ih =>
  intro cs x h
  obtain ⟨xs, n, rfl, _, hl, hlen, hf⟩ := DataW.trod_struct Try.underlying24 h
  have c24 : Try.prog.cellsOf 24 = 3 := by kernel_rfl
  have c3 : Try.prog.cellsOf 3 = 1 := by kernel_rfl
  have c22 : Try.prog.cellsOf 22 = 1 := by kernel_rfl
  rw [c24] at hl
  match cs, hl with
  | [v0, v1, v2], _ =>
    match xs, hlen with
    | [y0, y1, y2], _ =>
      have f0 : DataW.trod enc Try.prog w 0 sp held n 3 (([v0, v1, v2].drop 0).take (Try.prog.cellsOf 3)) = [y0, y1, y2][0]? := hf 0 _ rfl
      have f1 : DataW.trod enc Try.prog w 0 sp held n 3 (([v0, v1, v2].drop 1).take (Try.prog.cellsOf 3)) = [y0, y1, y2][1]? := hf 1 _ rfl
      have f2 : DataW.trod enc Try.prog w 0 sp held n 22 (([v0, v1, v2].drop 2).take (Try.prog.cellsOf 22)) = [y0, y1, y2][2]? := hf 2 _ rfl
      rw [c3] at f0 f1
      rw [c22] at f2
      have f0 : DataW.trod enc Try.prog w 0 sp held n 3 [v0] = some y0 := by simpa using f0
      have f1 : DataW.trod enc Try.prog w 0 sp held n 3 [v1] = some y1 := by simpa using f1
      have f2 : DataW.trod enc Try.prog w 0 sp held n 22 [v2] = some y2 := by simpa using f2
      obtain ⟨k, hk, _, _⟩ := DataW.trod_int Try.underlying3 f0
      obtain ⟨m, hm, _, _⟩ := DataW.trod_int Try.underlying3 f1
      simp only [List.cons.injEq, and_true] at hk hm
      subst hk; subst hm
      rcases DataW.trod_slice Try.underlying22 f2 with ⟨hs, _⟩ | ⟨a, len, cap, elems, rest, n', rfl, hs, _, _, hcap, _, hel, he, _⟩
      · cases hs
        exact ⟨_, _, _, .mk k m [], rfl, IsPoly.mk (t := .mk k m []) (Nat.le_refl _) IsPolys.nil⟩
      · cases hs
        rw [c24] at he
        have hel2 : ∀ i, i < len → ∃ v0 v1 v2 t, (a.add (i * 3)).spot = none ∧ GC (WG w) ⟨(a.add (i * 3)).block, (a.add (i * 3)).off, none⟩ v0 ∧ GC (WG w) ⟨(a.add (i * 3)).block, (a.add (i * 3)).off + 1, none⟩ v1 ∧ GC (WG w) ⟨(a.add (i * 3)).block, (a.add (i * 3)).off + 2, none⟩ v2 ∧ IsPoly (WG w) (.agg #[v0, v1, v2]) t := by
          intro i hi
          have h1 := he i hi
          have h2 : ∃ y, elems[i]? = some y := ⟨elems[i]'(by omega), List.getElem?_eq_getElem (by omega)⟩
          obtain ⟨y, hy⟩ := h2
          rw [hy] at h1
          obtain ⟨cs, hc, ht⟩ := Option.bind_eq_some_iff.1 h1
          obtain ⟨u0, u1, u2, rfl, hsp, g0, g1, g2⟩ := cells3 hc
          obtain ⟨v0, v1, v2, t, hcs, hp⟩ := ih n' (by omega) ht
          simp only [List.cons.injEq, and_true] at hcs
          obtain ⟨rfl, rfl, rfl⟩ := hcs
          exact ⟨u0, u1, u2, t, hsp, g0, g1, g2, hp⟩
        have hab : ∀ i, (a.add i).block = a.block := fun i => by unfold Addr.add; split <;> rfl
        have hao : ∀ i, (a.add i).off = a.off + i := fun i => by unfold Addr.add; split <;> simp_all
        cases len with
        | zero => exact ⟨_, _, _, .mk k m [], rfl, IsPoly.mk (t := .mk k m []) (Nat.zero_le _) IsPolys.nil⟩
        | succ len =>
          have hsp : a.spot = none := by
            obtain ⟨_, _, _, _, h, _⟩ := hel2 0 (Nat.succ_pos _)
            simpa [Addr.add] using h
          obtain ⟨ts, htl, hts⟩ := polys_cells (G := WG w) (n := len + 1) (b := a.block) (off := a.off) (fun i hi => by
            obtain ⟨v0, v1, v2, t, _, g0, g1, g2, hp⟩ := hel2 i hi
            rw [hab, hao] at g0 g1 g2
            exact ⟨v0, v1, v2, t, g0, g1, g2, hp⟩)
          have ha : a = ⟨a.block, a.off, none⟩ := by cases a; simp only at hsp; subst hsp; rfl
          refine ⟨_, _, _, .mk k m ts, rfl, ?_⟩
          rw [ha, ← htl]
          exact IsPoly.mk (t := .mk k m ts) (by show ts.length ≤ cap; omega) hts
theorem read_poly {H : Type} {enc : TypeId × Value → H} {w : World} {sp : Nat → Bool} {held : Bool} {v : Value} {d : DataW H} {ps : List MemPlace} (h : DataW.Trod enc Try.prog w 0 sp held 24 v d ps) : ∃ t, IsPoly (WG w) v t := by
  obtain ⟨f, hf⟩ := h
  obtain ⟨v0, v1, v2, t, hc, hp⟩ := trod_poly f hf
  refine ⟨t, ?_⟩
  have : v = .agg #[v0, v1, v2] := by
    cases v with
    | agg cs => simp only [Value.cells] at hc; congr 1; exact Array.toList_inj.1 hc
    | _ => simp [Value.cells] at hc
  rw [this]; exact hp
set_option maxRecDepth 100000 in
theorem read_string {H : Type} {enc : TypeId × Value → H} {w : World} {sp : Nat → Bool} {held : Bool} {v : Value} {d : DataW H} {ps : List MemPlace} {b0 : Nat} (hok : Value.okWide Try.prog w .any b0 9 v) (h : DataW.Trod enc Try.prog w 0 sp held 9 v d ps) : ∃ l, v = .string (bs l) := by
  obtain ⟨s, rfl, _⟩ := Go.ChangeMaps.open_string Try.underlying9 hok h
  exact ⟨s.data.toList, by rw [← bs_of]⟩

/-- behind the call: what was there is there -/
theorem kept_of {w w' : World} (h : St (WG w) [] w') (may : MemPlace → Prop) : w.keptBut w' may := by
  refine ⟨h.os, h.out, fun i hi => ?_⟩
  have hx : w.heap[i]? = some (w.heap[i]'hi) := Array.getElem?_eq_getElem hi
  have := h.imm i _ hx
  rw [this, hx]
  cases w.heap[i]'hi with
  | cells c t fz => exact ⟨rfl, rfl, rfl, fun _ _ => rfl⟩
  | map es ck => exact .inr ⟨rfl, rfl⟩
  | _ => rfl
theorem same_of {w w' : World} (h : St (WG w) [] w') {x : MemPlace} (hx : x.block < w.heap.size) : w.sameAt w' x := by
  have h0 : w.heap[x.block]? = some (w.heap[x.block]'hx) := Array.getElem?_eq_getElem hx
  have h1 := h.imm _ _ h0
  cases x with
  | cell b off => show (match w'.heap[b]? with | some (.cells c _ _) => _ | _ => none) = (match w.heap[b]? with | some (.cells c _ _) => _ | _ => none); rw [show w'.heap[b]? = w.heap[b]? from h1.trans h0.symm]
  | map b => exact h1.trans h0.symm
theorem Try.laidOut : laidOutB Try.prog = true := by kernel_rfl
theorem trod_kept {H : Type} {enc : TypeId × Value → H} {t : TypeId} (hr : Try.prog.readableRec t = true) (hrow : t < Try.prog.types.size) {w w' : World} {v : Value} {d : DataW H} {ps : List MemPlace}
    (h : DataW.Trod enc Try.prog w 0 (fun _ => true) true t v d ps) (hs : St (WG w) [] w') (hlt : ∀ x ∈ ps, x.block < w.heap.size) :
    DataW.Trod enc Try.prog w' 0 (fun b => decide (b < w.heap.size)) true t v d ps :=
  WideElems.Trod_stays Try.laidOut hr hrow h (fun x hx => same_of hs (hlt x hx)) (fun x hx => by simpa using hlt x hx)
/-- the row's word of a call that answers true and leaves all alone -/
theorem post_true {H : Type} {enc : TypeId × Value → H} {f : Func} {s : ChangeSpec} {apart fresh handsOn : Bool} {w w' : World} {args : Array Value} {ds : List (DataW H)} {before : List MemPlace}
    (hW : DataW.Whole enc Try.prog f.params.toList s.vars apart w args.toList ds [] before) (hv : s.vars = []) (hrt : f.resultTypes = #[4]) (hres : (s.fn H (ds ++ [])).results = [.lit (.bool true)]) (hra : (s.fn H (ds ++ [])).args = ds) (hrv : (s.fn H (ds ++ [])).vars = [])
    (hargs : DataW.TrodAll enc Try.prog w' 0 (fun b => decide (b < w.heap.size)) true f.params.toList args.toList ds before) (hs : St (WG w) [] w') :
    s.post enc Try.prog f apart fresh handsOn false w args (.bool true) w' := by
  refine ⟨ds, [], before, [], before, [], hW, ?_, by rw [hra]; exact hargs, by rw [hrv, hv]; rfl, kept_of hs _, fun h => by cases h⟩
  rw [hrt, hres]
  exact trodAll_mk1 (shut_bool Try.underlying4 true)
end Go.Proofs.Ytjgnhhgigickaaa.Wk
/- RankTexts holds: the law returns true for every type and every text, and both read afterwards as they read before. Conditions: none but those that the given row itself bears. -/

namespace Go.Proofs.Ytjgnhhgigickaaa
open Go.ChangeShapes Go.WideShapes Go.ChangeAt Go.RowKit

theorem own : ownKnob Try.prog.godebug = none := by kernel_rfl

set_option maxRecDepth 100000 in
theorem texts_lifted (os : Os) (started : os.Started) (H : Type) (enc : TypeId × Value → H) :
    ReturnsInHanded {} Try.checked os 3 .any (Rows.rankTextsSpec.pre6 enc Try.prog Try.f3 Rows.rankTextsRow.domain false) (Rows.rankTextsSpec.post enc Try.prog Try.f3 false true false false) := by
  refine returnsInHanded_of_change (C := Try.checked) own started (by kernel_rfl) Try.func3
    (ChangeSpec.witness6 (enc := enc) (C := Try.checked) false ⟨#[], #[.agg #[.int .i64 0, .int .i64 0, .slice none 0 0], .string (Wk.bs [])], []⟩ 8 (by kernel_rfl) (by kernel_rfl) (by kernel_rfl) (by kernel_rfl)) ?_
  intro W base args ds gs before hval0 hW _ _
  have hval : ∀ (j : Nat) t v, Try.f3.params[j]? = some t → args[j]? = some v → Value.okWide Try.prog W .any base t v := hval0
  have hW' := hW
  obtain ⟨p, q, hA0, hV, rfl, _, _⟩ := hW
  have hA : DataW.TrodAll enc Try.prog W 0 (fun _ => true) true Try.f3.params.toList args.toList ds p := hA0
  have hA1 := hA
  rw [Try.params3] at hA hval
  obtain ⟨v0, v1, d0, d1, p0, p1, rfl, rfl, rfl, h0, h1⟩ := trodAll_two hA
  obtain ⟨rfl, rfl⟩ := trodVars_none hV
  obtain ⟨t, ht⟩ := Wk.read_poly h0
  obtain ⟨s, rfl⟩ := Wk.read_string (hval 1 9 v1 rfl rfl) h1
  have hlt : ∀ x ∈ (p0 ++ p1), x.block < W.heap.size := fun x hx => by simpa using hW'.lt x (by simpa using hx)
  refine (Wk.c3 ht (Wk.WG.st W)).mono fun v W' ⟨hv, hs⟩ => ?_
  subst hv
  simp only [List.append_nil] at hW'
  refine Wk.post_true hW' rfl rfl rfl rfl rfl ?_ hs
  exact trodAll_mk2 (Wk.trod_kept (by kernel_rfl) (of_decide_eq_true (by kernel_rfl)) h0 hs fun x hx => hlt x (List.mem_append_left _ hx)) (Wk.trod_kept (by kernel_rfl) (of_decide_eq_true (by kernel_rfl)) h1 hs fun x hx => hlt x (List.mem_append_right _ hx))

theorem texts_holds : Rows.RankTextsSaid :=
  OpenClaim.holds_of_wide 3 Try.f3 rfl rfl rfl rfl rfl rfl rfl ⟨rfl, rfl, rfl, rfl, rfl⟩ rfl rfl rfl rfl rfl (by kernel_rfl) Try.func3 (by kernel_rfl)
    (of_decide_eq_true (by kernel_rfl)) (by unfold Func.isWrapper; first | (rw [if_pos (by decide +kernel)]; kernel_rfl) | (rw [if_neg (by decide +kernel)]; exact ⟨rfl, rfl⟩))
    (fun os started H enc _ => texts_lifted os started H enc)
#print axioms texts_holds
end Go.Proofs.Ytjgnhhgigickaaa
