/- The texts K0 K1 K2 M0 K3 K17 K4 W1 W2 W3 W4 W5, joined by wip/tools/squeeze.py: contracts of the given program's functions and plain laws. Conditions: each theorem's own. -/
import Derived.CallsIn
import Derived.OrdersIn
import Derived.OrdersHeld
import Derived.RangeFuncIn
import Derived.RangeFuncLeaves
import Derived.KernelRfl
import Derived.Wp
import Derived.Deep.AppendSrc
import Derived.Test.YtjgnhhgigickaaaProg
set_option linter.all false


namespace Go.Proofs.Ytjgnhhgigickaaa.Wk
open Go

abbrev Env := Nat → Value

/-- The wide fence, in a round or not. -/
abbrev FW (r : Option Nat) : Fence := { fn := fun _ => True, depth := none, alive := false, round := r }

def upd (ρ : Env) (d : Nat) (v : Value) : Env := fun i => bif Nat.beq i d then v else ρ i
def updo (ρ : Env) (d : Option Nat) (v : Value) : Env :=
  match d with
  | some d => upd ρ d v
  | none => ρ
def ev (ρ : Env) : Operand → Value
  | .tmp t => ρ t
  | .const v => v
  | .global g => .pointer (some ⟨g, 0, none⟩)
  | .func f => .func (.func f) #[] #[]
def envOf (a : Act) : Env := fun i => a.tmps.getD i undef

theorem eval_eq (a : Act) : a.eval = ev (envOf a) := by
  funext x; cases x <;> rfl

theorem upd_same (ρ : Env) (d : Nat) (v : Value) : upd ρ d v d = v := by
  unfold upd
  rw [show Nat.beq d d = true from Nat.beq_refl d]; rfl
theorem beq_ne {i d : Nat} (h : i ≠ d) : Nat.beq i d = false := by
  cases hb : Nat.beq i d with
  | false => rfl
  | true => exact absurd (Nat.eq_of_beq_eq_true hb) h
theorem upd_ne (ρ : Env) {d i : Nat} (v : Value) (h : i ≠ d) : upd ρ d v i = ρ i := by
  simp [upd, beq_ne h]
theorem upd_self (ρ : Env) (d : Nat) : upd ρ d (ρ d) = ρ := by
  funext i
  by_cases h : i = d
  · subst h; exact upd_same _ _ _
  · exact upd_ne _ _ h
theorem upd_comm (ρ : Env) {d e : Nat} (v u : Value) (h : d ≠ e) : upd (upd ρ d v) e u = upd (upd ρ e u) d v := by
  funext i
  by_cases h1 : i = e
  · subst h1; rw [upd_same, upd_ne _ _ (Ne.symm h), upd_same]
  · rw [upd_ne _ _ h1]
    by_cases h2 : i = d
    · subst h2; rw [upd_same, upd_same]
    · rw [upd_ne _ _ h2, upd_ne _ _ h2, upd_ne _ _ h1]
theorem updo_comm (ρ : Env) {x y : Option Nat} (v u : Value) (h : ∀ d, x = some d → y ≠ some d) :
    updo (updo ρ x v) y u = updo (updo ρ y u) x v := by
  cases x with
  | none => rfl
  | some d =>
    cases y with
    | none => rfl
    | some e => exact upd_comm ρ v u (fun he => h d rfl (he ▸ rfl))

theorem envOf_put (a : Act) (d : Option Nat) (v : Value) (h : ∀ t, d = some t → t < a.tmps.size) : envOf (a.put d v) = updo (envOf a) d v := by
  cases d with
  | none => rfl
  | some t =>
    funext i
    have ht := h t rfl
    simp only [envOf, Act.put, updo]
    by_cases hi : i = t
    · subst hi; rw [upd_same]; simp [Array.getD, ht]
    · rw [upd_ne _ _ hi]
      simp only [envOf, Array.getD_eq_getD_getElem?, Array.getElem?_setIfInBounds_ne (Ne.symm hi)]
theorem size_put (a : Act) (d : Option Nat) (v : Value) : (a.put d v).tmps.size = a.tmps.size := by
  cases d with
  | none => rfl
  | some t => simp [Act.put]
theorem defers_put (a : Act) (d : Option Nat) (v : Value) : (a.put d v).defers = a.defers := by
  cases d <;> rfl

/-- What a guard sees. -/
def yl (ops : Array Oper) (ρ : Env) (j : Nat) : Option Bool :=
  match (ops[j]?).bind (·.dst) with
  | some t => (match ρ t with | .bool b => some b | _ => none)
  | none => none
theorem yielded_eq (ops : Array Oper) (a : Act) : yielded ops a.tmps = yl ops (envOf a) := by
  funext j
  unfold yielded yl envOf
  cases h : (ops[j]?).bind (·.dst) with
  | none => rfl
  | some t =>
    simp only [Option.bind_some, Array.getD_eq_getD_getElem?]
    cases a.tmps[t]? with
    | none => rfl
    | some v => cases v <;> rfl

section
variable (P : Program)

/-- One operation: what it yields, or what its call yields, goes to KV. -/
def OpE (o : Oper) (e : Operand → Value) (w : World) (KV : Value → World → Prop) : Prop :=
  match (execOp e o).run P w with
  | .ok (.value v) w' => KV v w'
  | .ok .skip w' => KV undef w'
  | .ok (.enter f args) w' => Calls P f args w' fun e w'' => ∃ v, e = .returned v ∧ KV v w''
  | .ok (.round l f tmps az body) w' => RoundIn (FW none) 0 P l f tmps az body w' fun e w'' => ∃ v, e = .returned v ∧ KV v w''
  | _ => False

theorem OpE_mono {o : Oper} {e : Operand → Value} {w : World} {K K' : Value → World → Prop} (h : ∀ v w, K v w → K' v w) (hh : OpE P o e w K) : OpE P o e w K' := by
  unfold OpE at *
  generalize (execOp e o).run P w = r at *
  cases r with
  | ok n w' =>
    cases n <;> simp only at hh ⊢ <;>
      first
        | exact h _ _ hh
        | exact Calls.mono hh (fun e w'' ⟨v, he, hv⟩ => ⟨v, he, h _ _ hv⟩)
        | exact RoundIn.mono hh (fun e w'' ⟨v, he, hv⟩ => ⟨v, he, h _ _ hv⟩)
  | halt x w' => exact hh

def opR (ops : Array Oper) (i : Nat) (K : Env → World → Prop) (ρ : Env) (w : World) : Prop :=
  match ops[i]? with
  | none => K ρ w
  | some o => if Region.wanted o (yl ops ρ) = true then OpE P o (ev ρ) w (fun v w' => K (updo ρ o.dst v) w') else K (updo ρ o.dst undef) w

theorem opR_mono {ops : Array Oper} {i : Nat} {ρ : Env} {w : World} {K K' : Env → World → Prop} (h : ∀ a w, K a w → K' a w) (hh : opR P ops i K ρ w) : opR P ops i K' ρ w := by
  unfold opR at *
  split
  · exact h _ _ (by simpa [*] using hh)
  · rename_i o ho
    simp only [ho] at hh
    split
    · rename_i hw; simp only [hw, if_true] at hh; exact OpE_mono P (fun v w => h _ _) hh
    · rename_i hw; simp only [hw] at hh; exact h _ _ hh

def anyR (md : Region.Mode) (ops : Array Oper) (K : Env → World → Prop) : Nat → Array Bool → Env → World → Prop
  | 0, listed, ρ, w => Region.ready md ops listed = [] ∧ K ρ w
  | fuel + 1, listed, ρ, w =>
    (Region.ready md ops listed = [] → K ρ w) ∧
    ∀ i ∈ Region.ready md ops listed, opR P ops i (anyR md ops K fuel (listed.setIfInBounds i true)) ρ w

/-- The same, till number 'j' has been carried out: 'S' holds behind each operation before it. -/
def anyE (md : Region.Mode) (ops : Array Oper) (K : Env → World → Prop) (S : World → Prop) (j : Nat) : Nat → Array Bool → Env → World → Prop
  | 0, listed, ρ, w => Region.ready md ops listed = [] ∧ K ρ w
  | fuel + 1, listed, ρ, w =>
    (Region.ready md ops listed = [] → K ρ w) ∧
    ∀ i ∈ Region.ready md ops listed, opR P ops i (fun ρ' w' =>
      if i = j then anyR P md ops K fuel (listed.setIfInBounds i true) ρ' w'
      else S w' ∧ anyE md ops K S j fuel (listed.setIfInBounds i true) ρ' w') ρ w

theorem anyR_of_anyE {md : Region.Mode} {ops : Array Oper} {K : Env → World → Prop} {S : World → Prop} {j : Nat} : ∀ (fuel : Nat) (listed : Array Bool) (ρ : Env) (w : World),
    anyE P md ops K S j fuel listed ρ w → anyR P md ops K fuel listed ρ w
  | 0, _, _, _, h => h
  | fuel + 1, _, _, _, h => ⟨h.1, fun i hi => opR_mono P (fun ρ' w' h' => by
      by_cases hij : i = j
      · rw [if_pos hij] at h'; exact h'
      · rw [if_neg hij] at h'; exact anyR_of_anyE fuel _ ρ' w' h'.2) (h.2 i hi)⟩

/-- It yields 'v' in every world that meets S, and does nothing else. -/
def YR (ops : Array Oper) (S : World → Prop) (o : Oper) (v : Value) (ρ : Env) : Prop :=
  (Region.wanted o (yl ops ρ) = true ∧ ∀ w, S w → (execOp (ev ρ) o).run P w = .ok (.value v) w) ∨
  (Region.wanted o (yl ops ρ) = false ∧ v = undef)

theorem YR.opR {ops : Array Oper} {S : World → Prop} {i : Nat} {o : Oper} {v : Value} {ρ : Env} (hi : ops[i]? = some o) (hy : YR P ops S o v ρ)
    {K : Env → World → Prop} {w : World} (hS : S w) (h : K (updo ρ o.dst v) w) : opR P ops i K ρ w := by
  unfold Wk.opR
  simp only [hi]
  rcases hy with ⟨hw, hv⟩ | ⟨hw, rfl⟩
  · simp only [hw, if_true, OpE, hv w hS]; exact h
  · simp only [hw, Bool.false_eq_true, if_false]; exact h

theorem ev_updo {ρ : Env} {dst : Option Nat} {v : Value} {x : Operand} (h : ∀ d, dst = some d → x ≠ .tmp d) : ev (updo ρ dst v) x = ev ρ x := by
  cases dst with
  | none => rfl
  | some d =>
    cases x with
    | tmp t => exact upd_ne _ _ (fun e => h d rfl (e ▸ rfl))
    | _ => rfl
theorem execOp_updo {ops : Array Oper} (o : Oper) (hs : ∀ cs b, o.op ≠ .select cs b) (ρ : Env) (dst : Option Nat) (v : Value) (h : ∀ d, dst = some d → d ∉ o.looksAt ops) :
    execOp (ev (updo ρ dst v)) o = execOp (ev ρ) o :=
  execOp_congr o hs fun x hx => ev_updo fun d hd hxd => h d hd (by
    subst hxd
    exact List.mem_append_left _ (List.mem_filterMap.2 ⟨.tmp d, by simpa using hx, rfl⟩))
theorem wanted_updo {ops : Array Oper} (o : Oper) (ρ : Env) (dst : Option Nat) (v : Value) (h : ∀ d, dst = some d → d ∉ o.looksAt ops) :
    Region.wanted o (yl ops (updo ρ dst v)) = Region.wanted o (yl ops ρ) := by
  cases dst with
  | none => rfl
  | some d =>
    unfold Region.wanted
    cases hg : o.guard with
    | none => rfl
    | some gw =>
      obtain ⟨g, want⟩ := gw
      have hy : yl ops (updo ρ (some d) v) g = yl ops ρ g := by
        unfold yl
        cases ht : (ops[g]?).bind (·.dst) with
        | none => rfl
        | some t =>
          have hne : t ≠ d := fun e => h d rfl (by subst e; simp [Oper.looksAt, hg, ht])
          simp only [updo, upd_ne _ _ hne]
      simp only [hy]
theorem YR.keep {ops : Array Oper} {S : World → Prop} {o : Oper} {v : Value} {ρ : Env} (hs : ∀ cs b, o.op ≠ .select cs b) (hy : YR P ops S o v ρ) (dst : Option Nat) (u : Value)
    (h : ∀ d, dst = some d → d ∉ o.looksAt ops) : YR P ops S o v (updo ρ dst u) := by
  unfold YR at *
  rw [execOp_updo o hs ρ dst u h, wanted_updo o ρ dst u h]
  exact hy

theorem opR_put {ops : Array Oper} {S : World → Prop} {j : Nat} {oi oj : Oper} {v : Value} (hj : ops[j]? = some oj) (hap : oi.apart ops oj = true)
    (hsi : ∀ cs b, oi.op ≠ .select cs b) (hsj : ∀ cs b, oj.op ≠ .select cs b) {K : Env → World → Prop} {ρ : Env} {w : World}
    (hy : YR P ops S oi v ρ) (h : opR P ops j K (updo ρ oi.dst v) w) :
    opR P ops j (fun ρ' w' => YR P ops S oi v ρ' ∧ K (updo ρ' oi.dst v) w') ρ w := by
  obtain ⟨h1, h2, h3⟩ := Oper.apart_spec hap
  unfold opR at *
  simp only [hj] at *
  rw [wanted_updo oj ρ oi.dst v h1] at h
  split
  · rename_i hw
    simp only [hw, if_true] at h
    unfold OpE at *
    rw [execOp_updo oj hsj ρ oi.dst v h1] at h
    have key : ∀ u w'', K (updo (updo ρ oi.dst v) oj.dst u) w'' → YR P ops S oi v (updo ρ oj.dst u) ∧ K (updo (updo ρ oj.dst u) oi.dst v) w'' := fun u w'' hk =>
      ⟨hy.keep P hsi oj.dst u h3, by rw [← updo_comm ρ v u h2]; exact hk⟩
    generalize (execOp (ev ρ) oj).run P w = r at *
    cases r with
    | ok n w' =>
      cases n <;> simp only at h ⊢
      case value u => exact key _ _ h
      case skip => exact key _ _ h
      case enter f args => exact Calls.mono h fun e w'' ⟨u, he, hk⟩ => ⟨u, he, key _ _ hk⟩
      case round l f tmps az body => exact RoundIn.mono h fun e w'' ⟨u, he, hk⟩ => ⟨u, he, key _ _ hk⟩
    | halt x w' => exact h
  · rename_i hw
    simp only [hw] at h
    exact ⟨hy.keep P hsi oj.dst _ h3, by rw [← updo_comm ρ v undef h2]; exact h⟩

/-- 'j' waits for 'i', by a chain of edges. -/
def waits (md : Region.Mode) (ops : Array Oper) : Nat → Nat → Nat → Bool
  | 0, _, _ => false
  | fuel + 1, j, i =>
    match ops[j]? with
    | none => false
    | some o => o.after.any fun e => Region.binds md e && (e.on == i || waits md ops fuel e.on i)

def Closed (md : Region.Mode) (ops : Array Oper) (listed : Array Bool) : Prop :=
  ∀ (k : Nat) (o : Oper), listed.getD k false = true → ops[k]? = some o → ∀ e ∈ o.after, Region.binds md e = true → listed.getD e.on false = true

theorem listed_of_waits {md : Region.Mode} {ops : Array Oper} {listed : Array Bool} (hc : Closed md ops listed) : ∀ (fuel j i : Nat),
    (∀ o, ops[j]? = some o → ∀ e ∈ o.after, Region.binds md e = true → listed.getD e.on false = true) → waits md ops fuel j i = true → listed.getD i false = true
  | 0, _, _, _, h => by simp [waits] at h
  | fuel + 1, j, i, hj, h => by
    unfold waits at h
    cases ho : ops[j]? with
    | none => simp [ho] at h
    | some o =>
      simp only [ho] at h
      obtain ⟨e, he, hb⟩ := Array.any_eq_true'.1 h
      simp only [Bool.and_eq_true, Bool.or_eq_true, beq_iff_eq] at hb
      have hl := hj o ho e he hb.1
      rcases hb.2 with h1 | h1
      · rw [← h1]; exact hl
      · exact listed_of_waits hc fuel e.on i (fun o' ho' => hc e.on o' hl ho') h1

theorem getD_false_of_true {listed : Array Bool} {i : Nat} (h : listed.getD i true = false) : listed.getD i false = false := by
  rcases Nat.lt_or_ge i listed.size with h' | h'
  · simp [Array.getD, h'] at h ⊢; exact h
  · simp [Array.getD, Nat.not_lt.2 h']

theorem Closed.set {md : Region.Mode} {ops : Array Oper} {listed : Array Bool} (hc : Closed md ops listed) {j : Nat} (hj : j ∈ Region.ready md ops listed) :
    Closed md ops (listed.setIfInBounds j true) := by
  obtain ⟨_, oj, hoj, hall⟩ := mem_ready.1 hj
  intro k o hk ho e he hb
  by_cases hkj : j = k
  · subst hkj
    rw [hoj] at ho; cases ho
    exact getD_set_true (hall e he hb)
  · rw [getD_set_ne false hkj] at hk
    exact getD_set_true (hc k o hk ho e he hb)

/-- A pure operation first. -/
theorem anyR_firstF {md : Region.Mode} {ops : Array Oper} {K : Env → World → Prop} {i : Nat} {oi : Oper} {v : Value} (hi : ops[i]? = some oi)
    (hs : ∀ (j : Nat) (o : Oper) cs b, ops[j]? = some o → o.op ≠ .select cs b) : ∀ (fuel : Nat) (listed : Array Bool) (ρ : Env) (w : World),
      (∀ j oj, ops[j]? = some oj → j ≠ i → listed.getD j true = false → (∀ e ∈ oj.after, Region.binds md e = true → e.on ≠ i) → oi.apart ops oj = true) →
      i ∈ Region.ready md ops listed → YR P ops (fun _ => True) oi v ρ →
      anyR P md ops K fuel (listed.setIfInBounds i true) (updo ρ oi.dst v) w → anyR P md ops K (fuel + 1) listed ρ w := by
  intro fuel
  induction fuel with
  | zero =>
    intro listed ρ w _ hr hy H
    refine ⟨fun h => (by rw [h] at hr; cases hr), fun j hj => ?_⟩
    by_cases hji : j = i
    · subst hji; exact hy.opR P hi trivial H
    · have := ready_mono hj hji
      rw [H.1] at this; cases this
  | succ fuel ih =>
    intro listed ρ w hfree hr hy H
    refine ⟨fun h => (by rw [h] at hr; cases hr), fun j hj => ?_⟩
    by_cases hji : j = i
    · subst hji; exact hy.opR P hi trivial H
    · have h1 := H.2 j (ready_mono hj hji)
      obtain ⟨hjun, oj, hoj, hall⟩ := mem_ready.1 hj
      have hnot : ∀ e ∈ oj.after, Region.binds md e = true → e.on ≠ i := fun e he hb heq => by
        have h1 := hall e he hb
        have h0 := getD_false_of_true (mem_ready.1 hr).1
        rw [heq, h0] at h1; cases h1
      have h2 := opR_put P hoj (hfree j oj hoj hji hjun hnot) (fun cs b => hs i oi cs b hi) (fun cs b => hs j oj cs b hoj) hy h1
      have hfree' : ∀ k ok, ops[k]? = some ok → k ≠ i → (listed.setIfInBounds j true).getD k true = false →
          (∀ e ∈ ok.after, Region.binds md e = true → e.on ≠ i) → oi.apart ops ok = true := fun k ok hk hki hun hno => by
        refine hfree k ok hk hki ?_ hno
        by_cases hjk : j = k
        · subst hjk; exact hjun
        · rw [getD_set_ne true hjk] at hun; exact hun
      refine opR_mono P (fun ρ' w' h3 => ih (listed.setIfInBounds j true) ρ' w' hfree' (ready_mono hr (Ne.symm hji)) h3.1 ?_) h2
      rw [Array.setIfInBounds_comm _ _ hji]
      exact h3.2

/-- An operation first in a segment: pure ones always; one that reads, if the segment's last waits for it. -/
theorem anyE_first {md : Region.Mode} {ops : Array Oper} {K : Env → World → Prop} {S T : World → Prop} {z : Nat} {i : Nat} {oi : Oper} {v : Value} (hi : ops[i]? = some oi) (hsel : Region.noSelect ops = true)
    (hiz : i ≠ z) (hST : ∀ w, S w → T w) (hcase : (∀ w, T w) ∨ (∃ fz, waits md ops fz z i = true) ∨ ops[z]? = none) :
    ∀ (fuel : Nat) (listed : Array Bool) (ρ : Env) (w : World), Closed md ops listed → Region.free md ops listed i = true → i ∈ Region.ready md ops listed → YR P ops T oi v ρ → S w →
      anyE P md ops K S z fuel (listed.setIfInBounds i true) (updo ρ oi.dst v) w → anyE P md ops K S z (fuel + 1) listed ρ w := by
  have hs := fun j o cs b ho => Region.noSelect_spec hsel j o cs b ho
  have core : ∀ (fuel : Nat) (listed : Array Bool) (ρ : Env) (w : World), Closed md ops listed →
      (∀ j oj, ops[j]? = some oj → j ≠ i → listed.getD j true = false → (∀ e ∈ oj.after, Region.binds md e = true → e.on ≠ i) → oi.apart ops oj = true) →
      i ∈ Region.ready md ops listed → YR P ops T oi v ρ → S w →
      anyE P md ops K S z fuel (listed.setIfInBounds i true) (updo ρ oi.dst v) w → anyE P md ops K S z (fuel + 1) listed ρ w := by
    intro fuel
    induction fuel with
    | zero =>
      intro listed ρ w _ _ hr hy hS H
      refine ⟨fun h => (by rw [h] at hr; cases hr), fun j hj => ?_⟩
      by_cases hji : j = i
      · subst hji
        refine hy.opR P hi (hST w hS) ?_
        rw [if_neg hiz]; exact ⟨hS, H⟩
      · have := ready_mono hj hji
        rw [H.1] at this; cases this
    | succ fuel ih =>
      intro listed ρ w hc hfree hr hy hS H
      refine ⟨fun h => (by rw [h] at hr; cases hr), fun j hj => ?_⟩
      by_cases hji : j = i
      · subst hji
        refine hy.opR P hi (hST w hS) ?_
        rw [if_neg hiz]; exact ⟨hS, H⟩
      · have h1 := H.2 j (ready_mono hj hji)
        obtain ⟨hjun, oj, hoj, hall⟩ := mem_ready.1 hj
        have h0 := getD_false_of_true (mem_ready.1 hr).1
        have hnot : ∀ e ∈ oj.after, Region.binds md e = true → e.on ≠ i := fun e he hb heq => by
          have h1 := hall e he hb
          rw [heq, h0] at h1; cases h1
        have hfree' : ∀ k ok, ops[k]? = some ok → k ≠ i → (listed.setIfInBounds j true).getD k true = false →
            (∀ e ∈ ok.after, Region.binds md e = true → e.on ≠ i) → oi.apart ops ok = true := fun k ok hk hki hun hno => by
          refine hfree k ok hk hki ?_ hno
          by_cases hjk : j = k
          · subst hjk; exact hjun
          · rw [getD_set_ne true hjk] at hun; exact hun
        by_cases hjz : j = z
        · rcases hcase with hpure | ⟨fz, hz⟩ | hnone
          · have hy' : YR P ops (fun _ => True) oi v ρ := hy.imp (fun ⟨a, b⟩ => ⟨a, fun w _ => b w (hpure w)⟩) id
            have h2 := opR_put P hoj (hfree j oj hoj hji hjun hnot) (fun cs b => hs i oi cs b hi) (fun cs b => hs j oj cs b hoj) hy' h1
            refine opR_mono P (fun ρ' w' h3 => ?_) h2
            rw [if_pos hjz] at h3 ⊢
            refine anyR_firstF P hi hs fuel (listed.setIfInBounds j true) ρ' w' hfree' (ready_mono hr (Ne.symm hji)) h3.1 ?_
            rw [Array.setIfInBounds_comm _ _ hji]
            exact h3.2
          · subst hjz
            have := listed_of_waits hc fz j i (fun o ho => by rw [hoj] at ho; cases ho; exact hall) hz
            rw [h0] at this; cases this
          · subst hjz
            rw [hnone] at hoj; cases hoj
        · have h2 := opR_put P hoj (hfree j oj hoj hji hjun hnot) (fun cs b => hs i oi cs b hi) (fun cs b => hs j oj cs b hoj) hy h1
          refine opR_mono P (fun ρ' w' h3 => ?_) h2
          rw [if_neg hjz] at h3 ⊢
          refine ⟨h3.2.1, ih (listed.setIfInBounds j true) ρ' w' (hc.set hj) hfree' (ready_mono hr (Ne.symm hji)) h3.1 h3.2.1 ?_⟩
          rw [Array.setIfInBounds_comm _ _ hji]
          exact h3.2.2
  intro fuel listed ρ w hc hf
  exact core fuel listed ρ w hc (Region.free_spec hi hf)

/-! ### The moves of a walk through a region -/

/-- p: pure · l: reads what S fixes · e: an effect that keeps S · f: the last of its segment. -/
inductive Mv where
  | p
  | l
  | e
  | f

def RunD (ops : Array Oper) (K : Env → World → Prop) : List (Mv × Nat) → (World → Prop) → Env → World → Prop
  | [], _, ρ, w => K ρ w
  | (m, i) :: rest, S, ρ, w =>
    match ops[i]? with
    | none => False
    | some o =>
      if Region.wanted o (yl ops ρ) = true then
        match m with
        | .p => ∃ v, (∀ w', (execOp (ev ρ) o).run P w' = .ok (.value v) w') ∧ RunD ops K rest S (updo ρ o.dst v) w
        | .l => ∃ v, (∀ w', S w' → (execOp (ev ρ) o).run P w' = .ok (.value v) w') ∧ RunD ops K rest S (updo ρ o.dst v) w
        | .e => OpE P o (ev ρ) w fun v w' => S w' ∧ RunD ops K rest S (updo ρ o.dst v) w'
        | .f => OpE P o (ev ρ) w fun v w' => ∃ S', S' w' ∧ RunD ops K rest S' (updo ρ o.dst v) w'
      else RunD ops K rest S (updo ρ o.dst undef) w

def nextF : List (Mv × Nat) → Nat
  | [] => 1000000
  | (.f, i) :: _ => i
  | _ :: r => nextF r

def okMoves (md : Region.Mode) (ops : Array Oper) : List (Mv × Nat) → Array Bool → Bool
  | [], listed => (Region.ready md ops listed).isEmpty
  | (m, i) :: r, listed =>
    (match m with
      | .p => (Region.ready md ops listed).contains i && Region.free md ops listed i && !(i == nextF r)
      | .l => (Region.ready md ops listed).contains i && Region.free md ops listed i && !(i == nextF r) && (waits md ops 60 (nextF r) i || (ops[nextF r]?).isNone)
      | .e => (match Region.ready md ops listed with | [j] => j == i | _ => false) && !(i == nextF r)
      | .f => (match Region.ready md ops listed with | [j] => j == i | _ => false)) &&
    okMoves md ops r (listed.setIfInBounds i true)

theorem ready_one {md : Region.Mode} {ops : Array Oper} {listed : Array Bool} {i : Nat} (h : (match Region.ready md ops listed with | [j] => j == i | _ => false) = true) : Region.ready md ops listed = [i] := by
  generalize Region.ready md ops listed = l at *
  match l, h with
  | [j], h => simp at h; rw [h]

theorem RunD_any {md : Region.Mode} {ops : Array Oper} {K : Env → World → Prop} (hsel : Region.noSelect ops = true) : ∀ (mv : List (Mv × Nat)) (listed : Array Bool) (S : World → Prop) (ρ : Env) (w : World),
    okMoves md ops mv listed = true → Closed md ops listed → S w → RunD P ops K mv S ρ w → anyE P md ops K S (nextF mv) mv.length listed ρ w
  | [], listed, S, ρ, w, hok, _, _, h => ⟨by simpa [okMoves] using hok, h⟩
  | (m, i) :: r, listed, S, ρ, w, hok, hc, hS, h => by
    unfold RunD at h
    cases ho : ops[i]? with
    | none => simp [ho] at h
    | some o =>
      simp only [ho] at h
      unfold okMoves at hok
      simp only [Bool.and_eq_true] at hok
      obtain ⟨hm, hok⟩ := hok
      by_cases hw : Region.wanted o (yl ops ρ) = true
      · rw [if_pos hw] at h
        cases m with
        | p =>
          obtain ⟨v, hv, h⟩ := h
          simp only [Bool.and_eq_true] at hm
          have hr : i ∈ Region.ready md ops listed := by simpa using hm.1.1
          have hz : i ≠ nextF r := by simpa using hm.2
          exact anyE_first P (T := fun _ => True) ho hsel hz (fun _ _ => trivial) (.inl fun _ => trivial) r.length listed ρ w hc hm.1.2 hr (.inl ⟨hw, fun w _ => hv w⟩) hS
            (RunD_any hsel r _ S _ w hok (hc.set hr) hS h)
        | l =>
          obtain ⟨v, hv, h⟩ := h
          simp only [Bool.and_eq_true] at hm
          have hr : i ∈ Region.ready md ops listed := by simpa using hm.1.1.1
          have hz : i ≠ nextF r := by simpa using hm.1.2
          refine anyE_first P (T := S) ho hsel hz (fun _ h => h) (.inr ?_) r.length listed ρ w hc hm.1.1.2 hr (.inl ⟨hw, hv⟩) hS
            (RunD_any hsel r _ S _ w hok (hc.set hr) hS h)
          rcases Bool.or_eq_true _ _ ▸ hm.2 with h1 | h1
          · exact .inl ⟨60, h1⟩
          · exact .inr (by simpa using h1)
        | e =>
          simp only [Bool.and_eq_true] at hm
          have hr := ready_one hm.1
          have hz : i ≠ nextF r := by simpa using hm.2
          refine ⟨fun h => (by rw [hr] at h; cases h), fun j hj => ?_⟩
          rw [hr] at hj
          obtain rfl : j = i := by simpa using hj
          unfold opR
          simp only [ho]
          rw [if_pos hw]
          refine OpE_mono P (fun v w' h => ?_) h
          rw [if_neg (show ¬ j = nextF ((Mv.e, j) :: r) from hz)]
          exact ⟨h.1, RunD_any hsel r _ S _ w' hok (hc.set (by rw [hr]; simp)) h.1 h.2⟩
        | f =>
          have hr := ready_one hm
          refine ⟨fun h => (by rw [hr] at h; cases h), fun j hj => ?_⟩
          rw [hr] at hj
          obtain rfl : j = i := by simpa using hj
          unfold opR
          simp only [ho]
          rw [if_pos hw]
          refine OpE_mono P (fun v w' h => ?_) h
          rw [if_pos (show j = nextF ((Mv.f, j) :: r) from rfl)]
          obtain ⟨S', hS', h⟩ := h
          exact anyR_of_anyE P _ _ _ _ (RunD_any hsel r _ S' _ w' hok (hc.set (by rw [hr]; simp)) hS' h)
      · rw [if_neg hw] at h
        have hwf : Region.wanted o (yl ops ρ) = false := by simpa using hw
        have hy : YR P ops (fun _ => True) o undef ρ := .inr ⟨hwf, rfl⟩
        cases m with
        | p =>
          simp only [Bool.and_eq_true] at hm
          have hr : i ∈ Region.ready md ops listed := by simpa using hm.1.1
          have hz : i ≠ nextF r := by simpa using hm.2
          exact anyE_first P (T := fun _ => True) ho hsel hz (fun _ _ => trivial) (.inl fun _ => trivial) r.length listed ρ w hc hm.1.2 hr hy hS
            (RunD_any hsel r _ S _ w hok (hc.set hr) hS h)
        | l =>
          simp only [Bool.and_eq_true] at hm
          have hr : i ∈ Region.ready md ops listed := by simpa using hm.1.1.1
          have hz : i ≠ nextF r := by simpa using hm.1.2
          exact anyE_first P (T := fun _ => True) ho hsel hz (fun _ _ => trivial) (.inl fun _ => trivial) r.length listed ρ w hc hm.1.1.2 hr hy hS
            (RunD_any hsel r _ S _ w hok (hc.set hr) hS h)
        | e =>
          simp only [Bool.and_eq_true] at hm
          have hr := ready_one hm.1
          have hz : i ≠ nextF r := by simpa using hm.2
          refine ⟨fun h => (by rw [hr] at h; cases h), fun j hj => ?_⟩
          rw [hr] at hj
          obtain rfl : j = i := by simpa using hj
          unfold opR
          simp only [ho]
          rw [if_neg hw]
          rw [if_neg (show ¬ j = nextF ((Mv.e, j) :: r) from hz)]
          exact ⟨hS, RunD_any hsel r _ S _ w hok (hc.set (by rw [hr]; simp)) hS h⟩
        | f =>
          have hr := ready_one hm
          refine ⟨fun h => (by rw [hr] at h; cases h), fun j hj => ?_⟩
          rw [hr] at hj
          obtain rfl : j = i := by simpa using hj
          unfold opR
          simp only [ho]
          rw [if_neg hw]
          rw [if_pos (show j = nextF ((Mv.f, j) :: r) from rfl)]
          exact anyR_of_anyE P _ _ _ _ (RunD_any hsel r _ S _ w hok (hc.set (by rw [hr]; simp)) hS h)

/-- In the text's order. -/
def seqR (ops : Array Oper) (K : Env → World → Prop) : List Nat → Env → World → Prop
  | [], ρ, w => K ρ w
  | i :: r, ρ, w => opR P ops i (seqR ops K r) ρ w

theorem RunD_seq {ops : Array Oper} {K : Env → World → Prop} : ∀ (mv : List (Mv × Nat)) (S : World → Prop) (ρ : Env) (w : World), S w → RunD P ops K mv S ρ w → seqR P ops K (mv.map (·.2)) ρ w
  | [], _, _, _, _, h => h
  | (m, i) :: r, S, ρ, w, hS, h => by
    unfold RunD at h
    simp only [List.map_cons, seqR]
    unfold opR
    cases ho : ops[i]? with
    | none => simp [ho] at h
    | some o =>
      simp only [ho] at h ⊢
      by_cases hw : Region.wanted o (yl ops ρ) = true
      · rw [if_pos hw] at h ⊢
        cases m with
        | p =>
          obtain ⟨v, hv, h⟩ := h
          simp only [OpE, hv w]
          exact RunD_seq r S _ w hS h
        | l =>
          obtain ⟨v, hv, h⟩ := h
          simp only [OpE, hv w hS]
          exact RunD_seq r S _ w hS h
        | e => exact OpE_mono P (fun v w' h => RunD_seq r S _ w' h.1 h.2) h
        | f => exact OpE_mono P (fun v w' ⟨S', hS', h⟩ => RunD_seq r S' _ w' hS' h) h
      · rw [if_neg hw] at h ⊢
        exact RunD_seq r S _ w hS h

/-! ### Down to the machine's own predicates -/

def dstOk (ops : Array Oper) (n : Nat) : Bool :=
  ops.all fun o => (match o.dst with | some t => decide (t < n) | none => true) && (match o.op with | .defer _ => false | _ => true)

theorem dstOk_spec {ops : Array Oper} {n i : Nat} {o : Oper} (h : dstOk ops n = true) (ho : ops[i]? = some o) : (∀ t, o.dst = some t → t < n) ∧ ∀ c, o.op ≠ .defer c := by
  have := Array.all_eq_true_iff_forall_mem.1 h o (Array.mem_of_getElem? ho)
  simp only [Bool.and_eq_true] at this
  refine ⟨fun t ht => ?_, fun c hc => ?_⟩
  · have h1 := this.1
    rw [ht] at h1
    simpa using h1
  · have h2 := this.2
    rw [hc] at h2
    cases h2

theorem opR_lift {ops : Array Oper} {n : Nat} (hd : dstOk ops n = true) {ro : Option Nat} {m i : Nat} {Q : Exit → Act → World → Prop} {K : Env → World → Prop} {K' : Act → World → Prop} {D : List Deferred}
    (hK : ∀ a w, a.tmps.size = n → a.defers = D → K (envOf a) w → K' a w) (a : Act) (w : World) (hn : a.tmps.size = n) (hD : a.defers = D)
    (h : opR P ops i K (envOf a) w) : wpOpIn (FW ro) m P ops Q i K' a w := by
  unfold wpOpIn
  unfold opR at h
  cases ho : ops[i]? with
  | none => simp only [ho] at h ⊢; exact hK a w hn hD h
  | some o =>
    simp only [ho] at h ⊢
    obtain ⟨hdst, hdef⟩ := dstOk_spec hd ho
    have put : ∀ v w', K (updo (envOf a) o.dst v) w' → K' (a.put o.dst v) w' := fun v w' hk =>
      hK _ _ (by rw [size_put, hn]) (by rw [defers_put, hD]) (by rw [envOf_put a o.dst v (fun t ht => by rw [hn]; exact hdst t ht)]; exact hk)
    rw [yielded_eq]
    by_cases hw : Region.wanted o (yl ops (envOf a)) = true
    · rw [if_pos hw] at h ⊢
      refine ⟨fun _ _ => trivial, ?_⟩
      rw [Oper.semAt_eq _ _ _ hdef, eval_eq]
      unfold OpE at h
      generalize (execOp (ev (envOf a)) o).run P w = res at *
      cases res with
      | ok x w' =>
        cases x <;> simp only at h
        case value v => exact put _ _ h
        case skip => exact put _ _ h
        case enter f args =>
          refine ⟨fun h => (by cases h), ?_⟩
          have hcall : CallsIn Fence.wide (m - 1) P f args w' _ := callsIn_wide.2 h
          exact CallsIn.mono (F := Fence.wide) hcall (fun e w'' he => by obtain ⟨v, rfl, hv⟩ := he; exact put _ _ hv)
        case round l f tmps az body =>
          refine ⟨fun h => (by cases h), ?_⟩
          have hr : RoundIn (FW ro) (m - 1) P l f tmps az body w' _ := ⟨trivial, fun c cs _ => h.2 c cs (fun d hd => by cases hd)⟩
          exact RoundIn.mono hr (fun e w'' he => by obtain ⟨v, rfl, hv⟩ := he; exact put _ _ hv)
      | halt x w' => exact h.elim
    · rw [if_neg hw] at h ⊢
      exact ⟨fun _ _ => trivial, put _ _ h⟩

theorem anyR_lift {md : Region.Mode} {ops : Array Oper} {n : Nat} (hd : dstOk ops n = true) {ro : Option Nat} {m : Nat} {Q : Exit → Act → World → Prop} {K : Env → World → Prop} {D : List Deferred}
    (hK : ∀ a w, a.tmps.size = n → a.defers = D → K (envOf a) w → Q .normal a w) : ∀ (fuel : Nat) (listed : Array Bool) (a : Act) (w : World), a.tmps.size = n → a.defers = D →
    anyR P md ops K fuel listed (envOf a) w → wpAnyIn (FW ro) m P md ops Q fuel listed a w
  | 0, _, a, w, hn, hD, h => ⟨h.1, hK a w hn hD h.2⟩
  | fuel + 1, _, a, w, hn, hD, h => ⟨fun hr => hK a w hn hD (h.1 hr), fun i hi => opR_lift P hd (fun a' w' h1 h2 h3 => anyR_lift hd hK fuel _ a' w' h1 h2 h3) a w hn hD (h.2 i hi)⟩

theorem seqR_lift {ops : Array Oper} {n : Nat} (hd : dstOk ops n = true) {ro : Option Nat} {m : Nat} {Q : Exit → Act → World → Prop} {K : Env → World → Prop} {D : List Deferred}
    (hK : ∀ a w, a.tmps.size = n → a.defers = D → K (envOf a) w → Q .normal a w) : ∀ (l : List Nat) (a : Act) (w : World), a.tmps.size = n → a.defers = D →
    seqR P ops K l (envOf a) w → wpOpsIn (FW ro) m P ops Q l a w
  | [], a, w, hn, hD, h => hK a w hn hD h
  | i :: r, a, w, hn, hD, h => by
    rw [wpOpsIn_cons]
    exact opR_lift P hd (fun a' w' h1 h2 h3 => seqR_lift hd hK r a' w' h1 h2 h3) a w hn hD h

/-! ### Code -/

def lft (n : Nat) (Q : Exit → Env → List Deferred → World → Prop) (e : Exit) (a : Act) (w : World) : Prop :=
  a.tmps.size = n ∧ Q e (envOf a) a.defers w

/-- The walk's word for a piece of code. -/
def W (r : Option Nat) (n : Nat) (c : Code) (Q : Exit → Env → List Deferred → World → Prop) (ρ : Env) (D : List Deferred) (w : World) : Prop :=
  ∀ a : Act, envOf a = ρ → a.tmps.size = n → a.defers = D → c.wpIn (FW r) 0 P (lft n Q) a w

def thn (r : Option Nat) (n : Nat) (y : Code) (Q : Exit → Env → List Deferred → World → Prop) : Exit → Env → List Deferred → World → Prop
  | .normal => W P r n y Q
  | e => Q e
def blk (id : Nat) (Q : Exit → Env → List Deferred → World → Prop) : Exit → Env → List Deferred → World → Prop
  | .exit id' => if id' = id then Q .normal else Q (.exit id')
  | e => Q e

variable {P}
variable {r : Option Nat} {n : Nat} {Q : Exit → Env → List Deferred → World → Prop} {ρ : Env} {D : List Deferred} {w : World}

theorem W_mono {c : Code} {Q' : Exit → Env → List Deferred → World → Prop} (hq : ∀ e ρ D w, Q e ρ D w → Q' e ρ D w) (h : W P r n c Q ρ D w) : W P r n c Q' ρ D w :=
  fun a h1 h2 h3 => wpIn_mono (h a h1 h2 h3) fun _ _ _ ⟨h4, h5⟩ => ⟨h4, hq _ _ _ _ h5⟩

theorem W_skip (h : Q .normal ρ D w) : W P r n .skip Q ρ D w := fun a h1 h2 h3 => wpIn_skip ⟨h2, by rw [h1, h3]; exact h⟩
theorem W_ret (h : Q .ret ρ D w) : W P r n .ret Q ρ D w := fun a h1 h2 h3 => wpIn_ret ⟨h2, by rw [h1, h3]; exact h⟩
theorem W_exit {id : Nat} (h : Q (.exit id) ρ D w) : W P r n (.exit id) Q ρ D w := fun a h1 h2 h3 => wpIn_exit ⟨h2, by rw [h1, h3]; exact h⟩
theorem W_seq {x y : Code} (h : W P r n x (thn P r n y Q) ρ D w) : W P r n (.seq x y) Q ρ D w := fun a h1 h2 h3 =>
  wpIn_seq (wpIn_mono (h a h1 h2 h3) fun e a' w' ⟨h4, h5⟩ => by
    cases e <;> first | exact h5 a' rfl h4 rfl | exact ⟨h4, h5⟩)
/-- a point at which several ways meet -/
def jnn (I : Env → List Deferred → World → Prop) (Q : Exit → Env → List Deferred → World → Prop) : Exit → Env → List Deferred → World → Prop
  | .normal => I
  | e => Q e
theorem W_seqI {x y : Code} (I : Env → List Deferred → World → Prop) (h : W P r n x (jnn I Q) ρ D w) (h2 : ∀ ρ D w, I ρ D w → W P r n y Q ρ D w) : W P r n (.seq x y) Q ρ D w :=
  W_seq (W_mono (fun e _ _ _ h => by cases e <;> first | exact h2 _ _ _ h | exact h) h)
theorem W_block {id : Nat} {c : Code} (h : W P r n c (blk id Q) ρ D w) : W P r n (.block id c) Q ρ D w := fun a h1 h2 h3 =>
  wpIn_block (wpIn_mono (h a h1 h2 h3) fun e a' w' ⟨h4, h5⟩ => by
    cases e with
    | exit id' =>
      simp only [blk] at h5
      simp only [Exit.inBlock]
      by_cases hid : id' = id
      · rw [if_pos hid] at h5 ⊢; exact ⟨h4, h5⟩
      · rw [if_neg hid] at h5 ⊢; exact ⟨h4, h5⟩
    | _ => exact ⟨h4, h5⟩)
theorem W_cond {c : Operand} {x y : Code} {b : Bool} (hc : ev ρ c = .bool b) (h1 : b = true → W P r n x Q ρ D w) (h2 : b = false → W P r n y Q ρ D w) :
    W P r n (.cond c x y) Q ρ D w := fun a ha hn hD => by
  refine wpIn_cond_split (t := b) (by rw [eval_eq, ha]; exact hc) (fun hb => h1 hb a ha hn hD) (fun hb => h2 hb a ha hn hD)
theorem W_condT {c : Operand} {x y : Code} (hc : ev ρ c = .bool true) (h1 : W P r n x Q ρ D w) : W P r n (.cond c x y) Q ρ D w :=
  W_cond hc (fun _ => h1) (fun h => by cases h)
theorem W_condF {c : Operand} {x y : Code} (hc : ev ρ c = .bool false) (h1 : W P r n y Q ρ D w) : W P r n (.cond c x y) Q ρ D w :=
  W_cond hc (fun h => by cases h) (fun _ => h1)

def lp (I : Nat → Env → List Deferred → World → Prop) (m : Nat) (Q : Exit → Env → List Deferred → World → Prop) : Exit → Env → List Deferred → World → Prop
  | .normal => fun ρ D w => ∃ m', m' < m ∧ I m' ρ D w
  | e => Q e

theorem W_loop {c : Code} (I : Nat → Env → List Deferred → World → Prop) (m : Nat) (h₀ : I m ρ D w) (hr : ∀ m ρ D w, I m ρ D w → W P r n c (lp I m Q) ρ D w) : W P r n (.loop c) Q ρ D w := by
  intro a h1 h2 h3 b k cs hro hb hroom
  have key : ∀ m (a : Act) (w : World), a.tmps.size = n → I m (envOf a) a.defers w →
      ∃ e a' w', lft n Q e a' w' ∧ ArrivesIn (Machine.fenced P (FW r)) P (lone (b.atR a (.code c :: .inLoop c :: k)) cs w) b k cs e a' w' := by
    intro m
    induction m using Nat.strongRecOn with
    | _ m ih =>
      intro a w hn hI
      obtain ⟨e, a₁, w₁, hq, harr⟩ := hr m _ _ w hI a rfl hn rfl b (.inLoop c :: k) cs hro hb hroom
      cases e with
      | normal =>
        obtain ⟨hn₁, m', hlt, hI₁⟩ := hq
        obtain ⟨e₂, a₂, w₂, hq₂, harr₂⟩ := ih m' hlt a₁ w₁ hn₁ hI₁
        exact ⟨e₂, a₂, w₂, hq₂, .of_steps (StepsIn.trans harr (.one (fenced_calm hb hroom rfl) stepR_inLoop)) harr₂⟩
      | exit id => exact ⟨_, a₁, w₁, hq, .pass (x := .inLoop c) rfl (fun _ _ => .inl (by simp)) harr⟩
      | goto l => exact ⟨_, a₁, w₁, hq, .pass (x := .inLoop c) rfl (fun _ _ => .inl (by simp)) harr⟩
      | ret => exact ⟨_, a₁, w₁, hq, .pass (x := .inLoop c) rfl (fun _ _ => .inl (by simp)) harr⟩
      | panic ch => exact ⟨_, a₁, w₁, hq, .pass (x := .inLoop c) rfl (fun _ _ => .inl (by simp)) harr⟩
      | outgrown => exact ⟨_, a₁, w₁, hq, .pass (x := .inLoop c) rfl (fun _ _ => .inl (by simp)) harr⟩
  obtain ⟨e, a', w', hq, harr⟩ := key m a w h2 (by rw [h1, h3]; exact h₀)
  exact ⟨e, a', w', hq, .of_steps (.one (fenced_calm hb hroom rfl) stepR_loop) harr⟩

/-! ### Regions -/

theorem W_reg {id : Nat} {ops : Array Oper} (mv : List (Mv × Nat)) (S : World → Prop) (hd : dstOk ops n = true) (hmv : mv.map (·.2) = List.range ops.size)
    (hS : S w) (h : RunD P ops (fun ρ' w' => Q .normal ρ' D w') mv S ρ w) : W P r n (.region id ops false) Q ρ D w := by
  intro a h1 h2 h3
  refine wpIn_region (seqR_lift P hd (K := fun ρ' w' => Q .normal ρ' D w') (D := D) ?_ _ a w h2 h3 ?_)
  · intro a w hn hD hk
    exact ⟨hn, by rw [hD]; exact hk⟩
  · rw [← hmv, h1]
    exact RunD_seq P mv S ρ w hS h

theorem closed_none (md : Region.Mode) (ops : Array Oper) (n : Nat) : Closed md ops (Array.replicate n false) := by
  intro k o hk
  exfalso
  rcases Nat.lt_or_ge k n with h | h
  · simp [Array.getD, h] at hk
  · simp [Array.getD, Nat.not_lt.2 h] at hk

/-- nothing but the tape has moved -/
def SameW (w' w : World) : Prop := w'.heap = w.heap ∧ w'.os = w.os ∧ w'.output = w.output
theorem W_regd {id : Nat} {ops : Array Oper} (mv : List (Mv × Nat)) (S : World → Prop) (hm : P.follows .mixedOrders = true) (hd : dstOk ops n = true) (hsel : Region.noSelect ops = true) (hlen : mv.length = ops.size)
    (hok : okMoves .any ops mv (Array.replicate ops.size false) = true)
    (h : ∀ w', SameW w' w → S w' ∧ RunD P ops (fun ρ' w' => Q .normal ρ' D w') mv S ρ w') : W P r n (.region id ops true) Q ρ D w := by
  intro a h1 h2 h3
  obtain ⟨hS, hR⟩ := h { w with drawn := w.drawn + 1 } ⟨rfl, rfl, rfl⟩
  refine wpIn_region_any hm (anyR_lift P hd (K := fun ρ' w' => Q .normal ρ' D w') (D := D) ?_ _ _ a _ h2 h3 ?_)
  · intro a w hn hD hk
    exact ⟨hn, by rw [hD]; exact hk⟩
  · have key := anyR_of_anyE P _ _ _ _ (RunD_any P hsel mv _ S ρ _ hok (closed_none _ _ _) hS hR)
    rw [hlen] at key
    rw [h1]
    exact key

/-! ### A function -/

/-- What a function hands back, by its frame. -/
def resR (fn : Func) (ρ : Env) : Sem Value := do
  let vs ← fn.results.mapM fun
    | .tmp t => pure (ρ t)
    | .cell a t => do loadVar t (← asAddr (ρ a))
  pure (if h : vs.size = 1 then vs[0] else .tuple vs)
theorem results_eq (fn : Func) (a : Act) : results fn a.tmps = resR fn (envOf a) := rfl

def endQ (P : Program) (fn : Func) (R : Value → World → Prop) : Exit → Env → List Deferred → World → Prop
  | .normal => fun ρ D w => D = [] ∧ ∃ v, (resR fn ρ).run P w = .ok v w ∧ R v w
  | .ret => fun ρ D w => D = [] ∧ ∃ v, (resR fn ρ).run P w = .ok v w ∧ R v w
  | _ => fun _ _ _ => False

/-- A call that returns. -/
def Cal (P : Program) (f : FuncId) (args : Array Value) (w : World) (R : Value → World → Prop) : Prop :=
  Calls P f args w fun e w' => ∃ v, e = .returned v ∧ R v w'

theorem Cal.mono {f : FuncId} {args : Array Value} {R R' : Value → World → Prop} (h : Cal P f args w R) (hr : ∀ v w', R v w' → R' v w') : Cal P f args w R' :=
  Calls.mono h fun _ _ ⟨v, he, hv⟩ => ⟨v, he, hr _ _ hv⟩

theorem cal_of_W {f : FuncId} {fn : Func} {c : Code} {args : Array Value} {R : Value → World → Prop} (hf : P.funcs[f]? = some fn) (hb : fn.body = some c) (hsz : args.size ≤ fn.ntmps)
    (h : W P none fn.ntmps c (endQ P fn R) (fun i => args.getD i undef) [] w) : Cal P f args w R := by
  refine (callsIn_wide (n := 0)).1 (callsIn_of_wp hf hb trivial ?_)
  refine wpIn_mono (h { tmps := args ++ Array.replicate (fn.ntmps - args.size) undef, defers := [] } ?_ ?_ rfl) fun e a w ⟨h1, h2⟩ => ?_
  · funext i
    simp only [envOf, Array.getD_eq_getD_getElem?]
    rcases Nat.lt_or_ge i args.size with hi | hi
    · rw [Array.getElem?_append_left hi]
    · rw [Array.getElem?_append_right hi, Array.getElem?_eq_none (xs := args) hi]
      rcases Nat.lt_or_ge (i - args.size) (fn.ntmps - args.size) with hj | hj
      · rw [Array.getElem?_eq_getElem (by simpa using hj)]; simp
      · rw [Array.getElem?_eq_none (by simpa using hj)]
  · simp; omega
  · cases e with
    | normal =>
      obtain ⟨hD, v, hv, hR⟩ := h2
      exact ⟨hD, v, by rw [results_eq]; exact hv, v, rfl, hR⟩
    | ret =>
      obtain ⟨hD, v, hv, hR⟩ := h2
      exact ⟨hD, v, by rw [results_eq]; exact hv, v, rfl, hR⟩
    | _ => exact h2.elim
end
/-! ### Operations that look at no memory -/

/-- What a computation yields that touches no memory. -/
def pv {α : Type} (P : Program) : Sem α → Option α
  | .pure a => some a
  | .program k => pv P (k P)
  | _ => none

theorem pv_ok {α : Type} {P : Program} {s : Sem α} {a : α} (h : pv P s = some a) (w : World) : s.run P w = .ok a w := by
  induction s generalizing w with
  | pure b => simp only [pv, Option.some.injEq] at h; subst h; rfl
  | program k ih => exact ih _ h w
  | _ => cases h

/-! ### Memory -/

/-- what never changes again: blocks, and what the world outside is -/
structure GH where
  mem : Nat → Option Obj
  os : Os
  out : Array (Nat × ByteArray)
instance : CoeFun GH (fun _ => Nat → Option Obj) := ⟨GH.mem⟩
abbrev LH := List (Nat × Obj)

structure Le (G G' : GH) : Prop where
  mem : ∀ b o, G b = some o → G' b = some o
  os : G'.os = G.os
  out : G'.out = G.out
instance {G G' : GH} : CoeFun (Le G G') (fun _ => ∀ b o, G b = some o → G' b = some o) := ⟨Le.mem⟩
theorem Le.refl (G : GH) : Le G G := ⟨fun _ _ h => h, rfl, rfl⟩
theorem Le.trans {G G' G'' : GH} (h : Le G G') (h' : Le G' G'') : Le G G'' := ⟨fun b o x => h'.mem b o (h.mem b o x), h'.os.trans h.os, h'.out.trans h.out⟩

structure St (G : GH) (L : LH) (w : World) : Prop where
  imm : ∀ b o, G b = some o → w.heap[b]? = some o
  loc : ∀ p, p ∈ L → w.heap[p.1]? = some p.2
  sep : ∀ p, p ∈ L → G p.1 = none
  nd : (L.map (·.1)).Nodup
  os : w.os = G.os
  out : w.output = G.out

/-- What S fixes in a region: all that G and L say. -/
def SS (G : GH) (L : LH) (w : World) : Prop := (∀ b o, G b = some o → w.heap[b]? = some o) ∧ ∀ p, p ∈ L → w.heap[p.1]? = some p.2

theorem St.ss {G : GH} {L : LH} {w : World} (h : St G L w) : SS G L w := ⟨h.imm, h.loc⟩
theorem St.ss' {G G' : GH} {L L' : LH} {w : World} (h : St G' L' w) (hG : Le G G') (hL : ∀ p, p ∈ L → p ∈ L') : SS G L w := ⟨fun b o x => h.imm b o (hG b o x), fun p x => h.loc p (hL p x)⟩

theorem St.heap {G : GH} {L : LH} {w w' : World} (h : St G L w) (he : SameW w' w) : St G L w' :=
  ⟨fun b o x => by rw [he.1]; exact h.imm b o x, fun p x => by rw [he.1]; exact h.loc p x, h.sep, h.nd, he.2.1.trans h.os, he.2.2.trans h.out⟩

theorem St.sub {G : GH} {L L' : LH} {w : World} (h : St G L w) (hs : L'.Sublist L) : St G L' w :=
  ⟨h.imm, fun p x => h.loc p (hs.subset x), fun p x => h.sep p (hs.subset x), h.nd.sublist (hs.map _), h.os, h.out⟩
theorem St.drop {G : GH} {L : LH} {w : World} (A : LH) (h : St G (A ++ L) w) : St G L w := h.sub (List.sublist_append_right A L)
theorem St.perm {G : GH} {L L' : LH} {w : World} (h : St G L w) (hp : L.Perm L') : St G L' w :=
  ⟨h.imm, fun p x => h.loc p (hp.mem_iff.2 x), fun p x => h.sep p (hp.mem_iff.2 x), (hp.map (·.1)).nodup_iff.1 h.nd, h.os, h.out⟩

theorem St.freeze {G : GH} {L : LH} {w : World} : ∀ (F : LH), St G (F ++ L) w → ∃ G', Le G G' ∧ (∀ p, p ∈ F → G' p.1 = some p.2) ∧ St G' L w
  | [], h => ⟨G, Le.refl G, fun _ hp => (by cases hp), h⟩
  | (b, o) :: F, h => by
    have hn : (((b, o) :: (F ++ L)).map (·.1)).Nodup := h.nd
    rw [List.map_cons, List.nodup_cons] at hn
    have h1 : St G (F ++ L) w := h.drop [(b, o)]
    obtain ⟨G', hG, hF, h2⟩ := St.freeze F h1
    have hw : w.heap[b]? = some o := h.loc (b, o) (by simp)
    have hsep : G b = none := h.sep (b, o) (by simp)
    refine ⟨⟨fun x => if x = b then some o else G' x, G'.os, G'.out⟩, ⟨?_, hG.os, hG.out⟩, ?_, ?_, ?_, ?_, h2.nd, h2.os, h2.out⟩
    · intro x y hx
      by_cases hxb : x = b
      · subst hxb; rw [hsep] at hx; cases hx
      · simp only [if_neg hxb]; exact hG x y hx
    · intro p hp
      rcases List.mem_cons.1 hp with rfl | hp
      · simp
      · have hne : p.1 ≠ b := fun e => hn.1 (by rw [← e]; exact List.mem_map.2 ⟨p, List.mem_append_left _ hp, rfl⟩)
        simp only [if_neg hne]; exact hF p hp
    · intro x y hx
      by_cases hxb : x = b
      · subst hxb; simp only [if_true, Option.some.injEq] at hx; subst hx; exact hw
      · simp only [if_neg hxb] at hx; exact h2.imm x y hx
    · exact h2.loc
    · intro p hp
      have hne : p.1 ≠ b := fun e => hn.1 (by rw [← e]; exact List.mem_map.2 ⟨p, List.mem_append_right _ hp, rfl⟩)
      simp only [if_neg hne]; exact h2.sep p hp

theorem heap_push (h : Array Obj) (o : Obj) (b : Nat) (x : Obj) (hb : h[b]? = some x) : (h.push o)[b]? = some x := by
  have hlt := (Array.getElem?_eq_some_iff.1 hb).1
  rw [Array.getElem?_push_lt hlt]
  rw [Array.getElem?_eq_getElem hlt] at hb
  exact hb

theorem St.push {G : GH} {L : LH} {w : World} (h : St G L w) (o : Obj) : St G ((w.heap.size, o) :: L) { w with heap := w.heap.push o } := by
  have fresh : ∀ b x, w.heap[b]? = some x → b ≠ w.heap.size := fun b x hb => Nat.ne_of_lt (Array.getElem?_eq_some_iff.1 hb).1
  refine ⟨fun b x hb => heap_push _ _ _ _ (h.imm b x hb), fun p hp => ?_, fun p hp => ?_, ?_, h.os, h.out⟩
  · rcases List.mem_cons.1 hp with rfl | hp
    · simp
    · exact heap_push _ _ _ _ (h.loc p hp)
  · rcases List.mem_cons.1 hp with rfl | hp
    · cases hg : G w.heap.size with
      | none => rfl
      | some x => exact absurd rfl (fresh _ _ (h.imm _ _ hg))
    · exact h.sep p hp
  · rw [List.map_cons, List.nodup_cons]
    refine ⟨fun hm => ?_, h.nd⟩
    obtain ⟨p, hp, he⟩ := List.mem_map.1 hm
    exact fresh _ _ (h.loc p hp) he

/-- A block of the walk's own is written. -/
theorem St.set {G : GH} {L : LH} {w w' : World} {i b : Nat} {o o' : Obj} (h : St G L w) (hL : L[i]? = some (b, o))
    (hb : w'.heap[b]? = some o') (hk : ∀ x, x ≠ b → w'.heap[x]? = w.heap[x]?) (ho : w'.os = w.os ∧ w'.output = w.output := by exact ⟨rfl, rfl⟩) : St G (L.set i (b, o')) w' := by
  have hi := (List.getElem?_eq_some_iff.1 hL).1
  have hmem : (b, o) ∈ L := List.mem_of_getElem? hL
  have hmap : (L.set i (b, o')).map (·.1) = L.map (·.1) := by
    apply List.ext_getElem? ; intro j
    rw [List.getElem?_map, List.getElem?_map, List.getElem?_set]
    by_cases hij : i = j
    · subst hij; simp [hi]
      have := (List.getElem?_eq_some_iff.1 hL).2
      rw [this]
    · simp [hij]
  refine ⟨fun x y hx => ?_, fun p hp => ?_, fun p hp => ?_, by rw [hmap]; exact h.nd, ho.1.trans h.os, ho.2.trans h.out⟩
  · have hne : x ≠ b := fun e => by subst e; rw [h.sep _ hmem] at hx; cases hx
    rw [hk x hne]; exact h.imm x y hx
  · obtain ⟨j, hj⟩ := List.getElem?_of_mem hp
    rw [List.getElem?_set] at hj
    by_cases hij : i = j
    · subst hij; simp [hi] at hj; subst hj; exact hb
    · simp only [hij, if_false] at hj
      have hpm := List.mem_of_getElem? hj
      have hne : p.1 ≠ b := fun e => by
        have hlj := (List.getElem?_eq_some_iff.1 hj).1
        have h1 : (L.map (·.1))[i]? = some b := by rw [List.getElem?_map, hL]; rfl
        have h2 : (L.map (·.1))[j]? = some b := by rw [List.getElem?_map, hj]; simp [e]
        have hi' : i < (L.map (·.1)).length := by simpa using hi
        exact hij ((List.getElem?_inj hi' h.nd).1 (h1.trans h2.symm))
      rw [hk p.1 hne]; exact h.loc p hpm
  · obtain ⟨j, hj⟩ := List.getElem?_of_mem hp
    rw [List.getElem?_set] at hj
    by_cases hij : i = j
    · subst hij; simp [hi] at hj; subst hj; exact h.sep (b, o) hmem
    · simp only [hij, if_false] at hj
      exact h.sep p (List.mem_of_getElem? hj)

section
variable {P : Program} {ops : Array Oper} {K : Env → World → Prop} {rest : List (Mv × Nat)} {S : World → Prop} {ρ : Env} {w : World} {i : Nat} {o : Oper}
/-- pure, by a fact of its own -/
theorem r_pureF (v : Value) (ho : ops[i]? = some o) (hw : Region.wanted o (yl ops ρ) = true) (hv : ∀ w', (execOp (ev ρ) o).run P w' = .ok (.value v) w')
    (h : RunD P ops K rest S (updo ρ o.dst v) w) : RunD P ops K ((.p, i) :: rest) S ρ w := by
  unfold RunD
  simp only [ho, hw, if_true]
  exact ⟨v, hv, h⟩

theorem r_lF (v : Value) (ho : ops[i]? = some o) (hw : Region.wanted o (yl ops ρ) = true) (hv : ∀ w', S w' → (execOp (ev ρ) o).run P w' = .ok (.value v) w')
    (h : RunD P ops K rest S (updo ρ o.dst v) w) : RunD P ops K ((.l, i) :: rest) S ρ w := by
  unfold RunD
  simp only [ho, hw, if_true]
  exact ⟨v, hv, h⟩

/-- an effect that keeps S -/
theorem r_e (ho : ops[i]? = some o) (hw : Region.wanted o (yl ops ρ) = true) (h : OpE P o (ev ρ) w fun v w' => S w' ∧ RunD P ops K rest S (updo ρ o.dst v) w') : RunD P ops K ((.e, i) :: rest) S ρ w := by
  unfold RunD
  simp only [ho, hw, if_true]
  exact h
/-- the last effect of a segment: another S from here -/
theorem r_f (ho : ops[i]? = some o) (hw : Region.wanted o (yl ops ρ) = true) (h : OpE P o (ev ρ) w fun v w' => ∃ S', S' w' ∧ RunD P ops K rest S' (updo ρ o.dst v) w') : RunD P ops K ((.f, i) :: rest) S ρ w := by
  unfold RunD
  simp only [ho, hw, if_true]
  exact h

/-! the effects, by what is known: 'KV' takes the value and the world -/
variable {KV : Value → World → Prop} {G : GH} {L : LH} {e : Operand → Value} {d : Option Nat} {ty : TypeId} {pos : String} {af : Array Edge} {gd : Option (Nat × Bool)}

theorem OpE_ok {v : Value} {w' : World} (h : (execOp e o).run P w = .ok (.value v) w') (hk : KV v w') : OpE P o e w KV := by
  unfold OpE; rw [h]; exact hk
theorem OpE_skip {w' : World} (h : (execOp e o).run P w = .ok .skip w') (hk : KV undef w') : OpE P o e w KV := by
  unfold OpE; rw [h]; exact hk

end

/-! ### Computations that make one block; that read; that write -/

def pvA {α : Type} (P : Program) : Sem α → Nat → Option (Obj × α)
  | .program k, b => pvA P (k P) b
  | .new o k, b => (pv P (k b)).map fun a => (o, a)
  | _, _ => none

theorem pvA_ok {α : Type} {P : Program} {s : Sem α} {O : Obj} {V : Nat → α} (w : World) (h : pvA P s w.heap.size = some (O, V w.heap.size)) :
    s.run P w = .ok (V w.heap.size) { w with heap := w.heap.push O } := by
  induction s with
  | program k ih => exact ih _ h
  | new o k _ =>
    simp only [pvA, Option.map_eq_some_iff, Prod.mk.injEq] at h
    obtain ⟨a, ha, rfl, rfl⟩ := h
    exact pv_ok ha _
  | _ => cases h

def rdA {α : Type} (P : Program) : Sem α → List Value → Option (List Addr × α)
  | .pure a, [] => some ([], a)
  | .program k, vs => rdA P (k P) vs
  | .load _ a k, v :: vs => (rdA P (k v) vs).map fun x => (a :: x.1, x.2)
  | _, _ => none

theorem rdA_ok {α : Type} {P : Program} {s : Sem α} {x : α} {w : World} : ∀ (vs : List Value) (az : List Addr), rdA P s vs = some (az, x) → (∀ p, p ∈ az.zip vs → w.cell? p.1 = some p.2) → s.run P w = .ok x w := by
  induction s with
  | pure a =>
    intro vs az h _
    cases vs with
    | nil => simp only [rdA, Option.some.injEq, Prod.mk.injEq] at h; obtain ⟨_, rfl⟩ := h; rfl
    | cons v vs => cases h
  | program k ih => exact fun vs az h => ih _ vs az h
  | load m a k ih =>
    intro vs az h hc
    cases vs with
    | nil => cases h
    | cons v vs =>
      simp only [rdA, Option.map_eq_some_iff, Prod.mk.injEq] at h
      obtain ⟨⟨az', x'⟩, h1, rfl, rfl⟩ := h
      have hv : w.cell? a = some v := hc (a, v) (by simp)
      simp only [Sem.run, hv]
      exact ih v vs az' h1 (fun p hp => hc p (by simp [hp]))
  | _ => intro vs az h; cases vs <;> cases h

def stA {α : Type} (P : Program) : Sem α → Option (List (Addr × Value) × α)
  | .pure a => some ([], a)
  | .program k => stA P (k P)
  | .store _ a v k => if v.oneCell then (stA P k).map fun x => ((a, v) :: x.1, x.2) else none
  | _ => none

def setCells (w : World) : List (Addr × Value) → World
  | [] => w
  | (a, v) :: r => setCells (w.setCell a v) r

theorem setCell_shape (w : World) (a b : Addr) (v : Value) (h : (w.cell? b).isSome = true) : ((w.setCell a v).cell? b).isSome = true := by
  unfold World.cell? World.setCell at *
  simp only [Array.getElem?_modify]
  by_cases hab : a.block = b.block
  · rw [if_pos hab]
    cases hx : w.heap[b.block]? with
    | none => simp [hx] at h
    | some o =>
      simp only [hx] at h
      cases o with
      | cells c t fz =>
        simp only [Option.map_some] at h ⊢
        by_cases hs : b.spot.isSome = true
        · simp [hs] at h
        · simp only [hs] at h ⊢
          simp only [Bool.false_eq_true, if_false] at h ⊢
          split
          · exact h
          · simpa using h
      | _ => simp at h
  · rw [if_neg hab]; exact h
theorem setCell_frozen (w : World) (a b : Addr) (v : Value) : (w.setCell a v).frozen? b = w.frozen? b := by
  unfold World.frozen? World.setCell
  simp only [Array.getElem?_modify]
  by_cases hab : a.block = b.block
  · rw [if_pos hab]
    cases w.heap[b.block]? with
    | none => rfl
    | some o => cases o <;> rfl
  · rw [if_neg hab]

theorem stA_ok {α : Type} {P : Program} {s : Sem α} {x : α} : ∀ (l : List (Addr × Value)) (w : World), stA P s = some (l, x) → (∀ p, p ∈ l → (w.cell? p.1).isSome = true ∧ w.frozen? p.1 = false) → s.run P w = .ok x (setCells w l) := by
  induction s with
  | pure a =>
    intro l w h _
    simp only [stA, Option.some.injEq, Prod.mk.injEq] at h; obtain ⟨rfl, rfl⟩ := h; rfl
  | program k ih => exact fun l w h => ih _ l w h
  | store m a v k ih =>
    intro l w h hc
    simp only [stA] at h
    by_cases hv : v.oneCell = true
    · rw [if_pos hv] at h
      simp only [Option.map_eq_some_iff, Prod.mk.injEq] at h
      obtain ⟨⟨l', x'⟩, h1, rfl, rfl⟩ := h
      obtain ⟨h2, h3⟩ := hc (a, v) (by simp)
      have h4 := ih l' (w.setCell a v) h1 (fun p hp => ⟨setCell_shape w a p.1 v (hc p (by simp [hp])).1, by rw [setCell_frozen]; exact (hc p (by simp [hp])).2⟩)
      cases hcell : w.cell? a with
      | none => rw [hcell] at h2; cases h2
      | some y =>
        cases v <;> first
          | (simp [Value.oneCell] at hv; done)
          | (simp only [Sem.run, hcell, h3, Bool.false_eq_true, if_false]; exact h4)
    · rw [if_neg hv] at h; cases h
  | _ => intro l w h; cases h

/-- The cells of one block after some writes. -/
def wr (cs : List Value) : List (Nat × Value) → List Value
  | [] => cs
  | (i, v) :: r => wr (cs.set i v) r

theorem setCells_o : ∀ (l : List (Addr × Value)) (w : World), (setCells w l).os = w.os ∧ (setCells w l).output = w.output
  | [], _ => ⟨rfl, rfl⟩
  | (a, v) :: l, w => setCells_o l (w.setCell a v)
theorem setCells_block {b : Nat} : ∀ (l : List (Nat × Value)) (w : World) (cs : List Value) (T : TypeId) (fz : Nat × Nat), w.heap[b]? = some (.cells cs.toArray T fz) →
    (setCells w (l.map fun p => (⟨b, p.1, none⟩, p.2))).heap[b]? = some (.cells (wr cs l).toArray T fz) ∧
    ∀ x, x ≠ b → (setCells w (l.map fun p => (⟨b, p.1, none⟩, p.2))).heap[x]? = w.heap[x]?
  | [], w, cs, T, fz, h => ⟨h, fun _ _ => rfl⟩
  | (i, v) :: r, w, cs, T, fz, h => by
    have h1 : (w.setCell ⟨b, i, none⟩ v).heap[b]? = some (.cells (cs.set i v).toArray T fz) := by
      simp only [World.setCell, Array.getElem?_modify, if_true, h, Option.map_some]
      simp
    obtain ⟨h2, h3⟩ := setCells_block r (w.setCell ⟨b, i, none⟩ v) (cs.set i v) T fz h1
    refine ⟨h2, fun x hx => ?_⟩
    rw [show (setCells w (((i, v) :: r).map fun p => ((⟨b, p.1, none⟩ : Addr), p.2))) = setCells (w.setCell ⟨b, i, none⟩ v) (r.map fun p => (⟨b, p.1, none⟩, p.2)) from rfl]
    rw [h3 x hx]
    simp only [World.setCell, Array.getElem?_modify]
    rw [if_neg (Ne.symm hx)]

theorem cell_of {w : World} {b : Nat} {cs : Array Value} {T : TypeId} {fz : Nat × Nat} {i : Nat} (h : w.heap[b]? = some (.cells cs T fz)) : w.cell? ⟨b, i, none⟩ = cs[i]? := by
  simp [World.cell?, h]
theorem frozen_of {w : World} {b : Nat} {cs : Array Value} {T : TypeId} {lo hi : Nat} {i : Nat} (h : w.heap[b]? = some (.cells cs T (lo, hi))) : w.frozen? ⟨b, i, none⟩ = (decide (lo ≤ i) && decide (i < hi)) := by
  simp [World.frozen?, h]

section
variable {P : Program} {ops : Array Oper} {K : Env → World → Prop} {rest : List (Mv × Nat)} {S : World → Prop} {ρ : Env} {w : World} {i : Nat} {o : Oper}
variable {KV : Value → World → Prop} {G : GH} {L : LH} {e : Operand → Value}
end

/-! ### A run of reads and pure operations, reckoned by the kernel -/

def addu (d : Option Nat) (v : Value) (us : List (Nat × Value)) : List (Nat × Value) :=
  match d with
  | some d => (d, v) :: us
  | none => us
def upds (ρ : Env) : List (Nat × Value) → Env
  | [] => ρ
  | (d, v) :: us => upds (upd ρ d v) us

def segK (P : Program) (ops : Array Oper) : List (Mv × Nat) → List (List Value) → Env → Option (List (Addr × Value) × List (Nat × Value))
  | [], rs, _ => (match rs with | [] => some ([], []) | _ => none)
  | (m, i) :: r, rs, ρ =>
    match ops[i]? with
    | none => none
    | some o =>
      match Region.wanted o (yl ops ρ) with
      | false => (segK P ops r rs (updo ρ o.dst undef)).map fun x => (x.1, addu o.dst undef x.2)
      | true =>
        match m, rs with
        | .p, rs =>
          (match pv P (execOp (ev ρ) o) with
          | some (.value v) => (segK P ops r rs (updo ρ o.dst v)).map fun x => (x.1, addu o.dst v x.2)
          | _ => none)
        | .l, vs :: rs =>
          (match rdA P (execOp (ev ρ) o) vs with
          | some (az, .value v) => (segK P ops r rs (updo ρ o.dst v)).map fun x => (az.zip vs ++ x.1, addu o.dst v x.2)
          | _ => none)
        | _, _ => none

theorem upds_addu (ρ : Env) (d : Option Nat) (v : Value) (us : List (Nat × Value)) : upds ρ (addu d v us) = upds (updo ρ d v) us := by
  cases d <;> rfl

/-- What G and L say of some cells. -/
def RC (G : GH) (L : LH) (rd : List (Addr × Value)) : Prop := ∀ w', SS G L w' → ∀ p, p ∈ rd → w'.cell? p.1 = some p.2

/-- What G says of one cell. -/
def GC (G : GH) (a : Addr) (v : Value) : Prop := ∃ cs T fz, G a.block = some (.cells cs T fz) ∧ a.spot = none ∧ cs[a.off]? = some v
theorem GC.mono {G G' : GH} {a : Addr} {v : Value} (h : GC G a v) (hG : Le G G') : GC G' a v := let ⟨cs, T, fz, h1, h2⟩ := h; ⟨cs, T, fz, hG _ _ h1, h2⟩
theorem GC.of {G : GH} {b off : Nat} {v : Value} {cs : Array Value} {T : TypeId} {fz : Nat × Nat} (h : G b = some (.cells cs T fz)) (hv : cs[off]? = some v) : GC G ⟨b, off, none⟩ v := ⟨cs, T, fz, h, rfl, hv⟩
theorem GC.cell {G : GH} {a : Addr} {v : Value} (h : GC G a v) {w : World} (hw : ∀ b o, G b = some o → w.heap[b]? = some o) : w.cell? a = some v := by
  obtain ⟨cs, T, fz, h1, h2, h3⟩ := h
  have := hw _ _ h1
  obtain ⟨b, off, sp⟩ := a
  simp only at h2 h3 this; subst h2
  rw [cell_of this]; exact h3

section
variable {G : GH} {L : LH}
theorem rc_nil : RC G L [] := fun _ _ p hp => by cases hp
theorem rc_L (j : Nat) {b off : Nat} {cs : Array Value} {T : TypeId} {fz : Nat × Nat} {v : Value} {rd : List (Addr × Value)} (hL : L[j]? = some (b, .cells cs T fz)) (hv : cs[off]? = some v) (h : RC G L rd) :
    RC G L ((⟨b, off, none⟩, v) :: rd) := fun w' hS p hp => by
  rcases List.mem_cons.1 hp with rfl | hp
  · rw [cell_of (hS.2 _ (List.mem_of_getElem? hL))]; exact hv
  · exact h w' hS p hp
theorem rc_G {b off : Nat} {cs : Array Value} {T : TypeId} {fz : Nat × Nat} {v : Value} {rd : List (Addr × Value)} (hG : G b = some (.cells cs T fz)) (hv : cs[off]? = some v) (h : RC G L rd) :
    RC G L ((⟨b, off, none⟩, v) :: rd) := fun w' hS p hp => by
  rcases List.mem_cons.1 hp with rfl | hp
  · rw [cell_of (hS.1 _ _ hG)]; exact hv
  · exact h w' hS p hp
theorem rc_C {a : Addr} {v : Value} {rd : List (Addr × Value)} (hG : GC G a v) (h : RC G L rd) : RC G L ((a, v) :: rd) := fun w' hS p hp => by
  rcases List.mem_cons.1 hp with rfl | hp
  · exact hG.cell hS.1
  · exact h w' hS p hp
end

section
variable {P : Program} {ops : Array Oper} {K : Env → World → Prop} {rest : List (Mv × Nat)} {S : World → Prop} {w : World} {i : Nat} {o : Oper}
variable {KV : Value → World → Prop} {G : GH} {L : LH} {e : Operand → Value}

theorem r_segS : ∀ (mv : List (Mv × Nat)) (rs : List (List Value)) (ρ : Env) (rd : List (Addr × Value)) (us : List (Nat × Value)), segK P ops mv rs ρ = some (rd, us) →
    (∀ w', S w' → ∀ p, p ∈ rd → w'.cell? p.1 = some p.2) → RunD P ops K rest S (upds ρ us) w → RunD P ops K (mv ++ rest) S ρ w
  | [], rs, ρ, rd, us, h, _, hk => by
    cases rs with
    | nil => simp only [segK, Option.some.injEq, Prod.mk.injEq] at h; obtain ⟨rfl, rfl⟩ := h; exact hk
    | cons _ _ => cases h
  | (m, i) :: r, rs, ρ, rd, us, h, hr, hk => by
    rw [List.cons_append]
    unfold segK at h
    unfold RunD
    cases ho : ops[i]? with
    | none => simp [ho] at h
    | some o =>
      simp only [ho] at h ⊢
      cases hw : Region.wanted o (yl ops ρ) with
      | false =>
        simp only [hw, Option.map_eq_some_iff, Prod.mk.injEq] at h
        obtain ⟨x, hx, rfl, rfl⟩ := h
        simp only [Bool.false_eq_true, if_false]
        rw [upds_addu] at hk
        exact r_segS r rs _ x.1 x.2 hx hr hk
      | true =>
        simp only [hw] at h
        simp only [if_true]
        cases m with
        | p =>
          simp only at h ⊢
          split at h
          · rename_i v hv
            simp only [Option.map_eq_some_iff, Prod.mk.injEq] at h
            obtain ⟨x, hx, rfl, rfl⟩ := h
            rw [upds_addu] at hk
            exact ⟨v, fun w' => pv_ok hv w', r_segS r rs _ x.1 x.2 hx hr hk⟩
          · cases h
        | l =>
          cases rs with
          | nil => cases h
          | cons vs rs =>
            simp only at h ⊢
            split at h
            · rename_i az v hv
              simp only [Option.map_eq_some_iff, Prod.mk.injEq] at h
              obtain ⟨x, hx, rfl, rfl⟩ := h
              rw [upds_addu] at hk
              exact ⟨v, fun w' hS => rdA_ok vs az hv (fun p hp => hr w' hS p (List.mem_append_left _ hp)), r_segS r rs _ x.1 x.2 hx (fun w' hS p hp => hr w' hS p (List.mem_append_right _ hp)) hk⟩
            · cases h
        | e => cases rs <;> cases h
        | f => cases rs <;> cases h

variable {ρ : Env}
theorem r_seg (mv : List (Mv × Nat)) (rs : List (List Value)) (rd : List (Addr × Value)) (us : List (Nat × Value)) (h : segK P ops mv rs ρ = some (rd, us))
    (hr : RC G L rd) (hk : RunD P ops K rest (SS G L) (upds ρ us) w) : RunD P ops K (mv ++ rest) (SS G L) ρ w :=
  r_segS mv rs ρ rd us h hr hk

/-- the last segment -/
theorem r_end (mv : List (Mv × Nat)) (rs : List (List Value)) (rd : List (Addr × Value)) (us : List (Nat × Value)) (h : segK P ops mv rs ρ = some (rd, us))
    (hr : RC G L rd) (hk : K (upds ρ us) w) : RunD P ops K mv (SS G L) ρ w := by
  have := r_segS (P := P) (ops := ops) (K := K) (rest := []) (S := SS G L) (w := w) mv rs ρ rd us h hr hk
  rw [List.append_nil] at this; exact this

theorem r_nil (hk : K ρ w) : RunD P ops K [] S ρ w := hk

/-- operation i, if its guard lets it be carried out: what the kernel reckons of it, and its slot -/
def opK {α : Type} (ops : Array Oper) (i : Nat) (ρ : Env) (f : Sem Next → Option α) : Option (α × Option Nat) :=
  match ops[i]? with
  | none => none
  | some o =>
    match Region.wanted o (yl ops ρ) with
    | false => none
    | true => (f (execOp (ev ρ) o)).map fun x => (x, o.dst)

theorem opK_spec {α : Type} {f : Sem Next → Option α} {x : α} {d : Option Nat} (h : opK ops i ρ f = some (x, d)) :
    ∃ o, ops[i]? = some o ∧ Region.wanted o (yl ops ρ) = true ∧ f (execOp (ev ρ) o) = some x ∧ o.dst = d := by
  unfold opK at h
  cases ho : ops[i]? with
  | none => simp [ho] at h
  | some o =>
    simp only [ho] at h
    cases hw : Region.wanted o (yl ops ρ) with
    | false => simp [hw] at h
    | true =>
      simp only [hw, Option.map_eq_some_iff, Prod.mk.injEq] at h
      obtain ⟨y, hy, rfl, hd⟩ := h
      exact ⟨o, rfl, hw, hy, hd⟩

/-- what an effect must show: f, the last of its segment (a new S) -/
theorem m_f {α : Type} {f : Sem Next → Option α} (x : α) (d : Option Nat) (h : opK ops i ρ f = some (x, d))
    (hk : ∀ o : Oper, f (execOp (ev ρ) o) = some x → OpE P o (ev ρ) w fun v w' => ∃ S', S' w' ∧ RunD P ops K rest S' (updo ρ d v) w') : RunD P ops K ((.f, i) :: rest) S ρ w := by
  obtain ⟨o, ho, hw, hx, rfl⟩ := opK_spec h
  exact r_f ho hw (hk o hx)
theorem m_e {α : Type} {f : Sem Next → Option α} (x : α) (d : Option Nat) (h : opK ops i ρ f = some (x, d))
    (hk : ∀ o : Oper, f (execOp (ev ρ) o) = some x → OpE P o (ev ρ) w fun v w' => S w' ∧ RunD P ops K rest S (updo ρ d v) w') : RunD P ops K ((.e, i) :: rest) S ρ w := by
  obtain ⟨o, ho, hw, hx, rfl⟩ := opK_spec h
  exact r_e ho hw (hk o hx)

/-- behind an effect: the new S -/
theorem nx (hst : St G L w) (h : RunD P ops K rest (SS G L) ρ w) : ∃ S', S' w ∧ RunD P ops K rest S' ρ w := ⟨_, hst.ss, h⟩

theorem OpE_new {O : Obj} {V : Nat → Value} (h : pvA P (execOp e o) w.heap.size = some (O, .value (V w.heap.size))) (hst : St G L w) (hk : ∀ b w', St G ((b, O) :: L) w' → KV (V b) w') : OpE P o e w KV :=
  OpE_ok (pvA_ok (V := fun b => Next.value (V b)) w h) (hk _ _ (hst.push O))

/-- a block is made -/
theorem m_new (O : Obj) (V : Nat → Value) (d : Option Nat) (h : ∀ b, opK ops i ρ (fun s => pvA P s b) = some ((O, .value (V b)), d)) (hst : St G L w)
    (hk : ∀ b w', St G ((b, O) :: L) w' → RunD P ops K rest (SS G ((b, O) :: L)) (updo ρ d (V b)) w') : RunD P ops K ((.f, i) :: rest) S ρ w :=
  m_f _ d (h w.heap.size) fun _ hx => OpE_new hx hst fun b w' hst' => nx hst' (hk b w' hst')
theorem m_newE (O : Obj) (V : Nat → Value) (d : Option Nat) (h : ∀ b, opK ops i ρ (fun s => pvA P s b) = some ((O, .value (V b)), d)) (hst : St G L w)
    (hS : ∀ b w', St G ((b, O) :: L) w' → S w') (hk : ∀ b w', St G ((b, O) :: L) w' → RunD P ops K rest S (updo ρ d (V b)) w') : RunD P ops K ((.e, i) :: rest) S ρ w :=
  m_e _ d (h w.heap.size) fun _ hx => OpE_new hx hst fun b w' hst' => ⟨hS b w' hst', hk b w' hst'⟩

/-- a store into a block of L -/
theorem OpE_store (j : Nat) (l : List (Nat × Value)) {b : Nat} {cs : List Value} {T : TypeId} {lo hi : Nat} (cs' : List Value) (L' : LH)
    (hv : stA P (execOp e o) = some (l.map fun p => (⟨b, p.1, none⟩, p.2), .skip)) (hst : St G L w) (hL : L[j]? = some (b, .cells cs.toArray T (lo, hi)))
    (hin : (l.all fun p => decide (p.1 < cs.length) && !(decide (lo ≤ p.1) && decide (p.1 < hi))) = true) (hcs : wr cs l = cs') (hL' : L.set j (b, .cells cs'.toArray T (lo, hi)) = L')
    (hk : ∀ w', St G L' w' → KV undef w') : OpE P o e w KV := by
  have hb := hst.loc _ (List.mem_of_getElem? hL)
  have hrun := stA_ok _ w hv (fun p hp => by
    obtain ⟨q, hq, rfl⟩ := List.mem_map.1 hp
    have hq' := List.all_eq_true.1 hin q hq
    simp only [Bool.and_eq_true, decide_eq_true_eq, Bool.not_eq_true'] at hq'
    refine ⟨?_, ?_⟩
    · rw [cell_of hb]; simp [hq'.1]
    · rw [frozen_of hb]; exact hq'.2)
  refine OpE_skip hrun (hk _ ?_)
  obtain ⟨h1, h2⟩ := setCells_block l w cs T (lo, hi) hb
  rw [hcs] at h1
  rw [← hL']
  exact hst.set hL h1 h2 (setCells_o _ _)
theorem m_store (j : Nat) (l : List (Nat × Value)) {b : Nat} {cs : List Value} {T : TypeId} {lo hi : Nat} (cs' : List Value) {L' : LH} (d : Option Nat)
    (hv : opK ops i ρ (stA P) = some ((l.map fun p => (⟨b, p.1, none⟩, p.2), .skip), d)) (hst : St G L w) (hL : L[j]? = some (b, .cells cs.toArray T (lo, hi)))
    (hin : (l.all fun p => decide (p.1 < cs.length) && !(decide (lo ≤ p.1) && decide (p.1 < hi))) = true) (hcs : wr cs l = cs') (hL' : L.set j (b, .cells cs'.toArray T (lo, hi)) = L')
    (hk : ∀ w', St G L' w' → RunD P ops K rest (SS G L') (updo ρ d undef) w') : RunD P ops K ((.f, i) :: rest) S ρ w :=
  m_f _ d hv fun _ hx => OpE_store j l cs' L' hx hst hL hin hcs hL' fun w' hst' => nx hst' (hk w' hst')

/-- a call -/
theorem m_call {KV : Value → World → Prop} {f : FuncId} (args : Array Value) (d : Option Nat) (h : opK ops i ρ (pv P) = some (.enter f args, d)) (hc : Cal P f args w KV)
    (hk : ∀ v w', KV v w' → ∃ S', S' w' ∧ RunD P ops K rest S' (updo ρ d v) w') : RunD P ops K ((.f, i) :: rest) S ρ w :=
  m_f _ d h fun _ hx => by
    unfold OpE; rw [pv_ok hx w]; exact hc.mono hk
theorem m_callE {KV : Value → World → Prop} {f : FuncId} (args : Array Value) (d : Option Nat) (h : opK ops i ρ (pv P) = some (.enter f args, d)) (hc : Cal P f args w KV)
    (hk : ∀ v w', KV v w' → S w' ∧ RunD P ops K rest S (updo ρ d v) w') : RunD P ops K ((.e, i) :: rest) S ρ w :=
  m_e _ d h fun _ hx => by
    unfold OpE; rw [pv_ok hx w]; exact hc.mono hk

end

/-! ### Ends -/

section
variable {P : Program} {fn : Func} {R : Value → World → Prop} {ρ : Env} {w : World} {G : GH} {L : LH}

def resK (P : Program) (fn : Func) (ρ : Env) (vs : List Value) : Option (List (Addr × Value) × Value) :=
  (rdA P (resR fn ρ) vs).map fun x => (x.1.zip vs, x.2)

theorem resK_run (vs : List Value) (rd : List (Addr × Value)) (v : Value) (h : resK P fn ρ vs = some (rd, v)) (hr : RC G L rd) (hst : St G L w) : (resR fn ρ).run P w = .ok v w := by
  unfold resK at h
  simp only [Option.map_eq_some_iff, Prod.mk.injEq] at h
  obtain ⟨x, hx, rfl, rfl⟩ := h
  exact rdA_ok vs x.1 hx (hr w hst.ss)

theorem q_ret (vs : List Value) (rd : List (Addr × Value)) (v : Value) (h : resK P fn ρ vs = some (rd, v)) (hr : RC G L rd) (hst : St G L w) (hR : R v w) : endQ P fn R .ret ρ [] w :=
  ⟨rfl, v, resK_run vs rd v h hr hst, hR⟩
theorem q_end (vs : List Value) (rd : List (Addr × Value)) (v : Value) (h : resK P fn ρ vs = some (rd, v)) (hr : RC G L rd) (hst : St G L w) (hR : R v w) : endQ P fn R .normal ρ [] w :=
  ⟨rfl, v, resK_run vs rd v h hr hst, hR⟩
end

section
variable {P : Program} {ops : Array Oper} {K : Env → World → Prop} {rest : List (Mv × Nat)} {S : World → Prop} {ρ : Env} {w : World} {i : Nat}
variable {G : GH} {L : LH}

/-- operation i itself, if its guard lets it be carried out -/
def opAt (ops : Array Oper) (i : Nat) (ρ : Env) : Option (Op × Option Nat) :=
  match ops[i]? with
  | none => none
  | some o =>
    match Region.wanted o (yl ops ρ) with
    | false => none
    | true => some (o.op, o.dst)

theorem opAt_spec {op : Op} {d : Option Nat} (h : opAt ops i ρ = some (op, d)) :
    ∃ o, ops[i]? = some o ∧ Region.wanted o (yl ops ρ) = true ∧ o.op = op ∧ o.dst = d := by
  unfold opAt at h
  cases ho : ops[i]? with
  | none => simp [ho] at h
  | some o =>
    simp only [ho] at h
    cases hw : Region.wanted o (yl ops ρ) with
    | false => simp [hw] at h
    | true => simp only [hw, Option.some.injEq, Prod.mk.injEq] at h; exact ⟨o, rfl, hw, h.1, h.2⟩

/-- pure, by a fact -/
theorem m_pF (v : Value) {op : Op} {d : Option Nat} (h : opAt ops i ρ = some (op, d)) (hrun : ∀ o : Oper, o.op = op → ∀ w', (execOp (ev ρ) o).run P w' = .ok (.value v) w')
    (hk : RunD P ops K rest S (updo ρ d v) w) : RunD P ops K ((.p, i) :: rest) S ρ w := by
  obtain ⟨o, ho, hw, hop, rfl⟩ := opAt_spec h
  exact r_pureF v ho hw (hrun o hop) hk
theorem m_lF (v : Value) {op : Op} {d : Option Nat} (h : opAt ops i ρ = some (op, d)) (hrun : ∀ o : Oper, o.op = op → ∀ w', S w' → (execOp (ev ρ) o).run P w' = .ok (.value v) w')
    (hk : RunD P ops K rest S (updo ρ d v) w) : RunD P ops K ((.l, i) :: rest) S ρ w := by
  obtain ⟨o, ho, hw, hop, rfl⟩ := opAt_spec h
  exact r_lF v ho hw (hrun o hop) hk
theorem m_fF {op : Op} {d : Option Nat} (h : opAt ops i ρ = some (op, d)) (hk : ∀ o : Oper, o.op = op → OpE P o (ev ρ) w fun v w' => ∃ S', S' w' ∧ RunD P ops K rest S' (updo ρ d v) w') :
    RunD P ops K ((.f, i) :: rest) S ρ w := by
  obtain ⟨o, ho, hw, hop, rfl⟩ := opAt_spec h
  exact r_f ho hw (hk o hop)

theorem run_und {t : TypeId} {d : TypeDesc} (h : P.underlying t = some d) (w' : World) : (underlying t).run P w' = .ok d w' := by
  simp [underlying, program, Sem.run, h]

/-- an element's address in a slice -/
theorem m_idx {t e sz b off n c k : Nat} {x y : Operand} (d : Option Nat) (h : opAt ops i ρ = some (.indexAddr t x y, d)) (hx : ev ρ x = .slice (some ⟨b, off, none⟩) n c) (hy : ev ρ y = .int .i64 (k : Int))
    (ht : P.underlying t = some (.slice e)) (hsz : (P.info? e).map (·.size) = some sz) (hk : k < n)
    (hn : RunD P ops K rest S (updo ρ d (.pointer (some ⟨b, off + k * sz, none⟩))) w) : RunD P ops K ((.p, i) :: rest) S ρ w := by
  refine m_pF _ h (fun o ho w' => ?_) hn
  have hi := hsz
  cases hie : P.info? e with
  | none => rw [hie] at hi; cases hi
  | some inf =>
    rw [hie] at hi
    simp only [Option.map_some, Option.some.injEq] at hi
    have hadd : (⟨b, off, none⟩ : Addr).add (k * inf.size) = ⟨b, off + k * sz, none⟩ := by
      unfold Addr.add
      split
      · rename_i h0; rw [← hi, h0]; rfl
      · rw [hi]
    have hund := run_und ht w'
    simp only [execOp, ho, Instr.indexAt, hx, hy, asIntOf]
    simp [hund, Sem.run_bind, Result.andThen, hk, sizeOf, typeInfo, program, Sem.run, hie, hadd]

/-! ### append -/

/-- v is a slice of n elements (sz cells each) that the walk owns: nil, or the whole of a block of its own; cs its cells. -/
def OS (e sz : Nat) (v : Value) (n : Nat) (cs : List Value) (Lp : LH) : Prop :=
  cs.length = n * sz ∧ ((v = .slice none 0 0 ∧ n = 0 ∧ Lp = []) ∨
    ∃ b c arr, v = .slice (some ⟨b, 0, none⟩) n c ∧ Lp = [(b, .cells (List.toArray arr) e (0, 0))] ∧ n ≤ c ∧ c * sz = arr.length ∧ arr.take (n * sz) = cs)

theorem OS.nil (e sz : Nat) : OS e sz (.slice none 0 0) 0 [] [] := ⟨by simp, .inl ⟨rfl, rfl, rfl⟩⟩

def wrL (cs : List Value) : Nat → List Value → List Value
  | _, [] => cs
  | o, v :: r => wrL (cs.set o v) (o + 1) r
theorem wrL_length : ∀ (vs : List Value) (cs : List Value) (o : Nat), (wrL cs o vs).length = cs.length
  | [], _, _ => rfl
  | v :: r, cs, o => by rw [wrL, wrL_length r]; simp
theorem wrL_take : ∀ (vs : List Value) (cs : List Value) (o : Nat), o + vs.length ≤ cs.length → (wrL cs o vs).take (o + vs.length) = cs.take o ++ vs
  | [], cs, o, _ => by simp [wrL]
  | v :: r, cs, o, h => by
    have h' : o + 1 + r.length ≤ (cs.set o v).length := by simp at h ⊢; omega
    have ih := wrL_take r (cs.set o v) (o + 1) h'
    rw [wrL, show o + (v :: r).length = o + 1 + r.length by simp; omega, ih]
    have ho : o < cs.length := by simp at h; omega
    rw [List.take_add_one]
    simp [ho, List.take_set_of_le]

theorem kset_o (b : Nat) : ∀ (vs : List Value) (o : Nat) (w : World), (w.setCells b o vs).os = w.os ∧ (w.setCells b o vs).output = w.output
  | [], _, _ => ⟨rfl, rfl⟩
  | v :: vs, o, w => kset_o b vs (o + 1) (w.setCell ⟨b, o, none⟩ v)
theorem kset_block {b : Nat} : ∀ (vs : List Value) (o : Nat) (w : World) (cs : List Value) (T : TypeId) (fz : Nat × Nat), w.heap[b]? = some (.cells cs.toArray T fz) →
    (w.setCells b o vs).heap[b]? = some (.cells (wrL cs o vs).toArray T fz) ∧ ∀ x, x ≠ b → (w.setCells b o vs).heap[x]? = w.heap[x]?
  | [], o, w, cs, T, fz, h => ⟨h, fun _ _ => rfl⟩
  | v :: r, o, w, cs, T, fz, h => by
    have h1 : (w.setCell ⟨b, o, none⟩ v).heap[b]? = some (.cells (cs.set o v).toArray T fz) := by
      simp only [World.setCell, Array.getElem?_modify, if_true, h, Option.map_some]
      simp
    obtain ⟨h2, h3⟩ := kset_block r (o + 1) (w.setCell ⟨b, o, none⟩ v) (cs.set o v) T fz h1
    refine ⟨h2, fun x hx => ?_⟩
    rw [show w.setCells b o (v :: r) = (w.setCell ⟨b, o, none⟩ v).setCells b (o + 1) r from rfl, h3 x hx]
    simp only [World.setCell, Array.getElem?_modify]
    rw [if_neg (Ne.symm hx)]

theorem St.insert {A Lp B : LH} {x : Nat × Obj} {w : World} (h : St G (x :: (A ++ (Lp ++ B))) w) : St G (A ++ ([x] ++ B)) w :=
  (h.perm (List.perm_middle (l₁ := A)).symm).sub ((List.Sublist.refl A).append (.cons_cons x (List.sublist_append_right Lp B)))

theorem ap_own {t tx ty e sz bytes : Nat} {inf : TypeInfo} {z : Value} (ht : P.underlying t = some (.slice e)) (htx : P.underlying tx = some (.slice e)) (hi : P.info? e = some inf) (hz : inf.zero = some z) (hs : inf.size = sz) (hzc : z.cells.size = sz) (hby : inf.bytes = bytes)
    {A Lp B : LH} {v : Value} {n : Nat} {cs news : List Value} (hos : OS e sz v n cs Lp) (hst : St G (A ++ (Lp ++ B)) w) {sb so m mc : Nat}
    (hlen : news.length = m * sz) (hsrc : ∀ j u, news[j]? = some u → w.cell? ⟨sb, so + j, none⟩ = some u) (hone : ∀ u ∈ news, u.oneCell' = true) (hm : 0 < m) (hbd : (n + m) * bytes ≤ 140737488355328) (hnm : n + m ≤ 4611686018427387904) :
    ∃ v' w', (Builtin.append_ #[t, tx] ty #[v, .slice (some ⟨sb, so, none⟩) m mc]).run P w = .ok v' w' ∧ ∃ Lp', OS e sz v' (n + m) (cs ++ news) Lp' ∧ St G (A ++ (Lp' ++ B)) w' := by
  have hadd : ∀ j, (⟨sb, so, none⟩ : Addr).add j = ⟨sb, so + j, none⟩ := fun j => by
    unfold Addr.add; split
    · rename_i h0; subst h0; rfl
    · rfl
  have hsrc' : Src P inf.size tx (.slice (some ⟨sb, so, none⟩) m mc) m news w := Src.ofSlice w htx ⟨sb, so, none⟩ m mc news (by rw [hs]; exact hlen) (fun j u hu => by rw [hadd]; exact hsrc j u hu) hone
  obtain ⟨hcl, hcase⟩ := hos
  have grow : ∀ (base : Option Addr) (c : Nat), v = .slice base n c → c < n + m → (Builtin.firstCells inf.size n (.slice base n c)).run P w.drew = .ok cs.toArray w.drew →
      ∃ v' w', (Builtin.append_ #[t, tx] ty #[v, .slice (some ⟨sb, so, none⟩) m mc]).run P w = .ok v' w' ∧ ∃ Lp', OS e sz v' (n + m) (cs ++ news) Lp' ∧ St G (A ++ (Lp' ++ B)) w' := by
    intro base c hv hc hold
    have hrun := run_append_grow_src w t tx ty e inf z ht hi hz base n c cs hold _ m news hsrc' hc (by omega) (by rw [hby]; exact growslice_fits hc hbd)
    rw [← hv] at hrun
    have hcap : n + m ≤ grownCap w (n + m) c e := by unfold grownCap; simp [Question.cut]
    generalize hgc : grownCap w (n + m) c e = gc at *
    have hzl : (Builtin.zeroCells z.cells (gc - (n + m))).size = (gc - (n + m)) * sz := by simp [Builtin.zeroCells, hzc]
    refine ⟨_, _, hrun, [(w.heap.size, .cells ((cs ++ news) ++ (Builtin.zeroCells z.cells (gc - (n + m))).toList).toArray e (0, 0))], ⟨?_, .inr ⟨w.heap.size, gc, _, rfl, rfl, hcap, ?_, ?_⟩⟩, ?_⟩
    · rw [List.length_append, hcl, hlen, Nat.add_mul]
    · rw [List.length_append, List.length_append, hcl, hlen, Array.length_toList, hzl, ← Nat.add_mul, ← Nat.add_mul]
      congr 1; omega
    · rw [List.take_append_of_le_length (by rw [List.length_append, hcl, hlen, Nat.add_mul]; exact Nat.le_refl _)]
      rw [List.take_of_length_le]; rw [List.length_append, hcl, hlen, Nat.add_mul]; exact Nat.le_refl _
    · have hd : St G (A ++ (Lp ++ B)) w.drew := hst.heap ⟨rfl, rfl, rfl⟩
      have := (hd.push (.cells ((cs ++ news).toArray ++ Builtin.zeroCells z.cells (gc - (n + m))) e (0, 0))).insert
      have hobj : (cs ++ news).toArray ++ Builtin.zeroCells z.cells (gc - (n + m)) = ((cs ++ news) ++ (Builtin.zeroCells z.cells (gc - (n + m))).toList).toArray := by
        apply Array.ext'; simp
      rw [hobj] at this ⊢
      exact this
  rcases hcase with ⟨hv, hn, hLp⟩ | ⟨b, c, arr, hv, hLp, hnc, harr, htake⟩
  · subst hn
    have hcs : cs = [] := by simpa using hcl
    subst hcs
    exact grow none 0 hv (by omega) (by rw [run_firstCells_none])
  · subst hLp
    have hb : w.heap[b]? = some (.cells arr.toArray e (0, 0)) := hst.loc (b, _) (by simp)
    by_cases hroom : n + m ≤ c
    · have hle : n * sz + news.length ≤ arr.length := by rw [hlen, ← Nat.add_mul, ← harr]; exact Nat.mul_le_mul_right _ hroom
      have hrun := run_append_room_src w t tx ty e inf ht hi b 0 n c _ m news hsrc' hroom (fun j hj => by rw [hs, cell_of hb]; simp; omega) (fun j hj => by rw [frozen_of hb]; simp)
      rw [← hv] at hrun
      obtain ⟨h1, h2⟩ := kset_block news (0 + n * inf.size) w arr e (0, 0) hb
      have hx : (A ++ ([(b, Obj.cells arr.toArray e (0, 0))] ++ B))[A.length]? = some (b, .cells arr.toArray e (0, 0)) := by
        rw [List.getElem?_append_right (Nat.le_refl _)]; simp
      have h3 := hst.set hx h1 h2 (kset_o _ _ _ _)
      have hset : (A ++ ([(b, Obj.cells arr.toArray e (0, 0))] ++ B)).set A.length (b, .cells (wrL arr (0 + n * inf.size) news).toArray e (0, 0)) = A ++ ([(b, .cells (wrL arr (0 + n * inf.size) news).toArray e (0, 0))] ++ B) := by
        rw [List.set_append_right _ _ (Nat.le_refl _)]; simp
      rw [hset] at h3
      refine ⟨_, _, hrun, [(b, .cells (wrL arr (0 + n * inf.size) news).toArray e (0, 0))], ⟨?_, .inr ⟨b, c, _, rfl, rfl, hroom, ?_, ?_⟩⟩, h3⟩
      · rw [List.length_append, hcl, hlen, Nat.add_mul]
      · rw [wrL_length]; exact harr
      · rw [hs, Nat.zero_add, Nat.add_mul, ← hlen, wrL_take _ _ _ hle, htake]
    · refine grow _ c hv (by omega) ?_
      have := run_firstCells_some (P := P) w.drew inf.size n ⟨b, 0, none⟩ n c cs (by rw [hs]; exact hcl) (fun j u hu => by
        have hadd' : (⟨b, 0, none⟩ : Addr).add j = ⟨b, j, none⟩ := by
          unfold Addr.add; split
          · rename_i h0; subst h0; rfl
          · simp
        rw [hadd', cell_of (w := w.drew) hb]
        rw [← htake, List.getElem?_take] at hu
        split at hu
        · simpa using hu
        · cases hu)
      exact this

theorem run_call_app {ob ox : Operand} {t tx ty : TypeId} {o : Oper} {e : Operand → Value} {v' : Value} {w' : World} (ho : o.op = .call { callee := .builtin .append, args := #[ob, ox], argTypes := #[t, tx] }) (hty : o.type = ty)
    (h : (Builtin.append_ #[t, tx] ty #[e ob, e ox]).run P w = .ok v' w') : (execOp e o).run P w = .ok (.value v') w' := by
  subst hty
  simp [execOp, ho, resolve, invoke, builtin, h, Result.andThen]

/-- what is known of a slice type and its elements -/
structure Elem (P : Program) (t e sz bytes : Nat) : Prop where
  sl : P.underlying t = some (.slice e)
  inf : ∃ i z, P.info? e = some i ∧ i.zero = some z ∧ i.size = sz ∧ z.cells.size = sz ∧ i.bytes = bytes
def elemK (P : Program) (e sz bytes : Nat) : Bool :=
  match P.info? e with
  | some i => (match i.zero with | some z => Nat.beq i.size sz && (Nat.beq z.cells.size sz && Nat.beq i.bytes bytes) | none => false)
  | none => false
theorem Elem.of {t e sz bytes : Nat} (h : P.underlying t = some (.slice e)) (hk : elemK P e sz bytes = true) : Elem P t e sz bytes := by
  refine ⟨h, ?_⟩
  unfold elemK at hk
  cases hi : P.info? e with
  | none => simp [hi] at hk
  | some i =>
    simp only [hi] at hk
    cases hz : i.zero with
    | none => simp [hz] at hk
    | some z =>
      simp only [hz, Bool.and_eq_true] at hk
      exact ⟨i, z, rfl, hz, Nat.eq_of_beq_eq_true hk.1, Nat.eq_of_beq_eq_true hk.2.1, Nat.eq_of_beq_eq_true hk.2.2⟩

/-- append to a slice of the walk's own -/
theorem m_append {ob ox : Operand} {t e sz bytes : Nat} {d : Option Nat} (hel : Elem P t e sz bytes) (A : LH) {Lp B : LH} {v : Value} {n : Nat} {cs : List Value} (news : List Value) {sb so m mc : Nat}
    (h : opAt ops i ρ = some (.call { callee := .builtin .append, args := #[ob, ox], argTypes := #[t, t] }, d)) (hb : ev ρ ob = v) (hx : ev ρ ox = .slice (some ⟨sb, so, none⟩) m mc)
    (hos : OS e sz v n cs Lp) (hst : St G (A ++ (Lp ++ B)) w) (hlen : news.length = m * sz) (hsrc : ∀ j u, news[j]? = some u → w.cell? ⟨sb, so + j, none⟩ = some u) (hone : (news.all (·.oneCell')) = true)
    (hm : 0 < m) (hbd : (n + m) * bytes ≤ 140737488355328) (hnm : n + m ≤ 4611686018427387904)
    (hk : ∀ v' Lp' w', OS e sz v' (n + m) (cs ++ news) Lp' → St G (A ++ (Lp' ++ B)) w' → RunD P ops K rest (SS G (A ++ (Lp' ++ B))) (updo ρ d v') w') : RunD P ops K ((.f, i) :: rest) S ρ w := by
  refine m_fF h fun o ho => ?_
  obtain ⟨inf, z, hi, hz, hs, hzc, hby⟩ := hel.inf
  obtain ⟨v', w', hrun, Lp', hos', hst'⟩ := ap_own (ty := o.type) hel.sl hel.sl hi hz hs hzc hby hos hst hlen hsrc (fun u hu => List.all_eq_true.1 hone u hu) hm hbd hnm
  exact OpE_ok (run_call_app ho rfl (by rw [hb, hx]; exact hrun)) ⟨_, hst'.ss, hk v' Lp' w' hos' hst'⟩

/-- cells of a block of L, at a world -/
theorem src_L (j : Nat) {b : Nat} {cs : List Value} {T : TypeId} {fz : Nat × Nat} (hst : St G L w) (hL : L[j]? = some (b, .cells cs.toArray T fz)) : ∀ j u, cs[j]? = some u → w.cell? ⟨b, 0 + j, none⟩ = some u := by
  intro k u hu
  rw [Nat.zero_add, cell_of (hst.loc _ (List.mem_of_getElem? hL))]
  simpa using hu

/-! ### maps keyed by int -/

/-- the entries, read -/
def MapR (es : Array MapEntry) (kv : List (Int × Value)) : Prop := es.toList.map (fun e => (e.key, e.val)) = kv.map fun p => (Value.int .i64 p.1, p.2)
def lkp {α : Type} : List (Int × α) → Int → Option α
  | [], _ => none
  | (k, v) :: r, x => bif x == k then some v else lkp r x

theorem findNow_int (ik : IntKind) (x : Int) : ∀ (es : List MapEntry) (kv : List (Int × Value)) (i : Nat), es.map (fun e => (e.key, e.val)) = kv.map (fun p => (Value.int .i64 p.1, p.2)) →
    ∃ r, Instr.findNow (.int ik) (.int .i64 x) es i = some r ∧ r.map (·.2) = lkp kv x
  | [], kv, i, h => by
    cases kv with
    | nil => exact ⟨none, rfl, rfl⟩
    | cons _ _ => cases h
  | e :: es, kv, i, h => by
    cases kv with
    | nil => cases h
    | cons p kv =>
      simp only [List.map_cons, List.cons.injEq, Prod.mk.injEq] at h
      obtain ⟨⟨h1, h2⟩, h3⟩ := h
      obtain ⟨k, v⟩ := p
      simp only at h1 h2
      unfold Instr.findNow
      simp only [h1, Instr.sameNow, if_true, lkp]
      cases hb : x == k with
      | true => exact ⟨some (i, e.val), rfl, by simp [h2]⟩
      | false => exact findNow_int ik x es kv (i + 1) h3

theorem run_checkKey {kt : TypeId} {ik : IntKind} (hkt : P.underlying kt = some (.int ik)) (b : Bool) (n : Nat) (x : Int) (w : World) : (Instr.checkKey b (n + 1) kt (.int .i64 x)).run P w = .ok () w := by
  unfold Instr.checkKey
  simp [run_und hkt w]

theorem run_look {mt kt et : TypeId} {ik : IntKind} {inf : TypeInfo} {z : Value} (hmt : P.underlying mt = some (.map kt et)) (hkt : P.underlying kt = some (.int ik)) (hi : P.info? et = some inf) (hz : inf.zero = some z)
    {r : Nat} {es : Array MapEntry} {clock : Nat} {kv : List (Int × Value)} (hr : w.heap[r]? = some (.map es clock)) (hm : MapR es kv) (x : Int) :
    (Instr.lookup mt (.map (some r)) (.int .i64 x) true).run P w = .ok (.tuple #[(lkp kv x).getD z, .bool (lkp kv x).isSome]) w := by
  obtain ⟨res, h1, h2⟩ := findNow_int ik x es.toList kv 0 hm
  unfold Instr.lookup
  simp only [Sem.run_bind, run_und hmt w, Result.andThen]
  have hg : (getObj r).run P w = .ok (.map es clock) w := by simp [getObj, Sem.run, hr]
  simp only [Sem.run_bind, hg, Result.andThen, Sem.run_pure]
  have hck := run_checkKey hkt es.isEmpty 9999 x w
  simp only [hck]
  simp only [Instr.findKey, Sem.run_bind, run_und hkt w, Result.andThen, h1, Sem.run_pure]
  cases res with
  | none => simp at h2; simp [← h2, zeroValue, typeInfo, program, Sem.run, hi, hz, Result.andThen]
  | some p => simp at h2; simp [← h2]

theorem run_insert {mt kt et : TypeId} {ik : IntKind} (hmt : P.underlying mt = some (.map kt et)) (hkt : P.underlying kt = some (.int ik))
    {r : Nat} {es : Array MapEntry} {clock : Nat} {kv : List (Int × Value)} (hr : w.heap[r]? = some (.map es clock)) (hm : MapR es kv) (x : Int) (v : Value) (hno : lkp kv x = none) :
    (Instr.mapUpdate mt (.map (some r)) (.int .i64 x) v).run P w = .ok () { w with heap := w.heap.setIfInBounds r (.map (es.push { key := .int .i64 x, val := v, born := clock }) (clock + 1)) } := by
  obtain ⟨res, h1, h2⟩ := findNow_int ik x es.toList kv 0 hm
  have hres : res = none := by rw [hno] at h2; cases res <;> first | rfl | cases h2
  subst hres
  unfold Instr.mapUpdate
  have hg : (getObj r).run P w = .ok (.map es clock) w := by simp [getObj, Sem.run, hr]
  simp only [Sem.run_bind, run_und hmt w, Result.andThen, hg, run_checkKey hkt false 9999 x w, Instr.findKey, run_und hkt w, h1, Sem.run_pure]
  simp [setObj, Sem.run, hr]

theorem MapR.push {es : Array MapEntry} {kv : List (Int × Value)} (h : MapR es kv) (x : Int) (v : Value) (c : Nat) : MapR (es.push { key := .int .i64 x, val := v, born := c }) (kv ++ [(x, v)]) := by
  unfold MapR at *
  simp [h]

/-- a look-up with ok -/
theorem m_look {mt kt et : TypeId} {ik : IntKind} {z : Value} {x y : Operand} {d : Option Nat} {r : Nat} {es : Array MapEntry} {clock : Nat} {kv : List (Int × Value)} {k : Int} (j : Nat)
    (h : opAt ops i ρ = some (.lookup mt x y true, d)) (hx : ev ρ x = .map (some r)) (hy : ev ρ y = .int .i64 k)
    (hmt : P.underlying mt = some (.map kt et)) (hkt : P.underlying kt = some (.int ik)) (hz : (P.info? et).map (·.zero) = some (some z)) (hL : L[j]? = some (r, .map es clock)) (hm : MapR es kv) {res : Option Value} (hres : lkp kv k = res)
    (hk : RunD P ops K rest (SS G L) (updo ρ d (.tuple #[res.getD z, .bool res.isSome])) w) : RunD P ops K ((.l, i) :: rest) (SS G L) ρ w := by
  subst hres
  refine m_lF _ h (fun o ho w' hS => ?_) hk
  obtain ⟨inf, hi, hz'⟩ := Option.map_eq_some_iff.1 hz
  have hrun := run_look hmt hkt hi hz' (hS.2 _ (List.mem_of_getElem? hL)) hm k
  simp [execOp, ho, hx, hy, hrun, Result.andThen]

/-- an entry laid -/
theorem m_insert {mt kt et : TypeId} {ik : IntKind} {x y u : Operand} {d : Option Nat} {r : Nat} {es : Array MapEntry} {clock : Nat} {kv : List (Int × Value)} {k : Int} {v : Value} (j : Nat) {L' : LH}
    (h : opAt ops i ρ = some (.mapUpdate mt x y u, d)) (hx : ev ρ x = .map (some r)) (hy : ev ρ y = .int .i64 k) (hu : ev ρ u = v)
    (hmt : P.underlying mt = some (.map kt et)) (hkt : P.underlying kt = some (.int ik)) (hst : St G L w) (hL : L[j]? = some (r, .map es clock)) (hm : MapR es kv) (hno : lkp kv k = none)
    (hL' : L.set j (r, .map (es.push { key := .int .i64 k, val := v, born := clock }) (clock + 1)) = L')
    (hk : ∀ w', St G L' w' → RunD P ops K rest (SS G L') (updo ρ d undef) w') : RunD P ops K ((.f, i) :: rest) S ρ w := by
  refine m_fF h fun o ho => ?_
  have hr := hst.loc _ (List.mem_of_getElem? hL)
  have hrun := run_insert hmt hkt hr hm k v hno
  have hex : (execOp (ev ρ) o).run P w = .ok .skip { w with heap := w.heap.setIfInBounds r (.map (es.push { key := .int .i64 k, val := v, born := clock }) (clock + 1)) } := by
    simp [execOp, ho, hx, hy, hu, hrun, Result.andThen]
  have hlt := (Array.getElem?_eq_some_iff.1 hr).1
  have hst' : St G L' { w with heap := w.heap.setIfInBounds r (.map (es.push { key := .int .i64 k, val := v, born := clock }) (clock + 1)) } := by
    rw [← hL']
    exact hst.set hL (by simp only [Array.getElem?_setIfInBounds_self_of_lt hlt]) (fun y hy => by simp only [Array.getElem?_setIfInBounds_ne (Ne.symm hy)])
  exact OpE_skip hex ⟨_, hst'.ss, hk _ hst'⟩
end

/-! ### trees -/

/-- api.Poly and *rank.typ, as data. -/
inductive T where
  | mk (k n : Int) (ks : List T)
/-- api.Expr, as data. -/
inductive E where
  | mk (k n : Int) (ks : List E) (ty : T)

mutual
def IsTyp (G : GH) : Value → T → Prop
  | v, .mk k n ks => ∃ b A c, v = .pointer (some ⟨b, 0, none⟩) ∧ G b = some (.cells #[.int .i64 k, .int .i64 n, .slice A ks.length c] 148 (0, 0)) ∧ (ks.length ≤ c ∧ ks.length < 1099511627776) ∧ IsTyps G A ks
def IsTyps (G : GH) : Option Addr → List T → Prop
  | _, [] => True
  | A, t :: ts => ∃ b off v, A = some ⟨b, off, none⟩ ∧ GC G ⟨b, off, none⟩ v ∧ IsTyp G v t ∧ IsTyps G (some ⟨b, off + 1, none⟩) ts
end
mutual
def IsPoly (G : GH) : Value → T → Prop
  | v, .mk k n ks => ∃ A c, v = .agg #[.int .i64 k, .int .i64 n, .slice A ks.length c] ∧ ks.length ≤ c ∧ IsPolys G A ks
def IsPolys (G : GH) : Option Addr → List T → Prop
  | _, [] => True
  | A, t :: ts => ∃ b off v0 v1 v2, A = some ⟨b, off, none⟩ ∧ GC G ⟨b, off, none⟩ v0 ∧ GC G ⟨b, off + 1, none⟩ v1 ∧ GC G ⟨b, off + 2, none⟩ v2 ∧ IsPoly G (.agg #[v0, v1, v2]) t ∧ IsPolys G (some ⟨b, off + 3, none⟩) ts
end
mutual
def IsExpr (G : GH) : Value → E → Prop
  | v, .mk k n ks ty => ∃ A c t0 t1 t2, v = .agg #[.int .i64 k, .int .i64 n, .slice A ks.length c, t0, t1, t2] ∧ ks.length ≤ c ∧ IsExprs G A ks ∧ IsPoly G (.agg #[t0, t1, t2]) ty
def IsExprs (G : GH) : Option Addr → List E → Prop
  | _, [] => True
  | A, t :: ts => ∃ b off v0 v1 v2 v3 v4 v5, A = some ⟨b, off, none⟩ ∧ GC G ⟨b, off, none⟩ v0 ∧ GC G ⟨b, off + 1, none⟩ v1 ∧ GC G ⟨b, off + 2, none⟩ v2 ∧ GC G ⟨b, off + 3, none⟩ v3 ∧ GC G ⟨b, off + 4, none⟩ v4 ∧ GC G ⟨b, off + 5, none⟩ v5 ∧
      IsExpr G (.agg #[v0, v1, v2, v3, v4, v5]) t ∧ IsExprs G (some ⟨b, off + 6, none⟩) ts
end

mutual
theorem IsTyp.mono {G G' : GH} (hG : Le G G') : ∀ {v : Value} {t : T}, IsTyp G v t → IsTyp G' v t
  | v, .mk k n ks, h => by
    unfold IsTyp at h ⊢
    obtain ⟨b, A, c, h1, h2, h3, h4⟩ := h
    exact ⟨b, A, c, h1, hG _ _ h2, h3, IsTyps.mono hG h4⟩
theorem IsTyps.mono {G G' : GH} (hG : Le G G') : ∀ {A : Option Addr} {ts : List T}, IsTyps G A ts → IsTyps G' A ts
  | A, [], _ => by unfold IsTyps; trivial
  | A, t :: ts, h => by
    unfold IsTyps at h ⊢
    obtain ⟨b, off, v, h1, h2, h3, h4⟩ := h
    exact ⟨b, off, v, h1, h2.mono hG, IsTyp.mono hG h3, IsTyps.mono hG h4⟩
end
mutual
theorem IsPoly.mono {G G' : GH} (hG : Le G G') : ∀ {v : Value} {t : T}, IsPoly G v t → IsPoly G' v t
  | v, .mk k n ks, h => by
    unfold IsPoly at h ⊢
    obtain ⟨A, c, h1, h3, h4⟩ := h
    exact ⟨A, c, h1, h3, IsPolys.mono hG h4⟩
theorem IsPolys.mono {G G' : GH} (hG : Le G G') : ∀ {A : Option Addr} {ts : List T}, IsPolys G A ts → IsPolys G' A ts
  | A, [], _ => by unfold IsPolys; trivial
  | A, t :: ts, h => by
    unfold IsPolys at h ⊢
    obtain ⟨b, off, v0, v1, v2, h1, h2, h3, h4, h5, h6⟩ := h
    exact ⟨b, off, v0, v1, v2, h1, h2.mono hG, h3.mono hG, h4.mono hG, IsPoly.mono hG h5, IsPolys.mono hG h6⟩
end
mutual
theorem IsExpr.mono {G G' : GH} (hG : Le G G') : ∀ {v : Value} {t : E}, IsExpr G v t → IsExpr G' v t
  | v, .mk k n ks ty, h => by
    unfold IsExpr at h ⊢
    obtain ⟨A, c, t0, t1, t2, h1, h3, h4, h5⟩ := h
    exact ⟨A, c, t0, t1, t2, h1, h3, IsExprs.mono hG h4, h5.mono hG⟩
theorem IsExprs.mono {G G' : GH} (hG : Le G G') : ∀ {A : Option Addr} {ts : List E}, IsExprs G A ts → IsExprs G' A ts
  | A, [], _ => by unfold IsExprs; trivial
  | A, t :: ts, h => by
    unfold IsExprs at h ⊢
    obtain ⟨b, off, v0, v1, v2, v3, v4, v5, h1, h2, h3, h4, h5, h6, h7, h8, h9⟩ := h
    exact ⟨b, off, v0, v1, v2, v3, v4, v5, h1, h2.mono hG, h3.mono hG, h4.mono hG, h5.mono hG, h6.mono hG, h7.mono hG, IsExpr.mono hG h8, IsExprs.mono hG h9⟩
end

/-! an element -/
theorem IsTyps.get {G : GH} : ∀ {ts : List T} {A : Option Addr} {i : Nat} {t : T}, IsTyps G A ts → ts[i]? = some t → ∃ b off v, A = some ⟨b, off, none⟩ ∧ GC G ⟨b, off + i * 1, none⟩ v ∧ IsTyp G v t
  | [], _, _, _, _, hi => by simp at hi
  | t :: ts, A, 0, _, h, hi => by
    unfold IsTyps at h
    obtain ⟨b, off, v, h1, h2, h3, _⟩ := h
    simp only [List.getElem?_cons_zero, Option.some.injEq] at hi; subst hi
    exact ⟨b, off, v, h1, h2, h3⟩
  | t :: ts, A, i + 1, _, h, hi => by
    unfold IsTyps at h
    obtain ⟨b, off, v, h1, h2, h3, h4⟩ := h
    simp only [List.getElem?_cons_succ] at hi
    obtain ⟨b', off', v', h1', h2', h3'⟩ := IsTyps.get h4 hi
    simp only [Option.some.injEq, Addr.mk.injEq] at h1'
    obtain ⟨rfl, rfl, _⟩ := h1'
    exact ⟨b, off, v', h1, by rw [show off + (i + 1) * 1 = off + 1 + i * 1 by omega]; exact h2', h3'⟩
theorem IsPolys.get {G : GH} : ∀ {ts : List T} {A : Option Addr} {i : Nat} {t : T}, IsPolys G A ts → ts[i]? = some t → ∃ b off v0 v1 v2, A = some ⟨b, off, none⟩ ∧ GC G ⟨b, off + i * 3, none⟩ v0 ∧ GC G ⟨b, off + i * 3 + 1, none⟩ v1 ∧ GC G ⟨b, off + i * 3 + 2, none⟩ v2 ∧ IsPoly G (.agg #[v0, v1, v2]) t
  | [], _, _, _, _, hi => by simp at hi
  | t :: ts, A, 0, _, h, hi => by
    unfold IsPolys at h
    obtain ⟨b, off, v0, v1, v2, h1, h2, h3, h4, h5, _⟩ := h
    simp only [List.getElem?_cons_zero, Option.some.injEq] at hi; subst hi
    exact ⟨b, off, v0, v1, v2, h1, by simpa using h2, by simpa using h3, by simpa using h4, h5⟩
  | t :: ts, A, i + 1, _, h, hi => by
    unfold IsPolys at h
    obtain ⟨b, off, v0, v1, v2, h1, h2, h3, h4, h5, h6⟩ := h
    simp only [List.getElem?_cons_succ] at hi
    obtain ⟨b', off', u0, u1, u2, g1, g2, g3, g4, g5⟩ := IsPolys.get h6 hi
    simp only [Option.some.injEq, Addr.mk.injEq] at g1
    obtain ⟨rfl, rfl, _⟩ := g1
    have e : off + (i + 1) * 3 = off + 3 + i * 3 := by omega
    exact ⟨b, off, u0, u1, u2, h1, by rw [e]; exact g2, by rw [e]; exact g3, by rw [e]; exact g4, g5⟩
theorem IsExprs.get {G : GH} : ∀ {ts : List E} {A : Option Addr} {i : Nat} {t : E}, IsExprs G A ts → ts[i]? = some t → ∃ b off v0 v1 v2 v3 v4 v5, A = some ⟨b, off, none⟩ ∧ GC G ⟨b, off + i * 6, none⟩ v0 ∧ GC G ⟨b, off + i * 6 + 1, none⟩ v1 ∧ GC G ⟨b, off + i * 6 + 2, none⟩ v2 ∧ GC G ⟨b, off + i * 6 + 3, none⟩ v3 ∧ GC G ⟨b, off + i * 6 + 4, none⟩ v4 ∧ GC G ⟨b, off + i * 6 + 5, none⟩ v5 ∧ IsExpr G (.agg #[v0, v1, v2, v3, v4, v5]) t
  | [], _, _, _, _, hi => by simp at hi
  | t :: ts, A, 0, _, h, hi => by
    unfold IsExprs at h
    obtain ⟨b, off, v0, v1, v2, v3, v4, v5, h1, h2, h3, h4, h5, h6, h7, h8, _⟩ := h
    simp only [List.getElem?_cons_zero, Option.some.injEq] at hi; subst hi
    exact ⟨b, off, v0, v1, v2, v3, v4, v5, h1, by simpa using h2, by simpa using h3, by simpa using h4, by simpa using h5, by simpa using h6, by simpa using h7, h8⟩
  | t :: ts, A, i + 1, _, h, hi => by
    unfold IsExprs at h
    obtain ⟨b, off, v0, v1, v2, v3, v4, v5, h1, h2, h3, h4, h5, h6, h7, h8, h9⟩ := h
    simp only [List.getElem?_cons_succ] at hi
    obtain ⟨b', off', u0, u1, u2, u3, u4, u5, g1, g2, g3, g4, g5, g6, g7, g8⟩ := IsExprs.get h9 hi
    simp only [Option.some.injEq, Addr.mk.injEq] at g1
    obtain ⟨rfl, rfl, _⟩ := g1
    have e : off + (i + 1) * 6 = off + 6 + i * 6 := by omega
    exact ⟨b, off, u0, u1, u2, u3, u4, u5, h1, by rw [e]; exact g2, by rw [e]; exact g3, by rw [e]; exact g4, by rw [e]; exact g5, by rw [e]; exact g6, by rw [e]; exact g7, g8⟩
end Go.Proofs.Ytjgnhhgigickaaa.Wk

namespace Go.Proofs.Ytjgnhhgigickaaa.Wk
@[reducible] def T.kind : T → Int | .mk k _ _ => k
@[reducible] def T.num : T → Int | .mk _ n _ => n
@[reducible] def T.kids : T → List T | .mk _ _ ks => ks
@[reducible] def E.kind : E → Int | .mk k _ _ _ => k
@[reducible] def E.num : E → Int | .mk _ n _ _ => n
@[reducible] def E.kids : E → List E | .mk _ _ ks _ => ks
@[reducible] def E.ty : E → T | .mk _ _ _ t => t
end Go.Proofs.Ytjgnhhgigickaaa.Wk
namespace Go.Proofs.Ytjgnhhgigickaaa.Md
open Go Wk

def w64 (x : Int) : Int := IntKind.wrap .i64 x

/-! ### Right, rank, Same, Open -/

/-- How many Kids a Kind has: what 'wants' says, as the test in Right asks it. -/
def kidsOk (k : Int) (n : Nat) : Bool :=
  if k = 1 then n == 0 else if k = 2 then n == 0 else if k = 3 then n == 2 else if k = 4 then n == 1 else false

/-- One node: the error, 0 where it is right. -/
def rtNode (around n many k num : Int) (len : Nat) : Int :=
  if many = 12 then 2
  else if k < 1 ∨ k > 4 ∨ num < 0 ∨ (num > 0 ∧ k ≠ 1) then 3
  else if kidsOk k len = false then 4
  else if k = 1 ∧ num ≥ w64 (around + n) then 1
  else 0

mutual
/-- The nodes in order, from 'many' on: an error, or how many there are then. -/
def rtWalk (n : Int) (around many : Int) : T → Int × Int
  | .mk k num ks =>
    let e := rtNode around n many k num ks.length
    if e = 0 then rtList n (if k = 4 then w64 (around + 1) else around) (w64 (many + 1)) ks else (e, many)
def rtList (n : Int) (around many : Int) : List T → Int × Int
  | [] => (0, many)
  | t :: ts =>
    let r := rtWalk n around many t
    if r.1 = 0 then rtList n around r.2 ts else r
end
def right (t : T) (n : Int) : Int := if n < 0 ∨ n > 26 then 3 else (rtWalk n 0 0 t).1
def closed : List T → Int
  | [] => 0
  | t :: ts => if right t 0 = 0 then closed ts else right t 0

/-- the rank of a right type -/
def rank : Nat → T → Option Int
  | 0, _ => none
  | f + 1, .mk k _ ks =>
    if k = 4 then
      match ks with
      | t :: _ => (rank f t).bind fun r => some (max 1 r)
      | [] => none
    else if k = 3 then
      match ks with
      | a :: b :: _ => (rank f b).bind fun out => (rank f a).bind fun n => some (if n > 0 then max out (w64 (n + 1)) else out)
      | _ => none
    else some 0
def Rank (f : Nat) (t : T) : Option (Int × Int) :=
  if closed [t] = 0 then (rank f t).bind fun r => some (r, 0) else some (0, closed [t])

mutual
def same : T → T → Bool
  | .mk k n ks, .mk k' n' ks' => k == k' && n == n' && sames ks ks'
def sames : List T → List T → Bool
  | [], [] => true
  | a :: az, b :: bs => same a b && sames az bs
  | _, _ => false
end
def Same (a b : T) : Bool × Int := if closed [a, b] = 0 then (same a b, 0) else (false, closed [a, b])

/-- a Kid of a quantifier with a closed type for its variable; fuel for the copy of 'wth' -/
def opened : Nat → T → T → Int → Option T
  | 0, _, _, _ => none
  | f + 1, .mk k num ks, wth, n =>
    if k = 1 ∧ num = n then opened f wth wth (-1)
    else (ks.mapM fun t => opened f t wth (if k = 4 ∧ n ≥ 0 then w64 (n + 1) else n)).bind fun ks' => some (.mk k num ks')
def t0 : T := .mk 0 0 []
def Open (f : Nat) (t wth : T) : Option (T × Int) :=
  if closed [t, wth] ≠ 0 then some (t0, closed [t, wth])
  else if t.kind ≠ 4 then some (t0, 6)
  else match t.kids with
    | k :: _ => (opened f k wth 0).bind fun out => if closed [out] ≠ 0 then some (t0, closed [out]) else some (out, 0)
    | [] => none

/-! ### the solver -/

inductive Mode where
  | unk
  | wit (l : List (T × Int))
  | shw (left : List T)
  | any
structure Sol where
  solved : List (Int × T)
  deep : List Int
  way : List T
  md : Mode

def lim : Nat := 1099511627776
def nth {α : Type} (l : List α) (i : Int) : Option α := if 0 ≤ i then l[i.toNat]? else none

def newer (s : Sol) (kind dp : Int) : Option (T × Sol) :=
  if s.deep.length < lim ∧ s.way.length < lim then some (.mk kind s.deep.length [], { s with deep := s.deep ++ [dp] }) else none

def now : Nat → List (Int × T) → T → Option T
  | 0, _, _ => none
  | f + 1, sv, t => if t.kind = 6 then (match lkp sv t.num with | some u => now f sv u | none => some t) else some t

mutual
def put (wth : T) (n : Int) : T → T
  | .mk k num ks => if k = 1 ∧ num = n then wth else if ks.length = 0 then .mk k num ks else .mk k num (puts wth (if k = 4 then w64 (n + 1) else n) ks)
def puts (wth : T) (n : Int) : List T → List T
  | [] => []
  | t :: ts => put wth n t :: puts wth n ts
end
def opn (t wth : T) : Option T := match t.kids with | k :: _ => some (put wth 0 k) | [] => none

/-- a plain type with the fresh variables of the way for its variables -/
def around : Nat → List T → T → Int → Option T
  | 0, _, _, _ => none
  | f + 1, way, .mk k num ks, dp =>
    if k = 1 then nth way (w64 (w64 (dp - 1) - num))
    else (ks.mapM fun t => around f way t dp).bind fun ks' => some (.mk k 0 ks')

def setAt (l : List Int) (i : Int) (v : Int) : List Int := l.set i.toNat v

mutual
def fits : Nat → Sol → Int → T → Option (Bool × Sol)
  | 0, _, _, _ => none
  | f + 1, s, h, t =>
    (now f s.solved t).bind fun t =>
      if t.kind = 5 then (nth s.deep t.num).bind fun x => (nth s.deep h).bind fun y => some (decide (x < y), s)
      else if t.kind = 6 then (nth s.deep t.num).bind fun x => (nth s.deep h).bind fun y => fitsL f { s with deep := setAt s.deep t.num (min x y) } h t.kids
      else fitsL f s h t.kids
def fitsL : Nat → Sol → Int → List T → Option (Bool × Sol)
  | 0, _, _, _ => none
  | f + 1, s, h, ts =>
    match ts with
    | [] => some (true, s)
    | k :: ks => (fits f s h k).bind fun r => if r.1 then fitsL f r.2 h ks else some (false, r.2)
end

def split (s : Sol) (t : T) : Option (T × Sol) :=
  (nth s.deep t.num).bind fun d => (newer s 6 d).bind fun r1 =>
    (nth r1.2.deep t.num).bind fun d' => (newer r1.2 6 d').bind fun r2 =>
      let fn := T.mk 3 0 [r1.1, r2.1]
      match lkp r2.2.solved t.num with
      | some _ => none
      | none => some (fn, { r2.2 with solved := r2.2.solved ++ [(t.num, fn)] })

mutual
def inside : Nat → List (Int × T) → Int → T → Option (Bool × Bool)
  | 0, _, _, _ => none
  | f + 1, sv, h, t =>
    (now f sv t).bind fun t => insideL f sv h (decide (t.kind = 6 ∧ t.num = h)) (decide (t.kind = 4)) t.kids
def insideL : Nat → List (Int × T) → Int → Bool → Bool → List T → Option (Bool × Bool)
  | 0, _, _, _, _, _ => none
  | f + 1, sv, h, a, b, ts =>
    match ts with
    | [] => some (a, b)
    | k :: ks => (inside f sv h k).bind fun r => insideL f sv h (a || r.1) (b || r.2) ks
end

mutual
/-- has a right type no quantifier? (the nodes in order) -/
def plain : T → Bool
  | .mk k _ ks => decide (k ≠ 4) && plains ks
def plains : List T → Bool
  | [] => true
  | t :: ts => plain t && plains ts
end

/-- what the solver's 'take' hands back -/
def take (f : Nat) (s : Sol) (dp : Int) : Option ((T × Bool) × Sol) :=
  match s.md with
  | .unk => (newer s 6 dp).bind fun r => some ((r.1, true), r.2)
  | .wit l => (newer s 6 dp).bind fun r => if l.length < lim then some ((r.1, true), { r.2 with md := .wit (l ++ [(r.1, dp)]) }) else none
  | .shw left =>
    match left with
    | [] => some ((t0, false), s)
    | t :: ts =>
      if plain t = false ∨ right t (min dp 26) ≠ 0 then some ((t0, false), s)
      else (around f s.way t dp).bind fun u => some ((u, true), { s with md := .shw ts })
  | .any => none

mutual
def uses : Nat → Sol → T → T → Int → Option (Bool × Sol)
  | 0, _, _, _, _ => none
  | f + 1, s, a, b, dp =>
    (now f s.solved b).bind fun b =>
      if b.kind = 4 then
        (newer s 5 dp).bind fun r => (opn b r.1).bind fun t =>
          (uses f { r.2 with way := s.way ++ [r.1] } a t (w64 (dp + 1))).bind fun x => some (x.1, { x.2 with way := s.way })
      else
        (now f s.solved a).bind fun a => usesT f s a b dp
/-- the quantifiers in front of the first one are taken -/
def usesT : Nat → Sol → T → T → Int → Option (Bool × Sol)
  | 0, _, _, _, _ => none
  | f + 1, s, a, b, dp =>
    if a.kind = 4 then
      (take f s dp).bind fun r =>
        if r.1.2 = false then some (false, r.2)
        else (opn a r.1.1).bind fun a => (now f r.2.solved a).bind fun a => usesT f r.2 a b dp
    else
      (now f s.solved b).bind fun b =>
        if a.kind = 6 then filled f s a b true dp
        else if b.kind = 6 then filled f s b a false dp
        else if a.kind ≠ b.kind then some (false, s)
        else if a.kind = 3 then
          match a.kids, b.kids with
          | a0 :: a1 :: _, b0 :: b1 :: _ => (uses f s b0 a0 dp).bind fun r => if r.1 then uses f r.2 a1 b1 dp else some (false, r.2)
          | _, _ => none
        else some (a.num == b.num, s)
def filled : Nat → Sol → T → T → Bool → Int → Option (Bool × Sol)
  | 0, _, _, _, _, _ => none
  | f + 1, s, h, t, first, dp =>
    if t.kind = 6 ∧ t.num = h.num then some (true, s)
    else (inside f s.solved h.num t).bind fun io =>
      if io.1 then some (false, s)
      else if io.2 = false then
        match lkp s.solved h.num with
        | some _ => none
        | none => fits f { s with solved := s.solved ++ [(h.num, t)] } h.num t
      else if first then (split s h).bind fun r => uses f r.2 r.1 t dp
      else (split s h).bind fun r => uses f r.2 t r.1 dp
end

def start (m : Mode) : Sol := { solved := [], deep := [], way := [], md := m }
def Uses (f : Nat) (a b : T) : Option (Bool × Int) :=
  if closed [a, b] ≠ 0 then some (false, closed [a, b]) else (uses f (start .unk) a b 0).bind fun r => some (r.1, 0)

/-- a type written out; holes are numbers (hs none), or variables of quantifiers in front -/
def written : Nat → Sol → T → Int → Option (List (Int × Int)) → Option T
  | 0, _, _, _, _ => none
  | f + 1, s, t, dp, hs =>
    (now f s.solved t).bind fun t =>
      if t.kind = 5 then (nth s.deep t.num).bind fun x => some (.mk 1 (w64 (w64 (dp - 1) - x)) [])
      else if t.kind = 6 then
        (match lkp (hs.getD []) t.num with
        | some n => some (.mk 1 (w64 (w64 (w64 (dp + ((hs.getD []).length : Int)) - 1) - n)) [])
        | none => some (.mk 2 0 []))
      else (t.kids.mapM fun k => written f s k (if t.kind = 4 then w64 (dp + 1) else dp) hs).bind fun ks => some (.mk t.kind t.num ks)

def Witness (f : Nat) (a b : T) : Option (List T × Int) :=
  if closed [a, b] ≠ 0 then some ([], closed [a, b])
  else (uses f (start (.wit [])) a b 0).bind fun r =>
    if r.1 = false then some ([], 6)
    else match r.2.md with
      | .wit l => (l.mapM fun x => written f r.2 x.1 x.2 none).bind fun ts => some (ts, 0)
      | _ => none

def rights : List T → Int → Int
  | [], _ => 0
  | t :: ts, n => if right t n = 0 then rights ts n else right t n
def Shows (f : Nat) (a b : T) (l : List T) : Option (Bool × Int) :=
  if closed [a, b] ≠ 0 then some (false, closed [a, b])
  else if rights l 26 ≠ 0 then some (false, rights l 26)
  else (uses f (start (.shw l)) a b 0).bind fun r =>
    match r.2.md with
    | .shw left => some (r.1 && left.length == 0, 0)
    | _ => none

/-! ### terms -/

def annotated (t : T) (is : Bool) : Int :=
  if is then right t 0 else if t.kind ≠ 0 ∨ t.num ≠ 0 ∨ t.kids.length > 0 then 4 else 0
def needKids (k : Int) : Nat := if k = 5 then 2 else if k = 1 ∨ k = 2 then 0 else 1
def binds (k : Int) : Bool := decide (k = 3 ∨ k = 4)
def typed (k : Int) : Bool := decide (k = 4 ∨ k = 6)

mutual
/-- the error of a term, 0 where there is none; and how many nodes have been counted -/
def goodE : E → Int → Int → Int × Int
  | .mk k num ks ty, vars, many =>
    if many = 20 then (2, many)
    else if k < 1 ∨ k > 6 ∨ num < 0 ∨ num > 1073741824 ∨ (num > 0 ∧ k > 2) then (3, w64 (many + 1))
    else if ks.length ≠ needKids k then (4, w64 (many + 1))
    else if annotated ty (typed k) ≠ 0 then (annotated ty (typed k), w64 (many + 1))
    else if k = 1 ∧ num ≥ vars then (1, w64 (many + 1))
    else goodL ks (if binds k then w64 (vars + 1) else vars) (w64 (many + 1))
def goodL : List E → Int → Int → Int × Int
  | [], _, many => (0, many)
  | e :: es, vars, many =>
    let r := goodE e vars many
    if r.1 = 0 then goodL es vars r.2 else r
end
def Good (l : List T) (e : E) : Int := if l.length > 6 then 2 else if closed l ≠ 0 then closed l else (goodE e l.length 0).1

structure Chk where
  types : List T
  s : Sol

mutual
def gives : Nat → Chk → E → Int → Option ((T × Bool) × Chk)
  | 0, _, _, _ => none
  | f + 1, c, e, dp =>
    if e.kind = 1 then
      (match nth c.types (w64 (w64 ((c.types.length : Int) - 1) - e.num)) with | some t => some ((t, true), c) | none => some ((t0, false), c))
    else if e.kind = 2 then some ((.mk 2 0 [], true), c)
    else if e.kind = 3 then
      match e.kids with
      | x :: _ => (newer c.s 6 dp).bind fun a => (newer a.2 6 dp).bind fun b =>
          if c.types.length ≥ lim then none else (has f { types := c.types ++ [a.1], s := b.2 } x b.1 dp).bind fun r => some ((.mk 3 0 [a.1, b.1], r.1), { r.2 with types := c.types })
      | [] => none
    else if e.kind = 4 then
      match e.kids with
      | x :: _ => if c.types.length ≥ lim then none else (gives f { c with types := c.types ++ [e.ty] } x dp).bind fun r => some ((.mk 3 0 [e.ty, r.1.1], r.1.2), { r.2 with types := c.types })
      | [] => none
    else if e.kind = 5 then
      match e.kids with
      | x :: y :: _ => (gives f c x dp).bind fun r => if r.1.2 = false then some ((t0, false), r.2) else leads f r.2 r.1.1 y dp
      | _ => none
    else if e.kind = 6 then
      match e.kids with
      | x :: _ => (has f c x e.ty dp).bind fun r => some ((e.ty, r.1), r.2)
      | [] => none
    else none
def leads : Nat → Chk → T → E → Int → Option ((T × Bool) × Chk)
  | 0, _, _, _, _ => none
  | f + 1, c, t, x, dp => (now f c.s.solved t).bind fun t => leadsO f c t x dp
def leadsO : Nat → Chk → T → E → Int → Option ((T × Bool) × Chk)
  | 0, _, _, _, _ => none
  | f + 1, c, t, x, dp =>
    if t.kind = 4 then (newer c.s 6 dp).bind fun h => (opn t h.1).bind fun u => (now f h.2.solved u).bind fun u => leadsO f { c with s := h.2 } u x dp
    else if t.kind = 6 then (split c.s t).bind fun r => leadsO f { c with s := r.2 } r.1 x dp
    else if t.kind ≠ 3 then some ((t0, false), c)
    else match t.kids with
      | a :: b :: _ => (has f c x a dp).bind fun r => if r.1 then some ((b, true), r.2) else some ((t0, false), r.2)
      | _ => none
def has : Nat → Chk → E → T → Int → Option (Bool × Chk)
  | 0, _, _, _, _ => none
  | f + 1, c, e, t, dp =>
    (now f c.s.solved t).bind fun t =>
      if t.kind = 4 then
        (newer c.s 5 dp).bind fun r => (opn t r.1).bind fun u =>
          (has f { c with s := { r.2 with way := c.s.way ++ [r.1] } } e u (w64 (dp + 1))).bind fun x => some (x.1, { x.2 with s := { x.2.s with way := c.s.way } })
      else if e.kind = 3 then
        if t.kind = 6 then (split c.s t).bind fun r => hasL f { c with s := r.2 } e r.1 dp else hasL f c e t dp
      else (gives f c e dp).bind fun r => if r.1.2 then (uses f r.2.s r.1.1 t dp).bind fun x => some (x.1, { r.2 with s := x.2 }) else some (false, r.2)
def hasL : Nat → Chk → E → T → Int → Option (Bool × Chk)
  | 0, _, _, _, _ => none
  | f + 1, c, e, t, dp =>
    if t.kind ≠ 3 then some (false, c)
    else match t.kids, e.kids with
      | a :: b :: _, x :: _ => if c.types.length ≥ lim then none else (has f { c with types := c.types ++ [a] } x b dp).bind fun r => some (r.1, { r.2 with types := c.types })
      | _, _ => none
end

mutual
def numbered : Nat → List (Int × T) → T → List (Int × Int) → Int → Option (List (Int × Int) × Int)
  | 0, _, _, _, _ => none
  | f + 1, sv, t, hs, many =>
    (now f sv t).bind fun t =>
      numberedL f sv t.kids (if t.kind = 6 ∧ (lkp hs t.num).isNone then hs ++ [(t.num, (hs.length : Int))] else hs) (w64 (many + 1))
def numberedL : Nat → List (Int × T) → List T → List (Int × Int) → Int → Option (List (Int × Int) × Int)
  | 0, _, _, _, _ => none
  | f + 1, sv, ts, hs, many =>
    match ts with
    | [] => some (hs, many)
    | k :: ks => if many > 200 then some (hs, many) else (numbered f sv k hs many).bind fun r => numberedL f sv ks r.1 r.2
end
def wrapAll : Nat → T → T
  | 0, t => t
  | n + 1, t => wrapAll n (.mk 4 0 [t])
def chk (l : List T) : Chk := { types := l.reverse, s := start .unk }
def Synth (f : Nat) (l : List T) (e : E) : Option (T × Int) :=
  if Good l e ≠ 0 then some (t0, Good l e)
  else (gives f (chk l) e 0).bind fun r =>
    if r.1.2 = false then some (t0, 8)
    else (numbered f r.2.s.solved r.1.1 [] 0).bind fun h =>
      if w64 (h.2 + (h.1.length : Int)) > 200 then some (t0, 11)
      else (written f r.2.s r.1.1 0 (some h.1)).bind fun out => some (wrapAll h.1.length out, 0)
def Has (f : Nat) (l : List T) (e : E) (t : T) : Option (Bool × Int) :=
  if Good l e ≠ 0 then some (false, Good l e)
  else if closed [t] ≠ 0 then some (false, closed [t])
  else (has f (chk l) e t 0).bind fun r => some (r.1, 0)

end Go.Proofs.Ytjgnhhgigickaaa.Md

namespace Go.Proofs.Ytjgnhhgigickaaa.Wk
open Go Md

theorem mixed : Try.prog.follows .mixedOrders = true := by kernel_rfl

theorem el22 : Elem Try.prog 22 24 3 40 := Elem.of Try.underlying22 (by kernel_rfl)
theorem el35 : Elem Try.prog 35 5 1 1 := Elem.of Try.underlying35 (by kernel_rfl)
theorem el101 : Elem Try.prog 101 3 1 8 := Elem.of Try.underlying101 (by kernel_rfl)
theorem el102 : Elem Try.prog 102 106 1 8 := Elem.of Try.underlying102 (by kernel_rfl)
theorem el133 : Elem Try.prog 133 135 2 16 := Elem.of Try.underlying133 (by kernel_rfl)
theorem sz24 : (Try.prog.info? 24).map (·.size) = some 3 := by kernel_rfl
theorem sz52 : (Try.prog.info? 52).map (·.size) = some 6 := by kernel_rfl
theorem sz3 : (Try.prog.info? 3).map (·.size) = some 1 := by kernel_rfl
theorem sz5 : (Try.prog.info? 5).map (·.size) = some 1 := by kernel_rfl
theorem sz106 : (Try.prog.info? 106).map (·.size) = some 1 := by kernel_rfl
theorem sz135 : (Try.prog.info? 135).map (·.size) = some 2 := by kernel_rfl
theorem IsTyp.open {G : GH} {v : Value} {t : T} (h : IsTyp G v t) : ∃ b A c, v = .pointer (some ⟨b, 0, none⟩) ∧ G b = some (.cells #[.int .i64 t.kind, .int .i64 t.num, .slice A t.kids.length c] 148 (0, 0)) ∧ (t.kids.length ≤ c ∧ t.kids.length < 1099511627776) ∧ IsTyps G A t.kids := by
  obtain ⟨k, n, ks⟩ := t
  unfold IsTyp at h
  exact h
theorem IsTyp.mk {G : GH} {b c : Nat} {A : Option Addr} {t : T} (h1 : G b = some (.cells #[.int .i64 t.kind, .int .i64 t.num, .slice A t.kids.length c] 148 (0, 0))) (h2 : t.kids.length ≤ c ∧ t.kids.length < 1099511627776) (h3 : IsTyps G A t.kids) : IsTyp G (.pointer (some ⟨b, 0, none⟩)) t := by
  obtain ⟨k, n, ks⟩ := t
  unfold IsTyp
  exact ⟨b, A, c, rfl, h1, h2, h3⟩
theorem IsPoly.open {G : GH} {v : Value} {t : T} (h : IsPoly G v t) : ∃ A c, v = .agg #[.int .i64 t.kind, .int .i64 t.num, .slice A t.kids.length c] ∧ t.kids.length ≤ c ∧ IsPolys G A t.kids := by
  obtain ⟨k, n, ks⟩ := t
  unfold IsPoly at h
  exact h
theorem IsPoly.mk {G : GH} {c : Nat} {A : Option Addr} {t : T} (h2 : t.kids.length ≤ c) (h3 : IsPolys G A t.kids) : IsPoly G (.agg #[.int .i64 t.kind, .int .i64 t.num, .slice A t.kids.length c]) t := by
  obtain ⟨k, n, ks⟩ := t
  unfold IsPoly
  exact ⟨A, c, rfl, h2, h3⟩
theorem IsPolys.elem {G : GH} {ts : List T} {A : Option Addr} {i : Nat} {t : T} (h : IsPolys G A ts) (hi : ts[i]? = some t) : ∃ b off A' c', A = some ⟨b, off, none⟩ ∧ GC G ⟨b, off + i * 3, none⟩ (.int .i64 t.kind) ∧ GC G ⟨b, off + i * 3 + 1, none⟩ (.int .i64 t.num) ∧
    GC G ⟨b, off + i * 3 + 2, none⟩ (.slice A' t.kids.length c') ∧ IsPoly G (.agg #[.int .i64 t.kind, .int .i64 t.num, .slice A' t.kids.length c']) t := by
  obtain ⟨b, off, v0, v1, v2, h1, h2, h3, h4, h5⟩ := h.get hi
  obtain ⟨A', c', he, _, _⟩ := h5.open
  cases he
  exact ⟨b, off, A', c', h1, h2, h3, h4, h5⟩
theorem IsTyps.elem {G : GH} {ts : List T} {A : Option Addr} {i : Nat} {t : T} (h : IsTyps G A ts) (hi : ts[i]? = some t) : ∃ b off u, A = some ⟨b, off, none⟩ ∧ GC G ⟨b, off + i * 1, none⟩ (.pointer (some ⟨u, 0, none⟩)) ∧ IsTyp G (.pointer (some ⟨u, 0, none⟩)) t := by
  obtain ⟨b, off, v, h1, h2, h3⟩ := h.get hi
  obtain ⟨u, _, _, rfl, _⟩ := h3.open
  exact ⟨b, off, u, h1, h2, h3⟩
theorem IsTyps.nil {G : GH} {A : Option Addr} : IsTyps G A [] := by unfold IsTyps; trivial
theorem IsPolys.nil {G : GH} {A : Option Addr} : IsPolys G A [] := by unfold IsPolys; trivial

theorem St.swap {G : GH} {A B C : LH} {w : World} (h : St G (A ++ (B ++ C)) w) : St G (B ++ (A ++ C)) w := by
  refine h.perm ?_
  rw [← List.append_assoc, ← List.append_assoc]
  exact List.Perm.append_right C List.perm_append_comm

mutual
def T.sz : T → Nat
  | .mk _ _ ks => T.szs ks + 1
def T.szs : List T → Nat
  | [] => 0
  | t :: ts => T.sz t + T.szs ts + 1
end
theorem T.szs_get : ∀ {ks : List T} {i : Nat} {t : T}, ks[i]? = some t → T.sz t < T.szs ks
  | [], _, _, h => by simp at h
  | k :: ks, 0, t, h => by simp at h; subst h; simp [T.szs]; omega
  | k :: ks, i + 1, t, h => by simp at h; have := T.szs_get h; simp [T.szs]; omega
theorem T.sz_kid {t u : T} {i : Nat} (h : t.kids[i]? = some u) : T.sz u < T.sz t := by
  obtain ⟨k, n, ks⟩ := t
  have := T.szs_get h
  simp only [T.sz, T.kids] at this ⊢; omega

/-! ### a solver -/

inductive MB where
  | unk
  | wit (bs bl : Nat)
  | shw (bl bs : Nat)
  | any

/-- what was taken: two cells each -/
def TK (G : GH) : List Value → List (T × Int) → Prop
  | [], [] => True
  | v :: d :: r, (t, dp) :: l => IsTyp G v t ∧ d = .int .i64 dp ∧ TK G r l
  | _, _ => False

def IsMode (G : GH) (sb : Nat) (tv : Value) : Md.Mode → MB → LH → Prop
  | .unk, .unk, τ => tv = .func (.func 64) #[.pointer (some ⟨sb, 0, none⟩)] #[] ∧ τ = []
  | .wit l, .wit bs bl, τ => tv = .func (.func 85) #[] #[.pointer (some ⟨bs, 0, none⟩), .pointer (some ⟨bl, 0, none⟩)] ∧
      ∃ lv cs Lp, τ = (bs, .cells #[.pointer (some ⟨sb, 0, none⟩)] 97) :: (bl, .cells #[lv] 133) :: Lp ∧ OS 135 2 lv l.length cs Lp ∧ TK G cs l
  | .shw left, .shw bl bs, τ => tv = .func (.func 86) #[] #[.pointer (some ⟨bl, 0, none⟩), .pointer (some ⟨bs, 0, none⟩)] ∧
      ∃ A c, τ = [(bl, .cells #[.slice A left.length c] 22), (bs, .cells #[.pointer (some ⟨sb, 0, none⟩)] 97)] ∧ left.length ≤ c ∧ IsPolys G A left ∧ T.szs left < lim
  | .any, .any, τ => τ = []
  | _, _, _ => False

def KVs (G : GH) : List (Int × Value) → List (Int × T) → Prop
  | [], [] => True
  | (k, v) :: r, (k', t) :: r' => k = k' ∧ IsTyp G v t ∧ KVs G r r'
  | _, _ => False

def IsSol (G : GH) (sb : Nat) (mb : MB) (s : Sol) (σ : LH) : Prop :=
  ∃ mp es clock kv dv Lp A wc tv τ, σ = (sb, .cells #[.map (some mp), dv, .slice A s.way.length wc, tv] 104) :: (mp, .map es clock) :: (Lp ++ τ) ∧ MapR es kv ∧ KVs G kv s.solved ∧
    OS 3 1 dv s.deep.length (s.deep.map (Value.int .i64)) Lp ∧ s.way.length ≤ wc ∧ IsTyps G A s.way ∧ IsMode G sb tv s.md mb τ

theorem KVs.mono {G G' : GH} (hG : Le G G') : ∀ {kv : List (Int × Value)} {sv : List (Int × T)}, KVs G kv sv → KVs G' kv sv
  | [], [], _ => trivial
  | (_, _) :: _, (_, _) :: _, ⟨h1, h2, h3⟩ => ⟨h1, h2.mono hG, KVs.mono hG h3⟩
  | [], _ :: _, h => h.elim
  | _ :: _, [], h => h.elim
theorem TK.mono {G G' : GH} (hG : Le G G') : ∀ {cs : List Value} {l : List (T × Int)}, TK G cs l → TK G' cs l
  | [], [], _ => trivial
  | _ :: _ :: _, (_, _) :: _, ⟨h1, h2, h3⟩ => ⟨h1.mono hG, h2, TK.mono hG h3⟩
  | [], _ :: _, h => h.elim
  | [_], [], h => h.elim
  | [_], _ :: _, h => h.elim
  | _ :: _ :: _, [], h => h.elim
theorem IsMode.mono {G G' : GH} (hG : Le G G') {sb : Nat} {tv : Value} {md : Md.Mode} {mb : MB} {τ : LH} (h : IsMode G sb tv md mb τ) : IsMode G' sb tv md mb τ := by
  cases md <;> cases mb <;> first | exact h | skip
  · obtain ⟨h1, lv, cs, Lp, h2, h3, h4⟩ := h; exact ⟨h1, lv, cs, Lp, h2, h3, h4.mono hG⟩
  · obtain ⟨h1, A, c, h2, h3, h4, h5⟩ := h; exact ⟨h1, A, c, h2, h3, h4.mono hG, h5⟩
theorem IsSol.mono {G G' : GH} {sb : Nat} {mb : MB} {s : Sol} {σ : LH} (h : IsSol G sb mb s σ) (hG : Le G G') : IsSol G' sb mb s σ := by
  obtain ⟨mp, es, clock, kv, dv, Lp, A, wc, tv, τ, h1, h2, h3, h4, h5, h6, h7⟩ := h
  exact ⟨mp, es, clock, kv, dv, Lp, A, wc, tv, τ, h1, h2, h3.mono hG, h4, h5, h6.mono hG, h7.mono hG⟩
theorem KVs.look {G : GH} (x : Int) : ∀ {kv : List (Int × Value)} {sv : List (Int × T)}, KVs G kv sv → (lkp kv x = none ∧ lkp sv x = none) ∨ ∃ v t, lkp kv x = some v ∧ lkp sv x = some t ∧ IsTyp G v t
  | [], [], _ => .inl ⟨rfl, rfl⟩
  | (k, v) :: r, (k', t) :: r', ⟨h1, h2, h3⟩ => by
    subst h1
    simp only [lkp]
    cases x == k with
    | true => exact .inr ⟨v, t, rfl, rfl, h2⟩
    | false => exact KVs.look x h3
  | [], _ :: _, h => h.elim
  | _ :: _, [], h => h.elim
theorem KVs.push {G : GH} {k : Int} {v : Value} {t : T} (ht : IsTyp G v t) : ∀ {kv : List (Int × Value)} {sv : List (Int × T)}, KVs G kv sv → KVs G (kv ++ [(k, v)]) (sv ++ [(k, t)])
  | [], [], _ => ⟨rfl, ht, trivial⟩
  | (_, _) :: _, (_, _) :: _, ⟨h1, h2, h3⟩ => ⟨h1, h2, KVs.push ht h3⟩
  | [], _ :: _, h => h.elim
  | _ :: _, [], h => h.elim

/-! lists of trees in a slice of the walk's own -/
def TyL (G : GH) : List Value → List T → Prop
  | [], [] => True
  | v :: r, t :: l => IsTyp G v t ∧ TyL G r l
  | _, _ => False
def PoL (G : GH) : List Value → List T → Prop
  | [], [] => True
  | v0 :: v1 :: v2 :: r, t :: l => IsPoly G (.agg #[v0, v1, v2]) t ∧ PoL G r l
  | _, _ => False
def ExL (G : GH) : List Value → List E → Prop
  | [], [] => True
  | v0 :: v1 :: v2 :: v3 :: v4 :: v5 :: r, t :: l => IsExpr G (.agg #[v0, v1, v2, v3, v4, v5]) t ∧ ExL G r l
  | _, _ => False
theorem TyL.mono {G G' : GH} (hG : Le G G') : ∀ {cs : List Value} {l : List T}, TyL G cs l → TyL G' cs l
  | [], [], _ => trivial
  | _ :: _, _ :: _, ⟨h1, h2⟩ => ⟨h1.mono hG, TyL.mono hG h2⟩
  | [], _ :: _, h => h.elim
  | _ :: _, [], h => h.elim
theorem PoL.mono {G G' : GH} (hG : Le G G') : ∀ {cs : List Value} {l : List T}, PoL G cs l → PoL G' cs l
  | [], [], _ => trivial
  | _ :: _ :: _ :: _, _ :: _, ⟨h1, h2⟩ => ⟨h1.mono hG, PoL.mono hG h2⟩
  | [], _ :: _, h => h.elim
  | [_], [], h => h.elim
  | [_], _ :: _, h => h.elim
  | [_, _], [], h => h.elim
  | [_, _], _ :: _, h => h.elim
  | _ :: _ :: _ :: _, [], h => h.elim
theorem TyL.snoc {G : GH} {v : Value} {t : T} (hv : IsTyp G v t) : ∀ {cs : List Value} {l : List T}, TyL G cs l → TyL G (cs ++ [v]) (l ++ [t])
  | [], [], _ => ⟨hv, trivial⟩
  | _ :: _, _ :: _, ⟨h1, h2⟩ => ⟨h1, TyL.snoc hv h2⟩
  | [], _ :: _, h => h.elim
  | _ :: _, [], h => h.elim
theorem PoL.snoc {G : GH} {v0 v1 v2 : Value} {t : T} (hv : IsPoly G (.agg #[v0, v1, v2]) t) : ∀ {cs : List Value} {l : List T}, PoL G cs l → PoL G (cs ++ [v0, v1, v2]) (l ++ [t])
  | [], [], _ => ⟨hv, trivial⟩
  | _ :: _ :: _ :: _, _ :: _, ⟨h1, h2⟩ => ⟨h1, PoL.snoc hv h2⟩
  | [], _ :: _, h => h.elim
  | [_], [], h => h.elim
  | [_], _ :: _, h => h.elim
  | [_, _], [], h => h.elim
  | [_, _], _ :: _, h => h.elim
  | _ :: _ :: _ :: _, [], h => h.elim
theorem TyL.length {G : GH} : ∀ {cs : List Value} {l : List T}, TyL G cs l → cs.length = l.length
  | [], [], _ => rfl
  | _ :: _, _ :: _, ⟨_, h2⟩ => by simp [TyL.length h2]
  | [], _ :: _, h => h.elim
  | _ :: _, [], h => h.elim
theorem TyL.typs {G : GH} {b : Nat} : ∀ {cs : List Value} {l : List T} (off : Nat), TyL G cs l → (∀ i u, cs[i]? = some u → GC G ⟨b, off + i, none⟩ u) → IsTyps G (some ⟨b, off, none⟩) l
  | [], [], _, _, _ => IsTyps.nil
  | v :: r, t :: l, off, ⟨h1, h2⟩, hc => by
    unfold IsTyps
    exact ⟨b, off, v, rfl, hc 0 v rfl, h1, TyL.typs (off + 1) h2 (fun i u hi => by rw [show off + 1 + i = off + (i + 1) by omega]; exact hc (i + 1) u (by simpa using hi))⟩
  | [], _ :: _, _, h, _ => h.elim
  | _ :: _, [], _, h, _ => h.elim
theorem PoL.polys {G : GH} {b : Nat} : ∀ {cs : List Value} {l : List T} (off : Nat), PoL G cs l → (∀ i u, cs[i]? = some u → GC G ⟨b, off + i, none⟩ u) → IsPolys G (some ⟨b, off, none⟩) l
  | [], [], _, _, _ => IsPolys.nil
  | v0 :: v1 :: v2 :: r, t :: l, off, ⟨h1, h2⟩, hc => by
    unfold IsPolys
    exact ⟨b, off, v0, v1, v2, rfl, hc 0 v0 rfl, hc 1 v1 rfl, hc 2 v2 rfl, h1, PoL.polys (off + 3) h2 (fun i u hi => by rw [show off + 3 + i = off + (i + 3) by omega]; exact hc (i + 3) u (by simpa using hi))⟩
  | [], _ :: _, _, h, _ => h.elim
  | [_], [], _, h, _ => h.elim
  | [_], _ :: _, _, h, _ => h.elim
  | [_, _], [], _, h, _ => h.elim
  | [_, _], _ :: _, _, h, _ => h.elim
  | _ :: _ :: _ :: _, [], _, h, _ => h.elim
theorem OS.cells {G : GH} {e sz : Nat} {v : Value} {n : Nat} {cs : List Value} {Lp : LH} (h : OS e sz v n cs Lp) (hG : ∀ p, p ∈ Lp → G p.1 = some p.2) :
    ∃ A c, v = .slice A n c ∧ n ≤ c ∧ (n = 0 ∨ ∃ b, A = some ⟨b, 0, none⟩ ∧ ∀ i u, cs[i]? = some u → GC G ⟨b, 0 + i, none⟩ u) := by
  obtain ⟨hlen, ⟨rfl, rfl, rfl⟩ | ⟨b, c, arr, rfl, rfl, h1, h2, h3⟩⟩ := h
  · exact ⟨none, 0, rfl, Nat.le_refl _, .inl rfl⟩
  · refine ⟨_, c, rfl, h1, .inr ⟨b, rfl, fun i u hi => GC.of (hG _ (List.mem_singleton.2 rfl)) ?_⟩⟩
    rw [← h3, List.getElem?_take] at hi
    split at hi
    · simpa using hi
    · cases hi
theorem OS.typs {G : GH} {v : Value} {n : Nat} {cs : List Value} {Lp : LH} {ts : List T} (h : OS 106 1 v n cs Lp) (ht : TyL G cs ts) (hn : n = ts.length) (hG : ∀ p, p ∈ Lp → G p.1 = some p.2) :
    ∃ A c, v = .slice A ts.length c ∧ ts.length ≤ c ∧ IsTyps G A ts := by
  obtain ⟨A, c, hv, hc, hcase⟩ := h.cells hG
  refine ⟨A, c, by rw [hv, hn], by omega, ?_⟩
  rcases hcase with h0 | ⟨b, rfl, hb⟩
  · have : ts = [] := List.eq_nil_of_length_eq_zero (by omega)
    subst this; exact IsTyps.nil
  · exact ht.typs 0 hb
theorem OS.polys {G : GH} {v : Value} {n : Nat} {cs : List Value} {Lp : LH} {ts : List T} (h : OS 24 3 v n cs Lp) (ht : PoL G cs ts) (hn : n = ts.length) (hG : ∀ p, p ∈ Lp → G p.1 = some p.2) :
    ∃ A c, v = .slice A ts.length c ∧ ts.length ≤ c ∧ IsPolys G A ts := by
  obtain ⟨A, c, hv, hc, hcase⟩ := h.cells hG
  refine ⟨A, c, by rw [hv, hn], by omega, ?_⟩
  rcases hcase with h0 | ⟨b, rfl, hb⟩
  · have : ts = [] := List.eq_nil_of_length_eq_zero (by omega)
    subst this; exact IsPolys.nil
  · exact ht.polys 0 hb
theorem take_snoc {α : Type} {l : List α} {i : Nat} {x : α} (h : l[i]? = some x) : l.take (i + 1) = l.take i ++ [x] := by
  rw [List.take_add_one, h]; rfl

/-! numbers -/
theorem wrap_id {x : Int} (h1 : -9223372036854775808 ≤ x) (h2 : x ≤ 9223372036854775807) : IntKind.wrap .i64 x = x := by
  unfold IntKind.wrap
  simp [IntKind.bits, IntKind.signed]
  split <;> omega
theorem wrap_succ {k : Nat} (h : k < 4611686018427387904) : IntKind.wrap .i64 ((k : Int) + 1) = ((k + 1 : Nat) : Int) := by
  rw [wrap_id] <;> omega

/-! loops: what is known of some slots -/
def EqS (ρ : Env) : List (Nat × Value) → Prop
  | [] => True
  | (d, v) :: r => ρ d = v ∧ EqS ρ r
theorem upds_eq {ρ : Env} : ∀ {us : List (Nat × Value)}, EqS ρ us → upds ρ us = ρ
  | [], _ => rfl
  | (d, v) :: r, ⟨h1, h2⟩ => by
    subst h1
    rw [upds, upd_self]; exact upds_eq h2
theorem W_env {P : Program} {r : Option Nat} {n : Nat} {c : Code} {Q : Exit → Env → List Deferred → World → Prop} {ρ : Env} {D : List Deferred} {w : World} {us : List (Nat × Value)} (h : EqS ρ us)
    (hk : W P r n c Q (upds ρ us) D w) : W P r n c Q ρ D w := by
  rw [upds_eq h] at hk; exact hk

theorem OS.shape {e sz : Nat} {v : Value} {n : Nat} {cs : List Value} {Lp : LH} (h : OS e sz v n cs Lp) (hn : 0 < n) : ∃ b c, v = .slice (some ⟨b, 0, none⟩) n c := by
  obtain ⟨_, ⟨_, h0, _⟩ | ⟨b, c, _, hv, _⟩⟩ := h
  · omega
  · exact ⟨b, c, hv⟩

/-- an element behind an index of a slice, where it is known that there is one -/
theorem get_of_lt {α : Type} {l : List α} {i : Nat} (h : i < l.length) : ∃ x, l[i]? = some x := ⟨l[i], List.getElem?_eq_getElem h⟩

end Go.Proofs.Ytjgnhhgigickaaa.Wk

namespace Go.Proofs.Ytjgnhhgigickaaa.Wk
open Go

/-- an int, a pointer to a block's cell -/
@[reducible] def iN (n : Int) : Value := .int .i64 n
@[reducible] def pN (b o : Nat) : Value := .pointer (some ⟨b, o, none⟩)
/-- an int that is a number, a type as a value, and as cells -/
@[reducible] def nN (n : Nat) : Value := .int .i64 (n : Int)
@[reducible] def aT (t : T) (A : Option Addr) (c : Nat) : Value := .agg #[.int .i64 t.kind, .int .i64 t.num, .slice A t.kids.length c]
@[reducible] def cT (t : T) (A : Option Addr) (c : Nat) : Obj := .cells #[.int .i64 t.kind, .int .i64 t.num, .slice A t.kids.length c] 24
/-- a term as cells and as a value; fresh cells; a source of chance; a slice of a block; an equation that the kernel reckons -/
@[reducible] def cE (e : E) (A : Option Addr) (c : Nat) (B : Option Addr) (d : Nat) : Obj := .cells #[.int .i64 e.kind, .int .i64 e.num, .slice A e.kids.length c, .int .i64 e.ty.kind, .int .i64 e.ty.num, .slice B e.ty.kids.length d] 52
@[reducible] def aE (e : E) (A : Option Addr) (c : Nat) (B : Option Addr) (d : Nat) : Value := .agg #[.int .i64 e.kind, .int .i64 e.num, .slice A e.kids.length c, .int .i64 e.ty.kind, .int .i64 e.ty.num, .slice B e.ty.kids.length d]
@[reducible] def oT : Obj := .cells #[.int .i64 0, .int .i64 0, .slice none 0 0] 24
@[reducible] def oE : Obj := .cells #[.int .i64 0, .int .i64 0, .slice none 0 0, .int .i64 0, .int .i64 0, .slice none 0 0] 52
@[reducible] def cS (A : Option Addr) (n c k : Nat) (s : Int) : Obj := .cells #[.slice A n c, .int .i64 (k : Int), .int .u64 s] 96
@[reducible] def sN (b o n c : Nat) : Value := .slice (some ⟨b, o, none⟩) n c
theorem e_ {α : Type _} {a b : α} (h : a = b := by kernel_rfl) : a = b := h
/-- moves and results that stand in a row -/
@[reducible] def pL (n : Nat) : List (Mv × Nat) := (List.range n).map fun i => (.p, i)
@[reducible] def uD : Nat → Nat → List (Nat × Value) → List (Nat × Value)
  | _, 0, l => l
  | d, n + 1, l => (d, undef) :: uD (d + 1) n l
theorem o_j {α : Type _} {a b : α} : (some a = some b) = (a = b) := Option.some.injEq a b
theorem p_j {α β : Type _} {a c : α} {b d : β} : ((a, b) = (c, d)) = (a = c ∧ b = d) := Prod.mk.injEq a b c d
@[reducible] def vT (t : T) (A : Option Addr) (c : Nat) : List Value := [.int .i64 t.kind, .int .i64 t.num, .slice A t.kids.length c]
def grp : List Nat → List Value → List (List Value)
  | [], _ => []
  | n :: ns, l => l.take n :: grp ns (l.drop n)
@[reducible] def enF : Nat → List Value → List (Nat × Value)
  | _, [] => []
  | n, v :: l => (n, v) :: enF (n + 1) l
section
variable {P : Program} {ops : Array Oper} {K : Env → World → Prop} {rest : List (Mv × Nat)} {S : World → Prop} {ρ : Env} {w : World} {i : Nat} {G : GH} {L : LH}
theorem rc_l (j off : Nat) {b : Nat} {cs : Array Value} {T : TypeId} {fz : Nat × Nat} {v : Value} {rd : List (Addr × Value)} (hL : L[j]? = some (b, .cells cs T fz)) (hv : cs[off]? = some v) (h : RC G L rd) : RC G L ((⟨b, off, none⟩, v) :: rd) := rc_L j hL hv h
theorem rc_g (off : Nat) {b : Nat} {cs : Array Value} {T : TypeId} {fz : Nat × Nat} {v : Value} {rd : List (Addr × Value)} (hG : G b = some (.cells cs T fz)) (hv : cs[off]? = some v) (h : RC G L rd) : RC G L ((⟨b, off, none⟩, v) :: rd) := rc_G hG hv h
theorem r_s (ns : List Nat) (mv : List (Mv × Nat)) {rd : List (Addr × Value)} (us : List (Nat × Value)) (hr : RC G L rd) (hk : RunD P ops K rest (SS G L) (upds ρ us) w)
    (h : segK P ops mv (grp ns (rd.map (·.2))) ρ = some (rd, us) := by kernel_rfl) : RunD P ops K (mv ++ rest) (SS G L) ρ w := r_seg mv _ rd us h hr hk
theorem r_x (ns : List Nat) {mv : List (Mv × Nat)} {rd : List (Addr × Value)} (us : List (Nat × Value)) (hr : RC G L rd) (hk : K (upds ρ us) w)
    (h : segK P ops mv (grp ns (rd.map (·.2))) ρ = some (rd, us) := by kernel_rfl) : RunD P ops K mv (SS G L) ρ w := r_end mv _ rd us h hr hk
theorem r_y (mv : List (Mv × Nat)) (us : List (Nat × Value)) (hk : RunD P ops K rest (SS G L) (upds ρ us) w)
    (h : segK P ops mv [] ρ = some ([], us) := by kernel_rfl) : RunD P ops K (mv ++ rest) (SS G L) ρ w := r_seg mv [] [] us h rc_nil hk
theorem r_z {mv : List (Mv × Nat)} (us : List (Nat × Value)) (hk : K (upds ρ us) w)
    (h : segK P ops mv [] ρ = some ([], us) := by kernel_rfl) : RunD P ops K mv (SS G L) ρ w := r_end mv [] [] us h rc_nil hk
theorem s_0 (l : List (Nat × Value)) {b : Nat} {cs : List Value} {T : TypeId} {lo hi : Nat} (cs' : List Value) (d : Option Nat) (hst : St G ((b, .cells cs.toArray T (lo, hi)) :: L) w)
    (hk : ∀ w', St G ((b, .cells cs'.toArray T (lo, hi)) :: L) w' → RunD P ops K rest (SS G ((b, .cells cs'.toArray T (lo, hi)) :: L)) (updo ρ d undef) w')
    (hv : opK ops i ρ (stA P) = some ((l.map fun p => (⟨b, p.1, none⟩, p.2), .skip), d) := by kernel_rfl)
    (hin : (l.all fun p => decide (p.1 < cs.length) && !(decide (lo ≤ p.1) && decide (p.1 < hi))) = true := by kernel_rfl) (hcs : wr cs l = cs' := by rfl) :
    RunD P ops K ((.f, i) :: rest) S ρ w := m_store (L := (b, .cells cs.toArray T (lo, hi)) :: L) 0 l cs' d hv hst rfl hin hcs rfl hk
theorem s_1 (l : List (Nat × Value)) {b : Nat} {cs : List Value} {T : TypeId} {lo hi : Nat} {x : Nat × Obj} (cs' : List Value) (d : Option Nat) (hst : St G (x :: (b, .cells cs.toArray T (lo, hi)) :: L) w)
    (hk : ∀ w', St G (x :: (b, .cells cs'.toArray T (lo, hi)) :: L) w' → RunD P ops K rest (SS G (x :: (b, .cells cs'.toArray T (lo, hi)) :: L)) (updo ρ d undef) w')
    (hv : opK ops i ρ (stA P) = some ((l.map fun p => (⟨b, p.1, none⟩, p.2), .skip), d) := by kernel_rfl)
    (hin : (l.all fun p => decide (p.1 < cs.length) && !(decide (lo ≤ p.1) && decide (p.1 < hi))) = true := by kernel_rfl) (hcs : wr cs l = cs' := by rfl) :
    RunD P ops K ((.f, i) :: rest) S ρ w := m_store (L := x :: (b, .cells cs.toArray T (lo, hi)) :: L) 1 l cs' d hv hst rfl hin hcs rfl hk
theorem s_2 (l : List (Nat × Value)) {b : Nat} {cs : List Value} {T : TypeId} {lo hi : Nat} {x y : Nat × Obj} (cs' : List Value) (d : Option Nat) (hst : St G (x :: y :: (b, .cells cs.toArray T (lo, hi)) :: L) w)
    (hk : ∀ w', St G (x :: y :: (b, .cells cs'.toArray T (lo, hi)) :: L) w' → RunD P ops K rest (SS G (x :: y :: (b, .cells cs'.toArray T (lo, hi)) :: L)) (updo ρ d undef) w')
    (hv : opK ops i ρ (stA P) = some ((l.map fun p => (⟨b, p.1, none⟩, p.2), .skip), d) := by kernel_rfl)
    (hin : (l.all fun p => decide (p.1 < cs.length) && !(decide (lo ≤ p.1) && decide (p.1 < hi))) = true := by kernel_rfl) (hcs : wr cs l = cs' := by rfl) :
    RunD P ops K ((.f, i) :: rest) S ρ w := m_store (L := x :: y :: (b, .cells cs.toArray T (lo, hi)) :: L) 2 l cs' d hv hst rfl hin hcs rfl hk
theorem m_nw (O : Obj) (d : Nat) (hst : St G L w) (hk : ∀ b w', St G ((b, O) :: L) w' → RunD P ops K rest (SS G ((b, O) :: L)) (updo ρ (some d) (.pointer (some ⟨b, 0, none⟩))) w')
    (h : ∀ b, opK ops i ρ (fun s => pvA P s b) = some ((O, .value (.pointer (some ⟨b, 0, none⟩))), some d) := by exact fun b => by kernel_rfl) : RunD P ops K ((.f, i) :: rest) S ρ w := m_new O (fun b => .pointer (some ⟨b, 0, none⟩)) (some d) h hst hk
theorem fr1 {a b : Nat × Obj} (h : St G (a :: b :: L) w) : St G (b :: a :: L) w := St.swap (A := [a]) (B := [b]) (C := L) h
theorem fr2 {a b c : Nat × Obj} (h : St G (a :: b :: c :: L) w) : St G (c :: a :: b :: L) w := St.swap (A := [a, b]) (B := [c]) (C := L) h
theorem fr3 {a b c d : Nat × Obj} (h : St G (a :: b :: c :: d :: L) w) : St G (d :: a :: b :: c :: L) w := St.swap (A := [a, b, c]) (B := [d]) (C := L) h
theorem r_sg (mv : List (Mv × Nat)) (rs : List (List Value)) (rd : List (Addr × Value)) (us : List (Nat × Value)) (hr : RC G L rd) (hk : RunD P ops K rest (SS G L) (upds ρ us) w)
    (h : segK P ops mv rs ρ = some (rd, us) := by kernel_rfl) : RunD P ops K (mv ++ rest) (SS G L) ρ w := r_seg mv rs rd us h hr hk
theorem r_en {mv : List (Mv × Nat)} (rs : List (List Value)) (rd : List (Addr × Value)) (us : List (Nat × Value)) (hr : RC G L rd) (hk : K (upds ρ us) w)
    (h : segK P ops mv rs ρ = some (rd, us) := by kernel_rfl) : RunD P ops K mv (SS G L) ρ w := r_end mv rs rd us h hr hk
theorem m_cl {KV : Value → World → Prop} {f : FuncId} (args : Array Value) (d : Option Nat) (hc : Cal P f args w KV)
    (hk : ∀ v w', KV v w' → ∃ S', S' w' ∧ RunD P ops K rest S' (updo ρ d v) w') (h : opK ops i ρ (pv P) = some (.enter f args, d) := by kernel_rfl) : RunD P ops K ((.f, i) :: rest) S ρ w := m_call args d h hc hk
theorem m_st (L' : LH) (j : Nat) (l : List (Nat × Value)) {b : Nat} {cs : List Value} {T : TypeId} {lo hi : Nat} (cs' : List Value) (d : Option Nat) (hst : St G L w)
    (hk : ∀ w', St G L' w' → RunD P ops K rest (SS G L') (updo ρ d undef) w') (hL : L[j]? = some (b, .cells cs.toArray T (lo, hi)) := by rfl)
    (hv : opK ops i ρ (stA P) = some ((l.map fun p => (⟨b, p.1, none⟩, p.2), .skip), d) := by kernel_rfl)
    (hin : (l.all fun p => decide (p.1 < cs.length) && !(decide (lo ≤ p.1) && decide (p.1 < hi))) = true := by kernel_rfl) (hcs : wr cs l = cs' := by rfl) (hL' : L.set j (b, .cells cs'.toArray T (lo, hi)) = L' := by rfl) :
    RunD P ops K ((.f, i) :: rest) S ρ w := m_store j l cs' d hv hst hL hin hcs hL' hk
end
section
variable {P : Program} {fn : Func} {R : Value → World → Prop} {ρ : Env} {w : World} {G : GH} {L : LH}
theorem q_rt (vs : List Value) (rd : List (Addr × Value)) (v : Value) (hr : RC G L rd) (hst : St G L w) (hR : R v w) (h : resK P fn ρ vs = some (rd, v) := by kernel_rfl) : endQ P fn R .ret ρ [] w := q_ret vs rd v h hr hst hR
end
section
variable {P : Program} {r : Option Nat} {n : Nat} {Q : Exit → Env → List Deferred → World → Prop} {ρ : Env} {D : List Deferred} {w : World} {G : GH} {L : LH}
theorem W_rg {id : Nat} {ops : Array Oper} (mv : List (Mv × Nat)) (hst : St G L w) (h : RunD P ops (fun ρ' w' => Q .normal ρ' D w') mv (SS G L) ρ w) (hd : dstOk ops n = true := by kernel_rfl) (hmv : mv.map (·.2) = List.range ops.size := by kernel_rfl) :
    W P r n (.region id ops false) Q ρ D w := W_reg mv _ hd hmv hst.ss h
theorem W_sr {id : Nat} {ops : Array Oper} {y : Code} (mv : List (Mv × Nat)) (hst : St G L w) (h : RunD P ops (fun ρ' w' => thn P r n y Q .normal ρ' D w') mv (SS G L) ρ w) (hd : dstOk ops n = true := by kernel_rfl) (hmv : mv.map (·.2) = List.range ops.size := by kernel_rfl) :
    W P r n (.seq (.region id ops false) y) Q ρ D w := W_seq (W_reg mv _ hd hmv hst.ss h)
theorem W_rgd {n : Nat} {id : Nat} {ops : Array Oper} (mv : List (Mv × Nat)) (hst : St G L w) (h : ∀ w', St G L w' → RunD Try.prog ops (fun ρ' w' => Q .normal ρ' D w') mv (SS G L) ρ w') (hd : dstOk ops n = true := by kernel_rfl) (hsel : Region.noSelect ops = true := by kernel_rfl)
    (hlen : mv.length = ops.size := by kernel_rfl) (hok : okMoves .any ops mv (Array.replicate ops.size false) = true := by kernel_rfl) : W Try.prog r n (.region id ops true) Q ρ D w :=
  W_regd mv _ mixed hd hsel hlen hok fun w' hw => have hst := hst.heap hw; ⟨hst.ss, h w' hst⟩
theorem W_cT {c : Operand} {x y : Code} (h1 : W P r n x Q ρ D w) (hc : ev ρ c = .bool true := by kernel_rfl) : W P r n (.cond c x y) Q ρ D w := W_condT hc h1
theorem W_cF {c : Operand} {x y : Code} (h1 : W P r n y Q ρ D w) (hc : ev ρ c = .bool false := by kernel_rfl) : W P r n (.cond c x y) Q ρ D w := W_condF hc h1
theorem W_cd {c : Operand} {x y : Code} {b : Bool} (h1 : b = true → W P r n x Q ρ D w) (h2 : b = false → W P r n y Q ρ D w) (hc : ev ρ c = .bool b := by kernel_rfl) : W P r n (.cond c x y) Q ρ D w := W_cond hc h1 h2
end
open Md
section
variable {P : Program} {ops : Array Oper} {K : Env → World → Prop} {rest : List (Mv × Nat)} {S : World → Prop} {ρ : Env} {w : World} {i : Nat}
variable {G : GH} {L : LH}

/-- the cells of a slice of G's -/
def SlC (G : GH) (A : Option Addr) (n : Nat) (cs : List Value) : Prop := cs.length = n ∧ (n = 0 ∨ ∃ b off, A = some ⟨b, off, none⟩ ∧ ∀ i u, cs[i]? = some u → GC G ⟨b, off + i, none⟩ u)

theorem IsTyps.slc : ∀ {ts : List T} {A : Option Addr}, IsTyps G A ts → ∃ cs, TyL G cs ts ∧ SlC G A ts.length cs
  | [], A, _ => ⟨[], trivial, rfl, .inl rfl⟩
  | t :: ts, A, h => by
    unfold IsTyps at h
    obtain ⟨b, off, v, rfl, h2, h3, h4⟩ := h
    obtain ⟨cs, h5, h6, h7⟩ := IsTyps.slc h4
    refine ⟨v :: cs, ⟨h3, h5⟩, by simp [h6], .inr ⟨b, off, rfl, fun i u hi => ?_⟩⟩
    cases i with
    | zero => simp at hi; subst hi; exact h2
    | succ i =>
      simp only [List.getElem?_cons_succ] at hi
      rcases h7 with h7 | ⟨b', off', h8, h9⟩
      · have : cs = [] := List.eq_nil_of_length_eq_zero (by omega)
        subst this; simp at hi
      · simp only [Option.some.injEq, Addr.mk.injEq] at h8
        obtain ⟨rfl, rfl, _⟩ := h8
        rw [show off + (i + 1) = off + 1 + i by omega]; exact h9 i u hi

/-- append to a slice with no room, of G's -/
theorem m_append_G {ob ox : Operand} {t e sz bytes : Nat} {d : Option Nat} (hel : Elem P t e sz bytes) {A : Option Addr} {n c : Nat} {cs : List Value} (news : List Value) {sb so m mc : Nat}
    (h : opAt ops i ρ = some (.call { callee := .builtin .append, args := #[ob, ox], argTypes := #[t, t] }, d)) (hb : ev ρ ob = .slice A n c) (hx : ev ρ ox = .slice (some ⟨sb, so, none⟩) m mc)
    (hsl : SlC G A (n * sz) cs) (hst : St G L w) (hlen : news.length = m * sz) (hsrc : ∀ j u, news[j]? = some u → w.cell? ⟨sb, so + j, none⟩ = some u) (hone : (news.all (·.oneCell')) = true)
    (hroom : c < n + m) (hbd : (n + m) * bytes ≤ 140737488355328) (hnm : n + m ≤ 4611686018427387904)
    (hk : ∀ v' Lp' w', OS e sz v' (n + m) (cs ++ news) Lp' → St G (Lp' ++ L) w' → RunD P ops K rest (SS G (Lp' ++ L)) (updo ρ d v') w') : RunD P ops K ((.f, i) :: rest) S ρ w := by
  refine m_fF h fun o ho => ?_
  obtain ⟨inf, z, hi, hz, hs, hzc, hby⟩ := hel.inf
  have hadd : ∀ (x y j : Nat), (⟨x, y, none⟩ : Addr).add j = ⟨x, y + j, none⟩ := fun x y j => by
    unfold Addr.add; split
    · rename_i h0; subst h0; rfl
    · rfl
  have hsrc' : Src P inf.size t (.slice (some ⟨sb, so, none⟩) m mc) m news w := Src.ofSlice w hel.sl ⟨sb, so, none⟩ m mc news (by rw [hs]; exact hlen) (fun j u hu => by rw [hadd]; exact hsrc j u hu) (fun u hu => List.all_eq_true.1 hone u hu)
  obtain ⟨hcl, hcase⟩ := hsl
  have hold : (Builtin.firstCells inf.size n (.slice A n c)).run P w.drew = .ok cs.toArray w.drew := by
    rcases hcase with h0 | ⟨b, off, rfl, hcs⟩
    · have hcs : cs = [] := List.eq_nil_of_length_eq_zero (by omega)
      subst hcs
      cases A with
      | none => rw [run_firstCells_none]
      | some a => exact run_firstCells_some (P := P) w.drew inf.size n a n c [] (by rw [hs]; simp; omega) (fun j u hu => by simp at hu)
    · exact run_firstCells_some (P := P) w.drew inf.size n ⟨b, off, none⟩ n c cs (by rw [hs]; exact hcl) (fun j u hu => by
        rw [hadd]; exact (hcs j u hu).cell (w := w.drew) hst.imm)
  have hrun := run_append_grow_src w t t o.type e inf z hel.sl hi hz A n c cs hold _ m news hsrc' hroom (by omega) (by rw [hby]; exact growslice_fits hroom hbd)
  have hcap : n + m ≤ grownCap w (n + m) c e := by unfold grownCap; simp [Question.cut]
  generalize hgc : grownCap w (n + m) c e = gc at *
  have hzl : (Builtin.zeroCells z.cells (gc - (n + m))).size = (gc - (n + m)) * sz := by simp [Builtin.zeroCells, hzc]
  have hd : St G L w.drew := hst.heap ⟨rfl, rfl, rfl⟩
  have hobj : (cs ++ news).toArray ++ Builtin.zeroCells z.cells (gc - (n + m)) = ((cs ++ news) ++ (Builtin.zeroCells z.cells (gc - (n + m))).toList).toArray := by
    apply Array.ext'; simp
  have hst' := hd.push (.cells ((cs ++ news) ++ (Builtin.zeroCells z.cells (gc - (n + m))).toList).toArray e (0, 0))
  have hos : OS e sz (.slice (some ⟨w.heap.size, 0, none⟩) (n + m) gc) (n + m) (cs ++ news) [(w.heap.size, .cells ((cs ++ news) ++ (Builtin.zeroCells z.cells (gc - (n + m))).toList).toArray e (0, 0))] := by
    refine ⟨?_, .inr ⟨w.heap.size, gc, _, rfl, rfl, hcap, ?_, ?_⟩⟩
    · rw [List.length_append, hcl, hlen, Nat.add_mul]
    · rw [List.length_append, List.length_append, hcl, hlen, Array.length_toList, hzl, ← Nat.add_mul, ← Nat.add_mul]
      congr 1; omega
    · rw [List.take_append_of_le_length (by rw [List.length_append, hcl, hlen, Nat.add_mul]; exact Nat.le_refl _)]
      rw [List.take_of_length_le]; rw [List.length_append, hcl, hlen, Nat.add_mul]; exact Nat.le_refl _
  rw [hobj] at hrun
  exact OpE_ok (run_call_app ho rfl (by rw [hb, hx]; exact hrun)) ⟨_, hst'.ss, hk _ _ _ hos hst'⟩

/-- 'x[:n:n]' of a slice of length n -/
theorem m_slice3 {t e n c : Nat} {A : Option Addr} {x hi mx : Operand} (d : Option Nat) (h : opAt ops i ρ = some (.slice t x none (some hi) (some mx), d)) (hx : ev ρ x = .slice A n c) (hh : ev ρ hi = .int .i64 (n : Int)) (hm : ev ρ mx = .int .i64 (n : Int))
    (ht : P.underlying t = some (.slice e)) (hsz : (P.info? e).isSome = true) (hn : n ≤ c)
    (hk : RunD P ops K rest S (updo ρ d (.slice A n n)) w) : RunD P ops K ((.p, i) :: rest) S ρ w := by
  refine m_pF _ h (fun o ho w' => ?_) hk
  obtain ⟨inf, hie⟩ := Option.isSome_iff_exists.1 hsz
  have hund := run_und ht w'
  have hmap : A.map (fun a : Addr => a.add (0 * inf.size)) = A := by
    cases A with
    | none => rfl
    | some a => simp [Addr.add]
  have hb1 : (Instr.sliceBound (.int .i64 (n : Int)) c .slice3Acap).run P w' = .ok n w' := by
    simp [Instr.sliceBound, asIntOf, hn]
  have hb2 : (Instr.sliceBound (.int .i64 (n : Int)) n .slice3B).run P w' = .ok n w' := by
    simp [Instr.sliceBound, asIntOf]
  have hbs : (Instr.sliceBounds true n c none (some (.int .i64 (n : Int))) (some (.int .i64 (n : Int)))).run P w' = .ok (0, n, n) w' := by
    simp [Instr.sliceBounds, hb1, hb2, Result.andThen]
  simp only [execOp, ho, hx, Option.map_none, Option.map_some, hh, hm, Instr.sliceAt, Instr.slice]
  simp [hund, hbs, sizeOf, typeInfo, program, Sem.run, hie, Result.andThen, Nat.zero_mul] at hmap ⊢
  rw [hmap]
  simp
end
set_option maxRecDepth 20000
attribute [local irreducible] endQ
theorem c100 {G : GH} {σ R : LH} {w : World} {sb : Nat} {mb : MB} {s s' : Sol} {kind dp : Int} {t : T} (hS : IsSol G sb mb s σ) (H : St G (σ ++ R) w) (h : newer s kind dp = some (t, s')) :
  Cal Try.prog 100 #[.pointer (some ⟨sb, 0, none⟩), .int .i64 kind, .int .i64 dp] w fun v w' => ∃ G' σ', Le G G' ∧ IsSol G' sb mb s' σ' ∧ IsTyp G' v t ∧ St G' (σ' ++ R) w' := by
 unfold newer at h
 split at h
 case isFalse => cases h
 case isTrue hlim =>
 simp only [o_j, p_j] at h;obtain ⟨rfl, rfl⟩ := h
 have hlim' : s.deep.length < 1099511627776 := hlim.1
 obtain ⟨mp, es, clock, kv, dv, Lp, wA, wc, tv, τ, rfl, hMR, hKV, hos, hwc, hway, hmode⟩ := hS;simp only [List.cons_append, List.append_assoc] at H;refine cal_of_W Try.func100 rfl (Nat.le_of_ble_eq_true e_) ?_;refine W_sr [(.p, 0)] H ?_;refine r_z [(6, .pointer none)] ?_;refine W_sr [(.p, 0), (.p, 1), (.p, 2), (.p, 3), (.l, 4), (.p, 5), (.f, 6), (.f, 7), (.p, 8), (.p, 9), (.f, 10)] H ?_;refine r_s [1] [(.p, 0), (.p, 1), (.p, 2), (.p, 3), (.l, 4), (.p, 5)] [(7, pN sb 0), (8, pN sb 0), (9, pN sb 0), (10, pN sb 1), (11, dv), (12, iN dp)] (rc_l 0 1 rfl rfl rc_nil) ?_;refine m_new (.cells #[iN dp] 3) (fun b1 => sN b1 0 1 1) (some 13) (fun b => by kernel_rfl) H (fun b1 w1 H => ?_);refine m_append (v := dv) (sb := b1) (so := 0) (m := 1) (mc := 1) el101 [(b1, .cells #[iN dp] 3), (sb, .cells #[.map (some mp), dv, .slice wA s.way.length wc, tv] 104), (mp, .map es clock)] [iN dp] (d := (some 14)) (show opAt _ _ _ = some (.call { callee := .builtin .append, args := #[(.tmp 11), (.tmp 13)], argTypes := #[101, 101] }, _) by kernel_rfl) e_ e_ hos H (by first | rfl | (simp; done)) (src_L 0 H rfl) e_ (by decide) (by omega) (by omega) (fun dv2 Lp2 w1 hos2 H => ?_);obtain ⟨nb, nc, rfl⟩ := hos2.shape (by omega);refine r_y [(.p, 8), (.p, 9)] [(15, pN sb 0), (16, pN sb 1)] ?_;refine s_1 [(1, sN nb 0 ((s.deep.length + 1)) nc)] [.map (some mp), sN nb 0 ((s.deep.length + 1)) nc, .slice wA s.way.length wc, tv] none H (fun w1 H => ?_);refine r_nil ?_;refine W_sr [(.p, 0), (.p, 1), (.p, 2), (.p, 3), (.l, 4), (.p, 5), (.p, 6), (.p, 7), (.f, 8), (.p, 9)] H ?_;refine r_s [1] [(.p, 0), (.p, 1), (.p, 2), (.p, 3), (.l, 4), (.p, 5), (.p, 6), (.p, 7)] [(17, iN kind), (18, pN sb 0), (19, pN sb 0), (20, pN sb 1), (21, sN nb 0 ((s.deep.length + 1)) nc), (22, nN (s.deep.length + 1)), (23, iN (IntKind.wrap .i64 (((((s.deep.length + 1) : Nat) : Int)) - 1))), (24, .agg #[iN kind, iN (IntKind.wrap .i64 (((((s.deep.length + 1) : Nat) : Int)) - 1)), .slice none 0 0])] (rc_l 1 1 rfl rfl rc_nil) ?_;refine m_nw (.cells #[iN kind, iN (IntKind.wrap .i64 (((((s.deep.length + 1) : Nat) : Int)) - 1)), .slice none 0 0] 148) 25 H (fun b2 w1 H => ?_);refine r_z [(6, pN b2 0)] ?_;refine W_ret ?_;refine q_rt [] [] (pN b2 0) rc_nil H ?_
 have hnum : IntKind.wrap .i64 (((s.deep.length + 1 : Nat) : Int) - 1) = (s.deep.length : Int) := by rw [wrap_id] <;> omega
 rw [hnum] at H;obtain ⟨G1, hG1, hF1, H⟩ := H.freeze [_];refine ⟨G1, _, hG1, ⟨mp, es, clock, kv, sN nb 0 (s.deep.length + 1) nc, Lp2, wA, wc, tv, τ, rfl, hMR, hKV.mono hG1, ?_, hwc, hway.mono hG1, hmode.mono hG1⟩, IsTyp.mk (t := .mk kind s.deep.length []) (hF1 _ (List.mem_singleton.2 rfl)) ⟨Nat.zero_le _, Nat.le_of_ble_eq_true rfl⟩ IsTyps.nil, ?_⟩
 ·simpa using hos2
 simpa [List.append_assoc] using H.drop [_]

theorem c64 {G : GH} {σ R : LH} {w : World} {sb : Nat} {mb : MB} {s s' : Sol} {dp : Int} {t : T} (hS : IsSol G sb mb s σ) (H : St G (σ ++ R) w) (h : newer s 6 dp = some (t, s')) :
  Cal Try.prog 64 #[.pointer (some ⟨sb, 0, none⟩), .int .i64 dp] w fun v w' => ∃ G' σ' v0, v = .tuple #[v0, .bool true] ∧ Le G G' ∧ IsSol G' sb mb s' σ' ∧ IsTyp G' v0 t ∧ St G' (σ' ++ R) w' := by
 refine cal_of_W Try.func64 rfl (Nat.le_of_ble_eq_true e_) ?_;refine W_sr (pL 2) H ?_;refine r_z [(4, .pointer none), (5, .bool false)] ?_;refine W_sr [(.p, 0), (.p, 1), (.f, 2), (.p, 3), (.p, 4)] H ?_;refine r_y [(.p, 0), (.p, 1)] [(6, pN sb 0), (7, iN dp)] ?_;refine m_cl #[pN sb 0, iN 6, iN dp] (some 8) (c100 hS H h) ?_;rintro v1 w1 ⟨G1, σ1, hG1, hS, ht, H⟩;refine nx H ?_;refine r_z [(4, v1), (5, .bool true)] ?_;refine W_ret ?_;refine q_rt [] [] (.tuple #[v1, .bool true]) rc_nil H ?_
 exact ⟨G1, σ1, _, rfl, hG1, hS, ht, H⟩

theorem T.lens_le : ∀ (ks : List T), ks.length ≤ T.szs ks
 | [] => Nat.le_refl _
 | k :: ks => by have := T.lens_le ks; simp [T.szs]; omega
theorem T.len_le (t : T) : t.kids.length ≤ T.sz t := by
 obtain ⟨k, n, ks⟩ := t
 have := T.lens_le ks
 simp only [T.sz, T.kids] at this ⊢; omega

theorem c66 : ∀ (N : Nat) (p : T), T.sz p < N → N ≤ lim → ∀ {G : GH} {L : LH} {w : World} {v : Value}, IsPoly G v p → St G L w →
  Cal Try.prog 66 #[v] w fun u w' => ∃ G', Le G G' ∧ IsTyp G' u p ∧ St G' L w' := by
 intro N
 induction N with
 | zero => intro p h; omega
 | succ N ih =>
 intro p hsz hN G L w v hv H
 have hlim : lim = 1099511627776 := rfl
 obtain ⟨A, c, rfl, hc, hks⟩ := hv.open
 have hlen : p.kids.length ≤ T.sz p := T.len_le p
 refine cal_of_W Try.func66 rfl (Nat.le_of_ble_eq_true e_) ?_;refine W_sr [(.f, 0), (.p, 1)] H ?_;refine m_nw (cT p A c) 1 H (fun b1 w1 H => ?_);refine r_z [(2, .pointer none)] ?_;refine W_sr [(.p, 0), (.l, 1), (.p, 2), (.l, 3), (.p, 4), (.f, 5), (.p, 6)] H ?_;refine r_s [1, 1] [(.p, 0), (.l, 1), (.p, 2), (.l, 3), (.p, 4)] [(6, pN b1 0), (7, iN p.kind), (8, pN b1 1), (9, iN p.num), (10, .agg #[iN p.kind, iN p.num, .slice none 0 0])] (rc_l 0 0 rfl rfl (rc_l 0 1 rfl rfl rc_nil)) ?_;refine m_nw (.cells #[iN p.kind, iN p.num, .slice none 0 0] 148) 11 H (fun b2 w1 H => ?_);refine r_z [(3, pN b2 0)] ?_;refine W_seq ?_;refine W_sr [(.p, 0), (.l, 1), (.p, 2), (.p, 3)] H ?_;refine r_x [1] [(12, pN b1 2), (13, .slice A p.kids.length c), (14, nN p.kids.length), (15, iN 0)] (rc_l 1 2 rfl rfl rc_nil) ?_;refine W_block ?_;refine W_loop (fun m ρ D w => ∃ (k : Nat) (G1 : GH) (kv : Value) (cs : List Value) (Lp : LH), EqS ρ [(1, pN b1 0), (3, pN b2 0), (13, .slice A p.kids.length c), (14, iN (((p.kids.length : Nat) : Int))), (15, iN (((k : Nat) : Int)))] ∧ D = [] ∧ St G1 ((b2, .cells #[iN p.kind, iN p.num, kv] 148) :: (b1, cT p A c) :: Lp ++ L) w ∧ (Le G G1) ∧ (OS 106 1 kv k cs Lp) ∧ (TyL G1 cs (p.kids.take k)) ∧ (k ≤ p.kids.length) ∧ p.kids.length - k = m) (p.kids.length - 0) ⟨0, G, .slice none 0 0, [], [], ⟨e_, e_, e_, e_, e_, trivial⟩, rfl, H, Le.refl _, OS.nil 106 1, (by simp [TyL]), Nat.zero_le _, rfl⟩ ?_
 clear H; rintro m3 ρ D w1 ⟨k, G1, kv, cs, Lp, hE4, rfl, H, hle, hos, hty, hk, hm5⟩
 refine W_env hE4 ?_;refine W_sr [(.p, 0)] H ?_;refine r_z [(16, .bool (decide ((((k : Nat) : Int)) < (((p.kids.length : Nat) : Int)))))] ?_;refine W_seq ?_;refine W_cd (b := decide ((((k : Nat) : Int)) < (((p.kids.length : Nat) : Int)))) (fun hc6 => ?_) (fun hc6 => ?_)
 ·skip
  have hlt : k < p.kids.length := by have := of_decide_eq_true hc6; omega
  obtain ⟨q, hq⟩ := get_of_lt hlt;obtain ⟨eb, eo, qA, qc, rfl, hc0, hc1, hc2, hqp⟩ := (hks.mono hle).elem hq;refine W_skip ?_;refine W_seq ?_;refine W_block ?_;refine W_sr [(.p, 0), (.l, 1), (.f, 2), (.f, 3)] H ?_;refine m_idx (sz := 3) (b := eb) (off := eo) (n := p.kids.length) (c := c) (k := k) (some 17) (show opAt _ _ _ = some (.indexAddr 22 (.tmp 13) (.tmp 15), _) by kernel_rfl) e_ e_ Try.underlying22 sz24 hlt ?_;refine r_s [3] [(.l, 1)] [(18, (aT q qA qc))] (rc_C hc0 (rc_C hc1 (rc_C hc2 rc_nil))) ?_;refine m_nw oT 5 H (fun b7 w1 H => ?_);refine s_0 [(0, iN q.kind), (1, iN q.num), (2, .slice qA q.kids.length qc)] [iN q.kind, iN q.num, .slice qA q.kids.length qc] none H (fun w1 H => ?_);refine r_nil ?_;refine W_rgd [(.p, 0), (.p, 1), (.p, 2), (.p, 3), (.l, 4), (.l, 5), (.e, 6), (.e, 7), (.f, 8), (.p, 9), (.p, 10), (.f, 11)] H (fun w1 H => ?_);refine r_s [1, 3] [(.p, 0), (.p, 1), (.p, 2), (.p, 3), (.l, 4), (.l, 5)] [(19, pN b2 0), (20, pN b2 0), (21, pN b2 0), (22, pN b2 2), (23, kv), (24, (aT q qA qc))] (rc_l 1 2 rfl rfl (rc_l 0 0 rfl rfl (rc_l 0 1 rfl rfl (rc_l 0 2 rfl rfl rc_nil)))) ?_
  have hqs := T.sz_kid hq
  refine m_callE #[(aT q qA qc)] (some 25) e_ (ih q (by omega) (by omega) hqp H) ?_;rintro u w1 ⟨G2, hG2, hu, H⟩;obtain ⟨ub, uA, uc, rfl, hub, huc, huk⟩ := hu.open;refine ⟨H.ss' ((Le.refl _).trans hG2) (fun _ hp => hp), ?_⟩;refine m_newE (.cells #[pN ub 0] 106) (fun b8 => sN b8 0 1 1) (some 26) (fun b => by kernel_rfl) H (fun _ _ h => h.ss' ((Le.refl _).trans hG2) (fun _ hp => (List.mem_cons_of_mem _ hp))) (fun b8 w1 H => ?_);refine m_append (v := kv) (sb := b8) (so := 0) (m := 1) (mc := 1) el102 [(b8, .cells #[pN ub 0] 106), (b7, cT q qA qc), (b2, .cells #[iN p.kind, iN p.num, kv] 148), (b1, .cells #[iN p.kind, iN p.num, sN eb eo p.kids.length c] 24)] [pN ub 0] (d := (some 27)) (show opAt _ _ _ = some (.call { callee := .builtin .append, args := #[(.tmp 23), (.tmp 26)], argTypes := #[102, 102] }, _) by kernel_rfl) e_ e_ hos H (by first | rfl | (simp; done)) (src_L 0 H rfl) e_ (by decide) (by omega) (by omega) (fun kv2 Lp2 w1 hos2 H => ?_);obtain ⟨nb, nc, rfl⟩ := hos2.shape (by omega);refine r_y [(.p, 9), (.p, 10)] [(28, pN b2 0), (29, pN b2 2)] ?_;refine s_2 [(2, sN nb 0 ((k + 1)) nc)] [iN p.kind, iN p.num, sN nb 0 ((k + 1)) nc] none H (fun w1 H => ?_);refine r_nil ?_;refine W_rg (pL 2) H ?_;refine r_z [(30, iN (IntKind.wrap .i64 ((((k : Nat) : Int)) + 1))), (15, iN (IntKind.wrap .i64 ((((k : Nat) : Int)) + 1)))] ?_
  exact ⟨_, (by omega), k + 1, G2, sN nb 0 (k + 1) nc, cs ++ [pN ub 0], Lp2, ⟨e_, e_, e_, e_, (by rw [← wrap_succ (k := k) (by omega)]; kernel_rfl), trivial⟩, rfl, (H.drop [_, _]), (hle.trans hG2), hos2, (by rw [take_snoc hq]; exact (hty.mono hG2).snoc hu), hlt, rfl⟩
 have hge : k = p.kids.length := by have := of_decide_eq_false hc6; omega
 refine W_exit ?_;refine W_sr (pL 2) H ?_;refine r_z [(31, pN b2 0), (2, pN b2 0)] ?_;refine W_ret ?_;refine q_rt [] [] (pN b2 0) rc_nil H ?_;have H := St.swap (A := [_, _]) (B := Lp) H;obtain ⟨G2, hG2, hF2, H⟩ := H.freeze Lp
 have hty2 : TyL G1 cs p.kids := by have := hty; rw [List.take_of_length_le (by omega)] at this; exact this
 obtain ⟨rA, rc, rfl, hrc, hrk⟩ := hos.typs (hty2.mono hG2) (by omega) hF2;obtain ⟨G3, hG3, hF3, H⟩ := St.freeze [_] H
 exact ⟨G3, (hle.trans hG2).trans hG3, IsTyp.mk (hF3 _ (List.mem_singleton.2 rfl)) ⟨hrc, by omega⟩ (hrk.mono hG3), H.drop [_]⟩

theorem c101 {f : Nat} {G : GH} {σ R : LH} {w : World} {sb : Nat} {mb : MB} {s : Sol} {v : Value} {t u : T} (hS : IsSol G sb mb s σ) (H : St G (σ ++ R) w) (ht : IsTyp G v t) (h : now f s.solved t = some u) :
  Cal Try.prog 101 #[.pointer (some ⟨sb, 0, none⟩), v] w fun r w' => IsTyp G r u ∧ St G (σ ++ R) w' := by
 obtain ⟨mp, es, clock, kv, dv, Lp, wA, wc, tv, τ, rfl, hMR, hKV, hos, hwc, hway, hmode⟩ := hS;simp only [List.cons_append, List.append_assoc] at H ⊢;obtain ⟨tb, _, _, rfl, _⟩ := id ht.open;refine cal_of_W Try.func101 rfl (Nat.le_of_ble_eq_true e_) ?_;refine W_sr [(.p, 0)] H ?_;refine r_z [(4, .pointer none)] ?_;refine W_seq ?_;refine W_block ?_;refine W_loop (fun m ρ D w => ∃ (t : T) (f : Nat) (tb : Nat), EqS ρ [(0, pN sb 0), (1, pN tb 0)] ∧ D = [] ∧ St G ((sb, .cells #[.map (some mp), dv, .slice wA s.way.length wc, tv] 104) :: (mp, .map es clock) :: Lp ++ (τ ++ R)) w ∧ (IsTyp G (pN tb 0) t) ∧ (now f s.solved t = some u) ∧ f = m) (f) ⟨t, f, tb, ⟨e_, e_, trivial⟩, rfl, H, ht, h, rfl⟩ ?_
 clear H; rintro m1 ρ D w1 ⟨t, f, tb, hE2, rfl, H, ht, h, hm3⟩
 refine W_env hE2 ?_
 obtain ⟨_, tA4, tc5, e9, htb6, htc7, htk8⟩ := ht.open; cases e9
 refine W_seq ?_;refine W_sr [(.p, 0), (.p, 1), (.p, 2), (.l, 3), (.p, 4)] H ?_;refine r_x [1] [(7, pN tb 0), (8, pN tb 0), (9, pN tb 0), (10, iN t.kind), (11, .bool (t.kind == 6))] (rc_g 0 htb6 rfl rc_nil) ?_;refine W_cd (b := t.kind == 6) (fun hc10 => ?_) (fun hc10 => ?_)
 ·skip
  obtain _ | f := f
  ·cases h
  unfold now at h
  rw [if_pos (by simpa using hc10)] at h;refine W_skip ?_;refine W_block ?_;refine W_seq ?_;refine W_rgd [(.p, 0), (.p, 1), (.p, 2), (.l, 3), (.p, 4), (.p, 5), (.p, 6), (.l, 7), (.l, 8), (.p, 9), (.p, 10), (.p, 11), (.p, 12), (.p, 13)] H (fun w1 H => ?_);refine r_s [1, 1] [(.p, 0), (.p, 1), (.p, 2), (.l, 3), (.p, 4), (.p, 5), (.p, 6), (.l, 7)] [(13, pN sb 0), (14, pN sb 0), (15, pN sb 0), (16, .map (some mp)), (17, pN tb 0), (18, pN tb 0), (19, pN tb 1), (20, iN t.num)] (rc_l 0 0 rfl rfl (rc_g 1 htb6 rfl rc_nil)) ?_
  rcases hKV.look t.num with ⟨hl1, hl2⟩ | ⟨lv, lt, hl1, hl2, hlt⟩
  ·rw [hl2] at h
   have hu : t = u := by simpa using h
   refine m_look (z := .pointer none) (k := t.num) (r := mp) (d := (some 21)) 1 (show opAt _ _ _ = some (.lookup 100 (.tmp 16) (.tmp 20) true, _) by kernel_rfl) e_ e_ Try.underlying100 Try.underlying3 e_ rfl hMR (res := none) hl1 ?_;refine r_z [(12, .tuple #[.pointer none, .bool false]), (22, .pointer none), (23, .bool false), (5, .pointer none), (6, .bool false)] ?_;refine W_seq ?_;refine W_sr (pL 2) H ?_;refine r_z [(24, .bool false), (25, .bool true)] ?_;refine W_cT ?_;refine W_exit ?_;refine W_sr (pL 2) H ?_;refine r_z [(27, pN tb 0), (4, pN tb 0)] ?_;refine W_ret ?_;refine q_rt [] [] (pN tb 0) rc_nil H ?_
   exact ⟨by rw [← hu]; exact ht, H⟩
  rw [hl2] at h;obtain ⟨ub, _, _, rfl, _⟩ := id hlt.open;refine m_look (z := .pointer none) (k := t.num) (r := mp) (d := (some 21)) 1 (show opAt _ _ _ = some (.lookup 100 (.tmp 16) (.tmp 20) true, _) by kernel_rfl) e_ e_ Try.underlying100 Try.underlying3 e_ rfl hMR (res := some (pN ub 0)) hl1 ?_;refine r_z [(12, .tuple #[pN ub 0, .bool true]), (22, pN ub 0), (23, .bool true), (5, pN ub 0), (6, .bool true)] ?_;refine W_seq ?_;refine W_sr (pL 2) H ?_;refine r_z [(24, .bool true), (25, .bool false)] ?_;refine W_cF ?_;refine W_skip ?_;refine W_rg (pL 2) H ?_;refine r_z [(26, pN ub 0), (1, pN ub 0)] ?_
  exact ⟨_, (by omega), lt, f, ub, ⟨e_, e_, trivial⟩, rfl, H, hlt, h, rfl⟩
 obtain _ | f := f
 ·cases h
 unfold now at h
 rw [if_neg (by simpa using hc10)] at h
 have hu : t = u := by simpa using h
 refine W_exit ?_;refine W_sr (pL 2) H ?_;refine r_z [(27, pN tb 0), (4, pN tb 0)] ?_;refine W_ret ?_;refine q_rt [] [] (pN tb 0) rc_nil H ?_
 exact ⟨by rw [← hu]; exact ht, H⟩

/-- function(a, b) -/
theorem c127 {G : GH} {L : LH} {w : World} {lb ab bb : Nat} {a b : T} (H : St G ((lb, .cells #[.pointer (some ⟨ab, 0, none⟩), .pointer (some ⟨bb, 0, none⟩)] 106) :: L) w) (ha : IsTyp G (.pointer (some ⟨ab, 0, none⟩)) a) (hb : IsTyp G (.pointer (some ⟨bb, 0, none⟩)) b) :
  Cal Try.prog 127 #[.slice (some ⟨lb, 0, none⟩) 2 2] w fun r w' => ∃ G', Le G G' ∧ IsTyp G' r (.mk 3 0 [a, b]) ∧ St G' ((lb, .cells #[.pointer (some ⟨ab, 0, none⟩), .pointer (some ⟨bb, 0, none⟩)] 106) :: L) w' := by
 refine cal_of_W Try.func127 rfl (Nat.le_of_ble_eq_true e_) ?_;refine W_sr [(.p, 0)] H ?_;refine r_z [(2, .pointer none)] ?_;refine W_sr [(.p, 0), (.p, 1), (.p, 2), (.p, 3), (.p, 4), (.l, 5), (.p, 6)] H ?_;refine r_x [1] [(5, sN lb 0 2 2), (6, sN lb 0 2 2), (7, iN 2), (8, iN 1), (9, pN lb 1), (10, pN bb 0), (3, pN bb 0)] (rc_l 0 1 rfl rfl rc_nil) ?_;refine W_seq ?_;refine W_sr (pL 4) H ?_;refine r_z [(11, sN lb 0 2 2), (12, iN 2), (13, iN 0), (4, iN 0)] ?_;refine W_block ?_;refine W_loop (fun m ρ D w => D = [] ∧ ((m = 1 ∧ EqS ρ [(0, sN lb 0 2 2), (3, pN bb 0), (4, iN 0)] ∧ St G ((lb, .cells #[pN ab 0, pN bb 0] 106) :: L) w) ∨ ((m = 0 ∧ ∃ (b2 : Nat) (b1 : Nat), EqS ρ [(0, sN lb 0 2 2), (3, pN b2 0), (4, iN ((-1)))] ∧ St G ((b2, .cells #[iN 3, iN 0, sN b1 0 2 2] 148) :: (b1, .cells #[pN ab 0, pN bb 0] 106) :: (lb, .cells #[pN ab 0, pN bb 0] 106) :: L) w)))) 1 ⟨rfl, .inl (⟨rfl, ⟨e_, e_, e_, trivial⟩, H⟩)⟩ ?_
 clear H; rintro m ρ D w1 ⟨rfl, ⟨rfl, hE, H⟩ | ⟨rfl, b2, b1, hE, H⟩⟩
 ·refine W_env hE ?_;refine W_seq ?_;refine W_sr (pL 2) H ?_;refine r_z [(14, iN 0), (15, .bool true)] ?_;refine W_cT ?_;refine W_skip ?_;refine W_seq ?_;refine W_block ?_;refine W_rg [(.p, 0), (.p, 1), (.p, 2), (.l, 3), (.p, 4), (.f, 5), (.p, 6), (.f, 7), (.p, 8)] H ?_;refine r_s [1] [(.p, 0), (.p, 1), (.p, 2), (.l, 3), (.p, 4)] [(18, sN lb 0 2 2), (19, iN 0), (20, pN lb 0), (21, pN ab 0), (22, pN bb 0)] (rc_l 0 0 rfl rfl rc_nil) ?_;refine m_new (.cells #[pN ab 0, pN bb 0] 106) (fun b3 => sN b3 0 2 2) (some 23) (fun b => by kernel_rfl) H (fun b3 w1 H => ?_);refine r_y [(.p, 6)] [(24, .agg #[iN 3, iN 0, sN b3 0 2 2])] ?_;refine m_nw (.cells #[iN 3, iN 0, sN b3 0 2 2] 148) 25 H (fun b4 w1 H => ?_);refine r_z [(3, pN b4 0)] ?_;refine W_rg (pL 3) H ?_;refine r_z [(16, iN 0), (17, iN ((-1))), (4, iN ((-1)))] ?_
  exact ⟨0, by decide, rfl, .inr (⟨rfl, b4, b3, ⟨e_, e_, e_, trivial⟩, H⟩)⟩
 refine W_env hE ?_;refine W_seq ?_;refine W_sr (pL 2) H ?_;refine r_z [(14, iN ((-1))), (15, .bool false)] ?_;refine W_cF ?_;refine W_exit ?_;refine W_sr (pL 2) H ?_;refine r_z [(26, pN b2 0), (2, pN b2 0)] ?_;refine W_ret ?_;refine q_rt [] [] (pN b2 0) rc_nil H ?_;obtain ⟨G1, hG1, hF1, H⟩ := H.freeze [_, _];refine ⟨G1, hG1, IsTyp.mk (t := .mk 3 0 [a, b]) (hF1 _ (.head _)) ⟨Nat.le_refl _, Nat.le_of_ble_eq_true rfl⟩ ?_, H⟩
 have hg := hF1 _ (.tail _ (.head _))
 refine TyL.typs (cs := [pN ab 0, pN bb 0]) 0 ⟨ha.mono hG1, hb.mono hG1, trivial⟩ (fun i u hi => GC.of hg ?_)
 rw [Nat.zero_add]; simpa using hi

theorem put_eq (wth : T) (n : Int) (t : T) : put wth n t = if t.kind = 1 ∧ t.num = n then wth else if t.kids.length = 0 then t else .mk t.kind t.num (puts wth (if t.kind = 4 then w64 (n + 1) else n) t.kids) := by
 obtain ⟨k, num, ks⟩ := t;rw [put]
theorem puts_eq (wth : T) (n : Int) : ∀ l : List T, puts wth n l = l.map (put wth n)
 | [] => rfl
 | t :: ts => by rw [puts, puts_eq wth n ts]; rfl
theorem c119 : ∀ (N : Nat) (t : T), T.sz t < N → ∀ {n : Int} {wth : T} {bw bp wb : Nat} {G : GH} {L : LH} {w : World} {v : Value}, IsTyp G v t → IsTyp G (.pointer (some ⟨wb, 0, none⟩)) wth →
  G bw = some (.cells #[.pointer (some ⟨wb, 0, none⟩)] 106 (0, 0)) → G bp = some (.cells #[.func (.func 119) #[] #[.pointer (some ⟨bw, 0, none⟩), .pointer (some ⟨bp, 0, none⟩)]] 136 (0, 0)) → St G L w →
  Cal Try.prog 119 #[v, .int .i64 n, .pointer (some ⟨bw, 0, none⟩), .pointer (some ⟨bp, 0, none⟩)] w fun u w' => ∃ G', Le G G' ∧ IsTyp G' u (put wth n t) ∧ St G' L w' := by
 intro N
 induction N with
 | zero => intro p h; omega
 | succ N ih =>
 intro t hsz n wth bw bp wb G L w v ht hw hbw hbp H
 have hpe := put_eq wth n t
 obtain ⟨tb1, tA2, tc3, rfl, htb4, htc5, htk6⟩ := ht.open;refine cal_of_W Try.func119 rfl (Nat.le_of_ble_eq_true e_) ?_;refine W_sr [(.p, 0)] H ?_;refine r_z [(6, .pointer none)] ?_;refine W_seq ?_;refine W_block ?_;refine W_sr [(.p, 0), (.p, 1), (.p, 2), (.l, 3), (.p, 4), (.p, 5), (.p, 6), (.p, 7), (.p, 8), (.l, 9), (.p, 10), (.p, 11), (.p, 12), (.p, 13)] H ?_;refine r_s [1] [(.p, 0), (.p, 1), (.p, 2), (.l, 3), (.p, 4), (.p, 5)] [(11, pN tb1 0), (12, pN tb1 0), (13, pN tb1 0), (14, iN t.kind), (15, .bool (t.kind == 1)), (16, .bool (t.kind == 1))] (rc_g 0 htb4 rfl rc_nil) ?_
 rcases Bool.eq_false_or_eq_true (t.kind == 1) with hc8 | hc8
 ·rw [hc8];refine r_x [1] [(17, pN tb1 0), (18, pN tb1 0), (19, pN tb1 1), (20, iN t.num), (21, iN n), (22, .bool (t.num == n)), (23, .bool (t.num == n)), (10, .bool (t.num == n))] (rc_g 1 htb4 rfl rc_nil) ?_;refine W_cd (b := t.num == n) (fun hc9 => ?_) (fun hc9 => ?_)
  ·skip
   have hnum : (t.num = n) := by simpa using hc9
   refine W_sr [(.l, 0), (.p, 1)] H ?_;refine r_x [1] [(24, pN wb 0), (6, pN wb 0)] (rc_g 0 hbw rfl rc_nil) ?_;refine W_ret ?_;refine q_rt [] [] (pN wb 0) rc_nil H ?_
   exact ⟨G, Le.refl _, by rw [hpe, if_pos ⟨by simpa using hc8, hnum⟩]; exact hw, H⟩
  have hnum : ¬(t.num = n) := by simpa using hc9
  have hnv : ¬ (t.kind = 1 ∧ t.num = n) := fun hx => hnum hx.2
  refine W_sr [(.p, 0), (.p, 1), (.p, 2), (.l, 3), (.p, 4), (.p, 5), (.p, 6)] H ?_;refine r_x [1] [(26, pN tb1 0), (27, pN tb1 0), (28, pN tb1 2), (29, .slice tA2 t.kids.length tc3), (30, nN t.kids.length), (31, .bool ((((t.kids.length : Nat) : Int)) == 0)), (25, .bool ((((t.kids.length : Nat) : Int)) == 0))] (rc_g 2 htb4 rfl rc_nil) ?_;refine W_cd (b := (((t.kids.length : Nat) : Int)) == 0) (fun hc10 => ?_) (fun hc10 => ?_)
  ·skip
   have hl0 : (t.kids.length = 0) := by have := hc10; simp at this; simpa using this
   refine W_sr (pL 2) H ?_;refine r_z [(32, pN tb1 0), (6, pN tb1 0)] ?_;refine W_ret ?_;refine q_rt [] [] (pN tb1 0) rc_nil H ?_
   exact ⟨G, Le.refl _, by rw [hpe, if_neg hnv, if_pos hl0]; exact ht, H⟩
  have hl0 : ¬(t.kids.length = 0) := by have := hc10; simp at this; simpa using this
  refine W_skip ?_;refine W_seq ?_;refine W_rgd [(.p, 0), (.p, 1), (.p, 2), (.l, 3), (.p, 4), (.p, 5), (.p, 6), (.l, 7), (.p, 8), (.f, 9), (.p, 10)] H (fun w1 H => ?_);refine r_s [1, 1] [(.p, 0), (.p, 1), (.p, 2), (.l, 3), (.p, 4), (.p, 5), (.p, 6), (.l, 7), (.p, 8)] [(33, pN tb1 0), (34, pN tb1 0), (35, pN tb1 0), (36, iN t.kind), (37, pN tb1 0), (38, pN tb1 0), (39, pN tb1 1), (40, iN t.num), (41, .agg #[iN t.kind, iN t.num, .slice none 0 0])] (rc_g 0 htb4 rfl (rc_g 1 htb4 rfl rc_nil)) ?_;refine m_nw (.cells #[iN t.kind, iN t.num, .slice none 0 0] 148) 42 H (fun b11 w1 H => ?_);refine r_z [(7, pN b11 0)] ?_;refine W_seq ?_;refine W_sr [(.p, 0), (.p, 1), (.p, 2), (.l, 3), (.p, 4)] H ?_;refine r_x [1] [(43, pN tb1 0), (44, pN tb1 0), (45, pN tb1 0), (46, iN t.kind), (47, .bool (t.kind == 4))] (rc_g 0 htb4 rfl rc_nil) ?_;refine W_cd (b := t.kind == 4) (fun hc12 => ?_) (fun hc12 => ?_)
  ·skip
   have hk4 : (t.kind = 4) := by simpa using hc12
   refine W_rg (pL 3) H ?_;refine r_z [(48, iN n), (49, iN (IntKind.wrap .i64 (n + 1))), (1, iN (IntKind.wrap .i64 (n + 1)))] ?_;refine W_seq ?_;refine W_sr [(.p, 0), (.p, 1), (.p, 2), (.l, 3), (.p, 4), (.p, 5)] H ?_;refine r_x [1] [(50, pN tb1 0), (51, pN tb1 0), (52, pN tb1 2), (53, .slice tA2 t.kids.length tc3), (54, nN t.kids.length), (55, iN 0)] (rc_g 2 htb4 rfl rc_nil) ?_;refine W_block ?_;refine W_loop (fun m ρ D w => ∃ (k : Nat) (G1 : GH) (kv : Value) (cs : List Value) (Lp : LH), EqS ρ [(1, iN (IntKind.wrap .i64 (n + 1))), (3, pN bp 0), (7, pN b11 0), (53, .slice tA2 t.kids.length tc3), (54, iN (((t.kids.length : Nat) : Int))), (55, iN (((k : Nat) : Int)))] ∧ D = [] ∧ St G1 ((b11, .cells #[iN t.kind, iN t.num, kv] 148) :: Lp ++ L) w ∧ (Le G G1) ∧ (OS 106 1 kv k cs Lp) ∧ (TyL G1 cs ((t.kids.map (put wth (IntKind.wrap .i64 (n + 1)))).take k)) ∧ (k ≤ t.kids.length) ∧ t.kids.length - k = m) (t.kids.length - 0) ⟨0, G, .slice none 0 0, [], [], ⟨e_, e_, e_, e_, e_, e_, trivial⟩, rfl, H, Le.refl _, OS.nil 106 1, (by simp [TyL]), Nat.zero_le _, rfl⟩ ?_
   clear H; rintro m13 ρ D w1 ⟨k, G1, kv, cs, Lp, hE14, rfl, H, hle, hos, hty, hkk, hm15⟩
   refine W_env hE14 ?_;refine W_sr [(.p, 0)] H ?_;refine r_z [(56, .bool (decide ((((k : Nat) : Int)) < (((t.kids.length : Nat) : Int)))))] ?_;refine W_seq ?_;refine W_cd (b := decide ((((k : Nat) : Int)) < (((t.kids.length : Nat) : Int)))) (fun hc16 => ?_) (fun hc16 => ?_)
   ·skip
    have hlt : k < t.kids.length := by have := of_decide_eq_true hc16; omega
    obtain ⟨q, hq⟩ := get_of_lt hlt;obtain ⟨eb, eo, qb, rfl, hc0, hqt⟩ := (htk6.mono hle).elem hq
    have hbp1 := hle _ _ hbp
    refine W_skip ?_;refine W_seq ?_;refine W_block ?_;refine W_sr [(.p, 0), (.l, 1), (.p, 2)] H ?_;refine m_idx (sz := 1) (b := eb) (off := eo) (n := t.kids.length) (c := tc3) (k := k) (some 57) (show opAt _ _ _ = some (.indexAddr 102 (.tmp 53) (.tmp 55), _) by kernel_rfl) e_ e_ Try.underlying102 sz106 hlt ?_;refine r_x [1] [(58, pN qb 0), (9, pN qb 0)] (rc_C hc0 rc_nil) ?_;refine W_rgd [(.p, 0), (.p, 1), (.p, 2), (.p, 3), (.l, 4), (.l, 5), (.p, 6), (.p, 7), (.e, 8), (.e, 9), (.f, 10), (.p, 11), (.p, 12), (.f, 13)] H (fun w1 H => ?_);refine r_s [1, 1] [(.p, 0), (.p, 1), (.p, 2), (.p, 3), (.l, 4), (.l, 5), (.p, 6), (.p, 7)] [(59, pN b11 0), (60, pN b11 0), (61, pN b11 0), (62, pN b11 2), (63, kv), (64, .func (.func 119) #[] #[pN bw 0, pN bp 0]), (65, pN qb 0), (66, iN (IntKind.wrap .i64 (n + 1)))] (rc_l 0 2 rfl rfl (rc_g 0 hbp1 rfl rc_nil)) ?_
    have hqs := T.sz_kid hq
    refine m_callE #[pN qb 0, iN (IntKind.wrap .i64 (n + 1)), pN bw 0, pN bp 0] (some 67) e_ (ih q (by omega) hqt (hw.mono hle) (hle _ _ hbw) (hle _ _ hbp) H) ?_;rintro u w1 ⟨G2, hG2, hu, H⟩;obtain ⟨ub, uA, uc, rfl, hub, huc, huk⟩ := hu.open;refine ⟨H.ss' ((Le.refl _).trans hG2) (fun _ hp => hp), ?_⟩;refine m_newE (.cells #[pN ub 0] 106) (fun b17 => sN b17 0 1 1) (some 68) (fun b => by kernel_rfl) H (fun _ _ h => h.ss' ((Le.refl _).trans hG2) (fun _ hp => (List.mem_cons_of_mem _ hp))) (fun b17 w1 H => ?_);refine m_append (v := kv) (sb := b17) (so := 0) (m := 1) (mc := 1) el102 [(b17, .cells #[pN ub 0] 106), (b11, .cells #[iN t.kind, iN t.num, kv] 148)] [pN ub 0] (d := (some 69)) (show opAt _ _ _ = some (.call { callee := .builtin .append, args := #[(.tmp 63), (.tmp 68)], argTypes := #[102, 102] }, _) by kernel_rfl) e_ e_ hos H (by first | rfl | (simp; done)) (src_L 0 H rfl) e_ (by decide) (by omega) (by omega) (fun kv2 Lp2 w1 hos2 H => ?_);obtain ⟨nb, nc, rfl⟩ := hos2.shape (by omega);refine r_y [(.p, 11), (.p, 12)] [(70, pN b11 0), (71, pN b11 2)] ?_;refine s_1 [(2, sN nb 0 ((k + 1)) nc)] [iN t.kind, iN t.num, sN nb 0 ((k + 1)) nc] none H (fun w1 H => ?_);refine r_nil ?_;refine W_rg (pL 2) H ?_;refine r_z [(72, iN (IntKind.wrap .i64 ((((k : Nat) : Int)) + 1))), (55, iN (IntKind.wrap .i64 ((((k : Nat) : Int)) + 1)))] ?_
    exact ⟨_, (by omega), k + 1, G2, sN nb 0 (k + 1) nc, cs ++ [pN ub 0], Lp2, ⟨e_, e_, e_, e_, e_, (by rw [← wrap_succ (k := k) (by omega)]; kernel_rfl), trivial⟩, rfl, (H.drop [_]), (hle.trans hG2), hos2, (by rw [take_snoc (x := put wth (IntKind.wrap .i64 (n + 1)) q) (by rw [List.getElem?_map, hq]; rfl)]; exact (hty.mono hG2).snoc hu), hlt, rfl⟩
   have hge : k = t.kids.length := by have := of_decide_eq_false hc16; omega
   refine W_exit ?_;refine W_sr (pL 2) H ?_;refine r_z [(73, pN b11 0), (6, pN b11 0)] ?_;refine W_ret ?_;refine q_rt [] [] (pN b11 0) rc_nil H ?_;have H := St.swap (A := [_]) (B := Lp) H;obtain ⟨G2, hG2, hF2, H⟩ := H.freeze Lp
   have hml : (t.kids.map (put wth (IntKind.wrap .i64 (n + 1)))).length = t.kids.length := by simp
   have hty2 : TyL G1 cs (t.kids.map (put wth (IntKind.wrap .i64 (n + 1)))) := by have := hty; rw [List.take_of_length_le (by omega)] at this; exact this
   obtain ⟨rA, rc, rfl, hrc, hrk⟩ := hos.typs (hty2.mono hG2) (by omega) hF2;obtain ⟨G3, hG3, hF3, H⟩ := St.freeze [_] H;refine ⟨G3, (hle.trans hG2).trans hG3, ?_, H⟩
   have hput : put wth n t = .mk t.kind t.num (t.kids.map (put wth (IntKind.wrap .i64 (n + 1)))) := by
    rw [hpe, if_neg hnv, if_neg hl0, if_pos hk4, puts_eq]; try rfl
   rw [hput];refine IsTyp.mk ?_ ⟨hrc, by rw [List.length_map]; exact htc5.2⟩ (hrk.mono hG3)
   have := hF3 _ (.head _)
   exact this
  have hk4 : ¬(t.kind = 4) := by simpa using hc12
  refine W_skip ?_;refine W_seq ?_;refine W_sr [(.p, 0), (.p, 1), (.p, 2), (.l, 3), (.p, 4), (.p, 5)] H ?_;refine r_x [1] [(50, pN tb1 0), (51, pN tb1 0), (52, pN tb1 2), (53, .slice tA2 t.kids.length tc3), (54, nN t.kids.length), (55, iN 0)] (rc_g 2 htb4 rfl rc_nil) ?_;refine W_block ?_;refine W_loop (fun m ρ D w => ∃ (k : Nat) (G1 : GH) (kv : Value) (cs : List Value) (Lp : LH), EqS ρ [(1, iN n), (3, pN bp 0), (7, pN b11 0), (53, .slice tA2 t.kids.length tc3), (54, iN (((t.kids.length : Nat) : Int))), (55, iN (((k : Nat) : Int)))] ∧ D = [] ∧ St G1 ((b11, .cells #[iN t.kind, iN t.num, kv] 148) :: Lp ++ L) w ∧ (Le G G1) ∧ (OS 106 1 kv k cs Lp) ∧ (TyL G1 cs ((t.kids.map (put wth (n))).take k)) ∧ (k ≤ t.kids.length) ∧ t.kids.length - k = m) (t.kids.length - 0) ⟨0, G, .slice none 0 0, [], [], ⟨e_, e_, e_, e_, e_, e_, trivial⟩, rfl, H, Le.refl _, OS.nil 106 1, (by simp [TyL]), Nat.zero_le _, rfl⟩ ?_
  clear H; rintro m18 ρ D w1 ⟨k, G1, kv, cs, Lp, hE19, rfl, H, hle, hos, hty, hkk, hm20⟩
  refine W_env hE19 ?_;refine W_sr [(.p, 0)] H ?_;refine r_z [(56, .bool (decide ((((k : Nat) : Int)) < (((t.kids.length : Nat) : Int)))))] ?_;refine W_seq ?_;refine W_cd (b := decide ((((k : Nat) : Int)) < (((t.kids.length : Nat) : Int)))) (fun hc21 => ?_) (fun hc21 => ?_)
  ·skip
   have hlt : k < t.kids.length := by have := of_decide_eq_true hc21; omega
   obtain ⟨q, hq⟩ := get_of_lt hlt;obtain ⟨eb, eo, qb, rfl, hc0, hqt⟩ := (htk6.mono hle).elem hq
   have hbp1 := hle _ _ hbp
   refine W_skip ?_;refine W_seq ?_;refine W_block ?_;refine W_sr [(.p, 0), (.l, 1), (.p, 2)] H ?_;refine m_idx (sz := 1) (b := eb) (off := eo) (n := t.kids.length) (c := tc3) (k := k) (some 57) (show opAt _ _ _ = some (.indexAddr 102 (.tmp 53) (.tmp 55), _) by kernel_rfl) e_ e_ Try.underlying102 sz106 hlt ?_;refine r_x [1] [(58, pN qb 0), (9, pN qb 0)] (rc_C hc0 rc_nil) ?_;refine W_rgd [(.p, 0), (.p, 1), (.p, 2), (.p, 3), (.l, 4), (.l, 5), (.p, 6), (.p, 7), (.e, 8), (.e, 9), (.f, 10), (.p, 11), (.p, 12), (.f, 13)] H (fun w1 H => ?_);refine r_s [1, 1] [(.p, 0), (.p, 1), (.p, 2), (.p, 3), (.l, 4), (.l, 5), (.p, 6), (.p, 7)] [(59, pN b11 0), (60, pN b11 0), (61, pN b11 0), (62, pN b11 2), (63, kv), (64, .func (.func 119) #[] #[pN bw 0, pN bp 0]), (65, pN qb 0), (66, iN n)] (rc_l 0 2 rfl rfl (rc_g 0 hbp1 rfl rc_nil)) ?_
   have hqs := T.sz_kid hq
   refine m_callE #[pN qb 0, iN n, pN bw 0, pN bp 0] (some 67) e_ (ih q (by omega) hqt (hw.mono hle) (hle _ _ hbw) (hle _ _ hbp) H) ?_;rintro u w1 ⟨G2, hG2, hu, H⟩;obtain ⟨ub, uA, uc, rfl, hub, huc, huk⟩ := hu.open;refine ⟨H.ss' ((Le.refl _).trans hG2) (fun _ hp => hp), ?_⟩;refine m_newE (.cells #[pN ub 0] 106) (fun b22 => sN b22 0 1 1) (some 68) (fun b => by kernel_rfl) H (fun _ _ h => h.ss' ((Le.refl _).trans hG2) (fun _ hp => (List.mem_cons_of_mem _ hp))) (fun b22 w1 H => ?_);refine m_append (v := kv) (sb := b22) (so := 0) (m := 1) (mc := 1) el102 [(b22, .cells #[pN ub 0] 106), (b11, .cells #[iN t.kind, iN t.num, kv] 148)] [pN ub 0] (d := (some 69)) (show opAt _ _ _ = some (.call { callee := .builtin .append, args := #[(.tmp 63), (.tmp 68)], argTypes := #[102, 102] }, _) by kernel_rfl) e_ e_ hos H (by first | rfl | (simp; done)) (src_L 0 H rfl) e_ (by decide) (by omega) (by omega) (fun kv2 Lp2 w1 hos2 H => ?_);obtain ⟨nb, nc, rfl⟩ := hos2.shape (by omega);refine r_y [(.p, 11), (.p, 12)] [(70, pN b11 0), (71, pN b11 2)] ?_;refine s_1 [(2, sN nb 0 ((k + 1)) nc)] [iN t.kind, iN t.num, sN nb 0 ((k + 1)) nc] none H (fun w1 H => ?_);refine r_nil ?_;refine W_rg (pL 2) H ?_;refine r_z [(72, iN (IntKind.wrap .i64 ((((k : Nat) : Int)) + 1))), (55, iN (IntKind.wrap .i64 ((((k : Nat) : Int)) + 1)))] ?_
   exact ⟨_, (by omega), k + 1, G2, sN nb 0 (k + 1) nc, cs ++ [pN ub 0], Lp2, ⟨e_, e_, e_, e_, e_, (by rw [← wrap_succ (k := k) (by omega)]; kernel_rfl), trivial⟩, rfl, (H.drop [_]), (hle.trans hG2), hos2, (by rw [take_snoc (x := put wth (n) q) (by rw [List.getElem?_map, hq]; rfl)]; exact (hty.mono hG2).snoc hu), hlt, rfl⟩
  have hge : k = t.kids.length := by have := of_decide_eq_false hc21; omega
  refine W_exit ?_;refine W_sr (pL 2) H ?_;refine r_z [(73, pN b11 0), (6, pN b11 0)] ?_;refine W_ret ?_;refine q_rt [] [] (pN b11 0) rc_nil H ?_;have H := St.swap (A := [_]) (B := Lp) H;obtain ⟨G2, hG2, hF2, H⟩ := H.freeze Lp
  have hml : (t.kids.map (put wth (n))).length = t.kids.length := by simp
  have hty2 : TyL G1 cs (t.kids.map (put wth (n))) := by have := hty; rw [List.take_of_length_le (by omega)] at this; exact this
  obtain ⟨rA, rc, rfl, hrc, hrk⟩ := hos.typs (hty2.mono hG2) (by omega) hF2;obtain ⟨G3, hG3, hF3, H⟩ := St.freeze [_] H;refine ⟨G3, (hle.trans hG2).trans hG3, ?_, H⟩
  have hput : put wth n t = .mk t.kind t.num (t.kids.map (put wth (n))) := by
   rw [hpe, if_neg hnv, if_neg hl0, if_neg hk4, puts_eq]; try rfl
  rw [hput];refine IsTyp.mk ?_ ⟨hrc, by rw [List.length_map]; exact htc5.2⟩ (hrk.mono hG3)
  have := hF3 _ (.head _)
  exact this
 rw [hc8]
 have hnv : ¬ (t.kind = 1 ∧ t.num = n) := fun hx => by simp [hx.1] at hc8
 refine r_z (uD 17 6 [(23, .bool false), (10, .bool false)]) ?_;refine W_cF ?_;refine W_sr [(.p, 0), (.p, 1), (.p, 2), (.l, 3), (.p, 4), (.p, 5), (.p, 6)] H ?_;refine r_x [1] [(26, pN tb1 0), (27, pN tb1 0), (28, pN tb1 2), (29, .slice tA2 t.kids.length tc3), (30, nN t.kids.length), (31, .bool ((((t.kids.length : Nat) : Int)) == 0)), (25, .bool ((((t.kids.length : Nat) : Int)) == 0))] (rc_g 2 htb4 rfl rc_nil) ?_;refine W_cd (b := (((t.kids.length : Nat) : Int)) == 0) (fun hc23 => ?_) (fun hc23 => ?_)
 ·skip
  have hl0 : (t.kids.length = 0) := by have := hc23; simp at this; simpa using this
  refine W_sr (pL 2) H ?_;refine r_z [(32, pN tb1 0), (6, pN tb1 0)] ?_;refine W_ret ?_;refine q_rt [] [] (pN tb1 0) rc_nil H ?_
  exact ⟨G, Le.refl _, by rw [hpe, if_neg hnv, if_pos hl0]; exact ht, H⟩
 have hl0 : ¬(t.kids.length = 0) := by have := hc23; simp at this; simpa using this
 refine W_skip ?_;refine W_seq ?_;refine W_rgd [(.p, 0), (.p, 1), (.p, 2), (.l, 3), (.p, 4), (.p, 5), (.p, 6), (.l, 7), (.p, 8), (.f, 9), (.p, 10)] H (fun w1 H => ?_);refine r_s [1, 1] [(.p, 0), (.p, 1), (.p, 2), (.l, 3), (.p, 4), (.p, 5), (.p, 6), (.l, 7), (.p, 8)] [(33, pN tb1 0), (34, pN tb1 0), (35, pN tb1 0), (36, iN t.kind), (37, pN tb1 0), (38, pN tb1 0), (39, pN tb1 1), (40, iN t.num), (41, .agg #[iN t.kind, iN t.num, .slice none 0 0])] (rc_g 0 htb4 rfl (rc_g 1 htb4 rfl rc_nil)) ?_;refine m_nw (.cells #[iN t.kind, iN t.num, .slice none 0 0] 148) 42 H (fun b24 w1 H => ?_);refine r_z [(7, pN b24 0)] ?_;refine W_seq ?_;refine W_sr [(.p, 0), (.p, 1), (.p, 2), (.l, 3), (.p, 4)] H ?_;refine r_x [1] [(43, pN tb1 0), (44, pN tb1 0), (45, pN tb1 0), (46, iN t.kind), (47, .bool (t.kind == 4))] (rc_g 0 htb4 rfl rc_nil) ?_;refine W_cd (b := t.kind == 4) (fun hc25 => ?_) (fun hc25 => ?_)
 ·skip
  have hk4 : (t.kind = 4) := by simpa using hc25
  refine W_rg (pL 3) H ?_;refine r_z [(48, iN n), (49, iN (IntKind.wrap .i64 (n + 1))), (1, iN (IntKind.wrap .i64 (n + 1)))] ?_;refine W_seq ?_;refine W_sr [(.p, 0), (.p, 1), (.p, 2), (.l, 3), (.p, 4), (.p, 5)] H ?_;refine r_x [1] [(50, pN tb1 0), (51, pN tb1 0), (52, pN tb1 2), (53, .slice tA2 t.kids.length tc3), (54, nN t.kids.length), (55, iN 0)] (rc_g 2 htb4 rfl rc_nil) ?_;refine W_block ?_;refine W_loop (fun m ρ D w => ∃ (k : Nat) (G1 : GH) (kv : Value) (cs : List Value) (Lp : LH), EqS ρ [(1, iN (IntKind.wrap .i64 (n + 1))), (3, pN bp 0), (7, pN b24 0), (53, .slice tA2 t.kids.length tc3), (54, iN (((t.kids.length : Nat) : Int))), (55, iN (((k : Nat) : Int)))] ∧ D = [] ∧ St G1 ((b24, .cells #[iN t.kind, iN t.num, kv] 148) :: Lp ++ L) w ∧ (Le G G1) ∧ (OS 106 1 kv k cs Lp) ∧ (TyL G1 cs ((t.kids.map (put wth (IntKind.wrap .i64 (n + 1)))).take k)) ∧ (k ≤ t.kids.length) ∧ t.kids.length - k = m) (t.kids.length - 0) ⟨0, G, .slice none 0 0, [], [], ⟨e_, e_, e_, e_, e_, e_, trivial⟩, rfl, H, Le.refl _, OS.nil 106 1, (by simp [TyL]), Nat.zero_le _, rfl⟩ ?_
  clear H; rintro m26 ρ D w1 ⟨k, G1, kv, cs, Lp, hE27, rfl, H, hle, hos, hty, hkk, hm28⟩
  refine W_env hE27 ?_;refine W_sr [(.p, 0)] H ?_;refine r_z [(56, .bool (decide ((((k : Nat) : Int)) < (((t.kids.length : Nat) : Int)))))] ?_;refine W_seq ?_;refine W_cd (b := decide ((((k : Nat) : Int)) < (((t.kids.length : Nat) : Int)))) (fun hc29 => ?_) (fun hc29 => ?_)
  ·skip
   have hlt : k < t.kids.length := by have := of_decide_eq_true hc29; omega
   obtain ⟨q, hq⟩ := get_of_lt hlt;obtain ⟨eb, eo, qb, rfl, hc0, hqt⟩ := (htk6.mono hle).elem hq
   have hbp1 := hle _ _ hbp
   refine W_skip ?_;refine W_seq ?_;refine W_block ?_;refine W_sr [(.p, 0), (.l, 1), (.p, 2)] H ?_;refine m_idx (sz := 1) (b := eb) (off := eo) (n := t.kids.length) (c := tc3) (k := k) (some 57) (show opAt _ _ _ = some (.indexAddr 102 (.tmp 53) (.tmp 55), _) by kernel_rfl) e_ e_ Try.underlying102 sz106 hlt ?_;refine r_x [1] [(58, pN qb 0), (9, pN qb 0)] (rc_C hc0 rc_nil) ?_;refine W_rgd [(.p, 0), (.p, 1), (.p, 2), (.p, 3), (.l, 4), (.l, 5), (.p, 6), (.p, 7), (.e, 8), (.e, 9), (.f, 10), (.p, 11), (.p, 12), (.f, 13)] H (fun w1 H => ?_);refine r_s [1, 1] [(.p, 0), (.p, 1), (.p, 2), (.p, 3), (.l, 4), (.l, 5), (.p, 6), (.p, 7)] [(59, pN b24 0), (60, pN b24 0), (61, pN b24 0), (62, pN b24 2), (63, kv), (64, .func (.func 119) #[] #[pN bw 0, pN bp 0]), (65, pN qb 0), (66, iN (IntKind.wrap .i64 (n + 1)))] (rc_l 0 2 rfl rfl (rc_g 0 hbp1 rfl rc_nil)) ?_
   have hqs := T.sz_kid hq
   refine m_callE #[pN qb 0, iN (IntKind.wrap .i64 (n + 1)), pN bw 0, pN bp 0] (some 67) e_ (ih q (by omega) hqt (hw.mono hle) (hle _ _ hbw) (hle _ _ hbp) H) ?_;rintro u w1 ⟨G2, hG2, hu, H⟩;obtain ⟨ub, uA, uc, rfl, hub, huc, huk⟩ := hu.open;refine ⟨H.ss' ((Le.refl _).trans hG2) (fun _ hp => hp), ?_⟩;refine m_newE (.cells #[pN ub 0] 106) (fun b30 => sN b30 0 1 1) (some 68) (fun b => by kernel_rfl) H (fun _ _ h => h.ss' ((Le.refl _).trans hG2) (fun _ hp => (List.mem_cons_of_mem _ hp))) (fun b30 w1 H => ?_);refine m_append (v := kv) (sb := b30) (so := 0) (m := 1) (mc := 1) el102 [(b30, .cells #[pN ub 0] 106), (b24, .cells #[iN t.kind, iN t.num, kv] 148)] [pN ub 0] (d := (some 69)) (show opAt _ _ _ = some (.call { callee := .builtin .append, args := #[(.tmp 63), (.tmp 68)], argTypes := #[102, 102] }, _) by kernel_rfl) e_ e_ hos H (by first | rfl | (simp; done)) (src_L 0 H rfl) e_ (by decide) (by omega) (by omega) (fun kv2 Lp2 w1 hos2 H => ?_);obtain ⟨nb, nc, rfl⟩ := hos2.shape (by omega);refine r_y [(.p, 11), (.p, 12)] [(70, pN b24 0), (71, pN b24 2)] ?_;refine s_1 [(2, sN nb 0 ((k + 1)) nc)] [iN t.kind, iN t.num, sN nb 0 ((k + 1)) nc] none H (fun w1 H => ?_);refine r_nil ?_;refine W_rg (pL 2) H ?_;refine r_z [(72, iN (IntKind.wrap .i64 ((((k : Nat) : Int)) + 1))), (55, iN (IntKind.wrap .i64 ((((k : Nat) : Int)) + 1)))] ?_
   exact ⟨_, (by omega), k + 1, G2, sN nb 0 (k + 1) nc, cs ++ [pN ub 0], Lp2, ⟨e_, e_, e_, e_, e_, (by rw [← wrap_succ (k := k) (by omega)]; kernel_rfl), trivial⟩, rfl, (H.drop [_]), (hle.trans hG2), hos2, (by rw [take_snoc (x := put wth (IntKind.wrap .i64 (n + 1)) q) (by rw [List.getElem?_map, hq]; rfl)]; exact (hty.mono hG2).snoc hu), hlt, rfl⟩
  have hge : k = t.kids.length := by have := of_decide_eq_false hc29; omega
  refine W_exit ?_;refine W_sr (pL 2) H ?_;refine r_z [(73, pN b24 0), (6, pN b24 0)] ?_;refine W_ret ?_;refine q_rt [] [] (pN b24 0) rc_nil H ?_;have H := St.swap (A := [_]) (B := Lp) H;obtain ⟨G2, hG2, hF2, H⟩ := H.freeze Lp
  have hml : (t.kids.map (put wth (IntKind.wrap .i64 (n + 1)))).length = t.kids.length := by simp
  have hty2 : TyL G1 cs (t.kids.map (put wth (IntKind.wrap .i64 (n + 1)))) := by have := hty; rw [List.take_of_length_le (by omega)] at this; exact this
  obtain ⟨rA, rc, rfl, hrc, hrk⟩ := hos.typs (hty2.mono hG2) (by omega) hF2;obtain ⟨G3, hG3, hF3, H⟩ := St.freeze [_] H;refine ⟨G3, (hle.trans hG2).trans hG3, ?_, H⟩
  have hput : put wth n t = .mk t.kind t.num (t.kids.map (put wth (IntKind.wrap .i64 (n + 1)))) := by
   rw [hpe, if_neg hnv, if_neg hl0, if_pos hk4, puts_eq]; try rfl
  rw [hput];refine IsTyp.mk ?_ ⟨hrc, by rw [List.length_map]; exact htc5.2⟩ (hrk.mono hG3)
  have := hF3 _ (.head _)
  exact this
 have hk4 : ¬(t.kind = 4) := by simpa using hc25
 refine W_skip ?_;refine W_seq ?_;refine W_sr [(.p, 0), (.p, 1), (.p, 2), (.l, 3), (.p, 4), (.p, 5)] H ?_;refine r_x [1] [(50, pN tb1 0), (51, pN tb1 0), (52, pN tb1 2), (53, .slice tA2 t.kids.length tc3), (54, nN t.kids.length), (55, iN 0)] (rc_g 2 htb4 rfl rc_nil) ?_;refine W_block ?_;refine W_loop (fun m ρ D w => ∃ (k : Nat) (G1 : GH) (kv : Value) (cs : List Value) (Lp : LH), EqS ρ [(1, iN n), (3, pN bp 0), (7, pN b24 0), (53, .slice tA2 t.kids.length tc3), (54, iN (((t.kids.length : Nat) : Int))), (55, iN (((k : Nat) : Int)))] ∧ D = [] ∧ St G1 ((b24, .cells #[iN t.kind, iN t.num, kv] 148) :: Lp ++ L) w ∧ (Le G G1) ∧ (OS 106 1 kv k cs Lp) ∧ (TyL G1 cs ((t.kids.map (put wth (n))).take k)) ∧ (k ≤ t.kids.length) ∧ t.kids.length - k = m) (t.kids.length - 0) ⟨0, G, .slice none 0 0, [], [], ⟨e_, e_, e_, e_, e_, e_, trivial⟩, rfl, H, Le.refl _, OS.nil 106 1, (by simp [TyL]), Nat.zero_le _, rfl⟩ ?_
 clear H; rintro m31 ρ D w1 ⟨k, G1, kv, cs, Lp, hE32, rfl, H, hle, hos, hty, hkk, hm33⟩
 refine W_env hE32 ?_;refine W_sr [(.p, 0)] H ?_;refine r_z [(56, .bool (decide ((((k : Nat) : Int)) < (((t.kids.length : Nat) : Int)))))] ?_;refine W_seq ?_;refine W_cd (b := decide ((((k : Nat) : Int)) < (((t.kids.length : Nat) : Int)))) (fun hc34 => ?_) (fun hc34 => ?_)
 ·skip
  have hlt : k < t.kids.length := by have := of_decide_eq_true hc34; omega
  obtain ⟨q, hq⟩ := get_of_lt hlt;obtain ⟨eb, eo, qb, rfl, hc0, hqt⟩ := (htk6.mono hle).elem hq
  have hbp1 := hle _ _ hbp
  refine W_skip ?_;refine W_seq ?_;refine W_block ?_;refine W_sr [(.p, 0), (.l, 1), (.p, 2)] H ?_;refine m_idx (sz := 1) (b := eb) (off := eo) (n := t.kids.length) (c := tc3) (k := k) (some 57) (show opAt _ _ _ = some (.indexAddr 102 (.tmp 53) (.tmp 55), _) by kernel_rfl) e_ e_ Try.underlying102 sz106 hlt ?_;refine r_x [1] [(58, pN qb 0), (9, pN qb 0)] (rc_C hc0 rc_nil) ?_;refine W_rgd [(.p, 0), (.p, 1), (.p, 2), (.p, 3), (.l, 4), (.l, 5), (.p, 6), (.p, 7), (.e, 8), (.e, 9), (.f, 10), (.p, 11), (.p, 12), (.f, 13)] H (fun w1 H => ?_);refine r_s [1, 1] [(.p, 0), (.p, 1), (.p, 2), (.p, 3), (.l, 4), (.l, 5), (.p, 6), (.p, 7)] [(59, pN b24 0), (60, pN b24 0), (61, pN b24 0), (62, pN b24 2), (63, kv), (64, .func (.func 119) #[] #[pN bw 0, pN bp 0]), (65, pN qb 0), (66, iN n)] (rc_l 0 2 rfl rfl (rc_g 0 hbp1 rfl rc_nil)) ?_
  have hqs := T.sz_kid hq
  refine m_callE #[pN qb 0, iN n, pN bw 0, pN bp 0] (some 67) e_ (ih q (by omega) hqt (hw.mono hle) (hle _ _ hbw) (hle _ _ hbp) H) ?_;rintro u w1 ⟨G2, hG2, hu, H⟩;obtain ⟨ub, uA, uc, rfl, hub, huc, huk⟩ := hu.open;refine ⟨H.ss' ((Le.refl _).trans hG2) (fun _ hp => hp), ?_⟩;refine m_newE (.cells #[pN ub 0] 106) (fun b35 => sN b35 0 1 1) (some 68) (fun b => by kernel_rfl) H (fun _ _ h => h.ss' ((Le.refl _).trans hG2) (fun _ hp => (List.mem_cons_of_mem _ hp))) (fun b35 w1 H => ?_);refine m_append (v := kv) (sb := b35) (so := 0) (m := 1) (mc := 1) el102 [(b35, .cells #[pN ub 0] 106), (b24, .cells #[iN t.kind, iN t.num, kv] 148)] [pN ub 0] (d := (some 69)) (show opAt _ _ _ = some (.call { callee := .builtin .append, args := #[(.tmp 63), (.tmp 68)], argTypes := #[102, 102] }, _) by kernel_rfl) e_ e_ hos H (by first | rfl | (simp; done)) (src_L 0 H rfl) e_ (by decide) (by omega) (by omega) (fun kv2 Lp2 w1 hos2 H => ?_);obtain ⟨nb, nc, rfl⟩ := hos2.shape (by omega);refine r_y [(.p, 11), (.p, 12)] [(70, pN b24 0), (71, pN b24 2)] ?_;refine s_1 [(2, sN nb 0 ((k + 1)) nc)] [iN t.kind, iN t.num, sN nb 0 ((k + 1)) nc] none H (fun w1 H => ?_);refine r_nil ?_;refine W_rg (pL 2) H ?_;refine r_z [(72, iN (IntKind.wrap .i64 ((((k : Nat) : Int)) + 1))), (55, iN (IntKind.wrap .i64 ((((k : Nat) : Int)) + 1)))] ?_
  exact ⟨_, (by omega), k + 1, G2, sN nb 0 (k + 1) nc, cs ++ [pN ub 0], Lp2, ⟨e_, e_, e_, e_, e_, (by rw [← wrap_succ (k := k) (by omega)]; kernel_rfl), trivial⟩, rfl, (H.drop [_]), (hle.trans hG2), hos2, (by rw [take_snoc (x := put wth (n) q) (by rw [List.getElem?_map, hq]; rfl)]; exact (hty.mono hG2).snoc hu), hlt, rfl⟩
 have hge : k = t.kids.length := by have := of_decide_eq_false hc34; omega
 refine W_exit ?_;refine W_sr (pL 2) H ?_;refine r_z [(73, pN b24 0), (6, pN b24 0)] ?_;refine W_ret ?_;refine q_rt [] [] (pN b24 0) rc_nil H ?_;have H := St.swap (A := [_]) (B := Lp) H;obtain ⟨G2, hG2, hF2, H⟩ := H.freeze Lp
 have hml : (t.kids.map (put wth (n))).length = t.kids.length := by simp
 have hty2 : TyL G1 cs (t.kids.map (put wth (n))) := by have := hty; rw [List.take_of_length_le (by omega)] at this; exact this
 obtain ⟨rA, rc, rfl, hrc, hrk⟩ := hos.typs (hty2.mono hG2) (by omega) hF2;obtain ⟨G3, hG3, hF3, H⟩ := St.freeze [_] H;refine ⟨G3, (hle.trans hG2).trans hG3, ?_, H⟩
 have hput : put wth n t = .mk t.kind t.num (t.kids.map (put wth (n))) := by
  rw [hpe, if_neg hnv, if_neg hl0, if_neg hk4, puts_eq]; try rfl
 rw [hput];refine IsTyp.mk ?_ ⟨hrc, by rw [List.length_map]; exact htc5.2⟩ (hrk.mono hG3)
 have := hF3 _ (.head _)
 exact this

theorem c104 {G : GH} {L : LH} {w : World} {sv v u : Value} {t wth r : T} (H : St G L w) (ht : IsTyp G v t) (hw : IsTyp G u wth) (h : opn t wth = some r) :
  Cal Try.prog 104 #[sv, v, u] w fun x w' => ∃ G', Le G G' ∧ IsTyp G' x r ∧ St G' L w' := by
 obtain ⟨wb, _, _, rfl, _⟩ := id hw.open;obtain ⟨tb1, tA2, tc3, rfl, htb4, htc5, htk6⟩ := ht.open
 obtain ⟨q, hq, hr⟩ : ∃ q, t.kids[0]? = some q ∧ r = put wth 0 q := by
  unfold opn at h; split at h
  ·rename_i q _ he; exact ⟨q, by rw [he]; rfl, by simpa using h.symm⟩
  ·cases h
 obtain ⟨eb, eo, qb, rfl, hc0, hqt⟩ := htk6.elem hq
 have hlt : 0 < t.kids.length := (List.getElem?_eq_some_iff.1 hq).1
 have hqs := T.sz_kid hq
 refine cal_of_W Try.func104 rfl (Nat.le_of_ble_eq_true e_) ?_;refine W_sr [(.f, 0), (.p, 1)] H ?_;refine m_nw (.cells #[pN wb 0] 106) 5 H (fun b8 w1 H => ?_);refine r_z [(6, .pointer none)] ?_;refine W_sr [(.f, 0)] H ?_;refine m_nw (.cells #[.nilFunc] 136) 7 H (fun b9 w1 H => ?_);refine r_nil ?_;refine W_sr [(.p, 0), (.f, 1)] H ?_;refine r_y [(.p, 0)] [(8, .func (.func 119) #[] #[pN b8 0, pN b9 0])] ?_;refine s_0 [(0, .func (.func 119) #[] #[pN b8 0, pN b9 0])] [.func (.func 119) #[] #[pN b8 0, pN b9 0]] none H (fun w1 H => ?_);refine r_nil ?_;refine W_seq ?_;obtain ⟨G1, hG1, hF10, H⟩ := St.freeze [_, _] H;replace htb4 := hG1 _ _ htb4;replace hc0 := hc0.mono hG1;replace hqt := hqt.mono hG1;replace hw := hw.mono hG1
 have hfp := hF10 _ (.head _)
 have hfw := hF10 _ (.tail _ (.head _))
 refine W_rgd [(.l, 0), (.p, 1), (.p, 2), (.p, 3), (.l, 4), (.p, 5), (.l, 6), (.f, 7), (.p, 8)] H (fun w1 H => ?_);refine r_s [1, 1] [(.l, 0), (.p, 1), (.p, 2), (.p, 3), (.l, 4)] [(9, .func (.func 119) #[] #[pN b8 0, pN b9 0]), (10, pN tb1 0), (11, pN tb1 0), (12, pN tb1 2), (13, sN eb eo t.kids.length tc3)] (rc_g 0 hfp rfl (rc_g 2 htb4 rfl rc_nil)) ?_;refine m_idx (sz := 1) (b := eb) (off := eo) (n := t.kids.length) (c := tc3) (k := 0) (some 14) (show opAt _ _ _ = some (.indexAddr 102 (.tmp 13) (.const (iN 0)), _) by kernel_rfl) e_ e_ Try.underlying102 sz106 hlt ?_;refine r_s [1] [(.l, 6)] [(15, pN qb 0)] (rc_C hc0 rc_nil) ?_;refine m_cl #[pN qb 0, iN 0, pN b8 0, pN b9 0] (some 16) (c119 (T.sz q + 1) q (by omega) hqt hw hfw hfp H) ?_;rintro u w1 ⟨G2, hG2, hu, H⟩;refine nx H ?_;refine r_z [(6, u)] ?_;refine W_ret ?_;refine q_rt [] [] (u) rc_nil H ?_
 exact ⟨G2, hG1.trans hG2, by rw [hr]; exact hu, H⟩

theorem drop_cons {α : Type} {l : List α} {k : Nat} {q : α} (h : l[k]? = some q) : l.drop k = q :: l.drop (k + 1) := by
 have hlt := (List.getElem?_eq_some_iff.1 h).1
 rw [List.drop_eq_getElem_cons hlt]
 have := (List.getElem?_eq_some_iff.1 h).2
 rw [this]

theorem c120 : ∀ (f : Nat) {G : GH} {σ R : LH} {w : World} {sb : Nat} {mb : MB} {s : Sol} {h : Int} {v : Value} {t : T} {a0 b0 : Bool}, IsSol G sb mb s σ → St G (σ ++ R) w → IsTyp G v t → inside f s.solved h t = some (a0, b0) →
  Cal Try.prog 120 #[.pointer (some ⟨sb, 0, none⟩), .int .i64 h, v] w fun r w' => r = .tuple #[.bool a0, .bool b0] ∧ St G (σ ++ R) w' := by
 intro f
 induction f using Nat.strongRecOn with
 | _ f ih =>
 intro G σ R w sb mb s h v t a0 b0 hS H ht hin
 obtain _ | f := f
 ·cases hin
 unfold inside at hin
 obtain ⟨u, hu, hin⟩ := Option.bind_eq_some_iff.1 hin;refine cal_of_W Try.func120 rfl (Nat.le_of_ble_eq_true e_) ?_;refine W_sr (pL 2) H ?_;refine r_z [(6, .bool false), (7, .bool false)] ?_;refine W_sr [(.p, 0), (.p, 1), (.f, 2), (.p, 3)] H ?_;refine r_y [(.p, 0), (.p, 1)] [(12, pN sb 0), (13, v)] ?_;refine m_cl #[pN sb 0, v] (some 14) (c101 hS H ht hu) ?_;rintro r w1 ⟨hr, H⟩;refine nx H ?_;obtain ⟨tb1, tA2, tc3, rfl, htb4, htc5, htk6⟩ := hr.open;refine r_z [(2, pN tb1 0)] ?_;refine W_seq ?_;refine W_rgd [(.p, 0), (.p, 1), (.p, 2), (.l, 3), (.p, 4), (.p, 5), (.p, 6), (.p, 7), (.p, 8), (.l, 9), (.p, 10), (.p, 11), (.p, 12), (.p, 13), (.p, 14), (.p, 15), (.l, 16), (.p, 17), (.p, 18), (.p, 19)] H (fun w1 H => ?_);refine r_s [1] [(.p, 0), (.p, 1), (.p, 2), (.l, 3), (.p, 4), (.p, 5)] [(15, pN tb1 0), (16, pN tb1 0), (17, pN tb1 0), (18, iN u.kind), (19, .bool (u.kind == 6)), (20, .bool (u.kind == 6))] (rc_g 0 htb4 rfl rc_nil) ?_
 rcases Bool.eq_false_or_eq_true (u.kind == 6) with hc8 | hc8
 ·rw [hc8];refine r_x [1, 1] [(21, pN tb1 0), (22, pN tb1 0), (23, pN tb1 1), (24, iN u.num), (25, iN h), (26, .bool (u.num == h)), (27, .bool (u.num == h)), (28, pN tb1 0), (29, pN tb1 0), (30, pN tb1 0), (31, iN u.kind), (32, .bool (u.kind == 4)), (6, .bool (u.num == h)), (7, .bool (u.kind == 4))] (rc_g 1 htb4 rfl (rc_g 0 htb4 rfl rc_nil)) ?_;refine W_seq ?_;refine W_seq ?_
  have e1 : decide (u.kind = 6 ∧ u.num = h) = (u.num == h) := by have hx : u.kind = 6 := (by simpa using hc8); rw [Bool.eq_iff_iff]; simp [hx]
  have e2 : decide (u.kind = 4) = (u.kind == 4) := by rw [Bool.eq_iff_iff]; simp
  rw [e1, e2] at hin;refine W_rg [(.p, 0), (.p, 1), (.p, 2), (.l, 3), (.p, 4), (.p, 5)] H ?_;refine r_x [1] [(33, pN tb1 0), (34, pN tb1 0), (35, pN tb1 2), (36, .slice tA2 u.kids.length tc3), (37, nN u.kids.length), (38, iN 0)] (rc_g 2 htb4 rfl rc_nil) ?_;refine W_block ?_;refine W_loop (fun m ρ D w => ∃ (k : Nat) (f1 : Nat) (a : Bool) (b : Bool), EqS ρ [(0, pN sb 0), (1, iN h), (6, .bool a), (7, .bool b), (36, .slice tA2 u.kids.length tc3), (37, iN (((u.kids.length : Nat) : Int))), (38, iN (((k : Nat) : Int)))] ∧ D = [] ∧ St G (σ ++ R) w ∧ (insideL f1 s.solved h a b (u.kids.drop k) = some (a0, b0)) ∧ (f1 ≤ f) ∧ (k ≤ u.kids.length) ∧ u.kids.length - k = m) (u.kids.length - 0) ⟨0, f, u.num == h, u.kind == 4, ⟨e_, e_, e_, e_, e_, e_, e_, trivial⟩, rfl, H, hin, Nat.le_refl _, Nat.zero_le _, rfl⟩ ?_
  clear H; rintro m9 ρ D w1 ⟨k, f1, a, b, hE10, rfl, H, hin, hf1, hkk, hm11⟩
  refine W_env hE10 ?_;refine W_sr [(.p, 0)] H ?_;refine r_z [(39, .bool (decide ((((k : Nat) : Int)) < (((u.kids.length : Nat) : Int)))))] ?_;refine W_seq ?_;refine W_cd (b := decide ((((k : Nat) : Int)) < (((u.kids.length : Nat) : Int)))) (fun hc12 => ?_) (fun hc12 => ?_)
  ·skip
   have hlt : k < u.kids.length := by have := of_decide_eq_true hc12; omega
   obtain ⟨q, hq⟩ := get_of_lt hlt
   have hstk := H
   obtain ⟨eb, eo, qb, rfl, hc0, hqt⟩ := htk6.elem hq
   have H := hstk; clear hstk
   obtain _ | f1 := f1
   ·cases hin
   unfold insideL at hin
   rw [drop_cons hq] at hin;obtain ⟨⟨r1, r2⟩, hr1, hin⟩ := Option.bind_eq_some_iff.1 hin;refine W_skip ?_;refine W_seq ?_;refine W_block ?_;refine W_sr [(.p, 0), (.l, 1), (.p, 2)] H ?_;refine m_idx (sz := 1) (b := eb) (off := eo) (n := u.kids.length) (c := tc3) (k := k) (some 40) (show opAt _ _ _ = some (.indexAddr 102 (.tmp 36) (.tmp 38), _) by kernel_rfl) e_ e_ Try.underlying102 sz106 hlt ?_;refine r_x [1] [(41, pN qb 0), (9, pN qb 0)] (rc_C hc0 rc_nil) ?_;refine W_sr [(.p, 0), (.p, 1), (.p, 2), (.f, 3), (.p, 4), (.p, 5), (.p, 6), (.p, 7), (.p, 8)] H ?_;refine r_y [(.p, 0), (.p, 1), (.p, 2)] [(43, pN sb 0), (44, iN h), (45, pN qb 0)] ?_;refine m_cl #[pN sb 0, iN h, pN qb 0] (some 46) (ih f1 (by omega) hS H hqt hr1) ?_;rintro _ w1 ⟨rfl, H⟩;refine nx H ?_;refine r_z [(42, .tuple #[.bool r1, .bool r2]), (47, .bool r1), (48, .bool r2), (10, .bool r1), (11, .bool r2)] ?_;refine W_rg [(.p, 0), (.p, 1), (.p, 2), (.p, 3), (.p, 4), (.p, 5), (.p, 6), (.p, 7), (.p, 8), (.p, 9)] H ?_;refine r_y [(.p, 0), (.p, 1)] [(49, .bool a), (50, .bool a)] ?_;cases a
   ·skip
    refine r_y [(.p, 2), (.p, 3), (.p, 4), (.p, 5)] [(51, .bool r1), (52, .bool r1), (53, .bool b), (54, .bool b)] ?_;cases b
    ·skip
     refine r_z [(55, .bool r2), (56, .bool r2), (6, .bool r1), (7, .bool r2)] ?_;refine W_rg (pL 2) H ?_;refine r_z [(57, iN (IntKind.wrap .i64 ((((k : Nat) : Int)) + 1))), (38, iN (IntKind.wrap .i64 ((((k : Nat) : Int)) + 1)))] ?_
     exact ⟨_, (by omega), k + 1, f1, r1, r2, ⟨e_, e_, e_, e_, e_, e_, (by rw [← wrap_succ (k := k) (by omega)]; kernel_rfl), trivial⟩, rfl, H, hin, (by omega), hlt, rfl⟩
    refine r_z [(55, undef), (56, .bool true), (6, .bool r1), (7, .bool true)] ?_;refine W_rg (pL 2) H ?_;refine r_z [(57, iN (IntKind.wrap .i64 ((((k : Nat) : Int)) + 1))), (38, iN (IntKind.wrap .i64 ((((k : Nat) : Int)) + 1)))] ?_
    exact ⟨_, (by omega), k + 1, f1, r1, true, ⟨e_, e_, e_, e_, e_, e_, (by rw [← wrap_succ (k := k) (by omega)]; kernel_rfl), trivial⟩, rfl, H, hin, (by omega), hlt, rfl⟩
   refine r_y [(.p, 2), (.p, 3), (.p, 4), (.p, 5)] [(51, undef), (52, .bool true), (53, .bool b), (54, .bool b)] ?_;cases b
   ·skip
    refine r_z [(55, .bool r2), (56, .bool r2), (6, .bool true), (7, .bool r2)] ?_;refine W_rg (pL 2) H ?_;refine r_z [(57, iN (IntKind.wrap .i64 ((((k : Nat) : Int)) + 1))), (38, iN (IntKind.wrap .i64 ((((k : Nat) : Int)) + 1)))] ?_
    exact ⟨_, (by omega), k + 1, f1, true, r2, ⟨e_, e_, e_, e_, e_, e_, (by rw [← wrap_succ (k := k) (by omega)]; kernel_rfl), trivial⟩, rfl, H, hin, (by omega), hlt, rfl⟩
   refine r_z [(55, undef), (56, .bool true), (6, .bool true), (7, .bool true)] ?_;refine W_rg (pL 2) H ?_;refine r_z [(57, iN (IntKind.wrap .i64 ((((k : Nat) : Int)) + 1))), (38, iN (IntKind.wrap .i64 ((((k : Nat) : Int)) + 1)))] ?_
   exact ⟨_, (by omega), k + 1, f1, true, true, ⟨e_, e_, e_, e_, e_, e_, (by rw [← wrap_succ (k := k) (by omega)]; kernel_rfl), trivial⟩, rfl, H, hin, (by omega), hlt, rfl⟩
  have hge : k = u.kids.length := by have := of_decide_eq_false hc12; omega
  obtain _ | f1 := f1
  ·cases hin
  unfold insideL at hin
  rw [List.drop_of_length_le (by omega)] at hin;simp only [o_j, p_j] at hin;obtain ⟨rfl, rfl⟩ := hin;refine W_exit ?_;refine W_ret ?_;refine q_rt [] [] (.tuple #[.bool a, .bool b]) rc_nil H ?_
  exact ⟨rfl, H⟩
 rw [hc8];refine r_x [1] [(21, undef), (22, undef), (23, undef), (24, undef), (25, undef), (26, undef), (27, .bool false), (28, pN tb1 0), (29, pN tb1 0), (30, pN tb1 0), (31, iN u.kind), (32, .bool (u.kind == 4)), (6, .bool false), (7, .bool (u.kind == 4))] (rc_g 0 htb4 rfl rc_nil) ?_;refine W_seq ?_;refine W_seq ?_
 have e1 : decide (u.kind = 6 ∧ u.num = h) = false := by have hx : ¬ u.kind = 6 := (by simpa using hc8); simp [hx]
 have e2 : decide (u.kind = 4) = (u.kind == 4) := by rw [Bool.eq_iff_iff]; simp
 rw [e1, e2] at hin;refine W_rg [(.p, 0), (.p, 1), (.p, 2), (.l, 3), (.p, 4), (.p, 5)] H ?_;refine r_x [1] [(33, pN tb1 0), (34, pN tb1 0), (35, pN tb1 2), (36, .slice tA2 u.kids.length tc3), (37, nN u.kids.length), (38, iN 0)] (rc_g 2 htb4 rfl rc_nil) ?_;refine W_block ?_;refine W_loop (fun m ρ D w => ∃ (k : Nat) (f1 : Nat) (a : Bool) (b : Bool), EqS ρ [(0, pN sb 0), (1, iN h), (6, .bool a), (7, .bool b), (36, .slice tA2 u.kids.length tc3), (37, iN (((u.kids.length : Nat) : Int))), (38, iN (((k : Nat) : Int)))] ∧ D = [] ∧ St G (σ ++ R) w ∧ (insideL f1 s.solved h a b (u.kids.drop k) = some (a0, b0)) ∧ (f1 ≤ f) ∧ (k ≤ u.kids.length) ∧ u.kids.length - k = m) (u.kids.length - 0) ⟨0, f, false, u.kind == 4, ⟨e_, e_, e_, e_, e_, e_, e_, trivial⟩, rfl, H, hin, Nat.le_refl _, Nat.zero_le _, rfl⟩ ?_
 clear H; rintro m16 ρ D w1 ⟨k, f1, a, b, hE17, rfl, H, hin, hf1, hkk, hm18⟩
 refine W_env hE17 ?_;refine W_sr [(.p, 0)] H ?_;refine r_z [(39, .bool (decide ((((k : Nat) : Int)) < (((u.kids.length : Nat) : Int)))))] ?_;refine W_seq ?_;refine W_cd (b := decide ((((k : Nat) : Int)) < (((u.kids.length : Nat) : Int)))) (fun hc19 => ?_) (fun hc19 => ?_)
 ·skip
  have hlt : k < u.kids.length := by have := of_decide_eq_true hc19; omega
  obtain ⟨q, hq⟩ := get_of_lt hlt
  have hstk := H
  obtain ⟨eb, eo, qb, rfl, hc0, hqt⟩ := htk6.elem hq
  have H := hstk; clear hstk
  obtain _ | f1 := f1
  ·cases hin
  unfold insideL at hin
  rw [drop_cons hq] at hin;obtain ⟨⟨r1, r2⟩, hr1, hin⟩ := Option.bind_eq_some_iff.1 hin;refine W_skip ?_;refine W_seq ?_;refine W_block ?_;refine W_sr [(.p, 0), (.l, 1), (.p, 2)] H ?_;refine m_idx (sz := 1) (b := eb) (off := eo) (n := u.kids.length) (c := tc3) (k := k) (some 40) (show opAt _ _ _ = some (.indexAddr 102 (.tmp 36) (.tmp 38), _) by kernel_rfl) e_ e_ Try.underlying102 sz106 hlt ?_;refine r_x [1] [(41, pN qb 0), (9, pN qb 0)] (rc_C hc0 rc_nil) ?_;refine W_sr [(.p, 0), (.p, 1), (.p, 2), (.f, 3), (.p, 4), (.p, 5), (.p, 6), (.p, 7), (.p, 8)] H ?_;refine r_y [(.p, 0), (.p, 1), (.p, 2)] [(43, pN sb 0), (44, iN h), (45, pN qb 0)] ?_;refine m_cl #[pN sb 0, iN h, pN qb 0] (some 46) (ih f1 (by omega) hS H hqt hr1) ?_;rintro _ w1 ⟨rfl, H⟩;refine nx H ?_;refine r_z [(42, .tuple #[.bool r1, .bool r2]), (47, .bool r1), (48, .bool r2), (10, .bool r1), (11, .bool r2)] ?_;refine W_rg [(.p, 0), (.p, 1), (.p, 2), (.p, 3), (.p, 4), (.p, 5), (.p, 6), (.p, 7), (.p, 8), (.p, 9)] H ?_;refine r_y [(.p, 0), (.p, 1)] [(49, .bool a), (50, .bool a)] ?_;cases a
  ·skip
   refine r_y [(.p, 2), (.p, 3), (.p, 4), (.p, 5)] [(51, .bool r1), (52, .bool r1), (53, .bool b), (54, .bool b)] ?_;cases b
   ·skip
    refine r_z [(55, .bool r2), (56, .bool r2), (6, .bool r1), (7, .bool r2)] ?_;refine W_rg (pL 2) H ?_;refine r_z [(57, iN (IntKind.wrap .i64 ((((k : Nat) : Int)) + 1))), (38, iN (IntKind.wrap .i64 ((((k : Nat) : Int)) + 1)))] ?_
    exact ⟨_, (by omega), k + 1, f1, r1, r2, ⟨e_, e_, e_, e_, e_, e_, (by rw [← wrap_succ (k := k) (by omega)]; kernel_rfl), trivial⟩, rfl, H, hin, (by omega), hlt, rfl⟩
   refine r_z [(55, undef), (56, .bool true), (6, .bool r1), (7, .bool true)] ?_;refine W_rg (pL 2) H ?_;refine r_z [(57, iN (IntKind.wrap .i64 ((((k : Nat) : Int)) + 1))), (38, iN (IntKind.wrap .i64 ((((k : Nat) : Int)) + 1)))] ?_
   exact ⟨_, (by omega), k + 1, f1, r1, true, ⟨e_, e_, e_, e_, e_, e_, (by rw [← wrap_succ (k := k) (by omega)]; kernel_rfl), trivial⟩, rfl, H, hin, (by omega), hlt, rfl⟩
  refine r_y [(.p, 2), (.p, 3), (.p, 4), (.p, 5)] [(51, undef), (52, .bool true), (53, .bool b), (54, .bool b)] ?_;cases b
  ·skip
   refine r_z [(55, .bool r2), (56, .bool r2), (6, .bool true), (7, .bool r2)] ?_;refine W_rg (pL 2) H ?_;refine r_z [(57, iN (IntKind.wrap .i64 ((((k : Nat) : Int)) + 1))), (38, iN (IntKind.wrap .i64 ((((k : Nat) : Int)) + 1)))] ?_
   exact ⟨_, (by omega), k + 1, f1, true, r2, ⟨e_, e_, e_, e_, e_, e_, (by rw [← wrap_succ (k := k) (by omega)]; kernel_rfl), trivial⟩, rfl, H, hin, (by omega), hlt, rfl⟩
  refine r_z [(55, undef), (56, .bool true), (6, .bool true), (7, .bool true)] ?_;refine W_rg (pL 2) H ?_;refine r_z [(57, iN (IntKind.wrap .i64 ((((k : Nat) : Int)) + 1))), (38, iN (IntKind.wrap .i64 ((((k : Nat) : Int)) + 1)))] ?_
  exact ⟨_, (by omega), k + 1, f1, true, true, ⟨e_, e_, e_, e_, e_, e_, (by rw [← wrap_succ (k := k) (by omega)]; kernel_rfl), trivial⟩, rfl, H, hin, (by omega), hlt, rfl⟩
 have hge : k = u.kids.length := by have := of_decide_eq_false hc19; omega
 obtain _ | f1 := f1
 ·cases hin
 unfold insideL at hin
 rw [List.drop_of_length_le (by omega)] at hin;simp only [o_j, p_j] at hin;obtain ⟨rfl, rfl⟩ := hin;refine W_exit ?_;refine W_ret ?_;refine q_rt [] [] (.tuple #[.bool a, .bool b]) rc_nil H ?_
 exact ⟨rfl, H⟩

end Go.Proofs.Ytjgnhhgigickaaa.Wk
