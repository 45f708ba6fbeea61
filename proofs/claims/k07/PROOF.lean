import PyProof.Rows.All
import Wide.All
import OpenK.AllK
import Wide.FinOn
import PySem.Challenge.RW_everywish_k07_texts_refused
import HandS.ForMost
import HandS.IsInst
import HandS.Deep
import KE.KSortKeyAny
import HandS.Rev
import HandS.Conv
import HandS.Iter
import PyProof.Draws
import HandS.Text
import HandS.WordsExc
import HandS.ExcIs
import HandS.Codes
import KE.GoesRaise
set_option Elab.async false
set_option linter.all false
set_option maxRecDepth 100000
set_option maxHeartbeats 8000000
/-! Plain data for the values of a program, and for each construct a plain function that tells what it yields. -/
namespace Dn
open PySem PySem.Spec PyProof.Rows L2

/-- plain data: fz is the script -/
inductive D where
  | non | bl (b : Bool) | int (i : Int) | str (x : Str) | lst (xs : List D) | tup (xs : List D) | fz (ns : List Int)

mutual
def D.py : D → PyData
  | .non => .none
  | .bl b => .bool b
  | .int i => .int i
  | .str x => .str x
  | .lst xs => .list (D.pys xs)
  | .tup xs => .tuple (D.pys xs)
  | .fz ns => .list (ns.map .int)
def D.pys : List D → List PyData
  | [] => []
  | x :: xs => D.py x :: D.pys xs
end

mutual
inductive Rp (K : PySem.W.Frag) (H : Hp) : V → D → Prop
  | non : Rp K H .non .non
  | bl (b : Bool) : Rp K H (.bl b) (.bl b)
  | int (i : Int) : Rp K H (.int i) (.int i)
  | str (x : Str) : Rp K H (.str x) (.str x)
  | lst {a : Addr} {xs : List V} {ds : List D} : H a = some (.lst xs) → RpAll K H xs ds → Rp K H (.ref a) (.lst ds)
  | tup {a : Addr} {xs : List V} {ds : List D} : H a = some (.tup xs) → RpAll K H xs ds → Rp K H (.ref a) (.tup ds)
  | fz {a : Addr} {ns : List Int} : SqL K H a (ns.map V.int) → Rp K H (.ref a) (.fz ns)
inductive RpAll (K : PySem.W.Frag) (H : Hp) : List V → List D → Prop
  | nil : RpAll K H [] []
  | cons {v : V} {vs : List V} {d : D} {ds : List D} : Rp K H v d → RpAll K H vs ds → RpAll K H (v :: vs) (d :: ds)
end

mutual
theorem Rp.mono {K : PySem.W.Frag} {H H' : Hp} (e : Same H H') : ∀ (d : D) (v : V), Rp K H v d → Rp K H' v d
  | _, _, .non => .non
  | _, _, .bl b => .bl b
  | _, _, .int i => .int i
  | _, _, .str x => .str x
  | .lst ds, _, .lst h r => .lst (e _ _ h) (RpAll.mono e ds _ r)
  | .tup ds, _, .tup h r => .tup (e _ _ h) (RpAll.mono e ds _ r)
  | _, _, .fz h => .fz (e.seq h)
theorem RpAll.mono {K : PySem.W.Frag} {H H' : Hp} (e : Same H H') : ∀ (ds : List D) (vs : List V), RpAll K H vs ds → RpAll K H' vs ds
  | [], _, .nil => .nil
  | d :: ds, _, .cons h r => .cons (Rp.mono e d _ h) (RpAll.mono e ds _ r)
end

theorem dpInts {K : PySem.W.Frag} {H : Hp} : ∀ ns : List Int, DpAll K H (ns.map V.int) (ns.map PyData.int)
  | [] => .nil
  | n :: ns => .cons (.int n) (dpInts ns)
mutual
theorem Rp.dp {K : PySem.W.Frag} {H : Hp} : ∀ (d : D) (v : V), Rp K H v d → Dp K H v d.py
  | _, _, .non => .non
  | _, _, .bl b => .bl b
  | _, _, .int i => .int i
  | _, _, .str x => .str x
  | .lst ds, _, .lst h r => .lst (SqL.of h) (RpAll.dp ds _ r)
  | .tup ds, _, .tup h r => .tup (SqT.of h) (RpAll.dp ds _ r)
  | _, _, .fz h => .lst h (dpInts _)
theorem RpAll.dp {K : PySem.W.Frag} {H : Hp} : ∀ (ds : List D) (vs : List V), RpAll K H vs ds → DpAll K H vs (D.pys ds)
  | [], _, .nil => .nil
  | d :: ds, _, .cons h r => .cons (Rp.dp d _ h) (RpAll.dp ds _ r)
end

section
variable {K : PySem.W.Frag} {H : Hp}
theorem RpAll.length : ∀ {vs : List V} {ds : List D}, RpAll K H vs ds → vs.length = ds.length
  | _, _, .nil => rfl
  | _, _, .cons _ r => congrArg (· + 1) (RpAll.length r)
theorem RpAll.get : ∀ {vs : List V} {ds : List D} {i : Nat} {d : D}, RpAll K H vs ds → ds[i]? = some d → ∃ v, vs[i]? = some v ∧ Rp K H v d
  | _, _, 0, _, .cons h _, e => by
    have e' := Option.some.inj e
    subst e'
    exact ⟨_, rfl, h⟩
  | _, _, i + 1, _, .cons _ r, e => RpAll.get (i := i) r e
theorem RpAll.append : ∀ {vs ws : List V} {ds es : List D}, RpAll K H vs ds → RpAll K H ws es → RpAll K H (vs ++ ws) (ds ++ es)
  | _, _, _, _, .nil, s => s
  | _, _, _, _, .cons h r, s => .cons h (RpAll.append r s)
theorem RpAll.take : ∀ {vs : List V} {ds : List D} (n : Nat), RpAll K H vs ds → RpAll K H (vs.take n) (ds.take n)
  | _, _, 0, _ => .nil
  | _, _, _ + 1, .nil => .nil
  | _, _, n + 1, .cons h r => .cons h (RpAll.take n r)
theorem RpAll.drop : ∀ {vs : List V} {ds : List D} (n : Nat), RpAll K H vs ds → RpAll K H (vs.drop n) (ds.drop n)
  | _, _, 0, r => r
  | _, _, _ + 1, .nil => .nil
  | _, _, n + 1, .cons _ r => RpAll.drop n r
theorem RpAll.rep {vs : List V} {ds : List D} (r : RpAll K H vs ds) : ∀ n : Nat, RpAll K H (List.replicate n vs).flatten (List.replicate n ds).flatten
  | 0 => .nil
  | n + 1 => by
    rw [List.replicate_succ, List.replicate_succ, List.flatten_cons, List.flatten_cons]
    exact r.append (RpAll.rep r n)
theorem RpAll.reverse : ∀ {vs : List V} {ds : List D}, RpAll K H vs ds → RpAll K H vs.reverse ds.reverse
  | _, _, .nil => .nil
  | _, _, .cons h r => by
    rw [List.reverse_cons, List.reverse_cons]
    exact (RpAll.reverse r).append (.cons h .nil)
theorem RpAll.ints : ∀ {vs : List V} {ns : List Int}, RpAll K H vs (ns.map D.int) → vs = ns.map V.int
  | _, [], .nil => rfl
  | _, n :: ns, .cons h r => by
    cases h
    rw [RpAll.ints r]
    rfl
theorem RpAll.ofInts : ∀ ns : List Int, RpAll K H (ns.map V.int) (ns.map D.int)
  | [] => .nil
  | n :: ns => .cons (.int n) (RpAll.ofInts ns)
theorem RpAll.strs : ∀ {vs : List V} {ns : List Str}, RpAll K H vs (ns.map D.str) → vs = ns.map V.str
  | _, [], .nil => rfl
  | _, n :: ns, .cons h r => by
    cases h
    rw [RpAll.strs r]
    rfl
theorem RpAll.ofStrs : ∀ ns : List Str, RpAll K H (ns.map V.str) (ns.map D.str)
  | [] => .nil
  | n :: ns => .cons (.str n) (RpAll.ofStrs ns)
theorem RpAll.bls : ∀ {vs : List V} {ns : List Bool}, RpAll K H vs (ns.map D.bl) → vs = ns.map V.bl
  | _, [], .nil => rfl
  | _, n :: ns, .cons h r => by
    cases h
    rw [RpAll.bls r]
    rfl
end

/-- from a stable part Hs of the heap H on: both grow; nothing that stood outside the stable part comes into it -/
structure Step (Hs H Hs' H' : Hp) : Prop where
  s : Same Hs Hs'
  e : Same H H'
  i : Same Hs' H'
  f : ∀ a, H a ≠ none → Hs' a = Hs a
section
variable {Hs H Hs1 H1 Hs2 H2 : Hp}
theorem Step.refl (i : Same Hs H) : Step Hs H Hs H := ⟨Same.refl _, Same.refl _, i, fun _ _ => rfl⟩
theorem Step.trans (a : Step Hs H Hs1 H1) (b : Step Hs1 H1 Hs2 H2) : Step Hs H Hs2 H2 :=
  ⟨a.s.trans b.s, a.e.trans b.e, b.i, fun x hx => (b.f x (fun z => hx (a.e.free z))).trans (a.f x hx)⟩
theorem Step.grow (i : Same Hs H) (e : Same H H1) : Step Hs H Hs H1 := ⟨Same.refl _, e, i.trans e, fun _ _ => rfl⟩
theorem same_new {H : Hp} {p : Addr} (h : H p = none) (o : HO) : Same H (upd H p o) := fun b u q => by rw [upd_ne (ne_of_none q h)]; exact q
theorem same_upd2 {Hs H : Hp} (i : Same Hs H) (p : Addr) (o : HO) : Same (upd Hs p o) (upd H p o) := fun b u q => by
  by_cases hb : b = p
  · subst hb
    rw [upd_same] at q ⊢
    exact q
  · rw [upd_ne hb] at q ⊢
    exact i _ _ q
theorem Step.new {p : Addr} (i : Same Hs H) (h : H p = none) (o : HO) : Step Hs H (upd Hs p o) (upd H p o) :=
  ⟨same_new (i.free h) o, same_new h o, same_upd2 i p o, fun a ha => upd_ne (fun z => ha (by rw [z]; exact h))⟩
end

inductive Slot where
  | no | val (d : D) | own (ds : List D) | par (ds : List D) | view (ds : List D)
abbrev Ro := List Slot

def VR (K : PySem.W.Frag) (Hs : Hp) (σ : L2.St) (ρ : Ro) : Prop := σ.length = ρ.length ∧ ∀ (i : Nat) (d : D), ρ[i]? = some (.val d) → ∃ v, σ[i]? = some (some v) ∧ Rp K Hs v d
theorem VR.mono {K : PySem.W.Frag} {Hs Hs' : Hp} {σ : L2.St} {ρ : Ro} (h : VR K Hs σ ρ) (e : Same Hs Hs') : VR K Hs' σ ρ := ⟨h.1, fun i d hd => by
  obtain ⟨v, h1, h2⟩ := h.2 i d hd
  exact ⟨v, h1, Rp.mono e _ _ h2⟩⟩
theorem VR.set {K : PySem.W.Frag} {Hs : Hp} {σ : L2.St} {ρ : Ro} (h : VR K Hs σ ρ) (j : Nat) {v : V} {d : D} (r : Rp K Hs v d) : VR K Hs (σ.set j (some v)) (ρ.set j (.val d)) := by
  refine ⟨by rw [List.length_set, List.length_set]; exact h.1, fun i e he => ?_⟩
  by_cases hi : j = i
  · subst hi
    rw [List.getElem?_set] at he ⊢
    simp only [if_true] at he ⊢
    by_cases hl : j < ρ.length
    · rw [if_pos hl] at he
      rw [if_pos (by rw [h.1]; exact hl)]
      cases he
      exact ⟨v, rfl, r⟩
    · rw [if_neg hl] at he
      cases he
  · rw [List.getElem?_set_ne hi] at he ⊢
    exact h.2 i e he
theorem VR.wipe {K : PySem.W.Frag} {Hs : Hp} {σ : L2.St} {ρ : Ro} (h : VR K Hs σ ρ) (j : Nat) : VR K Hs (L2.wipe σ [j]) (ρ.set j .no) := by
  refine ⟨by rw [wipe_length, List.length_set]; exact h.1, fun i e he => ?_⟩
  show ∃ v, (σ.set j none)[i]? = some (some v) ∧ Rp K Hs v e
  by_cases hi : j = i
  · subst hi
    rw [List.getElem?_set] at he
    simp only [if_true] at he
    split at he
    · cases he
    · cases he
  · rw [List.getElem?_set_ne hi] at he ⊢
    exact h.2 i e he

/-! ### readings by plain functions -/
def tD (K : PySem.W.Frag) (f : Ro → Option D) : TE := fun σ H Q => ∃ ρ Hs d, VR K Hs σ ρ ∧ Same Hs H ∧ f ρ = some d ∧ ∀ v Hs' H', Step Hs H Hs' H' → Rp K Hs' v d → Q v H'
def tDT (K : PySem.W.Frag) (f : Ro → Option Bool) : TT := fun σ H Q => ∃ ρ Hs b, VR K Hs σ ρ ∧ Same Hs H ∧ f ρ = some b ∧ ∀ H', Same H H' → Q b H'
def tDA (K : PySem.W.Frag) (f : Ro → Option (List D)) : TA := fun σ H Q => ∃ ρ Hs ds, VR K Hs σ ρ ∧ Same Hs H ∧ f ρ = some ds ∧ ∀ vs Hs' H', Step Hs H Hs' H' → RpAll K Hs' vs ds → Q vs H'
def tDO (K : PySem.W.Frag) (f : Ro → Option (Option Int)) : TO := fun σ H Q => ∃ ρ Hs o, VR K Hs σ ρ ∧ Same Hs H ∧ f ρ = some o ∧ ∀ Hs' H', Step Hs H Hs' H' → Q o H'

section
variable {X : Cx} {e : Expr} {es : List Expr}
theorem pe_of {t t' : TE} (h : PE X e t) (m : ∀ σ H Q, t' σ H Q → t σ H Q) : PE X e t' := ⟨fun pins s σ H Q I hq => h.run pins s σ H Q I (m _ _ _ hq)⟩
theorem pt_of {t t' : TT} (h : PT X e t) (m : ∀ σ H Q, t' σ H Q → t σ H Q) : PT X e t' := ⟨fun pins s σ H Q I hq => h.run pins s σ H Q I (m _ _ _ hq)⟩
theorem pw_of {t t' : TT} (h : PW X e t) (m : ∀ σ H Q, t' σ H Q → t σ H Q) : PW X e t' := ⟨fun wh pins s σ H Q I hq => h.run wh pins s σ H Q I (m _ _ _ hq)⟩
theorem pa_of {t t' : TA} (h : PA X es t) (m : ∀ σ H Q, t' σ H Q → t σ H Q) : PA X es t' := ⟨fun pos pins s σ H Q I hq => h.run pos pins s σ H Q I (m _ _ _ hq)⟩
theorem po_of {o : Option Expr} {t t' : TO} (h : PO X o t) (m : ∀ σ H Q, t' σ H Q → t σ H Q) : PO X o t' := ⟨fun pins s σ H Q I hq => h.run pins s σ H Q I (m _ _ _ hq)⟩
theorem ps_of {st : Stmt} {t t' : TS} (h : PS X st t) (m : ∀ E σ H, t' E σ H → t E σ H) : PS X st t' := ⟨fun pins s σ H E I hq => h.run pins s σ H E I (m _ _ _ hq)⟩
theorem pss_of {st : List Stmt} {t t' : TS} (h : PSs X st t) (m : ∀ E σ H, t' E σ H → t E σ H) : PSs X st t' := ⟨fun pins s σ H E I hq => h.run pins s σ H E I (m _ _ _ hq)⟩
theorem pi_of {tg : Expr} {t t' : TI} (h : PI X tg e t) (m : ∀ σ H Q, t' σ H Q → t σ H Q) : PI X tg e t' := ⟨fun pins s σ H R I hq => h.run pins s σ H R I (m _ _ _ hq)⟩
end

/-! ### names, constants -/
def varF (i : Nat) : Ro → Option D := fun ρ => match ρ[i]? with | some (.val d) => some d | _ => none
def cF (d : D) : Ro → Option D := fun _ => some d
section
variable {X : Cx} {pos : Pos}
theorem d_var (i : Nat) {x : Str} (hN : X.N[i]? = some x := by rfl) (hv : Vis X.env.scope x := by first | exact Or.inl rfl | exact Or.inr (Or.inl rfl) | exact Or.inr (Or.inr rfl)) (hd : (x == ("__debug__" : Str)) = false := by decide)
    (hcd : (x == ("__classdict__" : Str)) = false := by decide) : PE X (.Name x pos) (tD X.K (varF i)) := by
  refine pe_of (pe_var hN hv hd hcd) fun σ H Q h => ?_
  obtain ⟨ρ, Hs, d, vr, sm, hf, k⟩ := h
  unfold varF at hf
  split at hf
  · rename_i d' hd'
    cases hf
    obtain ⟨v, h1, h2⟩ := vr.2 i d hd'
    exact ⟨v, h1, k v Hs H (Step.refl sm) h2⟩
  · cases hf
theorem d_const {K : PySem.W.Frag} {v : V} {d : D} (hr : ∀ H, Rp K H v d) : ∀ (σ : L2.St) (H : Hp) (Q : VK), tD K (cF d) σ H Q → tC v σ H Q := fun σ H Q h => by
  obtain ⟨ρ, Hs, d', vr, sm, hf, k⟩ := h
  cases hf
  exact k v Hs H (Step.refl sm) (hr _)
theorem d_int {i : Int} {j : Nat} : PE X (.Constant (.int i) j pos) (tD X.K (cF (.int i))) := pe_of pe_int (d_const fun _ => .int i)
theorem d_bl {b : Bool} {j : Nat} : PE X (.Constant (.bool b) j pos) (tD X.K (cF (.bl b))) := pe_of pe_bl (d_const fun _ => .bl b)
theorem d_non {j : Nat} : PE X (.Constant .none j pos) (tD X.K (cF .non)) := pe_of pe_non (d_const fun _ => .non)
theorem d_str {x : Str} {j : Nat} : PE X (.Constant (.str x) j pos) (tD X.K (cF (.str x))) := pe_of pe_str (d_const fun _ => .str x)
end

/-! ### operations of two and of one -/
def biF (g : D → D → Option D) (fa fb : Ro → Option D) : Ro → Option D := fun ρ => match fa ρ with
  | some x => (match fb ρ with | some y => g x y | none => none)
  | none => none
def un (g : D → Option D) (fa : Ro → Option D) : Ro → Option D := fun ρ => match fa ρ with | some x => g x | none => none
/-- the rule r of values is served by g -/
def R2ok (K : PySem.W.Frag) (r : R2) (g : D → D → Option D) : Prop := ∀ (Hs H : Hp) (x y : V) (dx dy d : D) (Q : VK), Same Hs H → Rp K Hs x dx → Rp K Hs y dy → g dx dy = some d →
  (∀ v Hs' H', Step Hs H Hs' H' → Rp K Hs' v d → Q v H') → r x y H Q
def U1ok (K : PySem.W.Frag) (r : V → Hp → VK → Prop) (g : D → Option D) : Prop := ∀ (Hs H : Hp) (x : V) (dx d : D) (Q : VK), Same Hs H → Rp K Hs x dx → g dx = some d →
  (∀ v Hs' H', Step Hs H Hs' H' → Rp K Hs' v d → Q v H') → r x H Q
theorem tD_bin {K : PySem.W.Frag} {r : R2} {g : D → D → Option D} {fa fb : Ro → Option D} (hr : R2ok K r g) : ∀ (σ : L2.St) (H : Hp) (Q : VK), tD K (biF g fa fb) σ H Q → tOp r (tD K fa) (tD K fb) σ H Q := fun σ H Q h => by
  obtain ⟨ρ, Hs, d, vr, sm, hf, k⟩ := h
  unfold biF at hf
  cases ha : fa ρ with
  | none => rw [ha] at hf; cases hf
  | some x =>
    cases hb : fb ρ with
    | none => rw [ha, hb] at hf; cases hf
    | some y =>
      rw [ha, hb] at hf
      refine ⟨ρ, Hs, x, vr, sm, ha, fun v Hs1 H1 s1 r1 => ⟨ρ, Hs1, y, vr.mono s1.s, s1.i, hb, fun u Hs2 H2 s2 r2 => ?_⟩⟩
      exact hr Hs2 H2 v u x y d Q s2.i (Rp.mono s2.s _ _ r1) r2 hf fun w Hs3 H3 s3 r3 => k w Hs3 H3 ((s1.trans s2).trans s3) r3
theorem tD_un {K : PySem.W.Frag} {r : V → Hp → VK → Prop} {g : D → Option D} {fa : Ro → Option D} (hr : U1ok K r g) : ∀ (σ : L2.St) (H : Hp) (Q : VK), tD K (un g fa) σ H Q → tUn r (tD K fa) σ H Q := fun σ H Q h => by
  obtain ⟨ρ, Hs, d, vr, sm, hf, k⟩ := h
  unfold un at hf
  cases ha : fa ρ with
  | none => rw [ha] at hf; cases hf
  | some x =>
    rw [ha] at hf
    exact ⟨ρ, Hs, x, vr, sm, ha, fun v Hs1 H1 s1 r1 => hr Hs1 H1 v x d Q s1.i r1 hf fun w Hs3 H3 s3 r3 => k w Hs3 H3 (s1.trans s3) r3⟩

def sz : Nat := 16777216
theorem sz_le {n : Nat} (h : n ≤ sz) : n ≤ sizeLine := by rw [sizeLine_eq]; exact h
theorem sz_lt {n : Nat} (h : n < sz) : n < sizeLine := by rw [sizeLine_eq]; exact h
def gAdd : D → D → Option D
  | .int i, .int j => some (.int (i + j))
  | .str x, .str y => if x.length + y.length ≤ sz then some (.str (x ++ y)) else none
  | .lst x, .lst y => if x.length + y.length ≤ sz then some (.lst (x ++ y)) else none
  | _, _ => none
def gMinus : D → D → Option D
  | .int i, .int j => some (.int (i - j))
  | _, _ => none
def gDiv : D → D → Option D
  | .int i, .int j => if 0 < j ∧ j < 1073741824 then some (.int (i / j)) else none
  | _, _ => none
def gMod : D → D → Option D
  | .int i, .int j => if 0 < j then some (.int (i % j)) else none
  | _, _ => none
def gLt : D → D → Option D
  | .int i, .int j => some (.bl (decide (i < j)))
  | _, _ => none
def gLe : D → D → Option D
  | .int i, .int j => some (.bl (decide (i ≤ j)))
  | _, _ => none
def gGt : D → D → Option D
  | .int i, .int j => some (.bl (decide (j < i)))
  | _, _ => none
def gGe : D → D → Option D
  | .int i, .int j => some (.bl (decide (j ≤ i)))
  | _, _ => none
def okD (d : D) : Bool := SeqAt.shaped d.py
def eqD (x y : D) : Bool := PyData.eqv x.py y.py
def gEq (x y : D) : Option D := if okD x = true ∧ okD y = true then some (.bl (eqD x y)) else none
def gNe (x y : D) : Option D := if okD x = true ∧ okD y = true then some (.bl (!eqD x y)) else none
def gNeg : D → Option D
  | .int i => some (.int (-i))
  | _ => none

section
variable {K : PySem.W.Frag}
theorem u_neg : U1ok K (rU fun i => .int (-i)) gNeg := fun Hs H x dx d Q sm rx hg k => by
  unfold gNeg at hg
  split at hg
  · cases hg
    cases rx
    exact ⟨_, rfl, k _ Hs H (Step.refl sm) (.int _)⟩
  · cases hg
theorem r_sub : R2ok K (rI0 fun i j => .int (i - j)) gMinus := fun Hs H x y dx dy d Q sm rx ry hg k => by
  unfold gMinus at hg
  split at hg
  · cases hg
    cases rx
    cases ry
    exact ⟨_, _, rfl, rfl, k _ Hs H (Step.refl sm) (.int _)⟩
  · cases hg
theorem r_cmp {p : Int → Int → Bool} {g : D → D → Option D} (hg : ∀ x y d, g x y = some d → ∃ i j, x = .int i ∧ y = .int j ∧ d = .bl (p i j)) : R2ok K (rI0 fun i j => .bl (p i j)) g := fun Hs H x y dx dy d Q sm rx ry hg' k => by
  obtain ⟨i, j, rfl, rfl, rfl⟩ := hg dx dy d hg'
  cases rx
  cases ry
  exact ⟨_, _, rfl, rfl, k _ Hs H (Step.refl sm) (.bl _)⟩
theorem r_lt : R2ok K (rI0 fun i j => .bl (decide (i < j))) gLt := r_cmp fun x y d h => by
  unfold gLt at h
  split at h
  · cases h; exact ⟨_, _, rfl, rfl, rfl⟩
  · cases h
theorem r_le : R2ok K (rI0 fun i j => .bl (decide (i ≤ j))) gLe := r_cmp fun x y d h => by
  unfold gLe at h
  split at h
  · cases h; exact ⟨_, _, rfl, rfl, rfl⟩
  · cases h
theorem r_gt : R2ok K (rI0 fun i j => .bl (decide (j < i))) gGt := r_cmp (p := fun i j => decide (j < i)) fun x y d h => by
  unfold gGt at h
  split at h
  · cases h; exact ⟨_, _, rfl, rfl, rfl⟩
  · cases h
theorem r_ge : R2ok K (rI0 fun i j => .bl (decide (j ≤ i))) gGe := r_cmp (p := fun i j => decide (j ≤ i)) fun x y d h => by
  unfold gGe at h
  split at h
  · cases h; exact ⟨_, _, rfl, rfl, rfl⟩
  · cases h
theorem r_div : R2ok K (rI CDiv fun i j => .int (i / j)) gDiv := fun Hs H x y dx dy d Q sm rx ry hg k => by
  unfold gDiv at hg
  split at hg
  · split at hg
    · rename_i hc
      cases hg
      cases rx
      cases ry
      exact ⟨_, _, rfl, rfl, hc, k _ Hs H (Step.refl sm) (.int _)⟩
    · cases hg
  · cases hg
theorem r_mod : R2ok K (rI (fun _ j => 0 < j) fun i j => .int (i % j)) gMod := fun Hs H x y dx dy d Q sm rx ry hg k => by
  unfold gMod at hg
  split at hg
  · split at hg
    · rename_i hc
      cases hg
      cases rx
      cases ry
      exact ⟨_, _, rfl, rfl, hc, k _ Hs H (Step.refl sm) (.int _)⟩
    · cases hg
  · cases hg
theorem r_eq : R2ok K (rEqD K) gEq := fun Hs H x y dx dy d Q sm rx ry hg k => by
  unfold gEq at hg
  split at hg
  · rename_i hc
    cases hg
    exact ⟨_, _, Rp.dp _ _ (Rp.mono sm _ _ rx), Rp.dp _ _ (Rp.mono sm _ _ ry), hc.1, hc.2, k _ Hs H (Step.refl sm) (.bl _)⟩
  · cases hg
theorem r_ne : R2ok K (rNeD K) gNe := fun Hs H x y dx dy d Q sm rx ry hg k => by
  unfold gNe at hg
  split at hg
  · rename_i hc
    cases hg
    exact ⟨_, _, Rp.dp _ _ (Rp.mono sm _ _ rx), Rp.dp _ _ (Rp.mono sm _ _ ry), hc.1, hc.2, k _ Hs H (Step.refl sm) (.bl _)⟩
  · cases hg
abbrev rAddS : R2 := fun x y H Q => ∃ i j, x = .str i ∧ y = .str j ∧ i.length + j.length ≤ sizeLine ∧ Q (.str (i ++ j)) H
abbrev rAddAll : R2 := fun x y H Q => rI0 (fun i j => .int (i + j)) x y H Q ∨ (rAddS x y H Q ∨ rCat x y H Q)
theorem r_add : R2ok K rAddAll gAdd := fun Hs H x y dx dy d Q sm rx ry hg k => by
  unfold gAdd at hg
  split at hg
  · cases hg
    cases rx
    cases ry
    exact .inl ⟨_, _, rfl, rfl, k _ Hs H (Step.refl sm) (.int _)⟩
  · split at hg
    · rename_i hc
      cases hg
      cases rx
      cases ry
      exact .inr (.inl ⟨_, _, rfl, rfl, sz_le hc, k _ Hs H (Step.refl sm) (.str _)⟩)
    · cases hg
  · split at hg
    · rename_i hc
      cases hg
      cases rx
      rename_i a xs h1 r1
      cases ry
      rename_i b ys h2 r2
      rw [← r1.length, ← r2.length] at hc
      refine .inr (.inr ⟨_, _, _, _, rfl, rfl, sm _ _ h1, sm _ _ h2, sz_le hc, fun p hp => ?_⟩)
      have st := Step.new sm hp (.lst (xs ++ ys))
      exact k _ _ _ st (.lst upd_same ((RpAll.mono st.s _ _ r1).append (RpAll.mono st.s _ _ r2)))
    · cases hg
  · cases hg
end

section
variable {X : Cx} {a b c : Expr} {fa fb fc : Ro → Option D} {pos : Pos}
theorem d_op {op : Operator} {r : R2} {g : D → D → Option D} (ho : OpR X (binaryOp op) r) (hr : R2ok X.K r g) (ha : PE X a (tD X.K fa)) (hb : PE X b (tD X.K fb)) : PE X (.BinOp a op b pos) (tD X.K (biF g fa fb)) := pe_of (pe_op ho ha hb) (tD_bin hr)
theorem d_add (ha : PE X a (tD X.K fa)) (hb : PE X b (tD X.K fb)) : PE X (.BinOp a .Add b pos) (tD X.K (biF gAdd fa fb)) := d_op (op_add.or (op_add_str.or op_cat)) r_add ha hb
theorem d_sub (ha : PE X a (tD X.K fa)) (hb : PE X b (tD X.K fb)) : PE X (.BinOp a .Sub b pos) (tD X.K (biF gMinus fa fb)) := d_op op_sub r_sub ha hb
theorem d_div (ha : PE X a (tD X.K fa)) (hb : PE X b (tD X.K fb)) : PE X (.BinOp a .FloorDiv b pos) (tD X.K (biF gDiv fa fb)) := d_op op_fdiv r_div ha hb
theorem d_mod (ha : PE X a (tD X.K fa)) (hb : PE X b (tD X.K fb)) : PE X (.BinOp a .Mod b pos) (tD X.K (biF gMod fa fb)) := d_op op_mod r_mod ha hb
theorem d_neg (ha : PE X a (tD X.K fa)) : PE X (.UnaryOp .USub a pos) (tD X.K (un gNeg fa)) := pe_of (pe_un un_neg ha) (tD_un u_neg)
theorem d_cmp {op : CmpOp} {r : R2} {g : D → D → Option D} (ho : OpR X (compareOp op) r) (hr : R2ok X.K r g) (hm : behindInMarks op b = false) (ha : PE X a (tD X.K fa)) (hb : PE X b (tD X.K fb)) : PE X (.Compare a [op] [b] pos) (tD X.K (biF g fa fb)) :=
  pe_of (pe_cmpR ho ha hb hm) (tD_bin hr)
theorem d_lt (ha : PE X a (tD X.K fa)) (hb : PE X b (tD X.K fb)) : PE X (.Compare a [.Lt] [b] pos) (tD X.K (biF gLt fa fb)) := d_cmp op_lt r_lt (nomark _) ha hb
theorem d_le (ha : PE X a (tD X.K fa)) (hb : PE X b (tD X.K fb)) : PE X (.Compare a [.LtE] [b] pos) (tD X.K (biF gLe fa fb)) := d_cmp op_le r_le (nomark _) ha hb
theorem d_gt (ha : PE X a (tD X.K fa)) (hb : PE X b (tD X.K fb)) : PE X (.Compare a [.Gt] [b] pos) (tD X.K (biF gGt fa fb)) := d_cmp op_gt r_gt (nomark _) ha hb
theorem d_ge (ha : PE X a (tD X.K fa)) (hb : PE X b (tD X.K fb)) : PE X (.Compare a [.GtE] [b] pos) (tD X.K (biF gGe fa fb)) := d_cmp op_ge r_ge (nomark _) ha hb
theorem d_eq {k : Nat} (hr : Room k X.A) (ha : PE X a (tD X.K fa)) (hb : PE X b (tD X.K fb)) : PE X (.Compare a [.Eq] [b] pos) (tD X.K (biF gEq fa fb)) := d_cmp (op_eqD hr.units) r_eq (nomark _) ha hb
theorem d_ne {k : Nat} (hr : Room k X.A) (ha : PE X a (tD X.K fa)) (hb : PE X b (tD X.K fb)) : PE X (.Compare a [.NotEq] [b] pos) (tD X.K (biF gNe fa fb)) := d_cmp (op_neD hr.units) r_ne (nomark _) ha hb
end
end Dn

namespace Dn
open PySem PySem.Spec PyProof.Rows L2

/-! ### indices, slices -/
def gIx : D → D → Option D
  | .lst xs, .int i => atI xs i
  | .tup xs, .int i => atI xs i
  | .fz ns, .int i => (atI ns i).map D.int
  | .str x, .int i => if x.length ≤ sz then (atI x.cps.toList i).map fun c => .str ⟨#[c]⟩ else none
  | _, _ => none
theorem atI_iff {α : Type} {xs : List α} {i : Int} {v : α} : atI xs i = some v ↔ ∃ j, ixN xs.length i = some j ∧ xs[j]? = some v := by
  unfold atI
  cases ixN xs.length i with
  | none => simp
  | some j => simp
theorem r_ix {K : PySem.W.Frag} : R2ok K (rIx K) gIx := fun Hs H x y dx dy d Q sm rx ry hg k => by
  unfold gIx at hg
  split at hg
  · cases rx
    rename_i a vs h1 r1
    cases ry
    obtain ⟨j, hj, hd⟩ := atI_iff.mp hg
    obtain ⟨v, hv, rv⟩ := r1.get hd
    exact .inl ⟨_, _, _, v, rfl, rfl, SqL.of (sm _ _ h1), atI_iff.mpr ⟨j, by rw [r1.length]; exact hj, hv⟩, k v Hs H (Step.refl sm) rv⟩
  · cases rx
    rename_i a vs h1 r1
    cases ry
    obtain ⟨j, hj, hd⟩ := atI_iff.mp hg
    obtain ⟨v, hv, rv⟩ := r1.get hd
    exact .inr (.inl ⟨_, _, _, v, rfl, rfl, SqT.of (sm _ _ h1), atI_iff.mpr ⟨j, by rw [r1.length]; exact hj, hv⟩, k v Hs H (Step.refl sm) rv⟩)
  · cases rx
    rename_i a ns i h1
    cases ry
    rw [Option.map_eq_some_iff] at hg
    obtain ⟨n, hn, e⟩ := hg
    subst e
    obtain ⟨j, hj, hd⟩ := atI_iff.mp hn
    refine .inl ⟨_, _, _, .int n, rfl, rfl, sm.seq h1, atI_iff.mpr ⟨j, by rw [List.length_map]; exact hj, by rw [List.getElem?_map, hd] <;> rfl⟩, k _ Hs H (Step.refl sm) (.int n)⟩
  · split at hg
    · rename_i hz
      cases rx
      cases ry
      rw [Option.map_eq_some_iff] at hg
      obtain ⟨n, hn, e⟩ := hg
      subst e
      exact .inr (.inr ⟨_, _, _, rfl, rfl, sz_le hz, hn, k _ Hs H (Step.refl sm) (.str _)⟩)
    · cases hg
  · cases hg
def cutL {α : Type} (xs : List α) (lo hi : Option Int) : List α := (xs.drop (HT.sIx xs.length 0 lo)).take (HT.sIx xs.length xs.length hi - HT.sIx xs.length 0 lo)
theorem RpAll.cut {K : PySem.W.Frag} {H : Hp} {vs : List V} {ds : List D} (r : RpAll K H vs ds) (lo hi : Option Int) : RpAll K H (cutV vs lo hi) (cutL ds lo hi) := by
  unfold cutV cutL
  rw [r.length]
  exact (r.drop _).take _
def gSl (x : D) (lo hi : Option Int) : Option D := match x with
  | .lst xs => some (.lst (cutL xs lo hi))
  | .str x => if x.length ≤ sz then some (.str (cutS x lo hi)) else none
  | .tup xs => if HT.sIx xs.length 0 lo = 0 ∧ HT.sIx xs.length xs.length hi = xs.length then none else some (.tup (cutL xs lo hi))
  | _ => none
def slF (f : Ro → Option D) (fl fh : Ro → Option (Option Int)) : Ro → Option D := fun ρ => match f ρ with
  | some x => (match fl ρ with
    | some l => (match fh ρ with | some h => gSl x l h | none => none)
    | none => none)
  | none => none
def noF : Ro → Option (Option Int) := fun _ => some none
def someF (f : Ro → Option D) : Ro → Option (Option Int) := fun ρ => match f ρ with | some (.int i) => some (some i) | _ => none
abbrev rSlAll (K : PySem.W.Frag) : V → Option Int → Option Int → Hp → VK → Prop := fun x lo hi H Q => rSlL K x lo hi H Q ∨ (rSlS x lo hi H Q ∨ rSlT K x lo hi H Q)
section
variable {X : Cx} {a b c : Expr} {fa fb fc : Ro → Option D} {pos p2 : Pos}
theorem d_ix (ha : PE X a (tD X.K fa)) (hb : PE X b (tD X.K fb)) (hs : PlainIx b := by exact fun _ _ => rfl) : PE X (.Subscript a b pos) (tD X.K (biF gIx fa fb)) := pe_of (pe_ix ix_seq ha hb hs) (tD_bin r_ix)
theorem d_noPart : PO X none (tDO X.K noF) := po_of po_none fun σ H Q h => by
  obtain ⟨ρ, Hs, o, vr, sm, hf, k⟩ := h
  cases hf
  exact k Hs H (Step.refl sm)
theorem d_part (ha : PE X a (tD X.K fa)) : PO X (some a) (tDO X.K (someF fa)) := po_of (po_some ha) fun σ H Q h => by
  obtain ⟨ρ, Hs, o, vr, sm, hf, k⟩ := h
  unfold someF at hf
  split at hf
  · rename_i i hi
    cases hf
    refine ⟨ρ, Hs, _, vr, sm, hi, fun v Hs1 H1 s1 r1 => ?_⟩
    cases r1
    exact ⟨_, rfl, k Hs1 H1 s1⟩
  · cases hf
theorem d_sl {lo hi : Option Expr} {fl fh : Ro → Option (Option Int)} (ha : PE X a (tD X.K fa)) (hl : PO X lo (tDO X.K fl)) (hh : PO X hi (tDO X.K fh)) : PE X (.Subscript a (.Slice lo hi none p2) pos) (tD X.K (slF fa fl fh)) :=
  pe_of (pe_slice (sl_list.or (sl_str.or sl_tup)) ha hl hh) fun σ H Q h => by
    obtain ⟨ρ, Hs, d, vr, sm, hf, k⟩ := h
    unfold slF at hf
    split at hf
    · rename_i x hx
      split at hf
      · rename_i l hl'
        split at hf
        · rename_i u hu
          refine ⟨ρ, Hs, x, vr, sm, hx, fun v Hs1 H1 s1 r1 => ⟨ρ, Hs1, l, vr.mono s1.s, s1.i, hl', fun Hs2 H2 s2 => ⟨ρ, Hs2, u, (vr.mono s1.s).mono s2.s, s2.i, hu, fun Hs3 H3 s3 => ?_⟩⟩⟩
          have st := (s1.trans s2).trans s3
          have r3 := Rp.mono (s2.trans s3).s _ _ r1
          unfold gSl at hf
          split at hf
          · cases hf
            cases r3
            rename_i aa vs h1 r
            refine .inl ⟨_, _, rfl, SqL.of (st.i _ _ h1), fun p hp => ?_⟩
            have sn := Step.new st.i hp (.lst (cutV vs l u))
            exact k _ _ _ (st.trans sn) (.lst upd_same (RpAll.mono sn.s _ _ (r.cut l u)))
          · split at hf
            · rename_i hz
              cases hf
              cases r3
              exact .inr (.inl ⟨_, rfl, sz_le hz, k _ _ _ st (.str _)⟩)
            · cases hf
          · split at hf
            · cases hf
            · rename_i hw
              cases hf
              cases r3
              rename_i aa vs h1 r
              refine .inr (.inr ⟨_, _, rfl, SqT.of (st.i _ _ h1), by rw [r.length]; exact hw, fun p hp => ?_⟩)
              have sn := Step.new st.i hp (.tup (cutV vs l u))
              exact k _ _ _ (st.trans sn) (.tup upd_same (RpAll.mono sn.s _ _ (r.cut l u)))
          · cases hf
        · cases hf
      · cases hf
    · cases hf
end

/-! ### tests -/
def testF (f : Ro → Option D) : Ro → Option Bool := fun ρ => match f ρ with | some (.bl b) => some b | _ => none
def andT (f g : Ro → Option Bool) : Ro → Option Bool := fun ρ => match f ρ with | some true => g ρ | some false => some false | none => none
def orT (f g : Ro → Option Bool) : Ro → Option Bool := fun ρ => match f ρ with | some true => some true | some false => g ρ | none => none
def notT (f : Ro → Option Bool) : Ro → Option Bool := fun ρ => match f ρ with | some b => some (!b) | none => none
def andV (f g : Ro → Option D) : Ro → Option D := fun ρ => match f ρ with | some (.bl true) => g ρ | some (.bl false) => some (.bl false) | _ => none
def orV (f g : Ro → Option D) : Ro → Option D := fun ρ => match f ρ with | some (.bl true) => some (.bl true) | some (.bl false) => g ρ | _ => none
def notV (f : Ro → Option D) : Ro → Option D := fun ρ => match f ρ with | some (.bl b) => some (.bl (!b)) | _ => none
def ifV (t : Ro → Option Bool) (f g : Ro → Option D) : Ro → Option D := fun ρ => match t ρ with | some true => f ρ | some false => g ρ | none => none
/-- a r b r' c -/
def chainV (g g' : D → D → Option D) (fa fb fc : Ro → Option D) : Ro → Option D := fun ρ => match fa ρ with
  | some x => (match fb ρ with
    | some y => (match g x y with
      | some (.bl true) => (match fc ρ with | some z => g' y z | none => none)
      | some (.bl false) => some (.bl false)
      | _ => none)
    | none => none)
  | none => none
theorem tD_test {K : PySem.W.Frag} {f : Ro → Option D} : ∀ (σ : L2.St) (H : Hp) (Q : Bool → Hp → Prop), tDT K (testF f) σ H Q → tD K f σ H fun x H1 => ∃ c, x = .bl c ∧ Q c H1 := fun σ H Q h => by
  obtain ⟨ρ, Hs, b, vr, sm, hf, k⟩ := h
  unfold testF at hf
  split at hf
  · rename_i b' hb
    cases hf
    refine ⟨ρ, Hs, _, vr, sm, hb, fun v Hs1 H1 s1 r1 => ?_⟩
    cases r1
    exact ⟨_, rfl, k H1 s1.e⟩
  · cases hf
section
variable {X : Cx} {a b c : Expr} {fa fb fc : Ro → Option D} {pos p2 : Pos} {rest : List Expr}
theorem d_test (ha : PE X a (tD X.K fa)) (he : ∀ whole, isTrue a X.env whole = (do let v ← whole; standAt a.pos; holding [v] (truthy v)) := by intro _; rfl) : PT X a (tDT X.K (testF fa)) := pt_of (pt_val ha he) tD_test
theorem d_tcmp {op : CmpOp} {r : R2} {g : D → D → Option D} (ho : OpR X (compareOp op) r) (hr : R2ok X.K r g) (hm : behindInMarks op b = false) (ha : PE X a (tD X.K fa)) (hb : PE X b (tD X.K fb)) : PT X (.Compare a [op] [b] pos) (tDT X.K (testF (biF g fa fb))) :=
  pt_of (pt_cmpR ho ha hb hm) fun σ H Q h => tD_bin hr σ H _ (tD_test σ H Q h)
theorem t_lt (ha : PE X a (tD X.K fa)) (hb : PE X b (tD X.K fb)) : PT X (.Compare a [.Lt] [b] pos) (tDT X.K (testF (biF gLt fa fb))) := d_tcmp op_lt r_lt (nomark _) ha hb
theorem t_le (ha : PE X a (tD X.K fa)) (hb : PE X b (tD X.K fb)) : PT X (.Compare a [.LtE] [b] pos) (tDT X.K (testF (biF gLe fa fb))) := d_tcmp op_le r_le (nomark _) ha hb
theorem t_gt (ha : PE X a (tD X.K fa)) (hb : PE X b (tD X.K fb)) : PT X (.Compare a [.Gt] [b] pos) (tDT X.K (testF (biF gGt fa fb))) := d_tcmp op_gt r_gt (nomark _) ha hb
theorem t_ge (ha : PE X a (tD X.K fa)) (hb : PE X b (tD X.K fb)) : PT X (.Compare a [.GtE] [b] pos) (tDT X.K (testF (biF gGe fa fb))) := d_tcmp op_ge r_ge (nomark _) ha hb
theorem t_eq {k : Nat} (hr : Room k X.A) (ha : PE X a (tD X.K fa)) (hb : PE X b (tD X.K fb)) : PT X (.Compare a [.Eq] [b] pos) (tDT X.K (testF (biF gEq fa fb))) := d_tcmp (op_eqD hr.units) r_eq (nomark _) ha hb
theorem t_ne {k : Nat} (hr : Room k X.A) (ha : PE X a (tD X.K fa)) (hb : PE X b (tD X.K fb)) : PT X (.Compare a [.NotEq] [b] pos) (tDT X.K (testF (biF gNe fa fb))) := d_tcmp (op_neD hr.units) r_ne (nomark _) ha hb
/-- is None -/
def isNoD : D → Bool
  | .non => true
  | _ => false
def gIsN : D → D → Option D
  | x, .non => some (.bl (isNoD x))
  | _, _ => none
def gNotN : D → D → Option D
  | x, .non => some (.bl (!isNoD x))
  | _, _ => none
theorem Rp.isN {K : PySem.W.Frag} {H : Hp} {v : V} {d : D} (r : Rp K H v d) : decide (v = V.non) = isNoD d := by
  cases r <;> simp [isNoD]
theorem r_isN {K : PySem.W.Frag} : R2ok K (fun x y H Q => y = .non ∧ Q (.bl (decide (x = .non))) H) gIsN := fun Hs H x y dx dy d Q sm rx ry hg k => by
  unfold gIsN at hg
  split at hg
  · cases hg
    cases ry
    refine ⟨rfl, ?_⟩
    rw [rx.isN]
    exact k _ Hs H (Step.refl sm) (.bl _)
  · cases hg
theorem r_notN {K : PySem.W.Frag} : R2ok K (fun x y H Q => y = .non ∧ Q (.bl (!decide (x = .non))) H) gNotN := fun Hs H x y dx dy d Q sm rx ry hg k => by
  unfold gNotN at hg
  split at hg
  · cases hg
    cases ry
    refine ⟨rfl, ?_⟩
    rw [rx.isN]
    exact k _ Hs H (Step.refl sm) (.bl _)
  · cases hg
theorem d_isN (ha : PE X a (tD X.K fa)) (hb : PE X b (tD X.K fb)) : PE X (.Compare a [.Is] [b] pos) (tD X.K (biF gIsN fa fb)) := d_cmp op_isN r_isN (nomark _) ha hb
theorem t_isN (ha : PE X a (tD X.K fa)) (hb : PE X b (tD X.K fb)) : PT X (.Compare a [.Is] [b] pos) (tDT X.K (testF (biF gIsN fa fb))) := d_tcmp op_isN r_isN (nomark _) ha hb
theorem d_notN (ha : PE X a (tD X.K fa)) (hb : PE X b (tD X.K fb)) : PE X (.Compare a [.IsNot] [b] pos) (tD X.K (biF gNotN fa fb)) := d_cmp op_notN r_notN (nomark _) ha hb
theorem t_notN (ha : PE X a (tD X.K fa)) (hb : PE X b (tD X.K fb)) : PT X (.Compare a [.IsNot] [b] pos) (tDT X.K (testF (biF gNotN fa fb))) := d_tcmp op_notN r_notN (nomark _) ha hb
/-- in, not in -/
def gIn : D → D → Option D
  | x, .lst ys => if okD x = true ∧ okD (.lst ys) = true then some (.bl (ys.any fun z => eqD z x)) else none
  | .str x, .str y => some (.bl (!(Builtin.Str.occurrences y x 0 y.length 1).isEmpty))
  | _, _ => none
def gNotIn (x y : D) : Option D := match gIn x y with | some (.bl b) => some (.bl (!b)) | _ => none
abbrev rInS : R2 := fun x y H Q => ∃ i j, x = .str i ∧ y = .str j ∧ Q (.bl (!(Builtin.Str.occurrences j i 0 j.length 1).isEmpty)) H
abbrev rNotInS : R2 := fun x y H Q => ∃ i j, x = .str i ∧ y = .str j ∧ Q (.bl (!(!(Builtin.Str.occurrences j i 0 j.length 1).isEmpty))) H
abbrev rInAll (K : PySem.W.Frag) : R2 := fun x y H Q => rInD K x y H Q ∨ rInS x y H Q
abbrev rNotInAll (K : PySem.W.Frag) : R2 := fun x y H Q => rNotInD K x y H Q ∨ rNotInS x y H Q
theorem any_pys (x : D) : ∀ ys : List D, ((D.pys ys).any fun z => PyData.eqv z x.py) = ys.any fun z => eqD z x
  | [] => rfl
  | y :: ys => by
    show (PyData.eqv y.py x.py || ((D.pys ys).any fun z => PyData.eqv z x.py)) = _
    rw [any_pys x ys] <;> rfl
theorem r_in {K : PySem.W.Frag} : R2ok K (rInAll K) gIn := fun Hs H x y dx dy d Q sm rx ry hg k => by
  unfold gIn at hg
  split at hg
  · split at hg
    · rename_i hc
      cases hg
      refine .inl ⟨_, _, Rp.dp _ _ (Rp.mono sm _ _ rx), Rp.dp _ _ (Rp.mono sm _ _ ry), hc.1, hc.2, ?_⟩
      rw [any_pys]
      exact k _ Hs H (Step.refl sm) (.bl _)
    · cases hg
  · cases hg
    cases rx
    cases ry
    exact .inr ⟨_, _, rfl, rfl, k _ Hs H (Step.refl sm) (.bl _)⟩
  · cases hg
theorem r_notIn {K : PySem.W.Frag} : R2ok K (rNotInAll K) gNotIn := fun Hs H x y dx dy d Q sm rx ry hg k => by
  unfold gNotIn at hg
  split at hg
  · rename_i b hb
    cases hg
    unfold gIn at hb
    split at hb
    · split at hb
      · rename_i hc
        cases hb
        refine .inl ⟨_, _, Rp.dp _ _ (Rp.mono sm _ _ rx), Rp.dp _ _ (Rp.mono sm _ _ ry), hc.1, hc.2, ?_⟩
        rw [any_pys]
        exact k _ Hs H (Step.refl sm) (.bl _)
      · cases hb
    · cases hb
      cases rx
      cases ry
      exact .inr ⟨_, _, rfl, rfl, k _ Hs H (Step.refl sm) (.bl _)⟩
    · cases hb
  · cases hg
theorem room65 {k : Nat} (hr : Room k X.A) : X.A.units + 65 < cLine := by have := hr.un; omega
theorem d_in {k : Nat} (hr : Room k X.A) (ha : PE X a (tD X.K fa)) (hb : PE X b (tD X.K fb)) (hm : behindInMarks .In b = false := by with_unfolding_all rfl) : PE X (.Compare a [.In] [b] pos) (tD X.K (biF gIn fa fb)) := d_cmp ((op_inD (room65 hr)).or op_in_str) r_in hm ha hb
theorem t_in {k : Nat} (hr : Room k X.A) (ha : PE X a (tD X.K fa)) (hb : PE X b (tD X.K fb)) (hm : behindInMarks .In b = false := by with_unfolding_all rfl) : PT X (.Compare a [.In] [b] pos) (tDT X.K (testF (biF gIn fa fb))) := d_tcmp ((op_inD (room65 hr)).or op_in_str) r_in hm ha hb
theorem d_notIn {k : Nat} (hr : Room k X.A) (ha : PE X a (tD X.K fa)) (hb : PE X b (tD X.K fb)) (hm : behindInMarks .NotIn b = false := by with_unfolding_all rfl) : PE X (.Compare a [.NotIn] [b] pos) (tD X.K (biF gNotIn fa fb)) := d_cmp ((op_notInD (room65 hr)).or op_notIn_str) r_notIn hm ha hb
theorem t_notIn {k : Nat} (hr : Room k X.A) (ha : PE X a (tD X.K fa)) (hb : PE X b (tD X.K fb)) (hm : behindInMarks .NotIn b = false := by with_unfolding_all rfl) : PT X (.Compare a [.NotIn] [b] pos) (tDT X.K (testF (biF gNotIn fa fb))) := d_tcmp ((op_notInD (room65 hr)).or op_notIn_str) r_notIn hm ha hb

variable {ta tb : Ro → Option Bool}
theorem w_and1 (ha : PT X a (tDT X.K ta)) : PW X (.BoolOp .And [a] pos) (tDT X.K ta) := pw_and1 ha
theorem w_or1 (ha : PT X a (tDT X.K ta)) : PW X (.BoolOp .Or [a] pos) (tDT X.K ta) := pw_or1 ha
theorem w_and (ha : PT X a (tDT X.K ta)) (hb : PW X (.BoolOp .And (b :: rest) pos) (tDT X.K tb)) : PW X (.BoolOp .And (a :: b :: rest) pos) (tDT X.K (andT ta tb)) := pw_of (pw_and ha hb) fun σ H Q h => by
  obtain ⟨ρ, Hs, d, vr, sm, hf, k⟩ := h
  unfold andT at hf
  split at hf
  · rename_i ht
    refine ⟨ρ, Hs, true, vr, sm, ht, fun H1 e1 => ?_⟩
    refine iteT ?_
    exact ⟨ρ, Hs, d, vr, sm.trans e1, hf, fun H2 e2 => k H2 (e1.trans e2)⟩
  · rename_i ht
    cases hf
    refine ⟨ρ, Hs, false, vr, sm, ht, fun H1 e1 => ?_⟩
    refine iteF ?_
    exact k H1 e1
  · cases hf
theorem w_or (ha : PT X a (tDT X.K ta)) (hb : PW X (.BoolOp .Or (b :: rest) pos) (tDT X.K tb)) : PW X (.BoolOp .Or (a :: b :: rest) pos) (tDT X.K (orT ta tb)) := pw_of (pw_or ha hb) fun σ H Q h => by
  obtain ⟨ρ, Hs, d, vr, sm, hf, k⟩ := h
  unfold orT at hf
  split at hf
  · rename_i ht
    cases hf
    refine ⟨ρ, Hs, true, vr, sm, ht, fun H1 e1 => ?_⟩
    refine iteT ?_
    exact k H1 e1
  · rename_i ht
    refine ⟨ρ, Hs, false, vr, sm, ht, fun H1 e1 => ?_⟩
    refine iteF ?_
    exact ⟨ρ, Hs, d, vr, sm.trans e1, hf, fun H2 e2 => k H2 (e1.trans e2)⟩
  · cases hf
theorem t_not (ha : PT X a (tDT X.K ta)) : PT X (.UnaryOp .Not a pos) (tDT X.K (notT ta)) := pt_of (pt_not ha) fun σ H Q h => by
  obtain ⟨ρ, Hs, d, vr, sm, hf, k⟩ := h
  unfold notT at hf
  split at hf
  · rename_i b hb
    cases hf
    exact ⟨ρ, Hs, b, vr, sm, hb, fun H1 e1 => k H1 e1⟩
  · cases hf
theorem d_and1 (ha : PE X a (tD X.K fa)) : PE X (.BoolOp .And [a] pos) (tD X.K fa) := pe_one ha
theorem d_or1 (ha : PE X a (tD X.K fa)) : PE X (.BoolOp .Or [a] pos) (tD X.K fa) := pe_one ha
theorem d_and (ha : PE X a (tD X.K fa)) (hb : PE X (.BoolOp .And (b :: rest) pos) (tD X.K fb)) : PE X (.BoolOp .And (a :: b :: rest) pos) (tD X.K (andV fa fb)) := pe_of (pe_and ha hb) fun σ H Q h => by
  obtain ⟨ρ, Hs, d, vr, sm, hf, k⟩ := h
  unfold andV at hf
  split at hf
  · rename_i ht
    refine ⟨ρ, Hs, _, vr, sm, ht, fun v Hs1 H1 s1 r1 => ?_⟩
    cases r1
    refine ⟨true, rfl, ?_⟩
    refine iteT ?_
    exact ⟨ρ, Hs1, d, vr.mono s1.s, s1.i, hf, fun w Hs2 H2 s2 r2 => k w Hs2 H2 (s1.trans s2) r2⟩
  · rename_i ht
    cases hf
    refine ⟨ρ, Hs, _, vr, sm, ht, fun v Hs1 H1 s1 r1 => ?_⟩
    cases r1
    refine ⟨false, rfl, ?_⟩
    refine iteF ?_
    exact k _ Hs1 H1 s1 (.bl _)
  · cases hf
theorem d_or (ha : PE X a (tD X.K fa)) (hb : PE X (.BoolOp .Or (b :: rest) pos) (tD X.K fb)) : PE X (.BoolOp .Or (a :: b :: rest) pos) (tD X.K (orV fa fb)) := pe_of (pe_or ha hb) fun σ H Q h => by
  obtain ⟨ρ, Hs, d, vr, sm, hf, k⟩ := h
  unfold orV at hf
  split at hf
  · rename_i ht
    cases hf
    refine ⟨ρ, Hs, _, vr, sm, ht, fun v Hs1 H1 s1 r1 => ?_⟩
    cases r1
    refine ⟨true, rfl, ?_⟩
    refine iteT ?_
    exact k _ Hs1 H1 s1 (.bl _)
  · rename_i ht
    refine ⟨ρ, Hs, _, vr, sm, ht, fun v Hs1 H1 s1 r1 => ?_⟩
    cases r1
    refine ⟨false, rfl, ?_⟩
    refine iteF ?_
    exact ⟨ρ, Hs1, d, vr.mono s1.s, s1.i, hf, fun w Hs2 H2 s2 r2 => k w Hs2 H2 (s1.trans s2) r2⟩
  · cases hf
theorem d_not (ha : PE X a (tD X.K fa)) : PE X (.UnaryOp .Not a pos) (tD X.K (notV fa)) := pe_of (pe_not ha) fun σ H Q h => by
  obtain ⟨ρ, Hs, d, vr, sm, hf, k⟩ := h
  unfold notV at hf
  split at hf
  · rename_i b hb
    cases hf
    refine ⟨ρ, Hs, _, vr, sm, hb, fun v Hs1 H1 s1 r1 => ?_⟩
    cases r1
    exact ⟨b, rfl, k _ Hs1 H1 s1 (.bl _)⟩
  · cases hf
theorem d_ifE {t : Expr} (ht : PT X t (tDT X.K ta)) (ha : PE X a (tD X.K fa)) (hb : PE X b (tD X.K fb)) : PE X (.IfExp t a b pos) (tD X.K (ifV ta fa fb)) := pe_of (pe_ifExp ht ha hb) fun σ H Q h => by
  obtain ⟨ρ, Hs, d, vr, sm, hf, k⟩ := h
  unfold ifV at hf
  split at hf
  · rename_i hb
    refine ⟨ρ, Hs, true, vr, sm, hb, fun H1 e1 => ?_⟩
    refine iteT ?_
    exact ⟨ρ, Hs, d, vr, sm.trans e1, hf, fun v Hs2 H2 s2 r2 => k v Hs2 H2 ((Step.grow sm e1).trans s2) r2⟩
  · rename_i hb
    refine ⟨ρ, Hs, false, vr, sm, hb, fun H1 e1 => ?_⟩
    refine iteF ?_
    exact ⟨ρ, Hs, d, vr, sm.trans e1, hf, fun v Hs2 H2 s2 r2 => k v Hs2 H2 ((Step.grow sm e1).trans s2) r2⟩
  · cases hf
theorem tD_chain {K : PySem.W.Frag} {r r' : R2} {g g' : D → D → Option D} (hr : R2ok K r g) (hr' : R2ok K r' g') : ∀ (σ : L2.St) (H : Hp) (Q : VK), tD K (chainV g g' fa fb fc) σ H Q → tChain r r' (tD K fa) (tD K fb) (tD K fc) σ H Q := fun σ H Q h => by
  obtain ⟨ρ, Hs, d, vr, sm, hf, k⟩ := h
  unfold chainV at hf
  split at hf
  · rename_i x hx
    split at hf
    · rename_i y hy
      refine ⟨ρ, Hs, x, vr, sm, hx, fun v Hs1 H1 s1 r1 => ⟨ρ, Hs1, y, vr.mono s1.s, s1.i, hy, fun u Hs2 H2 s2 r2 => ?_⟩⟩
      split at hf
      · rename_i hg
        refine hr Hs2 H2 v u x y _ _ s2.i (Rp.mono s2.s _ _ r1) r2 hg fun w Hs3 H3 s3 r3 => ?_
        cases r3
        refine ⟨true, rfl, ?_⟩
        refine iteT ?_
        split at hf
        · rename_i z hz
          refine ⟨ρ, Hs3, z, ((vr.mono s1.s).mono s2.s).mono s3.s, s3.i, hz, fun w2 Hs4 H4 s4 r4 => ?_⟩
          exact hr' Hs4 H4 u w2 y z d _ s4.i (Rp.mono (s3.s.trans s4.s) _ _ r2) r4 hf fun w3 Hs5 H5 s5 r5 => k w3 Hs5 H5 ((((s1.trans s2).trans s3).trans s4).trans s5) r5
        · cases hf
      · rename_i hg
        cases hf
        refine hr Hs2 H2 v u x y _ _ s2.i (Rp.mono s2.s _ _ r1) r2 hg fun w Hs3 H3 s3 r3 => ?_
        cases r3
        refine ⟨false, rfl, ?_⟩
        refine iteF ?_
        exact k _ Hs3 H3 ((s1.trans s2).trans s3) (.bl _)
      · cases hf
    · cases hf
  · cases hf
theorem d_chain {op op' : CmpOp} {r r' : R2} {g g' : D → D → Option D} (ho : OpR X (compareOp op) r) (hr : R2ok X.K r g) (ho' : OpR X (compareOp op') r') (hr' : R2ok X.K r' g') (ha : PE X a (tD X.K fa)) (hb : PE X b (tD X.K fb)) (hc : PE X c (tD X.K fc))
    (hm : lastMarks [op, op'] [b, c] = false := by with_unfolding_all rfl) : PE X (.Compare a [op, op'] [b, c] pos) (tD X.K (chainV g g' fa fb fc)) := pe_of (pe_chain ho ho' ha hb hc hm) (tD_chain hr hr')
theorem t_chain {op op' : CmpOp} {r r' : R2} {g g' : D → D → Option D} (ho : OpR X (compareOp op) r) (hr : R2ok X.K r g) (ho' : OpR X (compareOp op') r') (hr' : R2ok X.K r' g') (ha : PE X a (tD X.K fa)) (hb : PE X b (tD X.K fb)) (hc : PE X c (tD X.K fc))
    (hm : lastMarks [op, op'] [b, c] = false := by with_unfolding_all rfl) : PT X (.Compare a [op, op'] [b, c] pos) (tDT X.K (testF (chainV g g' fa fb fc))) := pt_of (pt_chain ho ho' ha hb hc hm) fun σ H Q h => tD_chain hr hr' σ H _ (tD_test σ H Q h)
end

/-! ### argument lists, displays -/
def argsF : List (Ro → Option D) → Ro → Option (List D)
  | [], _ => some []
  | f :: fs, ρ => match f ρ with
    | some d => (match argsF fs ρ with | some ds => some (d :: ds) | none => none)
    | none => none
theorem argsF_length : ∀ {fs : List (Ro → Option D)} {ρ : Ro} {ds : List D}, argsF fs ρ = some ds → ds.length = fs.length
  | [], _, _, h => by cases h; rfl
  | f :: fs, ρ, ds, h => by
    unfold argsF at h
    split at h
    · split at h
      · rename_i ds' h'
        cases h
        rw [List.length_cons, List.length_cons, argsF_length h']
      · cases h
    · cases h
def tupF (fs : List (Ro → Option D)) : Ro → Option D := fun ρ => match argsF fs ρ with | some ds => some (.tup ds) | none => none
def lstF (fs : List (Ro → Option D)) : Ro → Option D := fun ρ => match argsF fs ρ with | some ds => some (.lst ds) | none => none
def callF (g : List D → Option D) (fs : List (Ro → Option D)) : Ro → Option D := fun ρ => match argsF fs ρ with | some ds => g ds | none => none
def C1ok (K : PySem.W.Frag) (r : List V → Hp → VK → Prop) (g : List D → Option D) : Prop := ∀ (Hs H : Hp) (vs : List V) (ds : List D) (d : D) (Q : VK), Same Hs H → RpAll K Hs vs ds → g ds = some d →
  (∀ v Hs' H', Step Hs H Hs' H' → Rp K Hs' v d → Q v H') → r vs H Q
/-- what a def promises: n arguments, g of them -/
def spD (K : PySem.W.Frag) (n : Nat) (g : List D → Option D) : Sp := fun vs H Q _ => vs.length = n ∧ ∃ Hs ds d, Same Hs H ∧ RpAll K Hs vs ds ∧ g ds = some d ∧ ∀ v Hs' H', Step Hs H Hs' H' → Rp K Hs' v d → Q v H'
section
variable {X : Cx} {e : Expr} {es : List Expr} {f : Ro → Option D} {fs : List (Ro → Option D)} {pos p : Pos} {x : Str}
theorem a_nil : PA X [] (tDA X.K (argsF [])) := pa_of pa_nil fun σ H Q h => by
  obtain ⟨ρ, Hs, d, vr, sm, hf, k⟩ := h
  cases hf
  exact k [] Hs H (Step.refl sm) .nil
theorem a_cons (ha : PE X e (tD X.K f)) (hr : PA X es (tDA X.K (argsF fs))) (hs : starEach (e :: es) X.env = (false, eval e X.env) :: starEach es X.env := by rfl) : PA X (e :: es) (tDA X.K (argsF (f :: fs))) := pa_of (pa_cons ha hr hs) fun σ H Q h => by
  obtain ⟨ρ, Hs, ds, vr, sm, hf, k⟩ := h
  unfold argsF at hf
  split at hf
  · rename_i d hd
    split at hf
    · rename_i ds' hds
      cases hf
      exact ⟨ρ, Hs, d, vr, sm, hd, fun v Hs1 H1 s1 r1 => ⟨ρ, Hs1, ds', vr.mono s1.s, s1.i, hds, fun vs Hs2 H2 s2 r2 => k _ Hs2 H2 (s1.trans s2) (.cons (Rp.mono s2.s _ _ r1) r2)⟩⟩
    · cases hf
  · cases hf
theorem d_tup {x1} (h : PA X es (tDA X.K (argsF fs))) (hn : fs.length ≤ sz := by decide) : PE X (.Tuple es x1 pos) (tD X.K (tupF fs)) := pe_of (pe_tup h) fun σ H Q h => by
  obtain ⟨ρ, Hs, d, vr, sm, hf, k⟩ := h
  unfold tupF at hf
  split at hf
  · rename_i ds hds
    cases hf
    refine ⟨ρ, Hs, ds, vr, sm, hds, fun vs Hs1 H1 s1 r1 => ⟨sz_le (by rw [r1.length, argsF_length hds]; exact hn), fun q hq => ?_⟩⟩
    have sn := Step.new s1.i hq (.tup vs)
    exact k _ _ _ (s1.trans sn) (.tup upd_same (RpAll.mono sn.s _ _ r1))
  · cases hf
theorem d_lst (h : PA X es (tDA X.K (argsF fs))) (hn : fs.length ≤ sz := by decide) : PE X (.List es pos) (tD X.K (lstF fs)) := pe_of (pe_lst h) fun σ H Q h => by
  obtain ⟨ρ, Hs, d, vr, sm, hf, k⟩ := h
  unfold lstF at hf
  split at hf
  · rename_i ds hds
    cases hf
    refine ⟨ρ, Hs, ds, vr, sm, hds, fun vs Hs1 H1 s1 r1 => ⟨sz_le (by rw [r1.length, argsF_length hds]; exact hn), fun q hq => ?_⟩⟩
    have sn := Step.new s1.i hq (.lst vs)
    exact k _ _ _ (s1.trans sn) (.lst upd_same (RpAll.mono sn.s _ _ r1))
  · cases hf
theorem tD_call {K : PySem.W.Frag} {r : List V → Hp → VK → Prop} {g : List D → Option D} (hr : C1ok K r g) : ∀ (σ : L2.St) (H : Hp) (Q : VK), tD K (callF g fs) σ H Q → tCB r (tDA K (argsF fs)) σ H Q := fun σ H Q h => by
  obtain ⟨ρ, Hs, d, vr, sm, hf, k⟩ := h
  unfold callF at hf
  split at hf
  · rename_i ds hds
    exact ⟨ρ, Hs, ds, vr, sm, hds, fun vs Hs1 H1 s1 r1 => hr Hs1 H1 vs ds d Q s1.i r1 hf fun v Hs2 H2 s2 r2 => k v Hs2 H2 (s1.trans s2) r2⟩
  · cases hf
theorem d_callB {id : String} {r : List V → Hp → VK → Prop} {g : List D → Option D} (hc : CallR X (.builtin id) r) (hr : C1ok X.K r g) (hm : X.mg x = none) (hv : bootBuiltins x = some (.builtin id)) (ha : PA X (e :: es) (tDA X.K (argsF fs))) (hg : Gl X x := by rfl) (hn : x ≠ "__name__" := by decide) (hdb : (x == ("__debug__" : Str)) = false := by decide)
    (he : starEach (e :: es) X.env = (false, eval e X.env) :: starEach es X.env := by rfl) (hpl : (backTo pos (starEach es X.env)).any (·.1) = false := by rfl) : PE X (.Call (.Name x p) (e :: es) [] pos) (tD X.K (callF g fs)) := pe_of (pe_callB hc hg hm hv ha hn hdb he hpl) (tD_call hr)
theorem d_callTy {T : String} {r : List V → Hp → VK → Prop} {g : List D → Option D} (hc : CallR X (.type T) r) (hr : C1ok X.K r g) (hm : X.mg x = none) (hv : bootBuiltins x = some (.type T)) (ha : PA X (e :: es) (tDA X.K (argsF fs))) (hg : Gl X x := by rfl) (hn : x ≠ "__name__" := by decide) (hdb : (x == ("__debug__" : Str)) = false := by decide)
    (he : starEach (e :: es) X.env = (false, eval e X.env) :: starEach es X.env := by rfl) (hpl : (backTo pos (starEach es X.env)).any (·.1) = false := by rfl) : PE X (.Call (.Name x p) (e :: es) [] pos) (tD X.K (callF g fs)) := pe_of (pe_callTy hc hg hm hv ha hn hdb he hpl) (tD_call hr)
theorem tD_fn {K : PySem.W.Frag} {n : Nat} {E : XK} {g : List D → Option D} (hn : fs.length = n) : ∀ (σ : L2.St) (H : Hp) (Q : VK), tD K (callF g fs) σ H Q → tCall (spD K n g) [] E (tDA K (argsF fs)) σ H Q := fun σ H Q h => by
  obtain ⟨ρ, Hs, d, vr, sm, hf, k⟩ := h
  unfold callF at hf
  split at hf
  · rename_i ds hds
    refine ⟨ρ, Hs, ds, vr, sm, hds, fun vs Hs1 H1 s1 r1 => ?_⟩
    show spD K n g (vs ++ []) H1 Q E
    rw [List.append_nil]
    exact ⟨by rw [r1.length, argsF_length hds, hn], Hs1, ds, d, s1.i, r1, hf, fun v Hs2 H2 s2 r2 => k v Hs2 H2 (s1.trans s2) r2⟩
  · cases hf
/-- a call of a def of the text -/
theorem d_call {CX : CXT} {k n : Nat} {a : Addr} {fd : FuncData} {ps : List Str} {g : List D → Option D} {E : XK} (F : FnOk X.prog X.w X.K X.mg X.base CX k a fd ps (spD X.K n g)) (hr : Room k X.A) (hm : X.mg x = some (.ref a)) (hk : PySem.W.keepIn X.K (.ref a) = true) (hb : Binds X.K fd ps []) (hx : Passes CX X E)
    (ha : PA X (e :: es) (tDA X.K (argsF fs))) (hg : Gl X x := by rfl) (hn : fs.length = n := by rfl) (hdb : (x == ("__debug__" : Str)) = false := by decide) (he : starEach (e :: es) X.env = (false, eval e X.env) :: starEach es X.env := by rfl) (hpl : (backTo pos (starEach es X.env)).any (·.1) = false := by rfl) :
    PE X (.Call (.Name x p) (e :: es) [] pos) (tD X.K (callF g fs)) := pe_of (pe_call F hr hg hm hk hb .nil hx ha hdb he hpl) (tD_fn hn)
end
end Dn

namespace Dn
open PySem PySem.Spec PyProof.Rows L2

/-! ### built-ins -/
def gLen : List D → Option D
  | [.lst ds] => some (.int ds.length)
  | [.tup ds] => some (.int ds.length)
  | [.fz ns] => some (.int ns.length)
  | [.str x] => if x.length ≤ sz then some (.int x.length) else none
  | _ => none
def gAbs : List D → Option D
  | [.int i] => some (.int (if i < 0 then -i else i))
  | _ => none
def gMax : List D → Option D
  | [.int i, .int j] => some (.int (if j > i then j else i))
  | _ => none
def gMin : List D → Option D
  | [.int i, .int j] => some (.int (if j < i then j else i))
  | _ => none
def gList : List D → Option D
  | [.lst ds] => some (.lst ds)
  | [.tup ds] => some (.lst ds)
  | _ => none
def gInt : List D → Option D
  | [.int i] => some (.int i)
  | [.bl b] => some (.int (if b then 1 else 0))
  | _ => none
section
variable {K : PySem.W.Frag} {H : Hp}
theorem RpAll.one {vs : List V} {d : D} (r : RpAll K H vs [d]) : ∃ v, vs = [v] ∧ Rp K H v d := by
  cases r with
  | cons h t =>
    cases t
    exact ⟨_, rfl, h⟩
theorem RpAll.two {vs : List V} {d e : D} (r : RpAll K H vs [d, e]) : ∃ v u, vs = [v, u] ∧ Rp K H v d ∧ Rp K H u e := by
  cases r with
  | cons h t =>
    cases t with
    | cons h' t' =>
      cases t'
      exact ⟨_, _, rfl, h, h'⟩
theorem c_len : C1ok K (fun xs H Q => ∃ x n, xs = [x] ∧ LenV K x H n ∧ Q (.int n) H) gLen := fun Hs H vs ds d Q sm r hg k => by
  unfold gLen at hg
  split at hg
  · cases hg
    obtain ⟨v, rfl, rv⟩ := r.one
    cases rv
    rename_i a xs h1 r1
    exact ⟨_, _, rfl, .inl ⟨_, SqL.of (sm _ _ h1), rfl⟩, by rw [r1.length]; exact k _ Hs H (Step.refl sm) (.int _)⟩
  · cases hg
    obtain ⟨v, rfl, rv⟩ := r.one
    cases rv
    rename_i a xs h1 r1
    exact ⟨_, _, rfl, .inr ⟨_, SqT.of (sm _ _ h1), rfl⟩, by rw [r1.length]; exact k _ Hs H (Step.refl sm) (.int _)⟩
  · cases hg
    obtain ⟨v, rfl, rv⟩ := r.one
    cases rv
    rename_i ns a h1
    exact ⟨_, ns.length, rfl, .inl ⟨_, sm.seq h1, by rw [List.length_map]⟩, k _ Hs H (Step.refl sm) (.int _)⟩
  · split at hg
    · rename_i hz
      cases hg
      obtain ⟨v, rfl, rv⟩ := r.one
      cases rv
      exact ⟨_, _, rfl, ⟨sz_le hz, rfl⟩, k _ Hs H (Step.refl sm) (.int _)⟩
    · cases hg
  · cases hg
theorem c_abs : C1ok K (fun xs H Q => ∃ i, xs = [V.int i] ∧ Q (.int (if i < 0 then -i else i)) H) gAbs := fun Hs H vs ds d Q sm r hg k => by
  unfold gAbs at hg
  split at hg
  · cases hg
    obtain ⟨v, rfl, rv⟩ := r.one
    cases rv
    exact ⟨_, rfl, k _ Hs H (Step.refl sm) (.int _)⟩
  · cases hg
theorem c_max : C1ok K (fun xs H Q => ∃ i j, xs = [V.int i, V.int j] ∧ Q (.int (if j > i then j else i)) H) gMax := fun Hs H vs ds d Q sm r hg k => by
  unfold gMax at hg
  split at hg
  · cases hg
    obtain ⟨v, u, rfl, rv, ru⟩ := r.two
    cases rv
    cases ru
    exact ⟨_, _, rfl, k _ Hs H (Step.refl sm) (.int _)⟩
  · cases hg
theorem c_min : C1ok K (fun xs H Q => ∃ i j, xs = [V.int i, V.int j] ∧ Q (.int (if j < i then j else i)) H) gMin := fun Hs H vs ds d Q sm r hg k => by
  unfold gMin at hg
  split at hg
  · cases hg
    obtain ⟨v, u, rfl, rv, ru⟩ := r.two
    cases rv
    cases ru
    exact ⟨_, _, rfl, k _ Hs H (Step.refl sm) (.int _)⟩
  · cases hg
theorem c_list : C1ok K (fun xs H Q => ∃ p ys, xs = [V.ref p] ∧ (SqL K H p ys ∨ SqT K H p ys) ∧ ∀ l, H l = none → Q (.ref l) (upd H l (.lst ys))) gList := fun Hs H vs ds d Q sm r hg k => by
  unfold gList at hg
  split at hg
  · cases hg
    obtain ⟨v, rfl, rv⟩ := r.one
    cases rv
    rename_i a xs h1 r1
    refine ⟨_, _, rfl, .inl (SqL.of (sm _ _ h1)), fun l hl => ?_⟩
    have sn := Step.new sm hl (.lst xs)
    exact k _ _ _ sn (.lst upd_same (RpAll.mono sn.s _ _ r1))
  · cases hg
    obtain ⟨v, rfl, rv⟩ := r.one
    cases rv
    rename_i a xs h1 r1
    refine ⟨_, _, rfl, .inr (SqT.of (sm _ _ h1)), fun l hl => ?_⟩
    have sn := Step.new sm hl (.lst xs)
    exact k _ _ _ sn (.lst upd_same (RpAll.mono sn.s _ _ r1))
  · cases hg
theorem c_int : C1ok K (fun xs H Q => (∃ i, xs = [V.int i] ∧ Q (.int i) H) ∨ ∃ k, xs = [V.bl k] ∧ Q (.int (if k then 1 else 0)) H) gInt := fun Hs H vs ds d Q sm r hg k => by
  unfold gInt at hg
  split at hg
  · cases hg
    obtain ⟨v, rfl, rv⟩ := r.one
    cases rv
    exact .inl ⟨_, rfl, k _ Hs H (Step.refl sm) (.int _)⟩
  · cases hg
    obtain ⟨v, rfl, rv⟩ := r.one
    cases rv
    exact .inr ⟨_, rfl, k _ Hs H (Step.refl sm) (.int _)⟩
  · cases hg
end
/-- all of a list of truth values -/
def blsOf : List D → Option (List Bool)
  | [] => some []
  | .bl b :: ds => (match blsOf ds with | some bs => some (b :: bs) | none => none)
  | _ :: _ => none
theorem blsOf_eq : ∀ {ds : List D} {bs : List Bool}, blsOf ds = some bs → ds = bs.map D.bl
  | [], _, h => by cases h; rfl
  | .bl b :: ds, bs, h => by
    unfold blsOf at h
    split at h
    · rename_i bs' h'
      cases h
      rw [blsOf_eq h']
      rfl
    · cases h
  | .non :: _, _, h | .int _ :: _, _, h | .str _ :: _, _, h | .lst _ :: _, _, h | .tup _ :: _, _, h | .fz _ :: _, _, h => by cases h
theorem blsOf_map (bs : List Bool) : blsOf (bs.map D.bl) = some bs := by
  induction bs with
  | nil => rfl
  | cons b bs ih =>
    show (match blsOf (bs.map D.bl) with | some bs => some (b :: bs) | none => none) = _
    rw [ih]
def gAll : List D → Option D
  | [.lst ds] => (match blsOf ds with | some bs => some (.bl (bs.all id)) | none => none)
  | _ => none
theorem c_all {K : PySem.W.Frag} : C1ok K (rAll K) gAll := fun Hs H vs ds d Q sm r hg k => by
  unfold gAll at hg
  split at hg
  · split at hg
    · rename_i bs hb
      cases hg
      obtain ⟨v, rfl, rv⟩ := r.one
      have e := blsOf_eq hb
      subst e
      cases rv
      rename_i a xs h1 r1
      have e2 := r1.bls
      subst e2
      exact ⟨_, _, rfl, SqL.of (sm _ _ h1), k _ Hs H (Step.refl sm) (.bl _)⟩
    · cases hg
  · cases hg
/-- isinstance with a built-in class -/
def tyN : D → String
  | .non => "NoneType"
  | .bl _ => "bool"
  | .int _ => "int"
  | .str _ => "str"
  | .lst _ => "list"
  | .tup _ => "tuple"
  | .fz _ => "list"
def gIsi (T : String) (d : D) : Option D := (kitB (tyN d) T).map D.bl
theorem Rp.ty {K : PySem.W.Frag} {H : Hp} {v : V} {d : D} (r : Rp K H v d) : TyX K H v (.type (tyN d)) := by
  cases r with
  | non => exact .base .non
  | bl b => exact .base (.bl b)
  | int i => exact .base (.int i)
  | str x => exact .base (.str x)
  | lst h _ => exact .base (.lst h)
  | tup h _ => exact .base (.tup h)
  | fz h =>
    rcases h with (h | ⟨o, h⟩) | ⟨o, _, _, h, hc, _⟩
    · exact .base (.lst h)
    · exact .base (.frz h)
    · exact .kList h hc
section
variable {X : Cx} {e : Expr} {es : List Expr} {f : Ro → Option D} {fs : List (Ro → Option D)} {pos p p2 : Pos} {x : Str}
theorem d_len (hm : X.mg "len" = none) (ha : PE X e (tD X.K f)) (hg : Gl X "len" := by rfl) (h1 : starEach [e] X.env = (false, eval e X.env) :: starEach [] X.env := by rfl)
    (hpl : (backTo pos (starEach [] X.env)).any (·.1) = false := by rfl) : PE X (.Call (.Name "len" p) [e] [] pos) (tD X.K (callF gLen [f])) :=
  d_callB call_len c_len hm (by decide +kernel) (a_cons ha a_nil h1) hg (by decide) (by decide) h1 hpl
theorem d_abs (hm : X.mg "abs" = none) (ha : PE X e (tD X.K f)) (hg : Gl X "abs" := by rfl) (h1 : starEach [e] X.env = (false, eval e X.env) :: starEach [] X.env := by rfl)
    (hpl : (backTo pos (starEach [] X.env)).any (·.1) = false := by rfl) : PE X (.Call (.Name "abs" p) [e] [] pos) (tD X.K (callF gAbs [f])) :=
  d_callB call_abs c_abs hm (by decide +kernel) (a_cons ha a_nil h1) hg (by decide) (by decide) h1 hpl
theorem d_all (hc : X.calm = true) (hm : X.mg "all" = none) (ha : PE X e (tD X.K f)) (hg : Gl X "all" := by rfl) (h1 : starEach [e] X.env = (false, eval e X.env) :: starEach [] X.env := by rfl)
    (hpl : (backTo pos (starEach [] X.env)).any (·.1) = false := by rfl) : PE X (.Call (.Name "all" p) [e] [] pos) (tD X.K (callF gAll [f])) :=
  d_callB (cr_all hc) c_all hm (by decide +kernel) (a_cons ha a_nil h1) hg (by decide) (by decide) h1 hpl
theorem d_max {e2 : Expr} {f2 : Ro → Option D} (hc : X.calm = true) (hm : X.mg "max" = none) (ha : PE X e (tD X.K f)) (hb : PE X e2 (tD X.K f2)) (hg : Gl X "max" := by rfl) (h1 : starEach [e, e2] X.env = (false, eval e X.env) :: starEach [e2] X.env := by rfl) (h2 : starEach [e2] X.env = (false, eval e2 X.env) :: starEach [] X.env := by rfl)
    (hpl : (backTo pos (starEach [e2] X.env)).any (·.1) = false := by rfl) : PE X (.Call (.Name "max" p) [e, e2] [] pos) (tD X.K (callF gMax [f, f2])) :=
  d_callB (call_max2 hc) c_max hm (by decide +kernel) (a_cons ha (a_cons hb a_nil h2) h1) hg (by decide) (by decide) h1 hpl
theorem d_min {e2 : Expr} {f2 : Ro → Option D} (hc : X.calm = true) (hm : X.mg "min" = none) (ha : PE X e (tD X.K f)) (hb : PE X e2 (tD X.K f2)) (hg : Gl X "min" := by rfl) (h1 : starEach [e, e2] X.env = (false, eval e X.env) :: starEach [e2] X.env := by rfl) (h2 : starEach [e2] X.env = (false, eval e2 X.env) :: starEach [] X.env := by rfl)
    (hpl : (backTo pos (starEach [e2] X.env)).any (·.1) = false := by rfl) : PE X (.Call (.Name "min" p) [e, e2] [] pos) (tD X.K (callF gMin [f, f2])) :=
  d_callB (call_min2 hc) c_min hm (by decide +kernel) (a_cons ha (a_cons hb a_nil h2) h1) hg (by decide) (by decide) h1 hpl
theorem d_list (hm : X.mg "list" = none) (ha : PE X e (tD X.K f)) (hg : Gl X "list" := by rfl) (h1 : starEach [e] X.env = (false, eval e X.env) :: starEach [] X.env := by rfl)
    (hpl : (backTo pos (starEach [] X.env)).any (·.1) = false := by rfl) : PE X (.Call (.Name "list" p) [e] [] pos) (tD X.K (callF gList [f])) :=
  d_callTy call_list_of c_list hm (by decide +kernel) (a_cons ha a_nil h1) hg (by decide) (by decide) h1 hpl
theorem d_intB (hm : X.mg "int" = none) (ha : PE X e (tD X.K f)) (hg : Gl X "int" := by rfl) (h1 : starEach [e] X.env = (false, eval e X.env) :: starEach [] X.env := by rfl)
    (hpl : (backTo pos (starEach [] X.env)).any (·.1) = false := by rfl) : PE X (.Call (.Name "int" p) [e] [] pos) (tD X.K (callF gInt [f])) :=
  d_callTy call_int1 c_int hm (by decide +kernel) (a_cons ha a_nil h1) hg (by decide) (by decide) h1 hpl
theorem d_isi {T : String} (hmi : X.mg "isinstance" = none) (hmt : X.mg x = none) (hv : bootBuiltins x = some (.type T)) (ha : PE X e (tD X.K f)) (hgi : Gl X "isinstance" := by rfl) (hgt : Gl X x := by rfl)
    (hnt : x ≠ "__name__" := by decide) (hdt : (x == ("__debug__" : Str)) = false := by decide) (h1 : starEach [e, .Name x p2] X.env = (false, eval e X.env) :: starEach [.Name x p2] X.env := by rfl) (h2 : starEach [.Name x p2] X.env = (false, eval (.Name x p2) X.env) :: starEach [] X.env := by rfl)
    (hpl : (backTo pos (starEach [.Name x p2] X.env)).any (·.1) = false := by rfl) : PE X (.Call (.Name "isinstance" p) [e, .Name x p2] [] pos) (tD X.K (un (gIsi T) f)) :=
  pe_of (pe_callB call_isi hgi hmi (by decide +kernel) (pa_cons ha (pa_cons (pe_bltn (v := .ty T) hgt hmt hv rfl hnt hdt) pa_nil h2) h1) (by decide) (by decide) h1 hpl) fun σ H Q h => by
    obtain ⟨ρ, Hs, d, vr, sm, hf, k⟩ := h
    unfold un at hf
    split at hf
    · rename_i y hy
      unfold gIsi at hf
      rw [Option.map_eq_some_iff] at hf
      obtain ⟨b, hb, e1⟩ := hf
      subst e1
      refine ⟨ρ, Hs, y, vr, sm, hy, fun v Hs1 H1 s1 r1 => ?_⟩
      exact ⟨v, .ty T, _, _, b, rfl, .ty T, (Rp.mono s1.i _ _ r1).ty, kit_ty hb, k _ Hs1 H1 s1 (.bl b)⟩
    · cases hf
end

/-! ### what is walked -/
structure ItOk (K : PySem.W.Frag) (Hs : Hp) (J : It) (ds : List D) : Prop where
  go : ∀ i H, Same Hs H → i < ds.length → J.go i H
  stop : ∀ i H, Same Hs H → ds.length ≤ i → J.stop i H
  yld : ∀ i Hsi H x H' d, Same Hs Hsi → Same Hsi H → ds[i]? = some d → J.yld i H x H' → ∃ Hsi', Step Hsi H Hsi' H' ∧ Rp K Hsi' x d
def tDI (K : PySem.W.Frag) (f : Ro → Option (List D)) : TI := fun σ H R => ∃ ρ Hs ds, VR K Hs σ ρ ∧ Same Hs H ∧ f ρ = some ds ∧ ∀ J Hs' H', Step Hs H Hs' H' → ItOk K Hs' J ds → R J H'
def itemsF (f : Ro → Option D) : Ro → Option (List D) := fun ρ => match f ρ with | some (.lst ds) => some ds | _ => none
def itemsT (f : Ro → Option D) : Ro → Option (List D) := fun ρ => match f ρ with | some (.tup ds) => some ds | _ => none
def signs (x : Str) : List D := x.cps.toList.map fun c => .str ⟨#[c]⟩
def itemsS (f : Ro → Option D) : Ro → Option (List D) := fun ρ => match f ρ with | some (.str x) => some (signs x) | _ => none
/-- lo, lo + 1, .. -/
def rangeD (lo : Int) (n : Nat) : List D := (List.range n).map fun i => .int (lo + (i : Nat))
def itemsR1 (f : Ro → Option D) : Ro → Option (List D) := fun ρ => match f ρ with | some (.int n) => if -(2 ^ 62) ≤ n ∧ n < 2 ^ 62 then some (rangeD 0 n.toNat) else none | _ => none
def itemsR2 (f g : Ro → Option D) : Ro → Option (List D) := fun ρ => match f ρ with
  | some (.int a) => (match g ρ with | some (.int b) => if (-(2 ^ 62) ≤ a ∧ a < 2 ^ 62) ∧ (-(2 ^ 62) ≤ b ∧ b < 2 ^ 62) then some (rangeD a (b - a).toNat) else none | _ => none)
  | _ => none
theorem rangeD_get {lo : Int} {n i : Nat} {d : D} (h : (rangeD lo n)[i]? = some d) : d = .int (lo + (i : Nat)) := by
  unfold rangeD at h
  rw [List.getElem?_map] at h
  by_cases hi : i < n
  · rw [List.getElem?_range hi] at h
    cases h
    rfl
  · rw [List.getElem?_eq_none (by rw [List.length_range]; omega)] at h
    cases h
theorem rangeD_length (lo : Int) (n : Nat) : (rangeD lo n).length = n := by
  unfold rangeD
  rw [List.length_map, List.length_range]
section
variable {X : Cx} {tg e e2 : Expr} {f f2 : Ro → Option D} {pos p : Pos}
theorem i_list (ha : PE X e (tD X.K f)) : PI X tg e (tDI X.K (itemsF f)) := pi_of (pi_list ha) fun σ H R h => by
  obtain ⟨ρ, Hs, ds, vr, sm, hf, k⟩ := h
  unfold itemsF at hf
  split at hf
  · rename_i ds' hd
    cases hf
    refine ⟨ρ, Hs, _, vr, sm, hd, fun v Hs1 H1 s1 r1 => ?_⟩
    cases r1
    rename_i a xs h1 r
    refine ⟨a, rfl, ⟨xs, SqL.of (s1.i _ _ h1)⟩, k _ Hs1 H1 s1 ⟨fun i H2 sm2 hi => ?_, fun i H2 sm2 hi => ⟨xs, SqL.of (sm2 _ _ h1), by rw [r.length]; exact hi⟩, fun i Hsi H2 x H3 d sma smb hd' y => ?_⟩⟩
    · have hi' : i < xs.length := by rw [r.length]; exact hi
      exact ⟨xs, xs[i], SqL.of (sm2 _ _ h1), List.getElem?_eq_getElem hi'⟩
    · obtain ⟨e1, y⟩ := y
      subst e1
      obtain ⟨v, hv, rv⟩ := r.get hd'
      have e2 := (y xs (SqL.of (smb _ _ (sma _ _ h1)))).symm.trans hv
      cases e2
      exact ⟨Hsi, Step.refl smb, Rp.mono sma _ _ rv⟩
  · cases hf
theorem i_tup (ha : PE X e (tD X.K f)) : PI X tg e (tDI X.K (itemsT f)) := pi_of (pi_tup ha) fun σ H R h => by
  obtain ⟨ρ, Hs, ds, vr, sm, hf, k⟩ := h
  unfold itemsT at hf
  split at hf
  · rename_i ds' hd
    cases hf
    refine ⟨ρ, Hs, _, vr, sm, hd, fun v Hs1 H1 s1 r1 => ?_⟩
    cases r1
    rename_i a xs h1 r
    refine ⟨a, rfl, ⟨xs, SqT.of (s1.i _ _ h1)⟩, k _ Hs1 H1 s1 ⟨fun i H2 sm2 hi => ?_, fun i H2 sm2 hi => ⟨xs, SqT.of (sm2 _ _ h1), by rw [r.length]; exact hi⟩, fun i Hsi H2 x H3 d sma smb hd' y => ?_⟩⟩
    · have hi' : i < xs.length := by rw [r.length]; exact hi
      exact ⟨xs, xs[i], SqT.of (sm2 _ _ h1), List.getElem?_eq_getElem hi'⟩
    · obtain ⟨e1, y⟩ := y
      subst e1
      obtain ⟨v, hv, rv⟩ := r.get hd'
      have e2 := (y xs (SqT.of (smb _ _ (sma _ _ h1)))).symm.trans hv
      cases e2
      exact ⟨Hsi, Step.refl smb, Rp.mono sma _ _ rv⟩
  · cases hf
theorem i_str (ha : PE X e (tD X.K f)) : PI X tg e (tDI X.K (itemsS f)) := pi_of (pi_str ha) fun σ H R h => by
  obtain ⟨ρ, Hs, ds, vr, sm, hf, k⟩ := h
  unfold itemsS at hf
  split at hf
  · rename_i x hd
    cases hf
    refine ⟨ρ, Hs, _, vr, sm, hd, fun v Hs1 H1 s1 r1 => ?_⟩
    cases r1
    have hl : (signs x).length = x.cps.size := by unfold signs; rw [List.length_map, Array.length_toList]
    refine ⟨x, rfl, k _ Hs1 H1 s1 ⟨fun i H2 sm2 hi => by rw [hl] at hi; exact hi, fun i H2 sm2 hi => by rw [hl] at hi; exact hi, fun i Hsi H2 v H3 d sma smb hd' y => ?_⟩⟩
    obtain ⟨e1, c, hc, e2⟩ := y
    subst e1
    subst e2
    unfold signs at hd'
    rw [List.getElem?_map, Array.getElem?_toList, hc] at hd'
    cases hd'
    exact ⟨Hsi, Step.refl smb, .str _⟩
  · cases hf
theorem itr_ok {K : PySem.W.Frag} {Hs : Hp} (lo : Int) (n : Nat) : ItOk K Hs (Itr lo n) (rangeD lo n) := by
  refine ⟨fun i H sm hi => by rw [rangeD_length] at hi; exact hi, fun i H sm hi => by rw [rangeD_length] at hi; exact hi, fun i Hsi H x H' d sma smb hd y => ?_⟩
  obtain ⟨e1, e2⟩ := y
  subst e1
  subst e2
  have e := rangeD_get hd
  subst e
  exact ⟨Hsi, Step.refl smb, .int _⟩
theorem i_range1 (hm : X.mg "range" = none) (ha : PE X e (tD X.K f)) (hg : Gl X "range" := by rfl) (h1 : starEach [e] X.env = [(false, eval e X.env)] := by rfl) : PI X tg (.Call (.Name "range" p) [e] [] pos) (tDI X.K (itemsR1 f)) := pi_of (pi_range1 hg hm (a_cons ha a_nil h1) h1) fun σ H R h => by
  obtain ⟨ρ, Hs, ds, vr, sm, hf, k⟩ := h
  unfold itemsR1 at hf
  split at hf
  · rename_i n hn
    split at hf
    · rename_i hb
      cases hf
      refine ⟨ρ, Hs, [.int n], vr, sm, by unfold argsF; rw [hn] <;> rfl, fun vs Hs1 H1 s1 r1 => ?_⟩
      obtain ⟨v, rfl, rv⟩ := r1.one
      cases rv
      exact ⟨n, rfl, hb.1, hb.2, k _ Hs1 H1 s1 (itr_ok 0 n.toNat)⟩
    · cases hf
  · cases hf
theorem i_range2 (hm : X.mg "range" = none) (ha : PE X e (tD X.K f)) (hb : PE X e2 (tD X.K f2)) (hg : Gl X "range" := by rfl) (h1 : starEach [e, e2] X.env = [(false, eval e X.env), (false, eval e2 X.env)] := by rfl) (h2 : starEach [e2] X.env = [(false, eval e2 X.env)] := by rfl) :
    PI X tg (.Call (.Name "range" p) [e, e2] [] pos) (tDI X.K (itemsR2 f f2)) := pi_of (pi_range2 hg hm (a_cons ha (a_cons hb a_nil h2) (by rw [h1, h2])) h1 h2) fun σ H R h => by
  obtain ⟨ρ, Hs, ds, vr, sm, hf, k⟩ := h
  unfold itemsR2 at hf
  split at hf
  · rename_i n hn
    split at hf
    · rename_i m hm'
      split at hf
      · rename_i hb
        cases hf
        refine ⟨ρ, Hs, [.int n, .int m], vr, sm, by unfold argsF argsF; rw [hn, hm'] <;> rfl, fun vs Hs1 H1 s1 r1 => ?_⟩
        obtain ⟨v, u, rfl, rv, ru⟩ := r1.two
        cases rv
        cases ru
        exact ⟨n, m, rfl, ⟨hb.1.1, hb.1.2, hb.2.1, hb.2.2⟩, k _ Hs1 H1 s1 (itr_ok n (m - n).toNat)⟩
      · cases hf
    · cases hf
  · cases hf
end

/-! ### comprehensions -/
def yesT : Ro → Option Bool := fun _ => some true
def compL (c : Ro → Option Bool) (e : Ro → Option D) (j : Nat) (ρ : Ro) : List D → Option (List D)
  | [] => some []
  | d :: ds => match c (ρ.set j (.val d)) with
    | some true => (match e (ρ.set j (.val d)) with
      | some v => (match compL c e j ρ ds with | some r => some (v :: r) | none => none)
      | none => none)
    | some false => compL c e j ρ ds
    | none => none
def compF (src : Ro → Option (List D)) (j : Nat) (c : Ro → Option Bool) (e : Ro → Option D) : Ro → Option D := fun ρ => match src ρ with
  | some ds => if ds.length ≤ sz then (match compL c e j ρ ds with | some r => some (.lst r) | none => none) else none
  | none => none
theorem pts_of {X : Cx} {es : List Expr} {t t' : TT} (h : PTs X es t) (m : ∀ σ H Q, t' σ H Q → t σ H Q) : PTs X es t' := ⟨fun pins s σ H Q I hq => h.run pins s σ H Q I (m _ _ _ hq)⟩
section
variable {X : Cx}
theorem ts_nil : PTs X [] (tDT X.K yesT) := pts_of pts_nil fun σ H Q h => by
  obtain ⟨ρ, Hs, b, vr, sm, hf, k⟩ := h
  cases hf
  exact k H (Same.refl H)
theorem ts_one {c : Expr} {f : Ro → Option Bool} (h : PT X c (tDT X.K f)) : PTs X [c] (tDT X.K f) := pts_one h
theorem tLc_of {K : PySem.W.Frag} {src : Ro → Option (List D)} {j : Nat} {c : Ro → Option Bool} {e : Ro → Option D} : ∀ (σ : L2.St) (H : Hp) (Q : VK), tD K (compF src j c e) σ H Q → tLc (tDI K src) (gName j) (tDT K c) (tD K e) [j] σ H Q := fun σ H Q h => by
  obtain ⟨ρ, Hs, d, vr, sm, hf, k⟩ := h
  unfold compF at hf
  split at hf
  · rename_i ds hds
    split at hf
    · rename_i hz
      split at hf
      · rename_i r hr
        cases hf
        refine ⟨ρ, Hs, ds, vr, sm, hds, fun J Hs1 H1 s1 it Dl hD => ?_⟩
        refine ⟨fun i m H' => m = ds.length - i ∧ i ≤ ds.length ∧ ∃ Hsi vs acc rest, Step Hs1 H1 Hsi H' ∧ Hsi Dl = none ∧ H' Dl = some (.lst vs) ∧ RpAll K Hsi vs acc ∧ acc.length ≤ i ∧ compL c e j ρ (ds.drop i) = some rest ∧ acc ++ rest = r,
          ⟨ds.length, rfl, Nat.zero_le _, Hs1, [], [], r, ⟨Same.refl _, same_new hD _, s1.i.trans (same_new hD _), fun _ _ => rfl⟩, s1.i.free hD, upd_same, .nil, Nat.zero_le _, hr, rfl⟩, ?_⟩
        rintro i m H' ⟨rfl, hi, Hsi, vs, acc, rest, st, hsD, hD', ra, hal, hc, happ⟩
        by_cases hlt : i < ds.length
        · refine .inr ⟨it.go i H' (st.s.trans st.i) hlt, fun H'' => i + 1 ≤ ds.length ∧ ∃ Hsi vs acc rest, Step Hs1 H1 Hsi H'' ∧ Hsi Dl = none ∧ H'' Dl = some (.lst vs) ∧ RpAll K Hsi vs acc ∧ acc.length ≤ i + 1 ∧ compL c e j ρ (ds.drop (i + 1)) = some rest ∧ acc ++ rest = r,
            fun H'' q => ⟨ds.length - (i + 1), by omega, rfl, q.1, q.2⟩, fun x H2 y => ?_⟩
          have hget : ds[i]? = some ds[i] := List.getElem?_eq_getElem hlt
          obtain ⟨Hs2, s2, rx⟩ := it.yld i Hsi H' x H2 _ st.s st.i hget y
          have hdrop : ds.drop i = ds[i] :: ds.drop (i + 1) := List.drop_eq_getElem_cons hlt
          rw [hdrop] at hc
          unfold compL at hc
          have st2 := st.trans s2
          have vr2 : VR K Hs2 ((wipe σ [j]).set j (some x)) (ρ.set j (.val ds[i])) := by
            have q := ((vr.mono ((s1.s.trans st2.s))).wipe j).set j rx
            rw [List.set_set] at q
            exact q
          have hw : wipe ((wipe σ [j]).set j (some x)) [j] = wipe σ [j] := by
            show (((σ.set j none).set j (some x)).set j none) = σ.set j none
            rw [List.set_set, List.set_set]
          have h2D : Hs2 Dl = none := (s2.f Dl (by rw [hD']; exact fun z => nomatch z)).trans hsD
          have h2D' : H2 Dl = some (.lst vs) := s2.e _ _ hD'
          refine ⟨hw, ?_⟩
          show tDT K c ((wipe σ [j]).set j (some x)) H2 _
          split at hc
          · rename_i hb
            refine ⟨_, Hs2, true, vr2, s2.i, hb, fun H3 e3 => ?_⟩
            refine iteT ?_
            split at hc
            · rename_i v hv
              split at hc
              · rename_i rest' hrest
                cases hc
                refine ⟨_, Hs2, v, vr2, s2.i.trans e3, hv, fun w Hs4 H4 s4 r4 => ?_⟩
                have h3D : H3 Dl = some (.lst vs) := e3 _ _ h2D'
                have h4D : H4 Dl = some (.lst vs) := s4.e _ _ h3D
                have h4s : Hs4 Dl = none := (s4.f Dl (by rw [h3D]; exact fun z => nomatch z)).trans h2D
                refine ⟨vs, h4D, sz_lt (by rw [ra.length]; omega), hlt, Hs4, vs ++ [w], acc ++ [v], rest', ?_, h4s, upd_same, (RpAll.mono (s2.s.trans s4.s) _ _ ra).append (.cons r4 .nil), by rw [List.length_append]; simp; omega, hrest, by rw [List.append_assoc]; exact happ⟩
                have st4 : Step Hs1 H1 Hs4 H4 := (st2.trans (Step.grow s2.i e3)).trans s4
                refine ⟨st4.s, fun b u q => ?_, fun b u q => ?_, st4.f⟩
                · rw [upd_ne (ne_of_none q hD)]
                  exact st4.e _ _ q
                · rw [upd_ne (ne_of_none q h4s)]
                  exact st4.i _ _ q
              · cases hc
            · cases hc
          · rename_i hb
            refine ⟨_, Hs2, false, vr2, s2.i, hb, fun H3 e3 => ?_⟩
            refine iteF ?_
            exact ⟨hlt, Hs2, vs, acc, rest, st2.trans (Step.grow s2.i e3), h2D, e3 _ _ h2D', RpAll.mono s2.s _ _ ra, by omega, hc, happ⟩
          · cases hc
        · have e1 : i = ds.length := by omega
          subst e1
          refine .inl ⟨it.stop _ H' (st.s.trans st.i) (Nat.le_refl _), ?_⟩
          rw [List.drop_length] at hc
          cases hc
          rw [List.append_nil] at happ
          subst happ
          have hne : ∀ a, H1 a ≠ none → a ≠ Dl := fun a ha z => ha (by rw [z]; exact hD)
          have si : Same (upd Hsi Dl (.lst vs)) H' := fun b u q => by
            by_cases hb : b = Dl
            · subst hb
              rw [upd_same] at q
              rw [hD']
              exact q
            · rw [upd_ne hb] at q
              exact st.i _ _ q
          have s1' : ∀ a, H a ≠ none → H1 a ≠ none := fun a ha z => ha (s1.e.free z)
          refine k _ _ _ ⟨(s1.s.trans st.s).trans (same_new hsD _), s1.e.trans st.e, si, fun a ha => ?_⟩ (.lst upd_same (RpAll.mono (same_new hsD _) _ _ ra))
          rw [upd_ne (hne a (s1' a ha))]
          exact (st.f a (s1' a ha)).trans (s1.f a ha)
      · cases hf
    · cases hf
  · cases hf
end
end Dn

namespace Dn
open PySem PySem.Spec PyProof.Rows L2

/-! ### statements -/
inductive Out where
  | nx (ρ : Ro) | rt (d : D) (ρ : Ro) | bk (ρ : Ro) | ct (ρ : Ro) | ex (c : String)
abbrev SF := Ro → Option Out

/-- the state within a def's body that began at (Hs0, H0): P is the address of the list that the caller hands on to be changed -/
structure SR (K : PySem.W.Frag) (P : Option Addr) (Hs0 H0 Hs H : Hp) (σ : L2.St) (ρ : Ro) : Prop where
  st : Step Hs0 H0 Hs H
  vr : VR K Hs σ ρ
  own : ∀ (i : Nat) ds, ρ[i]? = some (.own ds) → ∃ l vs, σ[i]? = some (some (.ref l)) ∧ H l = some (.lst vs) ∧ Hs l = none ∧ H0 l = none ∧ P ≠ some l ∧ RpAll K Hs vs ds
  par : ∀ (i : Nat) ds, ρ[i]? = some (.par ds) → ∃ l vs, P = some l ∧ σ[i]? = some (some (.ref l)) ∧ H l = some (.lst vs) ∧ Hs l = none ∧ H0 l = none ∧ RpAll K Hs vs ds
  view : ∀ (i : Nat) ds, ρ[i]? = some (.view ds) → ∃ l vs, σ[i]? = some (some (.ref l)) ∧ H0 l = some (.lst vs) ∧ RpAll K Hs vs ds
  sep : ∀ (i j : Nat) di dj, i ≠ j → ρ[i]? = some (.own di) → ρ[j]? = some (.own dj) → σ[i]? ≠ σ[j]?
  one : ∀ (i j : Nat) di dj, ρ[i]? = some (.par di) → ρ[j]? = some (.par dj) → i = j
  pa : ∀ l, P = some l → H l ≠ none

/-- what is wanted behind a statement's end -/
def Fin (K : PySem.W.Frag) (xw : String → Hp → Prop) (P : Option Addr) (Hs0 H0 : Hp) (E : Ends) : Out → Prop
  | .nx ρ => ∀ σ Hs H, SR K P Hs0 H0 Hs H σ ρ → E.nx σ H
  | .bk ρ => ∀ σ Hs H, SR K P Hs0 H0 Hs H σ ρ → E.bk σ H
  | .ct ρ => ∀ σ Hs H, SR K P Hs0 H0 Hs H σ ρ → E.ct σ H
  | .rt d ρ => ∀ v σ Hs H, SR K P Hs0 H0 Hs H σ ρ → Rp K Hs v d → E.rt v H
  | .ex c => ∀ Hs H, Step Hs0 H0 Hs H → xw c H
def tDS (K : PySem.W.Frag) (xw : String → Hp → Prop) (F : SF) : TS := fun E σ H => ∃ P Hs0 H0 Hs ρ o, SR K P Hs0 H0 Hs H σ ρ ∧ F ρ = some o ∧ Fin K xw P Hs0 H0 E o

section
variable {K : PySem.W.Frag} {P : Option Addr} {Hs0 H0 Hs H Hs' H' : Hp} {σ : L2.St} {ρ : Ro}
theorem SR.step (s : SR K P Hs0 H0 Hs H σ ρ) (t : Step Hs H Hs' H') : SR K P Hs0 H0 Hs' H' σ ρ where
  st := s.st.trans t
  vr := s.vr.mono t.s
  own := fun i ds h => by
    obtain ⟨l, vs, h1, h2, h3, h4, h5, h6⟩ := s.own i ds h
    exact ⟨l, vs, h1, t.e _ _ h2, (t.f l (by rw [h2]; exact fun z => nomatch z)).trans h3, h4, h5, RpAll.mono t.s _ _ h6⟩
  par := fun i ds h => by
    obtain ⟨l, vs, h0, h1, h2, h3, h4, h6⟩ := s.par i ds h
    exact ⟨l, vs, h0, h1, t.e _ _ h2, (t.f l (by rw [h2]; exact fun z => nomatch z)).trans h3, h4, RpAll.mono t.s _ _ h6⟩
  view := fun i ds h => by
    obtain ⟨l, vs, h1, h2, h3⟩ := s.view i ds h
    exact ⟨l, vs, h1, h2, RpAll.mono t.s _ _ h3⟩
  sep := s.sep
  one := s.one
  pa := fun l h z => s.pa l h (t.e.free z)
theorem SR.same (s : SR K P Hs0 H0 Hs H σ ρ) : Same Hs H := s.st.i
theorem set_ne_val {i k : Nat} {x y : Slot} (hxy : x ≠ y) (h : (ρ.set i x)[k]? = some y) : k ≠ i ∧ ρ[k]? = some y := by
  by_cases hk : i = k
  · subst hk
    rw [List.getElem?_set] at h
    simp only [if_true] at h
    split at h
    · exact absurd (Option.some.inj h) hxy
    · cases h
  · rw [List.getElem?_set_ne hk] at h
    exact ⟨fun z => hk z.symm, h⟩
/-- a slot takes a stable value -/
theorem SR.setVal (s : SR K P Hs0 H0 Hs H σ ρ) (i : Nat) {v : V} {d : D} (r : Rp K Hs v d) : SR K P Hs0 H0 Hs H (σ.set i (some v)) (ρ.set i (.val d)) where
  st := s.st
  vr := s.vr.set i r
  own := fun k ds h => by
    obtain ⟨hk, h⟩ := set_ne_val (by exact fun z => nomatch z) h
    rw [List.getElem?_set_ne (Ne.symm hk)]
    exact s.own k ds h
  par := fun k ds h => by
    obtain ⟨hk, h⟩ := set_ne_val (by exact fun z => nomatch z) h
    rw [List.getElem?_set_ne (Ne.symm hk)]
    exact s.par k ds h
  view := fun k ds h => by
    obtain ⟨hk, h⟩ := set_ne_val (by exact fun z => nomatch z) h
    rw [List.getElem?_set_ne (Ne.symm hk)]
    exact s.view k ds h
  sep := fun a b da db hab h1 h2 => by
    obtain ⟨ha, h1⟩ := set_ne_val (by exact fun z => nomatch z) h1
    obtain ⟨hb, h2⟩ := set_ne_val (by exact fun z => nomatch z) h2
    rw [List.getElem?_set_ne (Ne.symm ha), List.getElem?_set_ne (Ne.symm hb)]
    exact s.sep a b da db hab h1 h2
  one := fun a b da db h1 h2 => by
    obtain ⟨ha, h1⟩ := set_ne_val (by exact fun z => nomatch z) h1
    obtain ⟨hb, h2⟩ := set_ne_val (by exact fun z => nomatch z) h2
    exact s.one a b da db h1 h2
  pa := s.pa
theorem own_or {i k : Nat} {x : Slot} {y : Slot} (h : (ρ.set i x)[k]? = some y) : (k = i ∧ x = y ∧ i < ρ.length) ∨ (k ≠ i ∧ ρ[k]? = some y) := by
  by_cases hk : i = k
  · subst hk
    rw [List.getElem?_set] at h
    simp only [if_true] at h
    split at h
    · rename_i hl
      exact .inl ⟨rfl, Option.some.inj h, hl⟩
    · cases h
  · rw [List.getElem?_set_ne hk] at h
    exact .inr ⟨fun z => hk z.symm, h⟩
/-- a slot takes a list of its own, new at p -/
theorem SR.setOwn (s : SR K P Hs0 H0 Hs H σ ρ) (i : Nat) {p : Addr} {vs : List V} {ds : List D} (h1 : H p = some (.lst vs)) (h2 : Hs p = none) (h3 : H0 p = none) (h4 : P ≠ some p) (hn : ∀ (k : Nat) ds, ρ[k]? = some (.own ds) → σ[k]? ≠ some (some (.ref p))) (r : RpAll K Hs vs ds) :
    SR K P Hs0 H0 Hs H (σ.set i (some (.ref p))) (ρ.set i (.own ds)) where
  st := s.st
  vr := by
    refine ⟨by rw [List.length_set, List.length_set]; exact s.vr.1, fun k d hd => ?_⟩
    obtain ⟨hk, h⟩ := set_ne_val (by exact fun z => nomatch z) hd
    rw [List.getElem?_set_ne (Ne.symm hk)]
    exact s.vr.2 k d h
  own := fun k ds' h => by
    rcases own_or h with ⟨rfl, e, hl⟩ | ⟨hk, h⟩
    · cases e
      exact ⟨p, vs, by rw [List.getElem?_set_self (by rw [s.vr.1]; exact hl)], h1, h2, h3, h4, r⟩
    · rw [List.getElem?_set_ne (Ne.symm hk)]
      exact s.own k ds' h
  par := fun k ds h => by
    obtain ⟨hk, h⟩ := set_ne_val (by exact fun z => nomatch z) h
    rw [List.getElem?_set_ne (Ne.symm hk)]
    exact s.par k ds h
  view := fun k ds h => by
    obtain ⟨hk, h⟩ := set_ne_val (by exact fun z => nomatch z) h
    rw [List.getElem?_set_ne (Ne.symm hk)]
    exact s.view k ds h
  sep := fun a b da db hab e1 e2 => by
    rcases own_or e1 with ⟨ra, _, hl⟩ | ⟨ha, g1⟩
    · rcases own_or e2 with ⟨rb, _, _⟩ | ⟨hb, g2⟩
      · exact absurd (ra.trans rb.symm) hab
      · rw [ra, List.getElem?_set_self (by rw [s.vr.1]; exact hl), List.getElem?_set_ne (Ne.symm hb)]
        exact (hn b db g2).symm
    · rcases own_or e2 with ⟨rb, _, hl⟩ | ⟨hb, g2⟩
      · rw [rb, List.getElem?_set_self (by rw [s.vr.1]; exact hl), List.getElem?_set_ne (Ne.symm ha)]
        exact hn a da g1
      · rw [List.getElem?_set_ne (Ne.symm ha), List.getElem?_set_ne (Ne.symm hb)]
        exact s.sep a b da db hab g1 g2
  one := fun a b da db h1 h2 => by
    obtain ⟨ha, h1⟩ := set_ne_val (by exact fun z => nomatch z) h1
    obtain ⟨hb, h2⟩ := set_ne_val (by exact fun z => nomatch z) h2
    exact s.one a b da db h1 h2
  pa := s.pa
end

/-- a slot's list is changed no more -/
def Slot.frz : Slot → Slot
  | .own ds => .val (.lst ds)
  | .par ds => .val (.lst ds)
  | s => s
/-- all that stands may be read -/
def Slot.bor : Slot → Slot
  | .own ds => .val (.lst ds)
  | .par ds => .val (.lst ds)
  | .view ds => .val (.lst ds)
  | s => s
def frzA (ρ : Ro) : Ro := ρ.map Slot.frz
def borA (ρ : Ro) : Ro := ρ.map Slot.bor
/-- slot i alone -/
def frz1 (i : Nat) (ρ : Ro) : Ro := match ρ[i]? with
  | some (.own ds) => ρ.set i (.val (.lst ds))
  | _ => ρ
section
variable {K : PySem.W.Frag} {P : Option Addr} {Hs0 H0 Hs H Hs' H' : Hp} {σ : L2.St} {ρ : Ro}
theorem SR.vrB (s : SR K P Hs0 H0 Hs H σ ρ) : VR K H σ (borA ρ) := by
  refine ⟨by unfold borA; rw [List.length_map]; exact s.vr.1, fun i d h => ?_⟩
  unfold borA at h
  rw [List.getElem?_map] at h
  cases e : ρ[i]? with
  | none => rw [e] at h; cases h
  | some x =>
    rw [e] at h
    cases x with
    | no => cases h
    | val d' =>
      cases h
      obtain ⟨v, h1, h2⟩ := s.vr.2 i _ e
      exact ⟨v, h1, Rp.mono s.st.i _ _ h2⟩
    | own ds =>
      cases h
      obtain ⟨l, vs, h1, h2, h3, h4, h5, h6⟩ := s.own i ds e
      exact ⟨_, h1, .lst h2 (RpAll.mono s.st.i _ _ h6)⟩
    | par ds =>
      cases h
      obtain ⟨l, vs, h0, h1, h2, h3, h4, h6⟩ := s.par i ds e
      exact ⟨_, h1, .lst h2 (RpAll.mono s.st.i _ _ h6)⟩
    | view ds =>
      cases h
      obtain ⟨l, vs, h1, h2, h6⟩ := s.view i ds e
      exact ⟨_, h1, .lst (s.st.e _ _ h2) (RpAll.mono s.st.i _ _ h6)⟩
/-- all that the body has made becomes stable -/
def allNew (H0 Hs H : Hp) : Hp := fun a => match H0 a with | none => H a | some _ => Hs a
theorem allNew_none {a : Addr} (h : H0 a = none) : allNew H0 Hs H a = H a := by unfold allNew; rw [h]
theorem allNew_some {a : Addr} (h : H0 a ≠ none) : allNew H0 Hs H a = Hs a := by
  unfold allNew
  cases e : H0 a with
  | none => exact absurd e h
  | some o => rfl
theorem allNew_le (i : Same Hs H) : Same Hs (allNew H0 Hs H) := fun a o h => by
  by_cases e : H0 a = none
  · rw [allNew_none e]; exact i _ _ h
  · rw [allNew_some e]; exact h
theorem allNew_same (i : Same Hs H) : Same (allNew H0 Hs H) H := fun a o h => by
  by_cases e : H0 a = none
  · rw [allNew_none e] at h; exact h
  · rw [allNew_some e] at h; exact i _ _ h
theorem SR.frzA (s : SR K P Hs0 H0 Hs H σ ρ) : SR K P Hs0 H0 (allNew H0 Hs H) H σ (frzA ρ) := by
  have le := allNew_le (H0 := H0) s.st.i
  have get : ∀ (i : Nat) x, (Dn.frzA ρ)[i]? = some x → ∃ y, ρ[i]? = some y ∧ x = y.frz := fun i x h => by
    unfold Dn.frzA at h
    rw [List.getElem?_map] at h
    cases e : ρ[i]? with
    | none => rw [e] at h; cases h
    | some y => rw [e] at h; cases h; exact ⟨y, rfl, rfl⟩
  refine ⟨⟨s.st.s.trans le, s.st.e, allNew_same s.st.i, fun a ha => (allNew_some ha).trans (s.st.f a ha)⟩, ⟨by unfold Dn.frzA; rw [List.length_map]; exact s.vr.1, fun i d h => ?_⟩, fun i ds h => ?_, fun i ds h => ?_, fun i ds h => ?_, fun i j di dj hij h1 h2 => ?_, fun i j di dj h1 h2 => ?_, s.pa⟩
  · obtain ⟨y, e, q⟩ := get i _ h
    cases y with
    | no => cases q
    | val d' =>
      cases q
      obtain ⟨v, h1, h2⟩ := s.vr.2 i _ e
      exact ⟨v, h1, Rp.mono le _ _ h2⟩
    | own ds =>
      cases q
      obtain ⟨l, vs, h1, h2, h3, h4, h5, h6⟩ := s.own i ds e
      exact ⟨_, h1, .lst (by rw [allNew_none h4]; exact h2) (RpAll.mono le _ _ h6)⟩
    | par ds =>
      cases q
      obtain ⟨l, vs, h0, h1, h2, h3, h4, h6⟩ := s.par i ds e
      exact ⟨_, h1, .lst (by rw [allNew_none h4]; exact h2) (RpAll.mono le _ _ h6)⟩
    | view ds => cases q
  · obtain ⟨y, e, q⟩ := get i _ h
    cases y <;> cases q
  · obtain ⟨y, e, q⟩ := get i _ h
    cases y <;> cases q
  · obtain ⟨y, e, q⟩ := get i _ h
    cases y <;> cases q
    obtain ⟨l, vs, h1, h2, h3⟩ := s.view i _ e
    exact ⟨l, vs, h1, h2, RpAll.mono le _ _ h3⟩
  · obtain ⟨y, e, q⟩ := get i _ h1
    cases y <;> cases q
  · obtain ⟨y, e, q⟩ := get i _ h1
    cases y <;> cases q
theorem SR.frz1 (s : SR K P Hs0 H0 Hs H σ ρ) (i : Nat) : ∃ Hs', SR K P Hs0 H0 Hs' H σ (frz1 i ρ) := by
  unfold Dn.frz1
  split
  · rename_i ds e
    obtain ⟨l, vs, h1, h2, h3, h4, h5, h6⟩ := s.own i ds e
    have le : Same Hs (upd Hs l (.lst vs)) := same_new h3 _
    have hsi : Same (upd Hs l (.lst vs)) H := fun b u q => by
      by_cases hb : b = l
      · subst hb
        rw [upd_same] at q
        rw [h2]
        exact q
      · rw [upd_ne hb] at q
        exact s.st.i _ _ q
    have st' : Step Hs0 H0 (upd Hs l (.lst vs)) H := ⟨s.st.s.trans le, s.st.e, hsi, fun a ha => by
      rw [upd_ne (fun z => ha (by rw [z]; exact h4))]
      exact s.st.f a ha⟩
    refine ⟨upd Hs l (.lst vs), ⟨st', ?_, fun k ds' h => ?_, fun k ds' h => ?_, fun k ds' h => ?_, fun a b da db hab e1 e2 => ?_, fun a b da db e1 e2 => ?_, s.pa⟩⟩
    · refine ⟨by rw [List.length_set]; exact s.vr.1, fun k d hd => ?_⟩
      rcases own_or hd with ⟨rfl, q, hl⟩ | ⟨hk, hd⟩
      · cases q
        exact ⟨_, h1, .lst upd_same (RpAll.mono le _ _ h6)⟩
      · obtain ⟨v, g1, g2⟩ := s.vr.2 k d hd
        exact ⟨v, g1, Rp.mono le _ _ g2⟩
    · obtain ⟨hk, h⟩ := set_ne_val (by exact fun z => nomatch z) h
      obtain ⟨l', vs', g1, g2, g3, g4, g5, g6⟩ := s.own k ds' h
      refine ⟨l', vs', g1, g2, ?_, g4, g5, RpAll.mono le _ _ g6⟩
      rw [upd_ne (fun z => s.sep k i ds' ds hk h e (by rw [g1, h1, z]))]
      exact g3
    · obtain ⟨hk, h⟩ := set_ne_val (by exact fun z => nomatch z) h
      obtain ⟨l', vs', g0, g1, g2, g3, g4, g6⟩ := s.par k ds' h
      refine ⟨l', vs', g0, g1, g2, ?_, g4, RpAll.mono le _ _ g6⟩
      rw [upd_ne (fun z => h5 (by rw [g0, z]))]
      exact g3
    · obtain ⟨hk, h⟩ := set_ne_val (by exact fun z => nomatch z) h
      obtain ⟨l', vs', g1, g2, g6⟩ := s.view k ds' h
      exact ⟨l', vs', g1, g2, RpAll.mono le _ _ g6⟩
    · obtain ⟨ha, e1⟩ := set_ne_val (by exact fun z => nomatch z) e1
      obtain ⟨hb, e2⟩ := set_ne_val (by exact fun z => nomatch z) e2
      exact s.sep a b da db hab e1 e2
    · obtain ⟨ha, e1⟩ := set_ne_val (by exact fun z => nomatch z) e1
      obtain ⟨hb, e2⟩ := set_ne_val (by exact fun z => nomatch z) e2
      exact s.one a b da db e1 e2
  · exact ⟨Hs, s⟩
/-- a list of the body's own grows -/
theorem SR.push (s : SR K P Hs0 H0 Hs H σ ρ) {i : Nat} {ds : List D} {v : V} {d : D} {l : Addr} {vs : List V} (e : ρ[i]? = some (.own ds)) (h1 : σ[i]? = some (some (.ref l))) (h2 : H l = some (.lst vs)) (h3 : Hs l = none) (h4 : H0 l = none) (h5 : P ≠ some l) (h6 : RpAll K Hs vs ds) (r : Rp K Hs v d) :
    SR K P Hs0 H0 Hs (upd H l (.lst (vs ++ [v]))) σ (ρ.set i (.own (ds ++ [d]))) := by
  have up : ∀ a, a ≠ l → upd H l (.lst (vs ++ [v])) a = H a := fun a ha => upd_ne ha
  refine ⟨⟨s.st.s, fun a o q => ?_, fun a o q => ?_, s.st.f⟩, ?_, fun k ds' h => ?_, fun k ds' h => ?_, fun k ds' h => ?_, fun a b da db hab e1 e2 => ?_, fun a b da db e1 e2 => ?_, fun z hz => by
    by_cases q : z = l
    · rw [q, upd_same]
      exact fun z => nomatch z
    · rw [up z q]
      exact s.pa z hz⟩
  · rw [up a (ne_of_none q h4)]
    exact s.st.e _ _ q
  · rw [up a (ne_of_none q h3)]
    exact s.st.i _ _ q
  · refine ⟨by rw [List.length_set]; exact s.vr.1, fun k d' hd => ?_⟩
    obtain ⟨hk, hd⟩ := set_ne_val (by exact fun z => nomatch z) hd
    exact s.vr.2 k d' hd
  · rcases own_or h with ⟨rfl, q, hl⟩ | ⟨hk, h⟩
    · cases q
      exact ⟨l, _, h1, upd_same, h3, h4, h5, h6.append (.cons r .nil)⟩
    · obtain ⟨l', vs', g1, g2, g3, g4, g5, g6⟩ := s.own k ds' h
      refine ⟨l', vs', g1, ?_, g3, g4, g5, g6⟩
      rw [up l' (fun z => s.sep k i ds' ds hk h e (by rw [g1, h1, z]))]
      exact g2
  · obtain ⟨hk, h⟩ := set_ne_val (by exact fun z => nomatch z) h
    obtain ⟨l', vs', g0, g1, g2, g3, g4, g6⟩ := s.par k ds' h
    refine ⟨l', vs', g0, g1, ?_, g3, g4, g6⟩
    rw [up l' (fun z => h5 (by rw [g0, z]))]
    exact g2
  · obtain ⟨hk, h⟩ := set_ne_val (by exact fun z => nomatch z) h
    exact s.view k ds' h
  · have f : ∀ (k : Nat) dk, (ρ.set i (.own (ds ++ [d])))[k]? = some (.own dk) → ∃ dk', ρ[k]? = some (.own dk') := fun k dk h => by
      rcases own_or h with ⟨rfl, _, _⟩ | ⟨_, h⟩
      · exact ⟨ds, e⟩
      · exact ⟨dk, h⟩
    obtain ⟨da', e1⟩ := f a da e1
    obtain ⟨db', e2⟩ := f b db e2
    exact s.sep a b da' db' hab e1 e2
  · obtain ⟨ha, e1⟩ := set_ne_val (by exact fun z => nomatch z) e1
    obtain ⟨hb, e2⟩ := set_ne_val (by exact fun z => nomatch z) e2
    exact s.one a b da db e1 e2
/-- the list handed on grows (or is changed in any way) -/
theorem SR.pushPar (s : SR K P Hs0 H0 Hs H σ ρ) {i : Nat} {ds ds2 : List D} {l : Addr} {vs2 : List V} (e : ρ[i]? = some (.par ds)) (hP : P = some l) (h1 : σ[i]? = some (some (.ref l))) (h3 : Hs l = none) (h4 : H0 l = none) (r : RpAll K Hs vs2 ds2) :
    SR K P Hs0 H0 Hs (upd H l (.lst vs2)) σ (ρ.set i (.par ds2)) := by
  have up : ∀ a, a ≠ l → upd H l (.lst vs2) a = H a := fun a ha => upd_ne ha
  refine ⟨⟨s.st.s, fun a o q => ?_, fun a o q => ?_, s.st.f⟩, ?_, fun k ds' h => ?_, fun k ds' h => ?_, fun k ds' h => ?_, fun a b da db hab e1 e2 => ?_, fun a b da db e1 e2 => ?_, fun z hz => by
    by_cases q : z = l
    · rw [q, upd_same]
      exact fun z => nomatch z
    · rw [up z q]
      exact s.pa z hz⟩
  · rw [up a (ne_of_none q h4)]
    exact s.st.e _ _ q
  · rw [up a (ne_of_none q h3)]
    exact s.st.i _ _ q
  · refine ⟨by rw [List.length_set]; exact s.vr.1, fun k d' hd => ?_⟩
    obtain ⟨hk, hd⟩ := set_ne_val (by exact fun z => nomatch z) hd
    exact s.vr.2 k d' hd
  · obtain ⟨hk, h⟩ := set_ne_val (by exact fun z => nomatch z) h
    obtain ⟨l', vs', g1, g2, g3, g4, g5, g6⟩ := s.own k ds' h
    refine ⟨l', vs', g1, ?_, g3, g4, g5, g6⟩
    rw [up l' (fun z => g5 (by rw [hP, z]))]
    exact g2
  · rcases own_or h with ⟨rfl, q, hl⟩ | ⟨hk, h⟩
    · cases q
      exact ⟨l, _, hP, h1, upd_same, h3, h4, r⟩
    · exact absurd (s.one k i ds' ds h e) hk
  · obtain ⟨hk, h⟩ := set_ne_val (by exact fun z => nomatch z) h
    exact s.view k ds' h
  · obtain ⟨ha, e1⟩ := set_ne_val (by exact fun z => nomatch z) e1
    obtain ⟨hb, e2⟩ := set_ne_val (by exact fun z => nomatch z) e2
    exact s.sep a b da db hab e1 e2
  · have f : ∀ (k : Nat) dk, (ρ.set i (.par ds2))[k]? = some (.par dk) → ∃ dk', ρ[k]? = some (.par dk') := fun k dk h => by
      rcases own_or h with ⟨rfl, _, _⟩ | ⟨_, h⟩
      · exact ⟨ds, e⟩
      · exact ⟨dk, h⟩
    obtain ⟨da', e1⟩ := f a da e1
    obtain ⟨db', e2⟩ := f b db e2
    exact s.one a b da' db' e1 e2
end

/-! ### the plain functions of statements -/
def skipF : SF := fun ρ => some (.nx ρ)
def neverF : SF := fun _ => none
def seqF (F G : SF) : SF := fun ρ => match F ρ with
  | some (.nx ρ') => G ρ'
  | o => o
def asgF (i : Nat) (f : Ro → Option D) : SF := fun ρ => match f ρ with | some d => some (.nx (ρ.set i (.val d))) | none => none
/-- name = a new list, to be appended to -/
def asgO (i : Nat) (f : Ro → Option D) : SF := fun ρ => match f ρ with | some (.lst ds) => some (.nx (ρ.set i (.own ds))) | _ => none
def retF (f : Ro → Option D) : SF := fun ρ => match f (frzA ρ) with | some d => some (.rt d (frzA ρ)) | none => none
/-- return within a def that the caller's list goes through -/
def retP (f : Ro → Option D) : SF := fun ρ => match f ρ with | some d => some (.rt d ρ) | none => none
def exprF (f : Ro → Option D) : SF := fun ρ => match f ρ with | some _ => some (.nx ρ) | none => none
def ifF (c : Ro → Option Bool) (F G : SF) : SF := fun ρ => match c (borA ρ) with | some true => F ρ | some false => G ρ | none => none
def appF (i : Nat) (f : Ro → Option D) : SF := fun ρ => match f ρ with
  | some d => (match ρ[i]? with
    | some (.own ds) => if ds.length < sz then some (.nx (ρ.set i (.own (ds ++ [d])))) else none
    | some (.par ds) => if ds.length < sz then some (.nx (ρ.set i (.par (ds ++ [d])))) else none
    | _ => none)
  | none => none
def frzF (i : Nat) (F : SF) : SF := fun ρ => F (frz1 i ρ)
def frzAF (F : SF) : SF := fun ρ => F (frzA ρ)
def breakF : SF := fun ρ => some (.bk ρ)
def contF : SF := fun ρ => some (.ct ρ)
/-- the loop's target takes an item -/
abbrev TF := D → Ro → Option Ro
def nameT (i : Nat) : TF := fun d ρ => some (ρ.set i (.val d))
def pairT (i j : Nat) : TF := fun d ρ => match d with | .tup [a, b] => some ((ρ.set i (.val a)).set j (.val b)) | _ => none
def loopF (tg : TF) (body : SF) : List D → SF
  | [], ρ => some (.nx ρ)
  | d :: ds, ρ => match tg d ρ with
    | none => none
    | some ρ1 => match body ρ1 with
      | some (.nx ρ2) => loopF tg body ds ρ2
      | some (.ct ρ2) => loopF tg body ds ρ2
      | some (.bk ρ2) => some (.nx ρ2)
      | some (.rt d ρ2) => some (.rt d ρ2)
      | some (.ex c) => some (.ex c)
      | none => none
def forF (src : Ro → Option (List D)) (tg : TF) (body : SF) : SF := fun ρ => match src ρ with | some ds => loopF tg body ds ρ | none => none
def whileF (c : Ro → Option Bool) (body : SF) : Nat → SF
  | 0, _ => none
  | n + 1, ρ => match c (borA ρ) with
    | none => none
    | some false => some (.nx ρ)
    | some true => match body ρ with
      | some (.nx ρ2) => whileF c body n ρ2
      | some (.ct ρ2) => whileF c body n ρ2
      | some (.bk ρ2) => some (.nx ρ2)
      | some (.rt d ρ2) => some (.rt d ρ2)
      | some (.ex c) => some (.ex c)
      | none => none
end Dn

namespace Dn
open PySem PySem.Spec PyProof.Rows L2

section
variable {K : PySem.W.Frag} {xw : String → Hp → Prop} {P : Option Addr} {Hs0 H0 Hs H Hs' H' : Hp} {σ : L2.St} {ρ : Ro} {E E' : Ends} {F G : SF} {f : Ro → Option D}
/-- another base: the stable part as it stands -/
theorem SR.rebase (s : SR K P Hs0 H0 Hs H σ ρ) : SR K P Hs H0 Hs H σ ρ := { s with st := ⟨Same.refl _, s.st.e, s.st.i, fun _ _ => rfl⟩ }
theorem SR.unbase {Hs1 : Hp} {σ' : L2.St} {ρ' : Ro} (s : SR K P Hs0 H0 Hs H σ ρ) (t : SR K P Hs H0 Hs1 H' σ' ρ') : SR K P Hs0 H0 Hs1 H' σ' ρ' :=
  { t with st := ⟨s.st.s.trans t.st.s, t.st.e, t.st.i, fun a ha => (t.st.f a ha).trans (s.st.f a ha)⟩ }
theorem Fin.rebase (s : SR K P Hs0 H0 Hs H σ ρ) {o : Out} (h : Fin K xw P Hs0 H0 E o) : Fin K xw P Hs H0 E o := by
  cases o with
  | nx r => exact fun σ1 Hs1 H1 t => h _ _ _ (s.unbase t)
  | bk r => exact fun σ1 Hs1 H1 t => h _ _ _ (s.unbase t)
  | ct r => exact fun σ1 Hs1 H1 t => h _ _ _ (s.unbase t)
  | rt d r => exact fun v σ1 Hs1 H1 t q => h _ _ _ _ (s.unbase t) q
  | ex c => exact fun Hs1 H1 t => h _ _ ⟨s.st.s.trans t.s, t.e, t.i, fun a ha => (t.f a ha).trans (s.st.f a ha)⟩
/-- the end of a part that does not go on -/
def Out.isNx : Out → Bool
  | .nx _ => true
  | _ => false
theorem tDS_seq : ∀ (E : Ends) (σ : L2.St) (H : Hp), tDS K xw (seqF F G) E σ H → tSeq (tDS K xw F) (tDS K xw G) E σ H := fun E σ H h => by
  obtain ⟨P, Hs0, H0, Hs, ρ, o, sr, hf, fin⟩ := h
  unfold seqF at hf
  cases hF : F ρ with
  | none => rw [hF] at hf; cases hf
  | some o1 =>
    rw [hF] at hf
    cases o1 with
    | nx ρ1 => exact ⟨P, Hs0, H0, Hs, ρ, _, sr, hF, fun σ1 Hs1 H1 s1 => ⟨P, Hs0, H0, Hs1, ρ1, o, s1, hf, fin⟩⟩
    | bk r => cases hf; exact ⟨P, Hs0, H0, Hs, ρ, _, sr, hF, fin⟩
    | ct r => cases hf; exact ⟨P, Hs0, H0, Hs, ρ, _, sr, hF, fin⟩
    | rt d r => cases hf; exact ⟨P, Hs0, H0, Hs, ρ, _, sr, hF, fin⟩
    | ex c => cases hf; exact ⟨P, Hs0, H0, Hs, ρ, _, sr, hF, fin⟩
theorem tDS_skip : ∀ (E : Ends) (σ : L2.St) (H : Hp), tDS K xw skipF E σ H → tNext E σ H := fun E σ H h => by
  obtain ⟨P, Hs0, H0, Hs, ρ, o, sr, hf, fin⟩ := h
  cases hf
  exact fin _ _ _ sr
theorem tDS_asg {i : Nat} : ∀ (E : Ends) (σ : L2.St) (H : Hp), tDS K xw (asgF i f) E σ H → tAsg (tD K f) (gName i) E σ H := fun E σ H h => by
  obtain ⟨P, Hs0, H0, Hs, ρ, o, sr, hf, fin⟩ := h
  unfold asgF at hf
  split at hf
  · rename_i d hd
    cases hf
    exact ⟨ρ, Hs, d, sr.vr, sr.st.i, hd, fun v Hs' H' st r => fin _ _ _ ((sr.step st).setVal i r)⟩
  · cases hf
/-- a new list -/
def tDN (K : PySem.W.Frag) (f : Ro → Option D) : TE := fun σ H Q => ∃ ρ Hs ds, VR K Hs σ ρ ∧ Same Hs H ∧ f ρ = some (.lst ds) ∧ ∀ p vs Hs' H', Step Hs H Hs' H' → H p = none → Hs' p = none → H' p = some (.lst vs) → RpAll K Hs' vs ds → Q (.ref p) H'
theorem tDS_asgO {i : Nat} : ∀ (E : Ends) (σ : L2.St) (H : Hp), tDS K xw (asgO i f) E σ H → tAsg (tDN K f) (gName i) E σ H := fun E σ H h => by
  obtain ⟨P, Hs0, H0, Hs, ρ, o, sr, hf, fin⟩ := h
  unfold asgO at hf
  split at hf
  · rename_i ds hd
    cases hf
    refine ⟨ρ, Hs, ds, sr.vr, sr.st.i, hd, fun p vs Hs' H' st hp hsp hp' r => fin _ _ _ ((sr.step st).setOwn i hp' hsp (sr.st.e.free hp) (fun z => sr.pa p z hp) (fun k dk hk z => ?_) r)⟩
    obtain ⟨l, vs', h1, h2, _⟩ := sr.own k dk hk
    rw [h1] at z
    cases z
    rw [hp] at h2
    cases h2
  · cases hf
theorem tDS_ret : ∀ (E : Ends) (σ : L2.St) (H : Hp), tDS K xw (retF f) E σ H → tRet (tD K f) E σ H := fun E σ H h => by
  obtain ⟨P, Hs0, H0, Hs, ρ, o, sr, hf, fin⟩ := h
  unfold retF at hf
  split at hf
  · rename_i d hd
    cases hf
    have s2 := sr.frzA
    exact ⟨_, _, d, s2.vr, s2.st.i, hd, fun v Hs' H' st r => fin _ _ _ _ (s2.step st) r⟩
  · cases hf
theorem tDS_retP : ∀ (E : Ends) (σ : L2.St) (H : Hp), tDS K xw (retP f) E σ H → tRet (tD K f) E σ H := fun E σ H h => by
  obtain ⟨P, Hs0, H0, Hs, ρ, o, sr, hf, fin⟩ := h
  unfold retP at hf
  split at hf
  · rename_i d hd
    cases hf
    exact ⟨_, _, d, sr.vr, sr.st.i, hd, fun v Hs' H' st r => fin _ _ _ _ (sr.step st) r⟩
  · cases hf
theorem tDS_expr : ∀ (E : Ends) (σ : L2.St) (H : Hp), tDS K xw (exprF f) E σ H → tDrop (tD K f) E σ H := fun E σ H h => by
  obtain ⟨P, Hs0, H0, Hs, ρ, o, sr, hf, fin⟩ := h
  unfold exprF at hf
  split at hf
  · rename_i d hd
    cases hf
    exact ⟨_, _, d, sr.vr, sr.st.i, hd, fun v Hs' H' st r => fin _ _ _ (sr.step st)⟩
  · cases hf
theorem tDS_if {c : Ro → Option Bool} : ∀ (E : Ends) (σ : L2.St) (H : Hp), tDS K xw (ifF c F G) E σ H → tIfS (tDT K c) (tDS K xw F) (tDS K xw G) E σ H := fun E σ H h => by
  obtain ⟨P, Hs0, H0, Hs, ρ, o, sr, hf, fin⟩ := h
  unfold ifF at hf
  split at hf
  · rename_i hb
    refine ⟨_, H, true, sr.vrB, Same.refl _, hb, fun H1 e1 => ?_⟩
    exact iteT ⟨P, Hs0, H0, Hs, ρ, o, sr.step (Step.grow sr.st.i e1), hf, fin⟩
  · rename_i hb
    refine ⟨_, H, false, sr.vrB, Same.refl _, hb, fun H1 e1 => ?_⟩
    exact iteF ⟨P, Hs0, H0, Hs, ρ, o, sr.step (Step.grow sr.st.i e1), hf, fin⟩
  · cases hf
theorem tDS_frz {i : Nat} : ∀ (E : Ends) (σ : L2.St) (H : Hp), tDS K xw (frzF i F) E σ H → tDS K xw F E σ H := fun E σ H h => by
  obtain ⟨P, Hs0, H0, Hs, ρ, o, sr, hf, fin⟩ := h
  obtain ⟨Hs', s2⟩ := sr.frz1 i
  exact ⟨P, Hs0, H0, Hs', _, o, s2, hf, fin⟩
theorem tDS_frzA : ∀ (E : Ends) (σ : L2.St) (H : Hp), tDS K xw (frzAF F) E σ H → tDS K xw F E σ H := fun E σ H h => by
  obtain ⟨P, Hs0, H0, Hs, ρ, o, sr, hf, fin⟩ := h
  exact ⟨P, Hs0, H0, _, _, o, sr.frzA, hf, fin⟩
theorem tDS_app {i : Nat} : ∀ (E : Ends) (σ : L2.St) (H : Hp), tDS K xw (appF i f) E σ H → tDrop (tBM K "list" rAppend (tVar i) (tCons (tD K f) tNil)) E σ H := fun E σ H h => by
  obtain ⟨P, Hs0, H0, Hs, ρ, o, sr, hf, fin⟩ := h
  unfold appF at hf
  split at hf
  · rename_i d hd
    split at hf
    · rename_i ds hi
      split at hf
      · rename_i hz
        cases hf
        obtain ⟨l, vs, h1, h2, h3, h4, h5, h6⟩ := sr.own i ds hi
        refine ⟨.ref l, h1, .inl ⟨rfl, vs, SqL.of h2⟩, ρ, Hs, d, sr.vr, sr.st.i, hd, fun v Hs' H' st r => ?_⟩
        have s2 := sr.step st
        have g3 : Hs' l = none := (st.f l (by rw [h2]; exact fun z => nomatch z)).trans h3
        exact ⟨l, vs, v, rfl, rfl, st.e _ _ h2, sz_lt (by rw [h6.length]; exact hz), fin _ _ _ (s2.push hi h1 (st.e _ _ h2) g3 h4 h5 (RpAll.mono st.s _ _ h6) r)⟩
      · cases hf
    · rename_i ds hi
      split at hf
      · rename_i hz
        cases hf
        obtain ⟨l, vs, h0, h1, h2, h3, h4, h6⟩ := sr.par i ds hi
        refine ⟨.ref l, h1, .inl ⟨rfl, vs, SqL.of h2⟩, ρ, Hs, d, sr.vr, sr.st.i, hd, fun v Hs' H' st r => ?_⟩
        have s2 := sr.step st
        have g3 : Hs' l = none := (st.f l (by rw [h2]; exact fun z => nomatch z)).trans h3
        exact ⟨l, vs, v, rfl, rfl, st.e _ _ h2, sz_lt (by rw [h6.length]; exact hz), fin _ _ _ (s2.pushPar hi h0 h1 g3 h4 ((RpAll.mono st.s _ _ h6).append (.cons r .nil)))⟩
      · cases hf
    · cases hf
  · cases hf
/-- a target takes a value -/
def TGok (K : PySem.W.Frag) (g : TG) (tg : TF) : Prop := ∀ (P : Option Addr) (Hs0 H0 Hs H : Hp) (σ : L2.St) (ρ ρ1 : Ro) (x : V) (d : D) (Q : L2.St → Hp → Prop), SR K P Hs0 H0 Hs H σ ρ → Rp K Hs x d → tg d ρ = some ρ1 → (∀ σ', SR K P Hs0 H0 Hs H σ' ρ1 → Q σ' H) → g x σ H Q
theorem tg_name {i : Nat} : TGok K (gName i) (nameT i) := fun P Hs0 H0 Hs H σ ρ ρ1 x d Q sr r h k => by
  cases h
  exact k _ (sr.setVal i r)
theorem tg_pair {i j : Nat} : TGok K (gTup K 2 (gCons (gName i) (gCons (gName j) gNil))) (pairT i j) := fun P Hs0 H0 Hs H σ ρ ρ1 x d Q sr r h k => by
  unfold pairT at h
  split at h
  · rename_i a b
    cases h
    cases r
    rename_i p xs h1 r
    obtain ⟨v, u, rfl, rv, ru⟩ := r.two
    exact ⟨p, _, rfl, SqT.of (sr.st.i _ _ h1), rfl, v, [u], rfl, u, [], rfl, rfl, k _ ((sr.setVal i rv).setVal j ru)⟩
  · cases h
theorem tDS_for {src : Ro → Option (List D)} {g : TG} {tg : TF} (hg : TGok K g tg) : ∀ (E : Ends) (σ : L2.St) (H : Hp), tDS K xw (forF src tg F) E σ H → tFor (tDI K src) g (tDS K xw F) E σ H := fun E σ H h => by
  obtain ⟨P, Hs0, H0, Hs, ρ, o, sr, hf, fin⟩ := h
  unfold forF at hf
  split at hf
  · rename_i ds hds
    refine ⟨ρ, Hs, ds, sr.vr, sr.st.i, hds, fun J Hs1 H1 s1 it => ?_⟩
    have sr1 := sr.step s1
    refine ⟨fun i m σ H => m = ds.length - i ∧ i ≤ ds.length ∧ ∃ Hs ρ, SR K P Hs0 H0 Hs H σ ρ ∧ Same Hs1 Hs ∧ loopF tg F (ds.drop i) ρ = some o, ⟨_, rfl, Nat.zero_le _, Hs1, ρ, sr1, Same.refl _, hf⟩, ?_⟩
    rintro i m σ2 H2 ⟨rfl, hi, Hs2, ρ2, sr2, sm2, hl⟩
    by_cases hlt : i < ds.length
    · refine .inr ⟨it.go i H2 (sm2.trans sr2.st.i) hlt, fun σ H => i + 1 ≤ ds.length ∧ ∃ Hs ρ, SR K P Hs0 H0 Hs H σ ρ ∧ Same Hs1 Hs ∧ loopF tg F (ds.drop (i + 1)) ρ = some o, fun σ' H' q => ⟨ds.length - (i + 1), by omega, rfl, q.1, q.2⟩, fun x H3 y => ?_⟩
      obtain ⟨Hs3, s3, rx⟩ := it.yld i Hs2 H2 x H3 _ sm2 sr2.st.i (List.getElem?_eq_getElem hlt) y
      rw [List.drop_eq_getElem_cons hlt] at hl
      unfold loopF at hl
      have sr3 := sr2.step s3
      have sm3 := sm2.trans s3.s
      split at hl
      · cases hl
      · rename_i ρ3 ht
        refine hg P Hs0 H0 Hs3 H3 σ2 ρ2 ρ3 x _ _ sr3 rx ht fun σ4 sr4 => ?_
        have rb := sr4.rebase
        have again : ∀ {σ5 : L2.St} {Hs5 H5 : Hp} {ρ5 : Ro}, SR K P Hs3 H0 Hs5 H5 σ5 ρ5 → loopF tg F (ds.drop (i + 1)) ρ5 = some o → i + 1 ≤ ds.length ∧ ∃ Hs ρ, SR K P Hs0 H0 Hs H5 σ5 ρ ∧ Same Hs1 Hs ∧ loopF tg F (ds.drop (i + 1)) ρ = some o := fun {σ5 Hs5 H5 ρ5} s5 h5 =>
          ⟨hlt, Hs5, ρ5, sr4.unbase s5, sm3.trans s5.st.s, h5⟩
        split at hl
        · rename_i ρ5 hb
          exact ⟨P, Hs3, H0, Hs3, ρ3, _, rb, hb, fun σ5 Hs5 H5 s5 => again s5 hl⟩
        · rename_i ρ5 hb
          exact ⟨P, Hs3, H0, Hs3, ρ3, _, rb, hb, fun σ5 Hs5 H5 s5 => again s5 hl⟩
        · rename_i ρ5 hb
          cases hl
          exact ⟨P, Hs3, H0, Hs3, ρ3, _, rb, hb, fun σ5 Hs5 H5 s5 => fin _ _ _ (sr4.unbase s5)⟩
        · rename_i d5 ρ5 hb
          cases hl
          exact ⟨P, Hs3, H0, Hs3, ρ3, _, rb, hb, fun v σ5 Hs5 H5 s5 q => fin _ _ _ _ (sr4.unbase s5) q⟩
        · rename_i c5 hb
          cases hl
          exact ⟨P, Hs3, H0, Hs3, ρ3, _, rb, hb, (Fin.rebase (E := E) (o := .ex c5) sr4 fin : Fin K xw P Hs3 H0 E (.ex c5))⟩
        · cases hl
    · have e1 : i = ds.length := by omega
      subst e1
      rw [List.drop_length] at hl
      cases hl
      exact .inl ⟨it.stop _ H2 (sm2.trans sr2.st.i) (Nat.le_refl _), fin _ _ _ sr2⟩
  · cases hf
theorem tDS_while {c : Ro → Option Bool} {n : Nat} : ∀ (E : Ends) (σ : L2.St) (H : Hp), tDS K xw (whileF c F n) E σ H → tWhile (tDT K c) (tDS K xw F) E σ H := fun E σ H h => by
  obtain ⟨P, Hs0, H0, Hs, ρ, o, sr, hf, fin⟩ := h
  refine ⟨fun m σ H => ∃ Hs ρ, SR K P Hs0 H0 Hs H σ ρ ∧ whileF c F m ρ = some o, ⟨n, Hs, ρ, sr, hf⟩, ?_⟩
  rintro m σ1 H1 ⟨Hs1, ρ1, sr1, h1⟩
  cases m with
  | zero => cases h1
  | succ m =>
    unfold whileF at h1
    split at h1
    · cases h1
    · rename_i hb
      cases h1
      refine ⟨_, H1, false, sr1.vrB, Same.refl _, hb, fun H2 e2 => ?_⟩
      exact iteF (fin _ _ _ (sr1.step (Step.grow sr1.st.i e2)))
    · rename_i hb
      refine ⟨_, H1, true, sr1.vrB, Same.refl _, hb, fun H2 e2 => ?_⟩
      refine iteT ?_
      have sr2 := sr1.step (Step.grow sr1.st.i e2)
      refine ⟨fun σ H => ∃ Hs ρ, SR K P Hs0 H0 Hs H σ ρ ∧ whileF c F m ρ = some o, fun σ' H' q => ⟨m, Nat.lt_succ_self m, q⟩, ?_⟩
      split at h1
      · rename_i ρ5 hb
        exact ⟨P, Hs0, H0, Hs1, ρ1, _, sr2, hb, fun σ5 Hs5 H5 s5 => ⟨Hs5, ρ5, s5, h1⟩⟩
      · rename_i ρ5 hb
        exact ⟨P, Hs0, H0, Hs1, ρ1, _, sr2, hb, fun σ5 Hs5 H5 s5 => ⟨Hs5, ρ5, s5, h1⟩⟩
      · rename_i ρ5 hb
        cases h1
        exact ⟨P, Hs0, H0, Hs1, ρ1, _, sr2, hb, fin⟩
      · rename_i d5 ρ5 hb
        cases h1
        exact ⟨P, Hs0, H0, Hs1, ρ1, _, sr2, hb, fin⟩
      · rename_i c5 hb
        cases h1
        exact ⟨P, Hs0, H0, Hs1, ρ1, _, sr2, hb, fin⟩
      · cases h1
end

/-! ### the rules -/
section
variable {X : Cx} {xw : String → Hp → Prop} {st : Stmt} {rest body : List Stmt} {F G : SF} {e e2 : Expr} {es : List Expr} {f f2 : Ro → Option D} {fs : List (Ro → Option D)} {pos pos' p apos : Pos}
theorem s_nil : PSs X [] (tDS X.K xw skipF) := pss_of pss_nil tDS_skip
theorem s_cons (h1 : PS X st (tDS X.K xw F)) (h2 : PSs X rest (tDS X.K xw G)) : PSs X (st :: rest) (tDS X.K xw (seqF F G)) := pss_of (pss_cons h1 h2) tDS_seq
theorem s_one (h1 : PS X st (tDS X.K xw F)) : PSs X [st] (tDS X.K xw F) := pss_one h1
theorem s_asg (i : Nat) {x : Str} (he : PE X e (tD X.K f)) (hN : X.N.Nodup) (hi : X.N[i]? = some x := by rfl) (hx : Loc X.env.scope x := by first | exact Or.inl rfl | exact Or.inr rfl) (hs : swapsWith e (some (.Name x pos')) pos.line X.env = pure false := by rfl)
    (hf : X.fn x = true ∨ X.env.scope.names.lookup x = some .local := by first | exact .inl rfl | exact .inr rfl | assumption) : PS X (.Assign [.Name x pos'] e pos) (tDS X.K xw (asgF i f)) := ps_of (ps_set hN hi hx he hs hf) tDS_asg
theorem s_asgO (i : Nat) {x : Str} (he : PE X e (tDN X.K f)) (hN : X.N.Nodup) (hi : X.N[i]? = some x := by rfl) (hx : Loc X.env.scope x := by first | exact Or.inl rfl | exact Or.inr rfl) (hs : swapsWith e (some (.Name x pos')) pos.line X.env = pure false := by rfl)
    (hf : X.fn x = true ∨ X.env.scope.names.lookup x = some .local := by first | exact .inl rfl | exact .inr rfl | assumption) : PS X (.Assign [.Name x pos'] e pos) (tDS X.K xw (asgO i f)) := ps_of (ps_set hN hi hx he hs hf) tDS_asgO
theorem s_ret (he : PE X e (tD X.K f)) : PS X (.Return (some e) pos) (tDS X.K xw (retF f)) := ps_of (ps_ret he) tDS_ret
theorem s_retP (he : PE X e (tD X.K f)) : PS X (.Return (some e) pos) (tDS X.K xw (retP f)) := ps_of (ps_ret he) tDS_retP
theorem s_expr (he : PE X e (tD X.K f)) (hs : swapsWith e none pos.line X.env = pure false := by rfl) : PS X (.Expr e pos) (tDS X.K xw (exprF f)) := ps_of (ps_expr he hs) tDS_expr
theorem s_if {c : Expr} {a b : List Stmt} {tc : Ro → Option Bool} (hc : PT X c (tDT X.K tc)) (ha : PSs X a (tDS X.K xw F)) (hb : PSs X b (tDS X.K xw G)) : PS X (.If c a b pos) (tDS X.K xw (ifF tc F G)) := ps_of (ps_if hc ha hb) tDS_if
theorem s_frz (i : Nat) (h : PS X st (tDS X.K xw F)) : PS X st (tDS X.K xw (frzF i F)) := ps_of h tDS_frz
theorem s_frzA (h : PS X st (tDS X.K xw F)) : PS X st (tDS X.K xw (frzAF F)) := ps_of h tDS_frzA
theorem s_never : PS X st (tDS X.K xw neverF) := ps_of ps_never fun E σ H h => by
  obtain ⟨P, Hs0, H0, Hs, ρ, o, sr, hf, fin⟩ := h
  cases hf
theorem s_break : PS X (.Break pos) (tDS X.K xw breakF) := ps_of ps_break fun E σ H h => by
  obtain ⟨P, Hs0, H0, Hs, ρ, o, sr, hf, fin⟩ := h
  cases hf
  exact fin _ _ _ sr
theorem s_cont : PS X (.Continue pos) (tDS X.K xw contF) := ps_of ps_continue fun E σ H h => by
  obtain ⟨P, Hs0, H0, Hs, ρ, o, sr, hf, fin⟩ := h
  cases hf
  exact fin _ _ _ sr
/-- name.append(e) -/
theorem s_app (i : Nat) {x : Str} {px : Pos} (hb : PE X (.Call (.Attribute (.Name x px) "append" apos) [e] [] p) (tBM X.K "list" rAppend (tVar i) (tCons (tD X.K f) tNil)))
    (hs : swapsWith (.Call (.Attribute (.Name x px) "append" apos) [e] [] p) none pos.line X.env = pure false := by rfl) :
    PS X (.Expr (.Call (.Attribute (.Name x px) "append" apos) [e] [] p) pos) (tDS X.K xw (appF i f)) := ps_of (ps_expr hb hs) tDS_app
theorem s_for {tg iter : Expr} {src : Ro → Option (List D)} {g : TG} {t : TF} (hp : PassesOwn (model X.prog X.w) X.A X.env X.xe) (hc : X.calm = true) (hi : PI X tg iter (tDI X.K src)) (hg : PG X tg g) (hgt : TGok X.K g t) (hb : PSs X body (tDS X.K xw F))
    (hs : ∀ x, foldedSetIterable iter X.env x = pure x := by intro _; rfl) : PS X (.For tg iter body [] pos) (tDS X.K xw (forF src t F)) := ps_of (ps_for hp hc hi hg hb hs) (tDS_for hgt)
theorem s_while (n : Nat) {c : Expr} {tc : Ro → Option Bool} (hp : PassesOwn (model X.prog X.w) X.A X.env X.xe) (hc : PT X c (tDT X.K tc)) (hb : PSs X body (tDS X.K xw F)) : PS X (.While c body [] pos) (tDS X.K xw (whileF tc F n)) := ps_of (ps_while hp hc hb) tDS_while
/-- new lists -/
theorem n_lst (h : PA X es (tDA X.K (argsF fs))) (hn : fs.length ≤ sz := by decide) : PE X (.List es pos) (tDN X.K (lstF fs)) := pe_of (pe_lst h) fun σ H Q h => by
  obtain ⟨ρ, Hs, ds, vr, sm, hf, k⟩ := h
  unfold lstF at hf
  split at hf
  · rename_i ds hds
    cases hf
    refine ⟨ρ, Hs, ds, vr, sm, hds, fun vs Hs1 H1 s1 r1 => ⟨sz_le (by rw [r1.length, argsF_length hds]; exact hn), fun q hq => ?_⟩⟩
    exact k q vs Hs1 _ (s1.trans (Step.grow s1.i (same_new hq _))) (s1.e.free hq) (s1.i.free hq) upd_same r1
  · cases hf
theorem n_list (hm : X.mg "list" = none) (ha : PE X e (tD X.K f)) (hg : Gl X "list" := by rfl) (h1 : starEach [e] X.env = (false, eval e X.env) :: starEach [] X.env := by rfl)
    (hpl : (backTo pos (starEach [] X.env)).any (·.1) = false := by rfl) : PE X (.Call (.Name "list" p) [e] [] pos) (tDN X.K (callF gList [f])) :=
  pe_of (pe_callTy call_list_of hg hm (by decide +kernel) (a_cons ha a_nil h1) (by decide) (by decide) h1 hpl) fun σ H Q h => by
    obtain ⟨ρ, Hs, ds, vr, sm, hf, k⟩ := h
    unfold callF at hf
    split at hf
    · rename_i as has
      refine ⟨ρ, Hs, as, vr, sm, has, fun vs Hs1 H1 s1 r1 => ?_⟩
      unfold gList at hf
      split at hf
      · cases hf
        obtain ⟨v, rfl, rv⟩ := r1.one
        cases rv
        rename_i a xs h1 r1
        exact ⟨_, _, rfl, .inl (SqL.of (s1.i _ _ h1)), fun q hq => k q xs Hs1 _ (s1.trans (Step.grow s1.i (same_new hq _))) (s1.e.free hq) (s1.i.free hq) upd_same r1⟩
      · cases hf
        obtain ⟨v, rfl, rv⟩ := r1.one
        cases rv
        rename_i a xs h1 r1
        exact ⟨_, _, rfl, .inr (SqT.of (s1.i _ _ h1)), fun q hq => k q xs Hs1 _ (s1.trans (Step.grow s1.i (same_new hq _))) (s1.e.free hq) (s1.i.free hq) upd_same r1⟩
      · cases hf
    · cases hf
/-- comprehensions over a name -/
theorem d_comp (j : Nat) {x : Str} {elt iter : Expr} {px : Pos} {ifs : List Expr} {scope : Scope} {src : Ro → Option (List D)} {c : Ro → Option Bool} {f : Ro → Option D} (hc : X.calm = true) (hN : X.N.Nodup) (hi : PI X (.Name x px) iter (tDI X.K src)) (ok : BlkOk X.N X.env.scope scope [(x, j)])
    (hg : ∀ (s : Shared) (H : Hp) (C : Addr) (cl : List (Str × Addr)) (fp : List Addr), PG (X.blk s H scope (compEnvC scope cl C X.env) fp) (.Name x px) (gName j)) (ht : ∀ (s : Shared) (H : Hp) (C : Addr) (cl : List (Str × Addr)) (fp : List Addr), PTs (X.blk s H scope (compEnvC scope cl C X.env) fp) ifs (tDT X.K c))
    (he : ∀ (s : Shared) (H : Hp) (C : Addr) (cl : List (Str × Addr)) (fp : List Addr), PE (X.blk s H scope (compEnvC scope cl C X.env) fp) elt (tD X.K f)) (hs : ∀ x, foldedSetIterable iter X.env x = pure x := by intro _; rfl) :
    PE X (.ListComp elt [⟨.Name x px, iter, ifs, 0⟩] scope pos) (tD X.K (compF src j c f)) := pe_of (pe_lc hc hN hi ok hg ht he hs) tLc_of
theorem s_asgC (i j : Nat) {x y : Str} {py : Pos} {elt iter : Expr} {px : Pos} {ifs : List Expr} {scope : Scope} {src : Ro → Option (List D)} {c : Ro → Option Bool} {f : Ro → Option D} (hc : X.calm = true) (hN : X.N.Nodup) (hi : PI X (.Name x px) iter (tDI X.K src)) (ok : BlkOk X.N X.env.scope scope [(x, j)])
    (hg : ∀ (s : Shared) (H : Hp) (C : Addr) (cl : List (Str × Addr)) (fp : List Addr), PG (X.blk s H scope (compEnvC scope cl C X.env) fp) (.Name x px) (gName j)) (ht : ∀ (s : Shared) (H : Hp) (C : Addr) (cl : List (Str × Addr)) (fp : List Addr), PTs (X.blk s H scope (compEnvC scope cl C X.env) fp) ifs (tDT X.K c))
    (he : ∀ (s : Shared) (H : Hp) (C : Addr) (cl : List (Str × Addr)) (fp : List Addr), PE (X.blk s H scope (compEnvC scope cl C X.env) fp) elt (tD X.K f)) (hy : X.N[i]? = some y := by rfl) (hyl : X.env.scope.names.lookup y = some .local := by rfl)
    (hsw : swapsWith (.ListComp elt [⟨.Name x px, iter, ifs, 0⟩] scope pos) (some (.Name y py)) pos'.line X.env = pure true := by exact sw_true rfl rfl rfl (by decide +kernel)) (hs : ∀ x, foldedSetIterable iter X.env x = pure x := by intro _; rfl) :
    PS X (.Assign [.Name y py] (.ListComp elt [⟨.Name x px, iter, ifs, 0⟩] scope pos) pos') (tDS X.K xw (asgF i (compF src j c f))) :=
  ps_of (ps_setLc hc hN hy hyl hsw hi ok hg ht he hs) fun E σ H h => tLc_of σ H _ (tDS_asg E σ H h)
end

/-! ### a def -/
def initR (n : Nat) (ds : List D) : Ro := ds.map Slot.val ++ List.replicate (n - ds.length) Slot.no
def runF (F : SF) (n : Nat) (ds : List D) : Option D := match F (initR n ds) with
  | some (.rt d _) => some d
  | some (.nx _) => some .non
  | _ => none
abbrev xw0 : String → Hp → Prop := fun _ _ => False
theorem initR_get {n : Nat} {ds : List D} {i : Nat} {s : Slot} (h : (initR n ds)[i]? = some s) : (∃ d, ds[i]? = some d ∧ s = .val d) ∨ s = .no := by
  unfold initR at h
  by_cases hi : i < ds.length
  · rw [List.getElem?_append_left (by rw [List.length_map]; exact hi), List.getElem?_map, List.getElem?_eq_getElem hi] at h
    cases h
    exact .inl ⟨_, List.getElem?_eq_getElem hi, rfl⟩
  · rw [List.getElem?_append_right (by rw [List.length_map]; omega), List.getElem?_replicate] at h
    split at h
    · cases h; exact .inr rfl
    · cases h
theorem start_get {N : List Str} {vs : List V} {i : Nat} {v : V} (h : vs[i]? = some v) : (L2.start N vs)[i]? = some (some v) := by
  have hi := (List.getElem?_eq_some_iff.mp h).1
  unfold L2.start
  rw [List.getElem?_append_left (by rw [List.length_map]; exact hi), List.getElem?_map, h]
  rfl
theorem SR.start {K : PySem.W.Frag} {Hs H : Hp} {N : List Str} {vs : List V} {ds : List D} (sm : Same Hs H) (r : RpAll K Hs vs ds) : SR K none Hs H Hs H (L2.start N vs) (initR N.length ds) := by
  have no : ∀ {i : Nat} {x : Slot}, (initR N.length ds)[i]? = some x → x = .no ∨ ∃ d, x = .val d := fun {i x} h => by
    rcases initR_get h with ⟨d, _, e⟩ | e
    · exact .inr ⟨d, e⟩
    · exact .inl e
  refine ⟨Step.refl sm, ⟨?_, fun i d h => ?_⟩, fun i ds' h => ?_, fun i ds' h => ?_, fun i ds' h => ?_, fun i j di dj hij h1 h2 => ?_, fun i j di dj h1 h2 => ?_, fun l z => nomatch z⟩
  · unfold L2.start initR
    rw [List.length_append, List.length_append, List.length_map, List.length_map, List.length_replicate, List.length_replicate, r.length]
  · rcases initR_get h with ⟨d', hd, e⟩ | e
    · cases e
      obtain ⟨v, hv, rv⟩ := r.get hd
      exact ⟨v, start_get hv, rv⟩
    · cases e
  · rcases no h with e | ⟨d, e⟩ <;> cases e
  · rcases no h with e | ⟨d, e⟩ <;> cases e
  · rcases no h with e | ⟨d, e⟩ <;> cases e
  · rcases no h1 with e | ⟨d, e⟩ <;> cases e
  · rcases no h1 with e | ⟨d, e⟩ <;> cases e
theorem ok_of {PP : Program} {w : World} {K : PySem.W.Frag} {mg : Str → Option Value} {base : Heap} {x qual : Str} {st : Stmt} {f : Addr} {fd : FuncData} {N ps : List Str} {k : Nat} {F : SF} (Fu : Fun K x qual st f fd) (S : FnScope N ps (defScope st))
    (hbody : ∀ (cdv : Value) (A : Around) (outer : List Env) (s : Shared) (H : Hp) (E : XK), Room k (A.deeper (envOfC qual (defScope st) s.heap.objs.size f cdv)) →
      PSs (cxOf CX0 PP w K mg base N qual (defScope st) f cdv A outer s H E).nox (defBody st) (tDS K xw0 F)) : FnOk PP w K mg base CX0 (k + 1) f fd ps (spD K ps.length (runF F N.length)) := by
  refine Fun.ok Fu S (fun vs H Q E h => h.1) fun cdv A outer s H vs Q E hr h => ⟨_, hbody cdv A outer s H E hr, ?_⟩
  obtain ⟨_, Hs, ds, d, sm, r, hg, k⟩ := h
  unfold runF at hg
  split at hg
  · rename_i d' ρ' ho
    cases hg
    exact ⟨none, Hs, H, Hs, _, _, SR.start sm r, ho, fun v σ Hs' H' sr q => k v Hs' H' sr.st q⟩
  · rename_i ρ' ho
    cases hg
    exact ⟨none, Hs, H, Hs, _, _, SR.start sm r, ho, fun σ Hs' H' sr => k _ Hs' H' sr.st .non⟩
  · cases hg
end Dn

namespace Dn
open PySem PySem.Spec PyProof.Rows L2

/-! ### defs by name -/
/-- what stands at the program's top -/
structure Top (K : PySem.W.Frag) (mg : Str → Option Value) (name : Str) (st : Stmt) (ps : List Str) (a : Addr) (fd : FuncData) : Prop where
  fn : Fun K name name st a fd
  m : mg name = some (.ref a)
  b : Binds K fd ps []
/-- a def that keeps its promise -/
structure DefOk (PP : Program) (w : World) (K : PySem.W.Frag) (mg : Str → Option Value) (base : Heap) (k : Nat) (name : Str) (ps : List Str) (n : Nat) (g : List D → Option D) (a : Addr) (fd : FuncData) : Prop where
  ok : FnOk PP w K mg base CX0 k a fd ps (spD K n g)
  m : mg name = some (.ref a)
  kp : PySem.W.keepIn K (.ref a) = true
  b : Binds K fd ps []
section
variable {PP : Program} {w : World} {K : PySem.W.Frag} {mg : Str → Option Value} {base : Heap} {a : Addr} {fd : FuncData}
theorem def_of {name : Str} {st : Stmt} {N ps : List Str} {k : Nat} {F : SF} (T : Top K mg name st ps a fd) (S : FnScope N ps (defScope st))
    (hbody : ∀ (cdv : Value) (A : Around) (outer : List Env) (s : Shared) (H : Hp) (E : XK), Room k (A.deeper (envOfC name (defScope st) s.heap.objs.size a cdv)) →
      PSs (cxOf CX0 PP w K mg base N name (defScope st) a cdv A outer s H E).nox (defBody st) (tDS K xw0 F)) : DefOk PP w K mg base (k + 1) name ps ps.length (runF F N.length) a fd :=
  ⟨ok_of T.fn S hbody, T.m, T.fn.kp, T.b⟩
end
section
variable {X : Cx} {e : Expr} {es : List Expr} {fs : List (Ro → Option D)} {pos p : Pos} {x : Str} {a : Addr} {fd : FuncData}
theorem d_fn {k k' n : Nat} {ps : List Str} {g : List D → Option D} (Df : DefOk X.prog X.w X.K X.mg X.base k x ps n g a fd) (hr : Room k' X.A) (hk : k ≤ k') (ha : PA X (e :: es) (tDA X.K (argsF fs))) (hg : Gl X x := by rfl) (hn : fs.length = n := by rfl) (hdb : (x == ("__debug__" : Str)) = false := by decide)
    (he : starEach (e :: es) X.env = (false, eval e X.env) :: starEach es X.env := by rfl) (hpl : (backTo pos (starEach es X.env)).any (·.1) = false := by rfl) :
    PE X (.Call (.Name x p) (e :: es) [] pos) (tD X.K (callF g fs)) :=
  d_call Df.ok (hr.mono hk) Df.m Df.kp Df.b pass0 ha hg hn hdb he hpl
end

/-! ### the end of a row -/
def spLaw (K : PySem.W.Frag) : Sp := fun vs H Q _ => ∃ (a : Addr) (ns : List Int), vs = [.ref a] ∧ SqL K H a (ns.map V.int) ∧ ns.length ≤ 63 ∧ ∀ H', Q (.bl true) H'
theorem law_end {PP : Program} {w : World} {K : PySem.W.Frag} {mg : Str → Option Value} {base : Heap} {k : Nat} {name : Str} {ps : List Str} {g : List D → Option D} {a : Addr} {fd : FuncData} (Df : DefOk PP w K mg base k name ps 1 g a fd)
    (law : ∀ ns : List Int, ns.length ≤ 63 → g [.fz ns] = some (.bl true)) : FnOk PP w K mg base CX0 k a fd ps (spLaw K) := by
  refine Df.ok.imp fun vs H Q E h => ?_
  obtain ⟨p, ns, rfl, hS, hl, q⟩ := h
  refine ⟨rfl, H, [.fz ns], .bl true, Same.refl _, .cons (.fz hS) .nil, law ns hl, fun v Hs' H' st r => ?_⟩
  cases r
  exact q H'
theorem top_mk {K : PySem.W.Frag} {h : Heap} {mg : Str → Option Value} {name : Str} {st : Stmt} {ps : List Str} (X : K.In h) (G : h.Ns mainGlobals mg) {f : Addr} {od an : Option Addr} {sl : Array (Option Value)} {oc kV dc pm cd ct : Value}
    (a1 : PySem.W.nsIn K mainGlobals name = some (some (.ref f))) (l1 : K.lookup f = some ⟨oc, od, .func (PySem.W.fnOf name name (defArgs st) (defBody st) (defScope st) .none kV dc pm an cd ct), sl⟩) (c1 : PySem.W.codeIn K cd name = true) (k1 : PySem.W.keepIn K (.ref f) = true)
    (hb : ∀ (kV doc pm : Value) (an : Option Addr) (cdv ct : Value) (us : List Value), us.length = ps.length → bindArgs (PySem.W.fnOf name name (defArgs st) (defBody st) (defScope st) .none kV doc pm an cdv ct) ⟨us, []⟩ = pure (ps.zip us)) :
    Top K mg name st ps f (PySem.W.fnOf name name (defArgs st) (defBody st) (defScope st) .none kV dc pm an cd ct) :=
  ⟨fun_mk l1 c1 k1, PySem.W.mg_of X G a1, (fun_mk l1 c1 k1).binds hb⟩
end Dn

namespace Dn
open PySem PySem.Spec PyProof.Rows L2

/-! ### products -/
def gMul : D → D → Option D
  | .int i, .int j => if (-(2 ^ 64) < i ∧ i < 2 ^ 64) ∨ (-(2 ^ 64) < j ∧ j < 2 ^ 64) then some (.int (i * j)) else none
  | .lst xs, .int k => if (-(2 ^ 63) ≤ k ∧ k < 2 ^ 63) ∧ xs.length * k.toNat ≤ sz then some (.lst (List.replicate k.toNat xs).flatten) else none
  | _, _ => none
abbrev rMulAll : R2 := fun x y H Q => rI CMul (fun i j => .int (i * j)) x y H Q ∨ rRep x y H Q
theorem r_mul {K : PySem.W.Frag} : R2ok K rMulAll gMul := fun Hs H x y dx dy d Q sm rx ry hg k => by
  unfold gMul at hg
  split at hg
  · split at hg
    · rename_i hc
      cases hg
      cases rx
      cases ry
      exact .inl ⟨_, _, rfl, rfl, hc, k _ Hs H (Step.refl sm) (.int _)⟩
    · cases hg
  · split at hg
    · rename_i hc
      cases hg
      cases rx
      rename_i a xs h1 r1
      cases ry
      rw [← r1.length] at hc
      refine .inr ⟨_, _, _, rfl, rfl, sm _ _ h1, hc.1.1, hc.1.2, sz_le hc.2, fun p hp => ?_⟩
      have st := Step.new sm hp (.lst (List.replicate (Int.toNat ‹Int›) xs).flatten)
      exact k _ _ _ st (.lst upd_same ((RpAll.mono st.s _ _ r1).rep _))
    · cases hg
  · cases hg
section
variable {X : Cx} {a b c : Expr} {fa fb fc : Ro → Option D} {pos p : Pos}
theorem d_mul (ha : PE X a (tD X.K fa)) (hb : PE X b (tD X.K fb)) : PE X (.BinOp a .Mult b pos) (tD X.K (biF gMul fa fb)) := d_op (op_mul.or op_rep) r_mul ha hb
end
end Dn

namespace Dn
open PySem PySem.Spec PyProof.Rows L2

/-! ### plain reasoning: what may be compared -/
/-- fit to be compared, of depth n at most -/
def okN (n : Nat) (d : D) : Bool := d.py.canLay0 && decide (d.py.depth ≤ n)
theorem okD_of {d : D} {n : Nat} (h : okN n d = true) (hn : n ≤ 64 := by decide) : okD d = true := by
  unfold okN at h
  unfold okD SeqAt.shaped
  rw [Bool.and_eq_true] at h ⊢
  exact ⟨h.1, decide_eq_true (Nat.le_trans (of_decide_eq_true h.2) hn)⟩
theorem okN_mono {d : D} {n m : Nat} (h : okN n d = true) (hn : n ≤ m) : okN m d = true := by
  unfold okN at h ⊢
  rw [Bool.and_eq_true] at h ⊢
  exact ⟨h.1, decide_eq_true (Nat.le_trans (of_decide_eq_true h.2) hn)⟩
theorem okN_non (n : Nat) : okN n .non = true := by simp [okN, D.py, PyData.canLay0, PyData.depth]
theorem okN_bl (n : Nat) (b : Bool) : okN n (.bl b) = true := by simp [okN, D.py, PyData.canLay0, PyData.depth]
theorem okN_int (n : Nat) (i : Int) : okN n (.int i) = true := by simp [okN, D.py, PyData.canLay0, PyData.depth]
theorem okN_str (n : Nat) (x : Str) (h : PyData.strOk x = true) : okN n (.str x) = true := by simp [okN, D.py, PyData.canLay0, PyData.depth, h]
theorem okAll {n : Nat} : ∀ ds : List D, (∀ d ∈ ds, okN n d = true) → PyData.canLayAll0 (D.pys ds) = true ∧ PyData.depthAll (D.pys ds) ≤ n
  | [], _ => by simp [D.pys, PyData.canLayAll0, PyData.depthAll]
  | d :: ds, h => by
    have h1 := h d List.mem_cons_self
    have h2 := okAll ds fun e he => h e (List.mem_cons_of_mem _ he)
    unfold okN at h1
    rw [Bool.and_eq_true] at h1
    have h3 := of_decide_eq_true h1.2
    refine ⟨?_, ?_⟩
    · show (PyData.canLay0 d.py && PyData.canLayAll0 (D.pys ds)) = true
      rw [h1.1, h2.1] <;> rfl
    · show max (PyData.depth d.py) (PyData.depthAll (D.pys ds)) ≤ n
      exact Nat.max_le.mpr ⟨h3, h2.2⟩
theorem okN_lst {n : Nat} {ds : List D} (h : ∀ d ∈ ds, okN n d = true) : okN (n + 1) (.lst ds) = true := by
  have h2 := okAll ds h
  unfold okN
  rw [Bool.and_eq_true]
  refine ⟨by simp only [D.py, PyData.canLay0]; exact h2.1, decide_eq_true ?_⟩
  simp only [D.py, PyData.depth]
  omega
theorem okN_tup {n : Nat} {ds : List D} (h : ∀ d ∈ ds, okN n d = true) : okN (n + 1) (.tup ds) = true := by
  have h2 := okAll ds h
  unfold okN
  rw [Bool.and_eq_true]
  refine ⟨by simp only [D.py, PyData.canLay0]; exact h2.1, decide_eq_true ?_⟩
  simp only [D.py, PyData.depth]
  omega
theorem okN_map {α : Type} {n : Nat} {f : α → D} (h : ∀ a, okN n (f a) = true) (xs : List α) : okN (n + 1) (.lst (xs.map f)) = true := okN_lst fun d hd => by
  obtain ⟨a, _, e⟩ := List.mem_map.mp hd
  subst e
  exact h a
theorem okD_int (i : Int) : okD (.int i) = true := okD_of (okN_int 0 i)
theorem okD_bl (b : Bool) : okD (.bl b) = true := okD_of (okN_bl 0 b)
theorem okD_non : okD .non = true := okD_of (okN_non 0)
theorem okD_ints (xs : List Int) : okD (.lst (xs.map D.int)) = true := okD_of (okN_map (okN_int 0) xs)
theorem okD_bls (xs : List Bool) : okD (.lst (xs.map D.bl)) = true := okD_of (okN_map (okN_bl 0) xs)
theorem okD_wishes (xs : List (List Int)) : okD (.lst (xs.map fun w => .lst (w.map D.int))) = true := okD_of (okN_map (fun w => okN_map (okN_int 0) w) xs)

mutual
theorem eqD_refl : ∀ d : D, eqD d d = true
  | .non => rfl
  | .bl b => by simp [eqD, D.py, PyData.eqv]
  | .int b => by simp [eqD, D.py, PyData.eqv]
  | .str b => by simp [eqD, D.py, PyData.eqv]
  | .lst xs => by
    simp only [eqD, D.py, PyData.eqv]
    exact eqDs_refl xs
  | .tup xs => by
    simp only [eqD, D.py, PyData.eqv]
    exact eqDs_refl xs
  | .fz ns => by
    simp only [eqD, D.py, PyData.eqv]
    induction ns with
    | nil => rfl
    | cons n ns ih => simp only [List.map_cons, PyData.eqvAll, PyData.eqv, ih, beq_self_eq_true, Bool.and_self]
theorem eqDs_refl : ∀ ds : List D, PyData.eqvAll (D.pys ds) (D.pys ds) = true
  | [] => rfl
  | d :: ds => by
    have h := eqD_refl d
    unfold eqD at h
    simp only [D.pys, PyData.eqvAll, h, eqDs_refl ds, Bool.and_self]
end
theorem gEq_refl {d : D} (h : okD d = true) : gEq d d = some (.bl true) := by
  unfold gEq
  rw [if_pos ⟨h, h⟩, eqD_refl]
theorem gEq_int (i j : Int) : gEq (.int i) (.int j) = some (.bl (i == j)) := by
  unfold gEq
  rw [if_pos ⟨okD_int i, okD_int j⟩]
  simp only [eqD, D.py, PyData.eqv]
theorem gNe_int (i j : Int) : gNe (.int i) (.int j) = some (.bl (i != j)) := by
  unfold gNe
  rw [if_pos ⟨okD_int i, okD_int j⟩]
  simp only [eqD, D.py, PyData.eqv, bne]
theorem gEq_bl (i j : Bool) : gEq (.bl i) (.bl j) = some (.bl (i == j)) := by
  unfold gEq
  rw [if_pos ⟨okD_bl i, okD_bl j⟩]
  simp only [eqD, D.py, PyData.eqv]
theorem gNe_bl (i j : Bool) : gNe (.bl i) (.bl j) = some (.bl (i != j)) := by
  unfold gNe
  rw [if_pos ⟨okD_bl i, okD_bl j⟩]
  simp only [eqD, D.py, PyData.eqv, bne]
theorem okD_str {x : Str} (h : PyData.strOk x = true) : okD (.str x) = true := okD_of (okN_str 0 x h)
theorem gEq_str {x y : Str} (hx : PyData.strOk x = true) (hy : PyData.strOk y = true) : gEq (.str x) (.str y) = some (.bl (x == y)) := by
  unfold gEq
  rw [if_pos ⟨okD_str hx, okD_str hy⟩]
  simp only [eqD, D.py, PyData.eqv]
theorem gNe_str {x y : Str} (hx : PyData.strOk x = true) (hy : PyData.strOk y = true) : gNe (.str x) (.str y) = some (.bl (x != y)) := by
  unfold gNe
  rw [if_pos ⟨okD_str hx, okD_str hy⟩]
  simp only [eqD, D.py, PyData.eqv, bne]
theorem gNe_refl {d : D} (h : okD d = true) : gNe d d = some (.bl false) := by
  unfold gNe
  rw [if_pos ⟨h, h⟩, eqD_refl] <;> rfl
/-- isinstance -/
def isBlD : D → Bool
  | .bl _ => true
  | _ => false
def isStrD : D → Bool
  | .str _ => true
  | _ => false
def isIntD : D → Bool
  | .int _ => true
  | .bl _ => true
  | _ => false
def isLstD : D → Bool
  | .lst _ => true
  | .fz _ => true
  | _ => false
def isTupD : D → Bool
  | .tup _ => true
  | _ => false
theorem isi_of {T : String} {d : D} {b : Bool} (h : kitB (tyN d) T = some b) : gIsi T d = some (.bl b) := by
  unfold gIsi
  rw [h] <;> rfl
theorem isi_bool (d : D) : gIsi "bool" d = some (.bl (isBlD d)) := by
  cases d with
  | non => exact isi_of (T := "bool") (b := false) (show kitB "NoneType" "bool" = some false by decide +kernel)
  | bl _ => exact isi_of (T := "bool") (b := true) (show kitB "bool" "bool" = some true by decide +kernel)
  | int _ => exact isi_of (T := "bool") (b := false) (show kitB "int" "bool" = some false by decide +kernel)
  | str _ => exact isi_of (T := "bool") (b := false) (show kitB "str" "bool" = some false by decide +kernel)
  | lst _ => exact isi_of (T := "bool") (b := false) (show kitB "list" "bool" = some false by decide +kernel)
  | tup _ => exact isi_of (T := "bool") (b := false) (show kitB "tuple" "bool" = some false by decide +kernel)
  | fz _ => exact isi_of (T := "bool") (b := false) (show kitB "list" "bool" = some false by decide +kernel)
theorem isi_str (d : D) : gIsi "str" d = some (.bl (isStrD d)) := by
  cases d with
  | non => exact isi_of (T := "str") (b := false) (show kitB "NoneType" "str" = some false by decide +kernel)
  | bl _ => exact isi_of (T := "str") (b := false) (show kitB "bool" "str" = some false by decide +kernel)
  | int _ => exact isi_of (T := "str") (b := false) (show kitB "int" "str" = some false by decide +kernel)
  | str _ => exact isi_of (T := "str") (b := true) (show kitB "str" "str" = some true by decide +kernel)
  | lst _ => exact isi_of (T := "str") (b := false) (show kitB "list" "str" = some false by decide +kernel)
  | tup _ => exact isi_of (T := "str") (b := false) (show kitB "tuple" "str" = some false by decide +kernel)
  | fz _ => exact isi_of (T := "str") (b := false) (show kitB "list" "str" = some false by decide +kernel)
theorem isi_int (d : D) : gIsi "int" d = some (.bl (isIntD d)) := by
  cases d with
  | non => exact isi_of (T := "int") (b := false) (show kitB "NoneType" "int" = some false by decide +kernel)
  | bl _ => exact isi_of (T := "int") (b := true) (show kitB "bool" "int" = some true by decide +kernel)
  | int _ => exact isi_of (T := "int") (b := true) (show kitB "int" "int" = some true by decide +kernel)
  | str _ => exact isi_of (T := "int") (b := false) (show kitB "str" "int" = some false by decide +kernel)
  | lst _ => exact isi_of (T := "int") (b := false) (show kitB "list" "int" = some false by decide +kernel)
  | tup _ => exact isi_of (T := "int") (b := false) (show kitB "tuple" "int" = some false by decide +kernel)
  | fz _ => exact isi_of (T := "int") (b := false) (show kitB "list" "int" = some false by decide +kernel)
theorem isi_list (d : D) : gIsi "list" d = some (.bl (isLstD d)) := by
  cases d with
  | non => exact isi_of (T := "list") (b := false) (show kitB "NoneType" "list" = some false by decide +kernel)
  | bl _ => exact isi_of (T := "list") (b := false) (show kitB "bool" "list" = some false by decide +kernel)
  | int _ => exact isi_of (T := "list") (b := false) (show kitB "int" "list" = some false by decide +kernel)
  | str _ => exact isi_of (T := "list") (b := false) (show kitB "str" "list" = some false by decide +kernel)
  | lst _ => exact isi_of (T := "list") (b := true) (show kitB "list" "list" = some true by decide +kernel)
  | tup _ => exact isi_of (T := "list") (b := false) (show kitB "tuple" "list" = some false by decide +kernel)
  | fz _ => exact isi_of (T := "list") (b := true) (show kitB "list" "list" = some true by decide +kernel)
theorem isi_tuple (d : D) : gIsi "tuple" d = some (.bl (isTupD d)) := by
  cases d with
  | non => exact isi_of (T := "tuple") (b := false) (show kitB "NoneType" "tuple" = some false by decide +kernel)
  | bl _ => exact isi_of (T := "tuple") (b := false) (show kitB "bool" "tuple" = some false by decide +kernel)
  | int _ => exact isi_of (T := "tuple") (b := false) (show kitB "int" "tuple" = some false by decide +kernel)
  | str _ => exact isi_of (T := "tuple") (b := false) (show kitB "str" "tuple" = some false by decide +kernel)
  | lst _ => exact isi_of (T := "tuple") (b := false) (show kitB "list" "tuple" = some false by decide +kernel)
  | tup _ => exact isi_of (T := "tuple") (b := true) (show kitB "tuple" "tuple" = some true by decide +kernel)
  | fz _ => exact isi_of (T := "tuple") (b := false) (show kitB "list" "tuple" = some false by decide +kernel)
/-! ### indices -/
theorem ix_lst {ds : List D} {i : Int} {d : D} (h0 : 0 ≤ i) (h : ds[i.toNat]? = some d) : gIx (.lst ds) (.int i) = some d := by
  have e : i = ((i.toNat : Nat) : Int) := by omega
  show atI ds i = some d
  rw [e]
  exact atI_nat h
theorem ix_tup {ds : List D} {i : Int} {d : D} (h0 : 0 ≤ i) (h : ds[i.toNat]? = some d) : gIx (.tup ds) (.int i) = some d := by
  have e : i = ((i.toNat : Nat) : Int) := by omega
  show atI ds i = some d
  rw [e]
  exact atI_nat h
theorem ix_fz {ns : List Int} {i : Int} {d : Int} (h0 : 0 ≤ i) (h : ns[i.toNat]? = some d) : gIx (.fz ns) (.int i) = some (.int d) := by
  have e : i = ((i.toNat : Nat) : Int) := by omega
  show (atI ns i).map D.int = _
  rw [e, atI_nat h] <;> rfl
/-! ### loops -/
def turnF (tg : TF) (body : SF) (d : D) (ρ : Ro) : Option Out := match tg d ρ with | some r => body r | none => none
theorem loop_any {tg : TF} {body : SF} {ds : List D} (I : Nat → Ro → Prop) (R : Out → Prop)
    (step : ∀ (i : Nat) (d : D) (ρ : Ro), i < ds.length → ds[i]? = some d → I i ρ → ∃ o, turnF tg body d ρ = some o ∧ (match o with | .nx r => I (i + 1) r | .ct r => I (i + 1) r | .bk r => R (.nx r) | o => R o))
    (fin : ∀ ρ, I ds.length ρ → R (.nx ρ)) (ρ : Ro) (h0 : I 0 ρ) : ∃ o, loopF tg body ds ρ = some o ∧ R o := by
  induction ds generalizing I ρ with
  | nil => exact ⟨_, rfl, fin ρ h0⟩
  | cons d ds ih =>
    obtain ⟨o, h2, h3⟩ := step 0 d ρ (Nat.succ_pos _) rfl h0
    have next : ∀ r, I 1 r → ∃ o, loopF tg body ds r = some o ∧ R o := fun r hr =>
      ih (fun i => I (i + 1)) (fun i e ρ hl he hi => step (i + 1) e ρ (Nat.succ_lt_succ hl) he hi) (fun ρ h => fin ρ h) r hr
    unfold turnF at h2
    unfold loopF
    cases ht : tg d ρ with
    | none => rw [ht] at h2; cases h2
    | some ρ1 =>
      rw [ht] at h2
      simp only at h2 ⊢
      rw [h2]
      cases o with
      | nx r => exact next r h3
      | ct r => exact next r h3
      | bk r => exact ⟨_, rfl, h3⟩
      | rt d r => exact ⟨_, rfl, h3⟩
      | ex c => exact ⟨_, rfl, h3⟩
/-- a loop that only goes on -/
theorem loop_inv {tg : TF} {body : SF} {ds : List D} (I : Nat → Ro → Prop)
    (step : ∀ (i : Nat) (d : D) (ρ : Ro), i < ds.length → ds[i]? = some d → I i ρ → ∃ o, turnF tg body d ρ = some o ∧ ∃ r, o = .nx r ∧ I (i + 1) r) (ρ : Ro) (h0 : I 0 ρ) : ∃ r, loopF tg body ds ρ = some (.nx r) ∧ I ds.length r := by
  obtain ⟨o, h1, h2⟩ := loop_any (tg := tg) (body := body) (ds := ds) I (fun o => ∃ r, o = .nx r ∧ I ds.length r) (fun i d ρ hl hd hi => by
    obtain ⟨o, a, r, b, c⟩ := step i d ρ hl hd hi
    subst b
    exact ⟨_, a, c⟩) (fun ρ h => ⟨ρ, rfl, h⟩) ρ h0
  obtain ⟨r, e, hr⟩ := h2
  subst e
  exact ⟨r, h1, hr⟩
/-- a loop over a range -/
theorem loop_range {tg : TF} {body : SF} {n : Nat} (I : Nat → Ro → Prop)
    (step : ∀ (i : Nat) (ρ : Ro), i < n → I i ρ → ∃ o, turnF tg body (.int (i : Int)) ρ = some o ∧ ∃ r, o = .nx r ∧ I (i + 1) r) (ρ : Ro) (h0 : I 0 ρ) : ∃ r, loopF tg body (rangeD 0 n) ρ = some (.nx r) ∧ I n r := by
  have := loop_inv (tg := tg) (body := body) (ds := rangeD 0 n) I (fun i d ρ hl hd hi => by
    have e := rangeD_get hd
    subst e
    rw [rangeD_length] at hl
    rw [Int.zero_add]
    exact step i ρ hl hi) ρ h0
  rw [rangeD_length] at this
  exact this
/-- a loop over a list -/
theorem loop_map {α : Type} {tg : TF} {body : SF} {f : α → D} {xs : List α} (I : Nat → Ro → Prop)
    (step : ∀ (i : Nat) (a : α) (ρ : Ro), xs[i]? = some a → I i ρ → ∃ o, turnF tg body (f a) ρ = some o ∧ ∃ r, o = .nx r ∧ I (i + 1) r) (ρ : Ro) (h0 : I 0 ρ) : ∃ r, loopF tg body (xs.map f) ρ = some (.nx r) ∧ I xs.length r := by
  have := loop_inv (tg := tg) (body := body) (ds := xs.map f) I (fun i d ρ hl hd hi => by
    rw [List.getElem?_map] at hd
    cases e : xs[i]? with
    | none => rw [e] at hd; cases hd
    | some a =>
      rw [e] at hd
      cases hd
      exact step i a ρ e hi) ρ h0
  rw [List.length_map] at this
  exact this
theorem loop_map_any {α : Type} {tg : TF} {body : SF} {f : α → D} {xs : List α} (I : Nat → Ro → Prop) (R : Out → Prop)
    (step : ∀ (i : Nat) (a : α) (ρ : Ro), xs[i]? = some a → I i ρ → ∃ o, turnF tg body (f a) ρ = some o ∧ (match o with | .nx r => I (i + 1) r | .ct r => I (i + 1) r | .bk r => R (.nx r) | o => R o))
    (fin : ∀ ρ, I xs.length ρ → R (.nx ρ)) (ρ : Ro) (h0 : I 0 ρ) : ∃ o, loopF tg body (xs.map f) ρ = some o ∧ R o :=
  loop_any (tg := tg) (body := body) (ds := xs.map f) I R (fun i d ρ hl hd hi => by
    rw [List.getElem?_map] at hd
    cases e : xs[i]? with
    | none => rw [e] at hd; cases hd
    | some a =>
      rw [e] at hd
      cases hd
      exact step i a ρ e hi) (fun ρ h => fin ρ (by rw [List.length_map] at h; exact h)) ρ h0
theorem map_get {α : Type} {f : α → D} {xs : List α} {i : Nat} {d : D} (h : (xs.map f)[i]? = some d) : ∃ a, xs[i]? = some a ∧ d = f a := by
  rw [List.getElem?_map] at h
  cases e : xs[i]? with
  | none => rw [e] at h; cases h
  | some a => rw [e] at h; cases h; exact ⟨a, rfl, rfl⟩
end Dn

namespace Dn
open PySem PySem.Spec PyProof.Rows L2

/-! ### running a plain function from its beginning -/
section
variable {F G body : SF} {f g fa fb fc : Ro → Option D} {fs : List (Ro → Option D)} {ρ r : Ro} {d x y z : D} {ds : List D} {i j n : Nat} {c t u : Ro → Option Bool} {h h' : D → D → Option D} {k : D → Option D} {q : List D → Option D} {b : Bool} {tg : TF}
def eSeq (o : Option Out) (G : SF) : Option Out := match o with
  | some (.nx r) => G r
  | o => o
theorem ev_seq : seqF F G ρ = eSeq (F ρ) G := rfl
theorem eSeq_nx : eSeq (some (.nx r)) G = G r := rfl
theorem eSeq_rt : eSeq (some (.rt d r)) G = some (.rt d r) := rfl
theorem eSeq_bk : eSeq (some (.bk r)) G = some (.bk r) := rfl
theorem eSeq_ct : eSeq (some (.ct r)) G = some (.ct r) := rfl
theorem eSeq_ex {s : String} : eSeq (some (.ex s)) G = some (.ex s) := rfl
theorem eSeq_none : eSeq none G = none := rfl
theorem ev_skip : skipF ρ = some (.nx ρ) := rfl
theorem ev_break : breakF ρ = some (.bk ρ) := rfl
theorem ev_cont : contF ρ = some (.ct ρ) := rfl
theorem ev_never : neverF ρ = none := rfl
def eVar (s : Option Slot) : Option D := match s with | some (.val d) => some d | _ => none
theorem ev_var : varF i ρ = eVar ρ[i]? := rfl
theorem eVar_val : eVar (some (.val d)) = some d := rfl
theorem ev_c : cF d ρ = some d := rfl
def eAsg (o : Option D) (i : Nat) (ρ : Ro) : Option Out := match o with | some d => some (.nx (ρ.set i (.val d))) | none => none
theorem ev_asg : asgF i f ρ = eAsg (f ρ) i ρ := rfl
theorem eAsg_some : eAsg (some d) i ρ = some (.nx (ρ.set i (.val d))) := rfl
def eAsgO (o : Option D) (i : Nat) (ρ : Ro) : Option Out := match o with | some (.lst ds) => some (.nx (ρ.set i (.own ds))) | _ => none
theorem ev_asgO : asgO i f ρ = eAsgO (f ρ) i ρ := rfl
theorem eAsgO_some : eAsgO (some (.lst ds)) i ρ = some (.nx (ρ.set i (.own ds))) := rfl
def eRet (o : Option D) (ρ : Ro) : Option Out := match o with | some d => some (.rt d ρ) | none => none
theorem ev_ret : retF f ρ = eRet (f (frzA ρ)) (frzA ρ) := rfl
theorem ev_retP : retP f ρ = eRet (f ρ) ρ := rfl
theorem eRet_some : eRet (some d) ρ = some (.rt d ρ) := rfl
def eExpr (o : Option D) (ρ : Ro) : Option Out := match o with | some _ => some (.nx ρ) | none => none
theorem ev_expr : exprF f ρ = eExpr (f ρ) ρ := rfl
theorem eExpr_some : eExpr (some d) ρ = some (.nx ρ) := rfl
def eIf (o : Option Bool) (F G : SF) (ρ : Ro) : Option Out := match o with | some true => F ρ | some false => G ρ | none => none
theorem ev_if : ifF c F G ρ = eIf (c (borA ρ)) F G ρ := rfl
theorem eIf_t : eIf (some true) F G ρ = F ρ := rfl
theorem eIf_f : eIf (some false) F G ρ = G ρ := rfl
def eApp2 (d : D) (s : Option Slot) (i : Nat) (ρ : Ro) : Option Out := match s with
  | some (.own ds) => if ds.length < sz then some (.nx (ρ.set i (.own (ds ++ [d])))) else none
  | some (.par ds) => if ds.length < sz then some (.nx (ρ.set i (.par (ds ++ [d])))) else none
  | _ => none
def eApp (o : Option D) (i : Nat) (ρ : Ro) : Option Out := match o with | some d => eApp2 d ρ[i]? i ρ | none => none
theorem ev_app : appF i f ρ = eApp (f ρ) i ρ := by
  unfold appF eApp eApp2
  cases f ρ with
  | none => rfl
  | some d => rfl
theorem eApp_some : eApp (some d) i ρ = eApp2 d ρ[i]? i ρ := rfl
theorem eApp2_own : eApp2 d (some (.own ds)) i ρ = if ds.length < sz then some (.nx (ρ.set i (.own (ds ++ [d])))) else none := rfl
theorem eApp2_par : eApp2 d (some (.par ds)) i ρ = if ds.length < sz then some (.nx (ρ.set i (.par (ds ++ [d])))) else none := rfl
theorem ev_frz : frzF i F ρ = F (frz1 i ρ) := rfl
def eFrz1 (s : Option Slot) (i : Nat) (ρ : Ro) : Ro := match s with | some (.own ds) => ρ.set i (.val (.lst ds)) | _ => ρ
theorem ev_frz1 : frz1 i ρ = eFrz1 ρ[i]? i ρ := rfl
theorem eFrz1_own : eFrz1 (some (.own ds)) i ρ = ρ.set i (.val (.lst ds)) := rfl
theorem ev_frzAF : frzAF F ρ = F (frzA ρ) := rfl
def eFor (o : Option (List D)) (tg : TF) (body : SF) (ρ : Ro) : Option Out := match o with | some ds => loopF tg body ds ρ | none => none
theorem ev_for {src : Ro → Option (List D)} : forF src tg body ρ = eFor (src ρ) tg body ρ := rfl
theorem eFor_some : eFor (some ds) tg body ρ = loopF tg body ds ρ := rfl
def eTest (o : Option D) : Option Bool := match o with | some (.bl b) => some b | _ => none
theorem ev_test : testF f ρ = eTest (f ρ) := rfl
theorem eTest_bl : eTest (some (.bl b)) = some b := rfl
def eAnd (o : Option Bool) (u : Ro → Option Bool) (ρ : Ro) : Option Bool := match o with | some true => u ρ | some false => some false | none => none
theorem ev_and : andT t u ρ = eAnd (t ρ) u ρ := rfl
theorem eAnd_t : eAnd (some true) u ρ = u ρ := rfl
theorem eAnd_f : eAnd (some false) u ρ = some false := rfl
def eOr (o : Option Bool) (u : Ro → Option Bool) (ρ : Ro) : Option Bool := match o with | some true => some true | some false => u ρ | none => none
theorem ev_or : orT t u ρ = eOr (t ρ) u ρ := rfl
theorem eOr_t : eOr (some true) u ρ = some true := rfl
theorem eOr_f : eOr (some false) u ρ = u ρ := rfl
def eNot (o : Option Bool) : Option Bool := match o with | some b => some (!b) | none => none
theorem ev_not : notT t ρ = eNot (t ρ) := rfl
theorem eNot_some : eNot (some b) = some (!b) := rfl
def eAndV (o : Option D) (g : Ro → Option D) (ρ : Ro) : Option D := match o with | some (.bl true) => g ρ | some (.bl false) => some (.bl false) | _ => none
theorem ev_andV : andV f g ρ = eAndV (f ρ) g ρ := rfl
theorem eAndV_t : eAndV (some (.bl true)) g ρ = g ρ := rfl
theorem eAndV_f : eAndV (some (.bl false)) g ρ = some (.bl false) := rfl
def eOrV (o : Option D) (g : Ro → Option D) (ρ : Ro) : Option D := match o with | some (.bl true) => some (.bl true) | some (.bl false) => g ρ | _ => none
theorem ev_orV : orV f g ρ = eOrV (f ρ) g ρ := rfl
theorem eOrV_t : eOrV (some (.bl true)) g ρ = some (.bl true) := rfl
theorem eOrV_f : eOrV (some (.bl false)) g ρ = g ρ := rfl
def eNotV (o : Option D) : Option D := match o with | some (.bl b) => some (.bl (!b)) | _ => none
theorem ev_notV : notV f ρ = eNotV (f ρ) := rfl
theorem eNotV_bl : eNotV (some (.bl b)) = some (.bl (!b)) := rfl
def eIfV (o : Option Bool) (f g : Ro → Option D) (ρ : Ro) : Option D := match o with | some true => f ρ | some false => g ρ | none => none
theorem ev_ifV : ifV t f g ρ = eIfV (t ρ) f g ρ := rfl
theorem eIfV_t : eIfV (some true) f g ρ = f ρ := rfl
theorem eIfV_f : eIfV (some false) f g ρ = g ρ := rfl
def e2 (h : D → D → Option D) (a b : Option D) : Option D := match a with
  | some x => (match b with | some y => h x y | none => none)
  | none => none
theorem ev_bi : biF h fa fb ρ = e2 h (fa ρ) (fb ρ) := rfl
theorem e2_some : e2 h (some x) (some y) = h x y := rfl
def e1 (k : D → Option D) (a : Option D) : Option D := match a with | some x => k x | none => none
theorem ev_un : un k fa ρ = e1 k (fa ρ) := rfl
theorem e1_some : e1 k (some x) = k x := rfl
def eCons (a : Option D) (b : Option (List D)) : Option (List D) := match a with
  | some d => (match b with | some ds => some (d :: ds) | none => none)
  | none => none
theorem ev_args0 : argsF [] ρ = some [] := rfl
theorem ev_args1 : argsF (f :: fs) ρ = eCons (f ρ) (argsF fs ρ) := rfl
theorem eCons_some : eCons (some d) (some ds) = some (d :: ds) := rfl
def eCall (q : List D → Option D) (o : Option (List D)) : Option D := match o with | some ds => q ds | none => none
theorem ev_call : callF q fs ρ = eCall q (argsF fs ρ) := rfl
theorem eCall_some : eCall q (some ds) = q ds := rfl
def eTup (o : Option (List D)) : Option D := match o with | some ds => some (.tup ds) | none => none
theorem ev_tup : tupF fs ρ = eTup (argsF fs ρ) := rfl
theorem eTup_some : eTup (some ds) = some (.tup ds) := rfl
def eLst (o : Option (List D)) : Option D := match o with | some ds => some (.lst ds) | none => none
theorem ev_lst : lstF fs ρ = eLst (argsF fs ρ) := rfl
theorem eLst_some : eLst (some ds) = some (.lst ds) := rfl
def eSl (a : Option D) (l u : Option (Option Int)) : Option D := match a with
  | some x => (match l with
    | some l => (match u with | some h => gSl x l h | none => none)
    | none => none)
  | none => none
theorem ev_sl {fl fh : Ro → Option (Option Int)} : slF f fl fh ρ = eSl (f ρ) (fl ρ) (fh ρ) := rfl
theorem eSl_some {l u : Option Int} : eSl (some x) (some l) (some u) = gSl x l u := rfl
theorem ev_no : noF ρ = some none := rfl
def eSome (o : Option D) : Option (Option Int) := match o with | some (.int i) => some (some i) | _ => none
theorem ev_some : someF f ρ = eSome (f ρ) := rfl
theorem eSome_int {i : Int} : eSome (some (.int i)) = some (some i) := rfl
def eChain2 (o : Option D) (h' : D → D → Option D) (y : D) (fc : Ro → Option D) (ρ : Ro) : Option D := match o with
  | some (.bl true) => e2 h' (some y) (fc ρ)
  | some (.bl false) => some (.bl false)
  | _ => none
def eChain (h h' : D → D → Option D) (a b : Option D) (fc : Ro → Option D) (ρ : Ro) : Option D := match a with
  | some x => (match b with
    | some y => eChain2 (h x y) h' y fc ρ
    | none => none)
  | none => none
theorem ev_chain : chainV h h' fa fb fc ρ = eChain h h' (fa ρ) (fb ρ) fc ρ := by
  unfold chainV eChain eChain2 e2
  rfl
theorem eChain_some : eChain h h' (some x) (some y) fc ρ = eChain2 (h x y) h' y fc ρ := rfl
theorem eChain2_t : eChain2 (some (.bl true)) h' y fc ρ = e2 h' (some y) (fc ρ) := rfl
theorem eChain2_f : eChain2 (some (.bl false)) h' y fc ρ = some (.bl false) := rfl
def eItF (o : Option D) : Option (List D) := match o with | some (.lst ds) => some ds | _ => none
theorem ev_itF : itemsF f ρ = eItF (f ρ) := rfl
theorem eItF_some : eItF (some (.lst ds)) = some ds := rfl
def eItT (o : Option D) : Option (List D) := match o with | some (.tup ds) => some ds | _ => none
theorem ev_itT : itemsT f ρ = eItT (f ρ) := rfl
theorem eItT_some : eItT (some (.tup ds)) = some ds := rfl
def eItS (o : Option D) : Option (List D) := match o with | some (.str x) => some (signs x) | _ => none
theorem ev_itS : itemsS f ρ = eItS (f ρ) := rfl
theorem eItS_some {x : Str} : eItS (some (.str x)) = some (signs x) := rfl
def eR1 (o : Option D) : Option (List D) := match o with | some (.int n) => if -(2 ^ 62) ≤ n ∧ n < 2 ^ 62 then some (rangeD 0 n.toNat) else none | _ => none
theorem ev_R1 : itemsR1 f ρ = eR1 (f ρ) := rfl
theorem eR1_int {n : Int} : eR1 (some (.int n)) = if -(2 ^ 62) ≤ n ∧ n < 2 ^ 62 then some (rangeD 0 n.toNat) else none := rfl
theorem eR1_ok {n : Int} (h0 : 0 ≤ n) (h1 : n ≤ 1000000) : eR1 (some (.int n)) = some (rangeD 0 n.toNat) := by
  rw [eR1_int, if_pos (by omega)]
def eR2 (o p : Option D) : Option (List D) := match o with
  | some (.int a) => (match p with | some (.int b) => if (-(2 ^ 62) ≤ a ∧ a < 2 ^ 62) ∧ (-(2 ^ 62) ≤ b ∧ b < 2 ^ 62) then some (rangeD a (b - a).toNat) else none | _ => none)
  | _ => none
theorem ev_R2 : itemsR2 f g ρ = eR2 (f ρ) (g ρ) := rfl
theorem eR2_ok {a b : Int} (h0 : 0 ≤ a) (h1 : a ≤ 1000000) (h2 : 0 ≤ b) (h3 : b ≤ 1000000) : eR2 (some (.int a)) (some (.int b)) = some (rangeD a (b - a).toNat) := by
  show (if (-(2 ^ 62) ≤ a ∧ a < 2 ^ 62) ∧ (-(2 ^ 62) ≤ b ∧ b < 2 ^ 62) then some (rangeD a (b - a).toNat) else none) = _
  rw [if_pos (by omega)]
def eLc (o : Option (List D)) (j : Nat) (c : Ro → Option Bool) (f : Ro → Option D) (ρ : Ro) : Option D := match o with
  | some ds => if ds.length ≤ sz then eLst (compL c f j ρ ds) else none
  | none => none
theorem ev_comp {src : Ro → Option (List D)} : compF src j c f ρ = eLc (src ρ) j c f ρ := rfl
theorem eLc_some : eLc (some ds) j c f ρ = if ds.length ≤ sz then eLst (compL c f j ρ ds) else none := rfl
theorem eLc_ok (hz : ds.length ≤ sz) : eLc (some ds) j c f ρ = eLst (compL c f j ρ ds) := by rw [eLc_some, if_pos hz]
def eRun (o : Option Out) : Option D := match o with
  | some (.rt d _) => some d
  | some (.nx _) => some .non
  | _ => none
theorem ev_run : runF F n ds = eRun (F (initR n ds)) := rfl
theorem eRun_rt : eRun (some (.rt d r)) = some d := rfl
theorem eRun_nx : eRun (some (.nx r)) = some .non := rfl
def eTurn (o : Option Ro) (body : SF) : Option Out := match o with | some r => body r | none => none
theorem ev_turn : turnF tg body d ρ = eTurn (tg d ρ) body := rfl
theorem eTurn_some : eTurn (some r) body = body r := rfl
theorem ev_name : nameT i d ρ = some (ρ.set i (.val d)) := rfl
theorem ev_pair : pairT i j (.tup [x, y]) ρ = some ((ρ.set i (.val x)).set j (.val y)) := rfl
theorem ev_yes : yesT ρ = some true := rfl
/-- values -/
theorem gAdd_int {i j : Int} : gAdd (.int i) (.int j) = some (.int (i + j)) := rfl
theorem gMinus_int {i j : Int} : gMinus (.int i) (.int j) = some (.int (i - j)) := rfl
theorem gNeg_int {i : Int} : gNeg (.int i) = some (.int (-i)) := rfl
theorem gLt_int {i j : Int} : gLt (.int i) (.int j) = some (.bl (decide (i < j))) := rfl
theorem gLe_int {i j : Int} : gLe (.int i) (.int j) = some (.bl (decide (i ≤ j))) := rfl
theorem gGt_int {i j : Int} : gGt (.int i) (.int j) = some (.bl (decide (j < i))) := rfl
theorem gGe_int {i j : Int} : gGe (.int i) (.int j) = some (.bl (decide (j ≤ i))) := rfl
theorem gDiv_int {i j : Int} : gDiv (.int i) (.int j) = if 0 < j ∧ j < 1073741824 then some (.int (i / j)) else none := rfl
theorem gMod_int {i j : Int} : gMod (.int i) (.int j) = if 0 < j then some (.int (i % j)) else none := rfl
theorem gMul_int {i j : Int} : gMul (.int i) (.int j) = if (-(2 ^ 64) < i ∧ i < 2 ^ 64) ∨ (-(2 ^ 64) < j ∧ j < 2 ^ 64) then some (.int (i * j)) else none := rfl
theorem gAbs_int {i : Int} : gAbs [.int i] = some (.int (if i < 0 then -i else i)) := rfl
theorem gMax_int {i j : Int} : gMax [.int i, .int j] = some (.int (if j > i then j else i)) := rfl
theorem gMin_int {i j : Int} : gMin [.int i, .int j] = some (.int (if j < i then j else i)) := rfl
theorem gLen_lst : gLen [.lst ds] = some (.int ds.length) := rfl
theorem gLen_tup : gLen [.tup ds] = some (.int ds.length) := rfl
theorem gLen_fz {ns : List Int} : gLen [.fz ns] = some (.int ns.length) := rfl
theorem gList_lst : gList [.lst ds] = some (.lst ds) := rfl
theorem gList_tup : gList [.tup ds] = some (.lst ds) := rfl
theorem gInt_int {i : Int} : gInt [.int i] = some (.int i) := rfl
theorem gInt_bl : gInt [.bl b] = some (.int (if b then 1 else 0)) := rfl
theorem gIsN_non : gIsN x .non = some (.bl (isNoD x)) := rfl
theorem gNotN_non : gNotN x .non = some (.bl (!isNoD x)) := rfl
theorem gSl_lst {l u : Option Int} : gSl (.lst ds) l u = some (.lst (cutL ds l u)) := rfl
theorem gAdd_lst {xs ys : List D} : gAdd (.lst xs) (.lst ys) = if xs.length + ys.length ≤ sz then some (.lst (xs ++ ys)) else none := rfl
theorem gAdd_str {xs ys : Str} : gAdd (.str xs) (.str ys) = if xs.length + ys.length ≤ sz then some (.str (xs ++ ys)) else none := rfl
theorem initR_1 {a : D} : initR n [a] = .val a :: List.replicate (n - 1) .no := rfl
theorem initR_2 {a b : D} : initR n [a, b] = .val a :: .val b :: List.replicate (n - 2) .no := rfl
theorem initR_3 {a b c : D} : initR n [a, b, c] = .val a :: .val b :: .val c :: List.replicate (n - 3) .no := rfl
theorem initR_4 {a b c d : D} : initR n [a, b, c, d] = .val a :: .val b :: .val c :: .val d :: List.replicate (n - 4) .no := rfl
theorem initR_5 {a b c d e : D} : initR n [a, b, c, d, e] = .val a :: .val b :: .val c :: .val d :: .val e :: List.replicate (n - 5) .no := rfl
theorem borA_nil : borA [] = [] := rfl
theorem borA_cons {s : Slot} : borA (s :: ρ) = s.bor :: borA ρ := rfl
theorem frzA_nil : frzA [] = [] := rfl
theorem frzA_cons {s : Slot} : frzA (s :: ρ) = s.frz :: frzA ρ := rfl
theorem bor_no : Slot.bor .no = .no := rfl
theorem bor_val : Slot.bor (.val d) = .val d := rfl
theorem bor_own : Slot.bor (.own ds) = .val (.lst ds) := rfl
theorem bor_par : Slot.bor (.par ds) = .val (.lst ds) := rfl
theorem bor_view : Slot.bor (.view ds) = .val (.lst ds) := rfl
theorem frz_no : Slot.frz .no = .no := rfl
theorem frz_val : Slot.frz (.val d) = .val d := rfl
theorem frz_own : Slot.frz (.own ds) = .val (.lst ds) := rfl
theorem frz_par : Slot.frz (.par ds) = .val (.lst ds) := rfl
theorem frz_view : Slot.frz (.view ds) = .view ds := rfl
theorem isBlD_bl : isBlD (.bl b) = true := rfl
theorem isBlD_int {i : Int} : isBlD (.int i) = false := rfl
theorem isBlD_non : isBlD .non = false := rfl
theorem isBlD_str {x : Str} : isBlD (.str x) = false := rfl
theorem isBlD_lst : isBlD (.lst ds) = false := rfl
theorem isBlD_tup : isBlD (.tup ds) = false := rfl
theorem isIntD_int {i : Int} : isIntD (.int i) = true := rfl
theorem isIntD_bl : isIntD (.bl b) = true := rfl
theorem isStrD_str {x : Str} : isStrD (.str x) = true := rfl
theorem isStrD_non : isStrD .non = false := rfl
theorem isLstD_lst : isLstD (.lst ds) = true := rfl
theorem isLstD_non : isLstD .non = false := rfl
theorem isTupD_tup : isTupD (.tup ds) = true := rfl
theorem isTupD_non : isTupD .non = false := rfl
theorem isNoD_non : isNoD .non = true := rfl
theorem isNoD_tup : isNoD (.tup ds) = false := rfl
theorem isNoD_lst : isNoD (.lst ds) = false := rfl
theorem isNoD_str {x : Str} : isNoD (.str x) = false := rfl
/-- one turn of a loop, from the list's front -/
def eLoop (o : Option Out) (tg : TF) (body : SF) (ds : List D) : Option Out := match o with
  | some (.nx r) => loopF tg body ds r
  | some (.ct r) => loopF tg body ds r
  | some (.bk r) => some (.nx r)
  | o => o
theorem ev_loop0 : loopF tg body [] ρ = some (.nx ρ) := rfl
theorem ev_loop1 : loopF tg body (d :: ds) ρ = eLoop (turnF tg body d ρ) tg body ds := by
  unfold turnF eLoop
  show (match tg d ρ with
    | none => none
    | some ρ1 => _) = _
  cases tg d ρ with
  | none => rfl
  | some r =>
    simp only
    cases body r with
    | none => rfl
    | some o => cases o <;> rfl
theorem eLoop_nx : eLoop (some (.nx r)) tg body ds = loopF tg body ds r := rfl
theorem eLoop_ct : eLoop (some (.ct r)) tg body ds = loopF tg body ds r := rfl
theorem eLoop_bk : eLoop (some (.bk r)) tg body ds = some (.nx r) := rfl
theorem eLoop_rt : eLoop (some (.rt d r)) tg body ds = some (.rt d r) := rfl
theorem eLoop_ex {s : String} : eLoop (some (.ex s)) tg body ds = some (.ex s) := rfl
/-- one turn of a comprehension -/
def eComp1 (o : Option Bool) (f : Ro → Option D) (j : Nat) (ρ : Ro) (c : Ro → Option Bool) (d : D) (ds : List D) : Option (List D) := match o with
  | some true => eCons (f (ρ.set j (.val d))) (compL c f j ρ ds)
  | some false => compL c f j ρ ds
  | none => none
theorem ev_compL0 : compL c f j ρ [] = some [] := rfl
theorem ev_compL1 : compL c f j ρ (d :: ds) = eComp1 (c (ρ.set j (.val d))) f j ρ c d ds := rfl
theorem eComp1_t : eComp1 (some true) f j ρ c d ds = eCons (f (ρ.set j (.val d))) (compL c f j ρ ds) := rfl
theorem eComp1_f : eComp1 (some false) f j ρ c d ds = compL c f j ρ ds := rfl
/-- a comprehension that maps -/
theorem compL_map {α : Type} {e' : α → D} {w : α → D} (xs : List α) (hc : ∀ a ∈ xs, c (ρ.set j (.val (e' a))) = some true) (hf : ∀ a ∈ xs, f (ρ.set j (.val (e' a))) = some (w a)) : compL c f j ρ (xs.map e') = some (xs.map w) := by
  induction xs with
  | nil => rfl
  | cons a xs ih =>
    rw [List.map_cons, ev_compL1, hc a List.mem_cons_self, eComp1_t, hf a List.mem_cons_self, ih (fun b hb => hc b (List.mem_cons_of_mem _ hb)) (fun b hb => hf b (List.mem_cons_of_mem _ hb))]
    rfl
/-- .. that keeps some -/
theorem compL_filter {α : Type} {e' : α → D} {w : α → D} {p : α → Bool} (xs : List α) (hc : ∀ a ∈ xs, c (ρ.set j (.val (e' a))) = some (p a)) (hf : ∀ a ∈ xs, p a = true → f (ρ.set j (.val (e' a))) = some (w a)) : compL c f j ρ (xs.map e') = some ((xs.filter p).map w) := by
  induction xs with
  | nil => rfl
  | cons a xs ih =>
    have ih := ih (fun b hb => hc b (List.mem_cons_of_mem _ hb)) (fun b hb => hf b (List.mem_cons_of_mem _ hb))
    rw [List.map_cons, ev_compL1, hc a List.mem_cons_self]
    cases hp : p a with
    | true =>
      rw [eComp1_t, hf a List.mem_cons_self hp, ih, List.filter_cons, if_pos hp]
      rfl
    | false =>
      rw [eComp1_f, ih, List.filter_cons, if_neg (by rw [hp]; exact Bool.false_ne_true)]
theorem rangeD_map (lo : Int) (n : Nat) : rangeD lo n = (List.range n).map fun i => D.int (lo + (i : Nat)) := rfl
end
end Dn

namespace Dn
open PySem PySem.Spec PyProof.Rows L2

/-! ### sorted(ints, key=abs) -/
def intsOf : List D → Option (List Int)
  | [] => some []
  | .int n :: ds => (match intsOf ds with | some ns => some (n :: ns) | none => none)
  | _ :: _ => none
theorem intsOf_map (ns : List Int) : intsOf (ns.map D.int) = some ns := by
  induction ns with
  | nil => rfl
  | cons n ns ih =>
    show (match intsOf (ns.map D.int) with | some ns => some (n :: ns) | none => none) = _
    rw [ih]
theorem intsOf_eq : ∀ {ds : List D} {ns : List Int}, intsOf ds = some ns → ds = ns.map D.int
  | [], _, h => by cases h; rfl
  | .int n :: ds, ns, h => by
    unfold intsOf at h
    split at h
    · rename_i ns' h'
      cases h
      rw [intsOf_eq h']
      rfl
    · cases h
  | .non :: _, _, h | .bl _ :: _, _, h | .str _ :: _, _, h | .lst _ :: _, _, h | .tup _ :: _, _, h | .fz _ :: _, _, h => by cases h
/-- a number takes its place by its lamp -/
def insA (n : Int) : List Int → List Int
  | [] => [n]
  | m :: ms => if n.natAbs ≤ m.natAbs then n :: m :: ms else m :: insA n ms
def sortA : List Int → List Int
  | [] => []
  | n :: ns => insA n (sortA ns)
theorem insA_perm (n : Int) : ∀ ms : List Int, (insA n ms).Perm (n :: ms)
  | [] => .refl _
  | m :: ms => by
    unfold insA
    split
    · exact .refl _
    · exact ((insA_perm n ms).cons m).trans (.swap n m ms)
theorem sortA_perm : ∀ ns : List Int, (sortA ns).Perm ns
  | [] => .refl _
  | n :: ns => (insA_perm n (sortA ns)).trans ((sortA_perm ns).cons n)
theorem insA_sorted (n : Int) : ∀ ms : List Int, ms.Pairwise (fun a b => a.natAbs ≤ b.natAbs) → (insA n ms).Pairwise (fun a b => a.natAbs ≤ b.natAbs)
  | [], _ => by simp [insA]
  | m :: ms, h => by
    unfold insA
    rw [List.pairwise_cons] at h
    split
    · rename_i hn
      rw [List.pairwise_cons]
      refine ⟨fun b hb => ?_, List.pairwise_cons.mpr h⟩
      rcases List.mem_cons.mp hb with e | e
      · rw [e]; exact hn
      · exact Nat.le_trans hn (h.1 b e)
    · rename_i hn
      rw [List.pairwise_cons]
      refine ⟨fun b hb => ?_, insA_sorted n ms h.2⟩
      rcases List.mem_cons.mp ((insA_perm n ms).mem_iff.mp hb) with e | e
      · rw [e]; omega
      · exact h.1 b e
theorem sortA_sorted : ∀ ns : List Int, (sortA ns).Pairwise (fun a b => a.natAbs ≤ b.natAbs)
  | [] => .nil
  | n :: ns => insA_sorted n _ (sortA_sorted ns)
/-- no lamp with both signs -/
def oneSign (ns : List Int) : Prop := ∀ a ∈ ns, ∀ b ∈ ns, a.natAbs = b.natAbs → a = b
def oneSignB (ns : List Int) : Bool := ns.all fun a => ns.all fun b => a.natAbs != b.natAbs || a == b
theorem oneSignB_iff {ns : List Int} : oneSignB ns = true ↔ oneSign ns := by
  unfold oneSignB oneSign
  simp only [List.all_eq_true, Bool.or_eq_true, bne_iff_ne, beq_iff_eq]
  refine ⟨fun h a ha b hb e => ?_, fun h a ha b hb => ?_⟩
  · rcases h a ha b hb with q | q
    · exact absurd e q
    · exact q
  · by_cases e : a.natAbs = b.natAbs
    · exact .inr (h a ha b hb e)
    · exact .inl e
theorem sorted_unique : ∀ {l l' : List Int}, l.Perm l' → l.Pairwise (fun a b => a.natAbs ≤ b.natAbs) → l'.Pairwise (fun a b => a.natAbs ≤ b.natAbs) → oneSign l → l = l'
  | [], l', p, _, _, _ => by
    have := p.symm.eq_nil
    exact this.symm
  | a :: l, [], p, _, _, _ => by
    have := p.eq_nil
    cases this
  | a :: l, b :: l', p, h1, h2, h => by
    rw [List.pairwise_cons] at h1 h2
    have ha : a ∈ b :: l' := p.mem_iff.mp List.mem_cons_self
    have hb : b ∈ a :: l := p.mem_iff.mpr List.mem_cons_self
    have e : a = b := by
      have x1 : a.natAbs ≤ b.natAbs := by
        rcases List.mem_cons.mp hb with q | q
        · rw [q]; exact Nat.le_refl _
        · exact h1.1 b q
      have x2 : b.natAbs ≤ a.natAbs := by
        rcases List.mem_cons.mp ha with q | q
        · rw [q]; exact Nat.le_refl _
        · exact h2.1 a q
      exact h a List.mem_cons_self b hb (Nat.le_antisymm x1 x2)
    subst e
    rw [sorted_unique (p.cons_inv) h1.2 h2.2 fun x hx y hy => h x (List.mem_cons_of_mem _ hx) y (List.mem_cons_of_mem _ hy)]
def gSortAbs : D → Option D
  | .lst ds => (match intsOf ds with
    | some ns => if oneSignB ns = true ∧ ns.length ≤ sz then some (.lst ((sortA ns).map D.int)) else none
    | none => none)
  | _ => none
theorem gSortAbs_ok {ns : List Int} (h : oneSign ns) (hz : ns.length ≤ sz) : gSortAbs (.lst (ns.map D.int)) = some (.lst ((sortA ns).map D.int)) := by
  simp only [gSortAbs, intsOf_map]
  rw [if_pos ⟨oneSignB_iff.mpr h, hz⟩]

theorem objOk_there {P : Program} {w : World} {H : Hp} {h : Heap} {a : Addr} {o : HO} (x : ObjOk P w H h a o) : ∃ ob, h.get? a = some ob := by
  cases o with
  | lst xs => obtain ⟨_, _, _, _, e⟩ := x; exact ⟨_, e⟩
  | tup xs => obtain ⟨_, _, _, o, e, _⟩ := x; exact ⟨_, e⟩
  | dK kvs => obtain ⟨_, _, _, _, o, _, _, e, _⟩ := x; exact ⟨_, e⟩
  | dT kvs => obtain ⟨_, _, _, _, o, _, _, e, _⟩ := x; exact ⟨_, e⟩
  | set S n => obtain ⟨o, _, _, _, e, _⟩ := x; exact ⟨_, e⟩
  | ins C dx fs => obtain ⟨_, _, _, e, _⟩ := x; exact ⟨_, e⟩
  | own y => obtain ⟨_, e⟩ := x; exact ⟨_, e⟩
  | xd fs => obtain ⟨_, ⟨_, _, _, e, _⟩, _⟩ := x; exact ⟨_, e⟩
  | rng lo hi => obtain ⟨_, _, _, e⟩ := x; exact ⟨_, e⟩
  | frz ob u => obtain ⟨e, _⟩ := x; exact ⟨_, e⟩
  | tbl ps => exact ⟨_, (show h.get? a = some _ from x)⟩
  | met f y => exact ⟨_, (show h.get? a = some _ from x)⟩
  | ext φ => obtain ⟨_, ⟨_, e⟩, _⟩ := x; exact ⟨_, e⟩
theorem ns_unique {h : Heap} {a : Addr} {m m' : Str → Option Value} (x : h.Ns a m) (y : h.Ns a m') : m = m' := by
  obtain ⟨o, es, ep, e1, e2, _, e3⟩ := x
  obtain ⟨o', es', ep', f1, f2, _, f3⟩ := y
  rw [e1] at f1
  cases f1
  rw [e2] at f2
  injection f2 with q1 q2
  subst q1
  funext n
  rw [← e3, f3]
/-- behind a rule of the frame and the ledger that lays one new list -/
theorem inv_news {X : Cx} {pins : List (Addr × Obj)} {σ : L2.St} {H : Hp} {s : Shared} {h' : Heap} {tk : Nat} {m : Str → Option Value} {Dl : Addr} {o' : Obj} {u : HO} (I : Inv X pins σ H s) (hm : s.heap.Ns X.env.locals m) (F' : Fr X.base X.env.locals h' m)
    (N' : News X.base X.env.locals h' ((Dl, o') :: allNews X.base s.heap X.env.locals)) (hD : ∀ q ∈ allNews X.base s.heap X.env.locals, q.1 < Dl) (new : ObjOk X.prog X.w (upd H Dl u) h' Dl u) : H Dl = none ∧ Inv X pins σ (upd H Dl u) { s with heap := h', toks := tk } := by
  obtain ⟨d1, d2, d3⟩ := N' (Dl, o') List.mem_cons_self
  have nil : s.heap.get? Dl = none := by
    cases e : s.heap.get? Dl with
    | none => rfl
    | some ob => exact absurd (hD _ (mem_allNews d2 d3 e)) (Nat.lt_irrefl _)
  have hH : H Dl = none := by
    cases e : H Dl with
    | none => rfl
    | some ob =>
      obtain ⟨z, hz⟩ := objOk_there (I.hok Dl ob e)
      rw [nil] at hz
      cases hz
  have keep : ∀ b o, b ≠ X.env.locals → s.heap.get? b = some o → h'.get? b = some o := fun b o hb e => by
    cases q : X.base.get? b with
    | some x =>
      have := I.bk b x q
      rw [e] at this
      cases this
      exact F'.keep b _ q
    | none => exact (N' (b, o) (List.mem_cons_of_mem _ (mem_allNews hb q e))).1
  have ne : ∀ {b o}, s.heap.get? b = some o → b ≠ Dl := fun {b o} e z => by rw [z, nil] at e; cases e
  have neH : ∀ {b o}, H b = some o → b ≠ Dl := fun {b o} e z => by rw [z, hH] at e; cases e
  have neL : ∀ {b o}, H b = some o → b ≠ X.env.locals := fun {b o} e z => by
    rw [z, I.free] at e
    cases e
  refine ⟨hH, I.step (g' := s.gens) (d' := s.drawn) (t' := tk) (ch := []) (fun _ z => nomatch z) (fun b o hL _ _ e _ => keep b o hL e) (fun b o hL _ _ e _ => ⟨o.slots, keep b o hL e⟩) (fun b o _ e n => ?_) (fun b o _ e => ?_) (fun b xs e => ?_) (fun b o v e => ?_) (fun b ps e => ⟨#[], ?_⟩) (fun m' hm' => ?_) (fun b v e => ?_) I.bare⟩
  · rw [upd_ne (ne e)]
    exact n
  · by_cases hb : b = X.env.locals
    · subst hb
      obtain ⟨o2, _, _, e2, _⟩ := F'.ns
      exact ⟨o2, e2⟩
    · exact ⟨o, keep b o hb e⟩
  · rw [upd_ne (neH e)]
    exact e
  · rw [upd_ne (neH e)]
    exact e
  · rw [upd_ne (neH e), e]
    simp
  · rw [ns_unique hm' hm]
    exact F'.ns
  · by_cases hb : b = Dl
    · subst hb
      rw [upd_same] at e
      cases e
      exact new
    · rw [upd_ne hb] at e
      refine (I.hok b v e).stay (fun c w hc q => keep c w ?_ q) (fun c q => by rw [upd_ne (neH q)]; exact q) fun c xs q => by rw [upd_ne (neH q)]; exact q
      rcases hc with rfl | hc
      · exact neL e
      · exact neL hc
section
variable {X : Cx}
theorem sortAbs_run {pins : List (Addr × Obj)} {s : Shared} {σ : L2.St} {H : Hp} {a : Addr} {ns : List Int} {Q : VK} (I : Inv X pins σ H s) (hs : SqL X.K H a (ns.map V.int)) (h1 : oneSign ns)
    (q : ∀ p, H p = none → Q (.ref p) (upd H p (.lst ((sortA ns).map V.int)))) : wpAny (model X.prog X.w) X.A (call (.builtin "sorted") [.ref a] [(Str.ofString "key", .builtin "abs")]) (EP X pins σ Q) X.xe s := by
  obtain ⟨its, rv, hl, hz⟩ := I.list hs
  have hi := rv.ints
  obtain ⟨m, F⟩ := I.fr
  rw [List.length_map] at hz
  refine ksk_letterAny (b := false) (fun n => ((n.natAbs : Nat) : Int)) F (news_all (g := X.base) (h := s.heap) (L := X.env.locals)) hl.isList hi hz (ksk_s1 _ _) (fun x => ksk_l1 _ _) (fun x => ksk_t4 "abs" x) (fun n t h tk own hn F' N' => ?_) fun Dl vs' ns' c h' tk F' N' hD hI hlen hp ho _ => ?_
  · refine call_abs_int fun u tk' => ?_
    have e : (if n < 0 then -n else n) = ((n.natAbs : Nat) : Int) := by split <;> omega
    rw [e]
    exact KskEnd.intro (news' := _) F' N' (fun p hp => hp)
  · have e : ns' = sortA ns := sorted_unique (hp.trans (sortA_perm ns).symm) (ho.imp fun {x y} hxy => by
      simp only [Bool.false_eq_true, if_false] at hxy
      omega) (sortA_sorted ns) (fun x hx y hy => h1 x (hp.mem_iff.mp hx) y (hp.mem_iff.mp hy))
    subst e
    obtain ⟨d1, _, _⟩ := N' _ List.mem_cons_self
    obtain ⟨hH, J⟩ := inv_news (tk := tk) (u := .lst ((sortA ns).map V.int)) I F.ns F' N' hD ⟨by rw [List.length_map, hp.length_eq]; exact hz, _, c, vals_of_ints hI, d1⟩
    exact ⟨.ref Dl, _, J, rfl, q Dl hH⟩
def tSortAbs (K : PySem.W.Frag) (te : TE) : TE := fun σ H Q => te σ H fun v H1 => ∃ (a : Addr) (ns : List Int), v = .ref a ∧ SqL K H1 a (ns.map V.int) ∧ oneSign ns ∧ ∀ p, H1 p = none → Q (.ref p) (upd H1 p (.lst ((sortA ns).map V.int)))
theorem pe_sortAbs {e : Expr} {te : TE} {p p2 pos kpos : Pos} (hm : X.mg "sorted" = none) (hm2 : X.mg "abs" = none) (ha : PE X e te) (hg : Gl X "sorted" := by rfl) (hg2 : Gl X "abs" := by rfl)
    (hs1 : starEach [e] X.env = (false, eval e X.env) :: starEach [] X.env := by rfl)
    (he : backTo pos (starEach (e :: []) X.env) = (false, eval e X.env) :: backTo pos (starEach [] X.env) := by rfl) (hpl : (backTo pos (starEach (e :: []) X.env)).any (·.1) = false := by rfl)
    (hall : (backToKw pos (keywordEach [⟨some "key", .Name "abs" p2, kpos⟩] X.env)).all (·.1.isSome) = true := by rfl) (hnone : (backToKw pos (keywordEach [⟨some "key", .Name "abs" p2, kpos⟩] X.env)).any (·.1.isNone) = false := by rfl) (hks : (backToKw pos (keywordEach [⟨some "key", .Name "abs" p2, kpos⟩] X.env)).filterMap (·.1) = [Str.ofString "key"] := by rfl) :
    PE X (.Call (.Name "sorted" p) [e] [⟨some "key", .Name "abs" p2, kpos⟩] pos) (tSortAbs X.K te) := by
  refine ⟨fun pins s σ H Q I h => ?_⟩
  refine wpAny_Call_Name_kw (ld_blt I hg hm (show bootBuiltins "sorted" = some (.builtin "sorted") by decide +kernel) ?_ (by decide) (by decide))
  refine PyProof.Rows.callWith_kw (thn ((pa_cons ha pa_nil hs1).run pos pins s σ H (fun vs H1 => ∃ (a : Addr) (ns : List Int), vs = [.ref a] ∧ SqL X.K H1 a (ns.map V.int) ∧ oneSign ns ∧ ∀ p, H1 p = none → Q (.ref p) (upd H1 p (.lst ((sortA ns).map V.int)))) I ?_) fun us s1 ⟨vs, H1, I1, r1, a, ns, ev, hq, h1, q1⟩ => ?_) he hpl hall hnone
  · obtain h : tSortAbs X.K te σ H Q := h
    unfold tCons tNil
    show te σ H _
    exact (by
      have := h
      unfold tSortAbs at this
      refine cast (congrArg (te σ H) ?_) this
      funext v H1
      refine propext ⟨fun ⟨a, ns, e, r⟩ => ⟨a, ns, by rw [e], r⟩, fun ⟨a, ns, e, r⟩ => ⟨a, ns, by cases e; rfl, r⟩⟩)
  · subst ev
    obtain rfl := Vals.ref1 r1
    show wpAny _ _ (evalAll ((do let v ← eval (.Name "abs" p2) X.env; standAt pos; pure v) :: [])) _ _ s1
    refine wpAny_evalAll_cons (wpAny_bind (ld_blt I1 hg2 hm2 (show bootBuiltins "abs" = some (.builtin "abs") by decide +kernel) (wpAny_bind (wpAny_standAt (wpAny_pure ?_))) (by decide) (by decide)))
    refine wpAny_evalAll_nil ?_
    rw [hks]
    exact sortAbs_run I1 hq h1 q1
theorem d_sortAbs {e : Expr} {f : Ro → Option D} {p p2 pos kpos : Pos} (hm : X.mg "sorted" = none) (hm2 : X.mg "abs" = none) (ha : PE X e (tD X.K f)) (hg : Gl X "sorted" := by rfl) (hg2 : Gl X "abs" := by rfl)
    (hs1 : starEach [e] X.env = (false, eval e X.env) :: starEach [] X.env := by rfl)
    (he : backTo pos (starEach (e :: []) X.env) = (false, eval e X.env) :: backTo pos (starEach [] X.env) := by rfl) (hpl : (backTo pos (starEach (e :: []) X.env)).any (·.1) = false := by rfl)
    (hall : (backToKw pos (keywordEach [⟨some "key", .Name "abs" p2, kpos⟩] X.env)).all (·.1.isSome) = true := by rfl) (hnone : (backToKw pos (keywordEach [⟨some "key", .Name "abs" p2, kpos⟩] X.env)).any (·.1.isNone) = false := by rfl) (hks : (backToKw pos (keywordEach [⟨some "key", .Name "abs" p2, kpos⟩] X.env)).filterMap (·.1) = [Str.ofString "key"] := by rfl) :
    PE X (.Call (.Name "sorted" p) [e] [⟨some "key", .Name "abs" p2, kpos⟩] pos) (tD X.K (un gSortAbs f)) := pe_of (pe_sortAbs hm hm2 ha hg hg2 hs1 he hpl hall hnone hks) fun σ H Q h => by
  obtain ⟨ρ, Hs, d, vr, sm, hf, k⟩ := h
  unfold un at hf
  split at hf
  · rename_i x hx
    unfold gSortAbs at hf
    split at hf
    · rename_i ds
      split at hf
      · rename_i ns hns
        split at hf
        · rename_i hc
          cases hf
          refine ⟨ρ, Hs, _, vr, sm, hx, fun v Hs1 H1 s1 r1 => ?_⟩
          have e := intsOf_eq hns
          subst e
          cases r1
          rename_i a xs h1 r1
          have e2 := r1.ints
          subst e2
          refine ⟨a, ns, rfl, SqL.of (s1.i _ _ h1), oneSignB_iff.mp hc.1, fun p hp => ?_⟩
          have sn := Step.new s1.i hp (.lst ((sortA ns).map V.int))
          exact k _ _ _ (s1.trans sn) (.lst upd_same (RpAll.ofInts _))
        · cases hf
      · cases hf
    · cases hf
  · cases hf
end
end Dn

namespace Dn
open PySem PySem.Spec PyProof.Rows L2

/-! ### in a written tuple of texts -/
def strsOf : List D → Option (List Str)
  | [] => some []
  | .str n :: ds => (match strsOf ds with | some ns => some (n :: ns) | none => none)
  | _ :: _ => none
theorem strsOf_map (ns : List Str) : strsOf (ns.map D.str) = some ns := by
  induction ns with
  | nil => rfl
  | cons n ns ih =>
    show (match strsOf (ns.map D.str) with | some ns => some (n :: ns) | none => none) = _
    rw [ih]
theorem strsOf_eq : ∀ {ds : List D} {ns : List Str}, strsOf ds = some ns → ds = ns.map D.str
  | [], _, h => by cases h; rfl
  | .str n :: ds, ns, h => by
    unfold strsOf at h
    split at h
    · rename_i ns' h'
      cases h
      rw [strsOf_eq h']
      rfl
    · cases h
  | .non :: _, _, h | .bl _ :: _, _, h | .int _ :: _, _, h | .lst _ :: _, _, h | .tup _ :: _, _, h | .fz _ :: _, _, h => by cases h
def gInT : D → D → Option D
  | .str x, .tup ds => (match strsOf ds with | some ys => some (.bl (ys.any fun y => y == x)) | none => none)
  | _, _ => none
def gNotInT (x y : D) : Option D := match gInT x y with | some (.bl b) => some (.bl (!b)) | _ => none
theorem inV_strs (x : Str) (ys : List Str) : inV (.str x) (ys.map V.str) = ys.any fun y => y == x := by
  unfold inV
  rw [List.any_map]
  rfl
theorem flat_strs (ys : List Str) : (ys.map V.str).all flatV = true := by
  rw [List.all_map]
  exact List.all_eq_true.mpr fun _ _ => rfl
theorem r_inT {K : PySem.W.Frag} {neg : Bool} {g : D → D → Option D} (hg : ∀ x y d, g x y = some d → ∃ (s : Str) (ys : List Str), x = .str s ∧ y = .tup (ys.map D.str) ∧ d = .bl (if neg then !(ys.any fun y => y == s) else ys.any fun y => y == s)) : R2ok K (rIn K neg) g := fun Hs H x y dx dy d Q sm rx ry h k => by
  obtain ⟨s, ys, rfl, rfl, rfl⟩ := hg dx dy d h
  cases rx
  cases ry
  rename_i a xs h1 r1
  have e := r1.strs
  subst e
  refine ⟨_, _, rfl, .inr (SqT.of (sm _ _ h1)), rfl, flat_strs ys, ?_⟩
  rw [inV_strs]
  exact k _ Hs H (Step.refl sm) (.bl _)
theorem gInT_inv {x y d : D} (h : gInT x y = some d) : ∃ (s : Str) (ys : List Str), x = .str s ∧ y = .tup (ys.map D.str) ∧ d = .bl (ys.any fun y => y == s) := by
  unfold gInT at h
  split at h
  · split at h
    · rename_i ys hy
      cases h
      exact ⟨_, ys, rfl, by rw [strsOf_eq hy], rfl⟩
    · cases h
  · cases h
theorem gNotInT_inv {x y d : D} (h : gNotInT x y = some d) : ∃ (s : Str) (ys : List Str), x = .str s ∧ y = .tup (ys.map D.str) ∧ d = .bl (!(ys.any fun y => y == s)) := by
  unfold gNotInT at h
  split at h
  · rename_i b hb
    cases h
    obtain ⟨s, ys, e1, e2, e3⟩ := gInT_inv hb
    cases e3
    exact ⟨s, ys, e1, e2, rfl⟩
  · cases h
section
variable {X : Cx} {a b : Expr} {fa fb f : Ro → Option D} {pos p tpos : Pos} {e e2 : Expr} {elts : List Expr} {kk : Nat}
theorem d_inT (ha : PE X a (tD X.K fa)) (hb : PE X b (tD X.K fb)) (hm : behindInMarks .In b = false := by with_unfolding_all rfl) : PE X (.Compare a [.In] [b] pos) (tD X.K (biF gInT fa fb)) := d_cmp op_in_seq (r_inT (neg := false) fun x y d h => by simpa using gInT_inv h) hm ha hb
theorem t_inT (ha : PE X a (tD X.K fa)) (hb : PE X b (tD X.K fb)) (hm : behindInMarks .In b = false := by with_unfolding_all rfl) : PT X (.Compare a [.In] [b] pos) (tDT X.K (testF (biF gInT fa fb))) := d_tcmp op_in_seq (r_inT (neg := false) fun x y d h => by simpa using gInT_inv h) hm ha hb
theorem d_notInT (ha : PE X a (tD X.K fa)) (hb : PE X b (tD X.K fb)) (hm : behindInMarks .NotIn b = false := by with_unfolding_all rfl) : PE X (.Compare a [.NotIn] [b] pos) (tD X.K (biF gNotInT fa fb)) := d_cmp op_notIn_seq (r_inT (neg := true) fun x y d h => by simpa using gNotInT_inv h) hm ha hb
theorem t_notInT (ha : PE X a (tD X.K fa)) (hb : PE X b (tD X.K fb)) (hm : behindInMarks .NotIn b = false := by with_unfolding_all rfl) : PT X (.Compare a [.NotIn] [b] pos) (tDT X.K (testF (biF gNotInT fa fb))) := d_tcmp op_notIn_seq (r_inT (neg := true) fun x y d h => by simpa using gNotInT_inv h) hm ha hb
/-! ### a module's number -/
theorem d_glob {x : Str} {n : Int} (c : ∃ t, X.mg x = some (.int n t)) (hg : Gl X x := by rfl) (hd : (x == ("__debug__" : Str)) = false := by decide) : PE X (.Name x pos) (tD X.K (cF (.int n))) := by
  obtain ⟨t, hm⟩ := c
  exact pe_of (pe_glob hg hm (v := .int n) ⟨t, rfl⟩ hd) (d_const fun _ => .int n)
/-! ### zip, enumerate -/
def pairsD : List D → List D → List D
  | x :: xs, y :: ys => .tup [x, y] :: pairsD xs ys
  | _, _ => []
theorem pairsD_length : ∀ xs ys : List D, (pairsD xs ys).length = min xs.length ys.length
  | [], _ => by simp [pairsD]
  | _ :: _, [] => by simp [pairsD]
  | x :: xs, y :: ys => by
    show (pairsD xs ys).length + 1 = min (xs.length + 1) (ys.length + 1)
    rw [pairsD_length xs ys]
    omega
theorem pairsD_get : ∀ {xs ys : List D} {i : Nat} {d : D}, (pairsD xs ys)[i]? = some d → ∃ x y, xs[i]? = some x ∧ ys[i]? = some y ∧ d = .tup [x, y]
  | [], _, i, d, h => by simp [pairsD] at h
  | _ :: _, [], i, d, h => by simp [pairsD] at h
  | x :: xs, y :: ys, 0, d, h => by
    cases h
    exact ⟨x, y, rfl, rfl, rfl⟩
  | x :: xs, y :: ys, i + 1, d, h => pairsD_get (xs := xs) (ys := ys) (i := i) h
def enumD (xs : List D) : List D := pairsD ((List.range xs.length).map fun i => D.int (i : Nat)) xs
def itemsZ (f g : Ro → Option D) : Ro → Option (List D) := fun ρ => match f ρ with
  | some (.lst xs) => (match g ρ with | some (.lst ys) => some (pairsD xs ys) | _ => none)
  | _ => none
def itemsE (f : Ro → Option D) : Ro → Option (List D) := fun ρ => match f ρ with | some (.lst xs) => some (enumD xs) | _ => none
theorem i_zip (hm : X.mg "zip" = none) (ha : PE X e (tD X.K fa)) (hb : PE X e2 (tD X.K fb)) (hg : Gl X "zip" := by rfl)
    (hs : starEach [e, e2] X.env = (false, eval e X.env) :: starEach [e2] X.env := by rfl) (h2 : starEach [e2] X.env = (false, eval e2 X.env) :: starEach [] X.env := by rfl) (hpl : (backTo pos (starEach [e2] X.env)).any (·.1) = false := by rfl) :
    PI X (.Tuple elts kk tpos) (.Call (.Name "zip" p) [e, e2] [] pos) (tDI X.K (itemsZ fa fb)) := pi_of (pi_zip hg hm (a_cons ha (a_cons hb a_nil h2) hs) hs hpl) fun σ H R h => by
  obtain ⟨ρ, Hs, ds, vr, sm, hf, k⟩ := h
  unfold itemsZ at hf
  split at hf
  · rename_i xs hx
    split at hf
    · rename_i ys hy
      cases hf
      refine ⟨ρ, Hs, [.lst xs, .lst ys], vr, sm, by unfold argsF argsF; rw [hx, hy] <;> rfl, fun vs Hs1 H1 s1 r1 => ?_⟩
      obtain ⟨v, u, rfl, rv, ru⟩ := r1.two
      cases rv
      rename_i a as h1 q1
      cases ru
      rename_i b bs h2 q2
      refine ⟨a, b, as, bs, rfl, SqL.of (s1.i _ _ h1), SqL.of (s1.i _ _ h2), k _ Hs1 H1 s1 ⟨fun i H2 sm2 hi => ?_, fun i H2 sm2 hi => ?_, fun i Hsi H2 x H3 d sma smb hd y => ?_⟩⟩
      · rw [pairsD_length] at hi
        have l1 := q1.length
        have l2 := q2.length
        exact ⟨as, bs, as[i]'(by omega), bs[i]'(by omega), SqL.of (sm2 _ _ h1), SqL.of (sm2 _ _ h2), List.getElem?_eq_getElem _, List.getElem?_eq_getElem _⟩
      · rw [pairsD_length] at hi
        have l1 := q1.length
        have l2 := q2.length
        exact ⟨as, bs, SqL.of (sm2 _ _ h1), SqL.of (sm2 _ _ h2), by omega⟩
      · obtain ⟨T, v1, v2, e1, e2, e3, g1, g2⟩ := y
        subst e1
        subst e3
        obtain ⟨x1, y1, k1, k2, rfl⟩ := pairsD_get hd
        obtain ⟨w1, f1, rw1⟩ := q1.get k1
        obtain ⟨w2, f2, rw2⟩ := q2.get k2
        have z1 := (g1 as (SqL.of (smb _ _ (sma _ _ h1)))).symm.trans f1
        have z2 := (g2 bs (SqL.of (smb _ _ (sma _ _ h2)))).symm.trans f2
        cases z1
        cases z2
        have sn := Step.new smb e2 (.tup [v1, v2])
        exact ⟨_, sn, .tup upd_same (.cons (Rp.mono (sma.trans sn.s) _ _ rw1) (.cons (Rp.mono (sma.trans sn.s) _ _ rw2) .nil))⟩
    · cases hf
  · cases hf
theorem i_enum (hm : X.mg "enumerate" = none) (ha : PE X e (tD X.K fa)) (hg : Gl X "enumerate" := by rfl) (hs : starEach [e] X.env = [(false, eval e X.env)] := by rfl) :
    PI X (.Tuple elts kk tpos) (.Call (.Name "enumerate" p) [e] [] pos) (tDI X.K (itemsE fa)) := pi_of (pi_enum hg hm (a_cons ha a_nil hs) hs) fun σ H R h => by
  obtain ⟨ρ, Hs, ds, vr, sm, hf, k⟩ := h
  unfold itemsE at hf
  split at hf
  · rename_i xs hx
    cases hf
    refine ⟨ρ, Hs, [.lst xs], vr, sm, by unfold argsF; rw [hx] <;> rfl, fun vs Hs1 H1 s1 r1 => ?_⟩
    obtain ⟨v, rfl, rv⟩ := r1.one
    cases rv
    rename_i a as h1 q1
    have l1 := q1.length
    have hl : (enumD xs).length = xs.length := by
      unfold enumD
      rw [pairsD_length, List.length_map, List.length_range, Nat.min_self]
    refine ⟨a, as, rfl, SqL.of (s1.i _ _ h1), k _ Hs1 H1 s1 ⟨fun i H2 sm2 hi => ?_, fun i H2 sm2 hi => ?_, fun i Hsi H2 x H3 d sma smb hd y => ?_⟩⟩
    · rw [hl] at hi
      exact ⟨as, as[i]'(by omega), SqL.of (sm2 _ _ h1), List.getElem?_eq_getElem _⟩
    · rw [hl] at hi
      exact ⟨as, SqL.of (sm2 _ _ h1), by omega⟩
    · obtain ⟨T, v1, e1, e2, e3, g1⟩ := y
      subst e1
      subst e3
      obtain ⟨x1, y1, k1, k2, rfl⟩ := pairsD_get hd
      obtain ⟨w1, f1, rw1⟩ := q1.get k2
      have z1 := (g1 as (SqL.of (smb _ _ (sma _ _ h1)))).symm.trans f1
      cases z1
      have hi : i < xs.length := (List.getElem?_eq_some_iff.mp k2).1
      rw [List.getElem?_map, List.getElem?_range hi] at k1
      cases k1
      have sn := Step.new smb e2 (.tup [.int (i : Nat), v1])
      exact ⟨_, sn, .tup upd_same (.cons (.int _) (.cons (Rp.mono (sma.trans sn.s) _ _ rw1) .nil))⟩
  · cases hf
end
end Dn

/-! reversed of a text, walked -/
namespace RS
open PySem PySem.Spec PyProof.Rows L2
theorem noRev : typeLookup (.type "str") "__reversed__" = pure none := by (rw [typeLookup_type, builtinLookup_eq_fast]); kernel_rfl
theorem getS : typeLookup (.type "str") "__getitem__" = pure (some (.builtin "str.__getitem__")) := by (rw [typeLookup_type, builtinLookup_eq_fast]); kernel_rfl
def revO (x : Str) (t : Tok) (i : Int) : Obj := { cls := .type "reversed", data := .fields #[.str x t, rawInt i] }
/-- reversed(x) at a, i the next place -/
def IsRs (h : Heap) (a : Addr) (x : Str) (t : Tok) (i : Int) : Prop := ∃ o, h.get? a = some o ∧ o.cls = .type "reversed" ∧ o.data = .fields #[.str x t, rawInt i]
theorem IsRs.at {h h' : Heap} {a : Addr} {x : Str} {t : Tok} {i : Int} (q : IsRs h a x t i) (e : ∀ o, h.get? a = some o → h'.get? a = some o) : IsRs h' a x t i := by
  obtain ⟨o, ho, r⟩ := q
  exact ⟨o, e o ho, r⟩
section
variable {prog : Program} {w : World} {A : Around} {E : Value → Shared → Prop} {s : Shared}
theorem IsRs.ty {a : Addr} {x : Str} {t : Tok} {i : Int} (q : IsRs s.heap a x t i) : s.TypeIs (.ref a) "reversed" := by
  obtain ⟨o, ho, hc, _⟩ := q
  exact ⟨o, ho, hc⟩
theorem new_rs {x : Str} {t : Tok} {R : Value → Shared → Prop} (hx : x.length ≤ sizeLine) (h : R (.ref s.heap.objs.size) { s with heap := s.heap.push (revO x t ((x.length : Int) - 1)), toks := s.toks + 1 + 1 }) :
    codeAny (model prog w) A (.call (.builtin "reversed.__new__") ⟨[.type "reversed", .str x t], []⟩) (wants R E) s := by
  have hT : s.TypeIs (.str x t) "str" := typeIs_str s x t
  have line := line63
  refine codeAny_of_tree (show wpAny _ A.in1 (do checkBuiltinCall "reversed.__new__" ⟨[.type "reversed", .str x t], []⟩; again (.builtin "reversed.__new__" ⟨[.type "reversed", .str x t], []⟩)) _ _ s from ?_)
  refine wpAny_bind (wpAny_of_eq (F.newCall_reversed_1 _) (wpAny_pure ⟨plainId_quiet F.plain_reversed_new _, codeAny_builtin F.entry_reversed_new ?_⟩))
  (rw [Around.under_plainId F.plain_reversed_new _]); (unfold Builtin.«reversed.__new__»)
  refine wpAny_bind (wpAny_of_eq (newClass_reversed _) ?_); try dsimp only
  refine wpAny_bind (wpAny_of_eq (a := ()) (by first | rfl | kernel_rfl) ?_); try dsimp only
  refine wpAny_bind (wpAny_of_eq (a := ()) (by first | rfl | kernel_rfl) ?_); try dsimp only
  refine wpAny_bind (wpAny_specialOf hT noRev ?_); try dsimp only
  refine wpAny_bind ?_; wp_delta
  refine wpAny_bind (wpAny_isInstance (T := "str") (U := "dict") (b := false) hT PySem.F.sub_str_dict ?_); try dsimp only
  (try rw [if_neg Bool.false_ne_true]); try dsimp only
  refine wpAny_bind (wpAny_specialOf hT getS ?_); try dsimp only
  (try rw [if_pos (by decide +kernel)]); refine wpAny_pure ?_; try dsimp only
  (try rw [if_neg (by decide)]); try dsimp only
  refine wpAny_bind (PySem.P.len_str (by omega) ?_)
  refine wpAny_bind (wpAny_of_eq (a := some ((x.length : Nat) : Int)) rfl ?_); try dsimp only
  refine wpAny_bind (show wpAny _ _ (newObj (.type "reversed") (.fields #[.str x t, rawInt ((x.length : Int) - 1)])) _ _ _ from wpAny_newObj_type ?_)
  exact wpAny_pure h
theorem call_rs {x : Str} {t : Tok} {Q : Value → Shared → Prop} (hx : x.length ≤ sizeLine) (h : Q (.ref s.heap.objs.size) { s with heap := s.heap.push (revO x t ((x.length : Int) - 1)), toks := s.toks + 1 + 1 }) :
    wpAny (model prog w) A (call (.type "reversed") [.str x t]) Q E s :=
  callType_codes (Q₁ := fun o s1 => s1.TypeIs o "reversed" ∧ Q o s1) RT.called_rt (F.typeCall_reversed_1 _) F.entry_object_init (new_rs (A := A.in1) hx ⟨⟨_, Heap.get?_push_size _ rfl, rfl⟩, h⟩) fun o s1 q =>
    ⟨q.1, F.args_object_init_2 o _, object_init_meets RT.called_rt.init.lookup RT.called_rt.made (by decide) prog w A.in1 _ s1 ⟨q.1, rfl, q.2⟩⟩
theorem item_rs {it : Addr} {x : Str} {t : Tok} {i c : Nat} {Q : Option Value → Shared → Prop} (hit : IsRs s.heap it x t (i : Int)) (hc : x.cps[i]? = some c) (hsz : x.length ≤ sizeLine)
    (hQ : ∀ h' t' tk, IsRs h' it x t ((i : Int) - 1) → Heap.SameBut it s.heap h' → Q (some (.str ⟨#[c]⟩ t')) { s with heap := h', toks := tk }) : wpAny (model prog w) A (pyNext (.ref it)) Q E s := by
  obtain ⟨o, ho, hcl, hd⟩ := id hit
  have hi : i < x.length := (Array.getElem?_eq_some_iff.mp hc).1
  have hT : s.TypeIs (.str x t) "str" := typeIs_str s x t
  have line := line63
  unfold pyNext
  refine wpAny_bind (wpAny_attempt (wpAny_callSpecial?_slot (name := Str.ofString "__next__") hit.ty RT.slot_rt_next (wpAny_call_entry RT.slot_rt_next hit.ty RT.entry_rt_next ?_ (RT.args_rt_next _))))
  (unfold Builtin.«reversed.__next__»); refine wpAny_bind (wpAny_of_eq (a := (Value.ref it, [])) rfl ?_); try dsimp only
  refine wpAny_bind (wpAny_field ho hd (x := .str x t) rfl ?_); try dsimp only
  refine wpAny_bind (wpAny_field ho hd (x := rawInt (i : Int)) rfl (show wpAny _ _ (if (i : Int) < 0 then _ else _) _ _ s from ?_))
  (rw [if_neg (by omega)]); try dsimp only
  refine wpAny_bind (wpAny_specialOf hT getS ?_); try dsimp only
  (try rw [if_neg (by decide)]); try dsimp only
  refine wpAny_bind (wpAny_mkInt (wpAny_bind (wpAny_attempt ?_)))
  have fin : seqIndex? (i : Int) x.length = some i := seqIndex_of (by omega) (by omega)
  refine PySem.P.getItem_str (s := { s with toks := s.toks + 1 }) (c := c) (by simp; omega) (by rw [fin]; exact hc) ?_; try dsimp only
  refine wpAny_bind (wpAny_field (s := { s with toks := s.toks + 1 + 1 }) ho hd (x := rawInt (i : Int)) rfl ?_); try dsimp only
  refine wpAny_bind (wpAny_setField (s := { s with toks := s.toks + 1 + 1 }) ho hd (by simp) ?_)
  first
    | refine wpAny_pure ⟨_, rfl, wpAny_pure (hQ _ _ _ ?_ (Heap.SameBut.update ..))⟩
    | refine wpAny_bind (wpAny_pure (wpAny_pure ⟨_, rfl, wpAny_pure (hQ _ _ _ ?_ (Heap.SameBut.update ..))⟩))
  refine ⟨_, Heap.get?_update_self _ ho (Obj.isFreed_of_fields (Obj.data_mapFields hd _)), (Obj.cls_mapFields ..).trans hcl, ?_⟩
  (rw [Obj.data_mapFields hd]); simp
theorem end_rs {it : Addr} {x : Str} {t : Tok} {Q : Option Value → Shared → Prop} (hh : A.handled = none) (hit : IsRs s.heap it x t (-1)) (hQ : ∀ h', Heap.ExtBut it s.heap h' → Q none { s with heap := h' }) : wpAny (model prog w) A (pyNext (.ref it)) Q E s := by
  obtain ⟨o, ho, hc, hd⟩ := id hit
  unfold pyNext
  refine wpAny_bind (wpAny_attempt (wpAny_callSpecial?_slot (name := Str.ofString "__next__") hit.ty RT.slot_rt_next (wpAny_call_entry RT.slot_rt_next hit.ty RT.entry_rt_next ?_ (RT.args_rt_next _))))
  (unfold Builtin.«reversed.__next__»); refine wpAny_bind (wpAny_of_eq (a := (Value.ref it, [])) rfl ?_); try dsimp only
  refine wpAny_bind (wpAny_field ho hd (x := .str x t) rfl ?_); try dsimp only
  refine wpAny_bind (wpAny_field ho hd (x := rawInt (-1)) rfl (show wpAny _ _ (if (-1 : Int) < 0 then _ else _) _ _ s from ?_))
  (rw [if_pos (by decide)]); try dsimp only
  refine wpAny_bind (wpAny_rule (wpAny_bind ?_)); wp_delta
  refine wpAny_bind (wpAny_setField ho hd (by simp) ?_)
  have ho2 := Heap.get?_update_self (Obj.mapFields (·.setIfInBounds 1 (rawInt (-1)))) ho (Obj.isFreed_of_fields (Obj.data_mapFields hd _))
  refine wpAny_setField (s := { s with heap := s.heap.update it (Obj.mapFields (·.setIfInBounds 1 (rawInt (-1)))) }) ho2 (Obj.data_mapFields hd _) (by simp) ?_; try dsimp only
  first
    | (show wpAny _ _ (newExc (.type "StopIteration") [] >>= _) _ _ _)
    | (refine wpAny_bind ?_; (show wpAny _ _ (newExc (.type "StopIteration") [] >>= _) _ _ _))
    | (refine wpAny_bind ?_; wp_delta; (show wpAny _ _ (newExc (.type "StopIteration") [] >>= _) _ _ _))
  refine wpAny_bind ?_; simp only [newExc, newTuple]
  refine wpAny_bind (wpAny_newObj_type (wpAny_bind (m := firstArgMember _ _) (wpAny_of_eq (a := Value.none) (by first | rfl | (simp only [firstArgMember]; rfl)) (wpAny_newObj_type ?_ (by size_fits)))) (by size_fits))
  simp only [raiseNew]; refine wpAny_bind (wpAny_handled ?_)
  first | (rw [show A.in1.handled = none from hh]) | (rw [hh])
  refine wpAny_bind (wpAny_pure (wpAny_throw ?_)); refine wpAny_bind (wpAny_isInstance (T := "StopIteration") (b := true) ⟨_, Heap.get?_push_size _ rfl, rfl⟩ isSubtype_stop ?_); refine wpAny_pure (hQ _ ?_)
  exact ((show Heap.ExtBut it s.heap _ from fun b ob hb e => (Heap.get?_update_other _ _ (Ne.symm hb)).trans ((Heap.get?_update_other _ _ (Ne.symm hb)).trans e)).push _).push _
theorem iter_rs {it : Addr} {x : Str} {t : Tok} {i : Int} {Q : Value → Shared → Prop} (hit : IsRs s.heap it x t i) (h : Q (.ref it) s) : wpAny (model prog w) A (pyIter (.ref it)) Q E s :=
  wpAny_pyIter_slot hit.ty RT.slot_rt_iter (wpAny_call_entry RT.slot_rt_iter hit.ty RT.entry_rt_iter (show wpAny _ _ (ret (.ref it)) _ _ s from wpAny_pure ⟨_, rfl, "reversed", _, hit.ty, RT.slot_rt_next.lookup, h⟩) (RT.args_rt_iter _))
end
/-- the text's signs from the last -/
def Itw (x : Str) : It := ⟨fun i _ => i < x.length, fun i H v H' => H' = H ∧ ∃ c, x.cps[x.length - 1 - i]? = some c ∧ v = .str ⟨#[c]⟩, fun i _ => x.length ≤ i⟩
theorem turn_rs {P : Program} {w : World} {K : PySem.W.Frag} {tg : Expr} (it : Addr) (x : Str) (t : Tok) (hx : x.length ≤ sizeLine) : Turn P w K tg (Itw x) [it] it (fun i h => i ≤ x.length ∧ IsRs h it x t ((x.length : Int) - 1 - (i : Nat))) where
  mem := by simp
  obj := fun i h st b hb => by
    obtain rfl : b = it := by simpa using hb
    obtain ⟨_, o, e, c, d⟩ := st
    exact ⟨o, e, fun v z => by rw [d] at z; cases z⟩
  keep := fun i h h' st k => ⟨st.1, st.2.at fun o e => k it (by simp) o e⟩
  item := by
    intro X hP hw hK hc i pins s σ H E I hf st hg
    subst hP hw hK
    have hin : i < x.length := hg
    have hj : x.length - 1 - i < x.cps.size := by show x.length - 1 - i < x.length; omega
    have hcx : x.cps[x.length - 1 - i]? = some x.cps[x.length - 1 - i] := Array.getElem?_eq_getElem hj
    obtain ⟨f0, f1, f2, f3, f4, f5⟩ := hf it (by simp)
    obtain ⟨_, hit⟩ := st
    rw [show (x.length : Int) - 1 - ((i : Nat) : Int) = ((x.length - 1 - i : Nat) : Int) by omega] at hit
    refine item_rs hit hcx hx fun h' t' tk st' sb => ?_
    rw [show ((x.length - 1 - i : Nat) : Int) - 1 = (x.length : Int) - 1 - ((i + 1 : Nat) : Int) by omega] at st'
    have I1 : Inv X pins σ H { s with heap := h', toks := tk } := I.turned (t' := tk) (fun b o hb e => (sb.2 b hb).trans e) f0 f1 f3 f4 f5
    obtain ⟨o, e, c, d⟩ := id st'
    exact ⟨_, rfl, go_of (s := { s with heap := h', toks := tk }) e c d (by decide) ⟨.str ⟨#[x.cps[x.length - 1 - i]]⟩, H, I1, ⟨t', rfl⟩, ⟨rfl, _, hcx, rfl⟩, ⟨hin, st'⟩, fun b hb => (hf b hb).1⟩⟩
  done := by
    intro X hP hw hK hc i pins s σ H E I hf st hg
    subst hP hw hK
    obtain ⟨f0, f1, f2, f3, f4, f5⟩ := hf it (by simp)
    obtain ⟨hin, hit⟩ := st
    have hge : x.length ≤ i := hg
    rw [show (x.length : Int) - 1 - ((i : Nat) : Int) = -1 by omega] at hit
    exact end_rs (I.ok.hd hc) hit fun h' eb => ⟨rfl, I.turned (t' := s.toks) (fun b o hb e => eb b o hb e) f0 f1 f3 f4 f5⟩
  self := fun A i s Q E st h => iter_rs st.2 h
def iRevS (te : TE) : TI := fun σ H R => te σ H fun v H1 => ∃ x, v = .str x ∧ x.length ≤ sizeLine ∧ R (Itw x) H1
theorem pi_revS {X : Cx} {tg e : Expr} {te : TE} {p pos : Pos} (hg : Gl X "reversed") (hm : X.mg "reversed" = none) (he : PE X e te) (hs : starEach [e] X.env = (false, eval e X.env) :: starEach [] X.env := by rfl) : PI X tg (.Call (.Name "reversed" p) [e] [] pos) (iRevS te) := by
  refine ⟨fun pins s σ H R I h => Call_ (ld_blt I hg hm PyProof.Rows.boot_reversed (PyProof.Rows.callWith_type1 (args_cons (thn (he.run pins s σ H _ I h) fun u s1 ⟨v, H1, I1, r1, q1⟩ => args_nil ?_) hs) hs rfl))⟩
  obtain ⟨x, ev, hx, q⟩ := q1
  subst ev
  obtain ⟨t, rfl⟩ := r1
  refine call_rs hx (iter_rs (x := x) (t := t) (i := (x.length : Int) - 1) ⟨_, Heap.get?_push_size _ rfl, rfl, rfl⟩ ?_)
  refine pi_one (tk := s1.toks + 1 + 1) I1 _ (turn_rs _ x t hx) ⟨Nat.zero_le _, ?_⟩ q
  exact ⟨_, Heap.get?_push_size _ rfl, rfl, by show Data.fields #[.str x t, rawInt ((x.length : Int) - 1)] = _; rw [show (x.length : Int) - 1 - ((0 : Nat) : Int) = (x.length : Int) - 1 by omega]⟩
end RS
namespace Dn
open PySem PySem.Spec PyProof.Rows L2
def itemsV (f : Ro → Option D) : Ro → Option (List D) := fun ρ => match f ρ with | some (.str x) => if x.length ≤ sz then some (signs x).reverse else none | _ => none
theorem i_revS {X : Cx} {tg e : Expr} {f : Ro → Option D} {p pos : Pos} (hc : X.calm = true) (hm : X.mg "reversed" = none) (ha : PE X e (tD X.K f)) (hg : Gl X "reversed" := by rfl) (hs : starEach [e] X.env = (false, eval e X.env) :: starEach [] X.env := by rfl) :
    PI X tg (.Call (.Name "reversed" p) [e] [] pos) (tDI X.K (itemsV f)) := pi_of (RS.pi_revS hg hm ha hs) fun σ H R h => by
  obtain ⟨ρ, Hs, ds, vr, sm, hf, k⟩ := h
  unfold itemsV at hf
  split at hf
  · rename_i x hd
    split at hf
    · rename_i hz
      cases hf
      refine ⟨ρ, Hs, _, vr, sm, hd, fun v Hs1 H1 s1 r1 => ?_⟩
      cases r1
      have hl : (signs x).length = x.length := by unfold signs; rw [List.length_map, Array.length_toList]; rfl
      refine ⟨x, rfl, sz_le hz, k _ Hs1 H1 s1 ⟨fun i H2 sm2 hi => ?_, fun i H2 sm2 hi => ?_, fun i Hsi H2 v H3 d sma smb hd' y => ?_⟩⟩
      · rw [List.length_reverse, hl] at hi
        exact hi
      · rw [List.length_reverse, hl] at hi
        exact hi
      · obtain ⟨e1, c, hc, e2⟩ := y
        subst e1
        subst e2
        have hi : i < (signs x).length := by
          have := (List.getElem?_eq_some_iff.mp hd').1
          rw [List.length_reverse] at this
          exact this
        rw [List.getElem?_reverse hi, hl] at hd'
        unfold signs at hd'
        rw [List.getElem?_map, Array.getElem?_toList, hc] at hd'
        cases hd'
        exact ⟨Hsi, Step.refl smb, .str _⟩
    · cases hf
  · cases hf
end Dn

namespace Dn
open PySem PySem.Spec PyProof.Rows L2

/-! ### setters: a text of f and o -/
def cp (b : Bool) : Nat := if b then 102 else 111
def ch (b : Bool) : Str := ⟨#[cp b]⟩
def txt (l : List Bool) : Str := ⟨(l.map cp).toArray⟩
theorem str_f : Str.ofString "f" = ch true := by decide +kernel
theorem str_o : Str.ofString "o" = ch false := by decide +kernel
theorem str_empty : Str.ofString "" = txt [] := by decide +kernel
theorem str_fo : Str.ofString "fo" = txt [true, false] := by decide +kernel
theorem str_fffo : Str.ofString "fffo" = txt [true, true, true, false] := by decide +kernel
theorem txt_len (l : List Bool) : (txt l).length = l.length := by
  show (l.map cp).toArray.size = _
  rw [List.size_toArray, List.length_map]
theorem txt_add (l m : List Bool) : txt l ++ txt m = txt (l ++ m) := by
  show (⟨(l.map cp).toArray ++ (m.map cp).toArray⟩ : Str) = ⟨((l ++ m).map cp).toArray⟩
  rw [List.map_append, List.append_toArray]
theorem ch_txt (b : Bool) : ch b = txt [b] := rfl
theorem txt_snoc (l : List Bool) (b : Bool) : txt l ++ ch b = txt (l ++ [b]) := by rw [ch_txt, txt_add]
theorem signs_txt (l : List Bool) : signs (txt l) = l.map fun b => .str (ch b) := by
  show ((l.map cp).toArray.toList.map fun c => D.str ⟨#[c]⟩) = _
  rw [List.toList_toArray, List.map_map]
  rfl
theorem cut_txt (l : List Bool) (lo hi : Option Int) : cutS (txt l) lo hi = txt (cutL l lo hi) := by
  unfold cutS cutL
  rw [txt_len]
  show (⟨(((l.map cp).toArray.toList.drop _).take _).toArray⟩ : Str) = ⟨((List.take _ (List.drop _ l)).map cp).toArray⟩
  rw [List.toList_toArray, List.map_take, List.map_drop]
theorem cp_lt (b : Bool) : cp b < 0x110000 := by cases b <;> decide
theorem ok_txt (l : List Bool) : PyData.strOk (txt l) = true := by
  show ((l.map cp).toArray.all _) = true
  rw [Array.all_eq_true]
  intro i hi
  simp only [List.getElem_toArray, List.getElem_map]
  exact decide_eq_true (cp_lt _)
theorem ok_ch (b : Bool) : PyData.strOk (ch b) = true := by rw [ch_txt]; exact ok_txt _
theorem ch_inj {a b : Bool} : ch a = ch b ↔ a = b := by cases a <;> cases b <;> decide +kernel
theorem ch_beq (a b : Bool) : (ch a == ch b) = (a == b) := by cases a <;> cases b <;> decide +kernel
theorem eq_ch (a b : Bool) : gEq (.str (ch a)) (.str (ch b)) = some (.bl (a == b)) := by
  rw [gEq_str (ok_ch a) (ok_ch b), ch_beq]
theorem ne_ch (a b : Bool) : gNe (.str (ch a)) (.str (ch b)) = some (.bl (a != b)) := by
  rw [gNe_str (ok_ch a) (ok_ch b)]
  show some (D.bl (!(ch a == ch b))) = some (D.bl (!(a == b)))
  rw [ch_beq]
theorem txt_inj {l m : List Bool} (h : txt l = txt m) : l = m := by
  have e : (l.map cp) = (m.map cp) := by
    have := congrArg (fun s : Str => s.cps.toList) h
    simpa [txt] using this
  have inj : ∀ {a b : Bool}, cp a = cp b → a = b := fun {a b} h => by cases a <;> cases b <;> first | rfl | (exact absurd h (by decide))
  induction l generalizing m with
  | nil =>
    cases m with
    | nil => rfl
    | cons b m => cases e
  | cons a l ih =>
    cases m with
    | nil => cases e
    | cons b m =>
      simp only [List.map_cons, List.cons.injEq] at e
      rw [inj e.1, ih (by unfold txt; rw [e.2]) e.2]
theorem txt_beq (l m : List Bool) : (txt l == txt m) = (l == m) := by
  by_cases h : l = m
  · subst h
    rw [beq_self_eq_true, beq_self_eq_true]
  · rw [beq_eq_false_iff_ne.mpr h, beq_eq_false_iff_ne.mpr (fun z => h (txt_inj z))]
theorem eq_txt (l m : List Bool) : gEq (.str (txt l)) (.str (txt m)) = some (.bl (l == m)) := by
  rw [gEq_str (ok_txt l) (ok_txt m), txt_beq]
theorem ne_txt (l m : List Bool) : gNe (.str (txt l)) (.str (txt m)) = some (.bl (l != m)) := by
  rw [gNe_str (ok_txt l) (ok_txt m)]
  show some (D.bl (!(txt l == txt m))) = some (D.bl (!(l == m)))
  rw [txt_beq]
theorem len_txt {l : List Bool} (h : l.length ≤ 1000) : gLen [.str (txt l)] = some (.int l.length) := by
  show (if (txt l).length ≤ sz then some (D.int (txt l).length) else none) = _
  rw [txt_len, if_pos (by unfold sz; omega)]
theorem ix_txt {l : List Bool} {i : Int} {b : Bool} (hl : l.length ≤ 1000) (h0 : 0 ≤ i) (h : l[i.toNat]? = some b) : gIx (.str (txt l)) (.int i) = some (.str (ch b)) := by
  have e : i = ((i.toNat : Nat) : Int) := by omega
  show (if (txt l).length ≤ sz then (atI (txt l).cps.toList i).map fun c => D.str ⟨#[c]⟩ else none) = _
  rw [txt_len, if_pos (by unfold sz; omega)]
  have : atI (txt l).cps.toList i = some (cp b) := by
    rw [e]
    refine atI_nat ?_
    show (l.map cp).toArray.toList[i.toNat]? = _
    rw [List.toList_toArray, List.getElem?_map, h] <;> rfl
  rw [this] <;> rfl
theorem sl_txt {l : List Bool} (hl : l.length ≤ 1000) (lo hi : Option Int) : gSl (.str (txt l)) lo hi = some (.str (txt (cutL l lo hi))) := by
  show (if (txt l).length ≤ sz then some (D.str (cutS (txt l) lo hi)) else none) = _
  rw [txt_len, if_pos (by unfold sz; omega), cut_txt]
theorem add_txt {l m : List Bool} (h : l.length + m.length ≤ 1000) : gAdd (.str (txt l)) (.str (txt m)) = some (.str (txt (l ++ m))) := by
  rw [gAdd_str, txt_len, txt_len, if_pos (by unfold sz; omega), txt_add]
theorem add_ch {l : List Bool} {b : Bool} (h : l.length < 1000) : gAdd (.str (txt l)) (.str (ch b)) = some (.str (txt (l ++ [b]))) := by
  rw [ch_txt, add_txt (by simp; omega)]
theorem fo_at (c : Int) : gIx (.str (txt [true, false])) (.int (c % 2)) = some (.str (ch (c % 2 == 0))) := by
  have : c % 2 = 0 ∨ c % 2 = 1 := by omega
  rcases this with h | h
  · rw [h]
    exact ix_txt (by decide) (by decide) rfl
  · rw [h]
    exact ix_txt (b := false) (by decide) (by decide) rfl
/-- slices, from a place on, up to a place -/
theorem cutL_from {α : Type} (l : List α) (n : Nat) (h : n ≤ l.length) : cutL l (some (n : Int)) none = l.drop n := by
  unfold cutL
  rw [HT.sIx_none, HT.sIx_nat, Nat.min_eq_left h]
  exact List.take_of_length_le (by rw [List.length_drop]; exact Nat.le_refl _)
theorem cutL_upto {α : Type} (l : List α) (n : Nat) : cutL l none (some (n : Int)) = l.take n := by
  unfold cutL
  rw [HT.sIx_none, HT.sIx_nat, List.drop_zero, Nat.sub_zero]
  by_cases h : n ≤ l.length
  · rw [Nat.min_eq_left h]
  · rw [Nat.min_eq_right (by omega), List.take_of_length_le (Nat.le_refl _), List.take_of_length_le (by omega)]

/-! ### rules -/
inductive Rule where
  | fin | set (v : Bool) (r : Rule) | see (a b : Rule)
  deriving DecidableEq
def Rule.d : Rule → D
  | .fin => .tup [.str "end"]
  | .set v r => .tup [.str "set", .bl v, r.d]
  | .see a b => .tup [.str "see", a.d, b.d]
def Rule.ht : Rule → Nat
  | .fin => 1
  | .set _ r => r.ht + 1
  | .see a b => max a.ht b.ht + 1
theorem ok_end : PyData.strOk "end" = true := by decide +kernel
theorem ok_set : PyData.strOk "set" = true := by decide +kernel
theorem ok_see : PyData.strOk "see" = true := by decide +kernel
theorem okN_rule : ∀ (r : Rule) (n : Nat), r.ht ≤ n → okN n r.d = true
  | .fin, n, h => by
    obtain ⟨m, rfl⟩ : ∃ m, n = m + 1 := ⟨n - 1, by simp only [Rule.ht] at h; omega⟩
    exact okN_tup fun d hd => by
      simp only [List.mem_singleton] at hd
      subst hd
      exact okN_str m _ ok_end
  | .set v r, n, h => by
    simp only [Rule.ht] at h
    obtain ⟨m, rfl⟩ : ∃ m, n = m + 1 := ⟨n - 1, by omega⟩
    refine okN_tup fun d hd => ?_
    simp only [List.mem_cons, List.not_mem_nil, or_false] at hd
    rcases hd with rfl | rfl | rfl
    · exact okN_str m _ ok_set
    · exact okN_bl m v
    · exact okN_rule r m (by omega)
  | .see a b, n, h => by
    simp only [Rule.ht] at h
    obtain ⟨m, rfl⟩ : ∃ m, n = m + 1 := ⟨n - 1, by omega⟩
    refine okN_tup fun d hd => ?_
    simp only [List.mem_cons, List.not_mem_nil, or_false] at hd
    rcases hd with rfl | rfl | rfl
    · exact okN_str m _ ok_see
    · exact okN_rule a m (by omega)
    · exact okN_rule b m (by omega)
theorem okD_rule {r : Rule} (h : r.ht ≤ 64) : okD r.d = true := okD_of (okN_rule r 64 h)
theorem rule_tup (r : Rule) : ∃ ds, r.d = .tup ds := by cases r <;> exact ⟨_, rfl⟩
theorem tg_eq {x y : Str} (hx : PyData.strOk x = true) (hy : PyData.strOk y = true) (h : (x == y) = false) : gEq (.str x) (.str y) = some (.bl false) := by
  rw [gEq_str hx hy, h]
theorem tg_ne {x y : Str} (hx : PyData.strOk x = true) (hy : PyData.strOk y = true) (h : (x == y) = false) : gNe (.str x) (.str y) = some (.bl true) := by
  rw [gNe_str hx hy]
  show some (D.bl (!(x == y))) = some (D.bl true)
  rw [h]
  rfl
theorem eq_ee : gEq (.str "end") (.str "end") = some (.bl true) := gEq_refl (okD_str ok_end)
theorem eq_es : gEq (.str "end") (.str "set") = some (.bl false) := tg_eq ok_end ok_set (by decide +kernel)
theorem eq_ew : gEq (.str "end") (.str "see") = some (.bl false) := tg_eq ok_end ok_see (by decide +kernel)
theorem eq_se : gEq (.str "set") (.str "end") = some (.bl false) := tg_eq ok_set ok_end (by decide +kernel)
theorem eq_ss : gEq (.str "set") (.str "set") = some (.bl true) := gEq_refl (okD_str ok_set)
theorem eq_sw : gEq (.str "set") (.str "see") = some (.bl false) := tg_eq ok_set ok_see (by decide +kernel)
theorem eq_we : gEq (.str "see") (.str "end") = some (.bl false) := tg_eq ok_see ok_end (by decide +kernel)
theorem eq_ws : gEq (.str "see") (.str "set") = some (.bl false) := tg_eq ok_see ok_set (by decide +kernel)
theorem eq_ww : gEq (.str "see") (.str "see") = some (.bl true) := gEq_refl (okD_str ok_see)
theorem ne_ee : gNe (.str "end") (.str "end") = some (.bl false) := gNe_refl (okD_str ok_end)
theorem ne_es : gNe (.str "end") (.str "set") = some (.bl true) := tg_ne ok_end ok_set (by decide +kernel)
theorem ne_ew : gNe (.str "end") (.str "see") = some (.bl true) := tg_ne ok_end ok_see (by decide +kernel)
theorem ne_se : gNe (.str "set") (.str "end") = some (.bl true) := tg_ne ok_set ok_end (by decide +kernel)
theorem ne_ss : gNe (.str "set") (.str "set") = some (.bl false) := gNe_refl (okD_str ok_set)
theorem ne_sw : gNe (.str "set") (.str "see") = some (.bl true) := tg_ne ok_set ok_see (by decide +kernel)
theorem ne_we : gNe (.str "see") (.str "end") = some (.bl true) := tg_ne ok_see ok_end (by decide +kernel)
theorem ne_ws : gNe (.str "see") (.str "set") = some (.bl true) := tg_ne ok_see ok_set (by decide +kernel)
theorem ne_ww : gNe (.str "see") (.str "see") = some (.bl false) := gNe_refl (okD_str ok_see)
/-- items of written tuples -/
theorem ixt0 {a : D} {ds : List D} : gIx (.tup (a :: ds)) (.int 0) = some a := ix_tup (by decide) rfl
theorem ixt1 {a b : D} {ds : List D} : gIx (.tup (a :: b :: ds)) (.int 1) = some b := ix_tup (by decide) rfl
theorem ixt2 {a b c : D} {ds : List D} : gIx (.tup (a :: b :: c :: ds)) (.int 2) = some c := ix_tup (by decide) rfl
theorem ixt3 {a b c e : D} {ds : List D} : gIx (.tup (a :: b :: c :: e :: ds)) (.int 3) = some e := ix_tup (by decide) rfl
theorem ixl0 {a : D} {ds : List D} : gIx (.lst (a :: ds)) (.int 0) = some a := ix_lst (by decide) rfl
theorem ixl1 {a b : D} {ds : List D} : gIx (.lst (a :: b :: ds)) (.int 1) = some b := ix_lst (by decide) rfl
/-- the idle rule -/
def idleR (fr : Bool) : List Bool → Rule
  | [] => .fin
  | b :: l => if (b == fr) = true then .set false (idleR fr l) else .see (idleR fr l) (idleR fr l)
theorem idleR_t {fr b : Bool} {l : List Bool} (h : (b == fr) = true) : idleR fr (b :: l) = .set false (idleR fr l) := by
  conv => lhs; unfold idleR
  exact if_pos h
theorem idleR_f {fr b : Bool} {l : List Bool} (h : (b == fr) = false) : idleR fr (b :: l) = .see (idleR fr l) (idleR fr l) := by
  conv => lhs; unfold idleR
  exact if_neg (by rw [h]; decide)
theorem idleR_ht (fr : Bool) : ∀ l : List Bool, (idleR fr l).ht = l.length + 1
  | [] => rfl
  | b :: l => by
    unfold idleR
    split
    · simp only [Rule.ht, idleR_ht fr l, List.length_cons]
    · simp only [Rule.ht, idleR_ht fr l, List.length_cons, Nat.max_self]
end Dn

namespace Dn
open PySem PySem.Spec PyProof.Rows L2

/-! ### in, not in a list of numbers; the last one -/
theorem eqD_int (i j : Int) : eqD (.int i) (.int j) = (i == j) := by
  have h := gEq_int i j
  unfold gEq at h
  rw [if_pos ⟨okD_int i, okD_int j⟩] at h
  cases h' : eqD (.int i) (.int j) <;> cases h'' : (i == j) <;> rw [h', h''] at h <;> first | rfl | cases h
theorem gIn_ints (n : Int) (ns : List Int) : gIn (.int n) (.lst (ns.map D.int)) = some (.bl (decide (n ∈ ns))) := by
  show (if okD (.int n) = true ∧ okD (.lst (ns.map D.int)) = true then some (D.bl ((ns.map D.int).any fun z => eqD z (.int n))) else none) = _
  rw [if_pos ⟨okD_int n, okD_ints ns⟩]
  congr 2
  rw [Bool.eq_iff_iff, decide_eq_true_iff, List.any_map, List.any_eq_true]
  constructor
  · rintro ⟨x, hx, e⟩
    rw [Function.comp_apply, eqD_int, beq_iff_eq] at e
    exact e ▸ hx
  · intro h
    exact ⟨n, h, by rw [Function.comp_apply, eqD_int, beq_self_eq_true]⟩
theorem gNotIn_ints (n : Int) (ns : List Int) : gNotIn (.int n) (.lst (ns.map D.int)) = some (.bl (!decide (n ∈ ns))) := by
  unfold gNotIn
  rw [gIn_ints]
theorem cut_last {α : Type} (f : List α) : cutL f (some (-1)) none = f.getLast?.toList := by
  unfold cutL
  rcases f.eq_nil_or_concat with h | ⟨g, x, h⟩
  · subst h
    rfl
  · subst h
    rw [HT.sIx_none]
    have e : HT.sIx (g.concat x).length 0 (some (-1)) = g.length := by
      show (if (-1 : Int) < 0 then ((-1 : Int) + ((g.concat x).length : Int)).toNat else min (-1 : Int).toNat (g.concat x).length) = _
      rw [if_pos (by omega), List.length_concat]
      omega
    rw [e, List.length_concat, List.concat_eq_append]
    simp
theorem cut_last_ints (f : List Int) : cutL (f.map D.int) (some (-1)) none = f.getLast?.toList.map D.int := by
  rw [cut_last, List.getLast?_map]
  cases f.getLast? <;> rfl

/-! ### loops that look for something -/
theorem loop_find {α : Type} {tg : TF} {body : SF} {f : α → D} (p : α → Bool) (w : α → D) (I : Ro → Prop) : ∀ (xs : List α),
    (∀ a ∈ xs, ∀ ρ, I ρ → if p a = true then ∃ r, turnF tg body (f a) ρ = some (.rt (w a) r) else ∃ r, (turnF tg body (f a) ρ = some (.nx r) ∨ turnF tg body (f a) ρ = some (.ct r)) ∧ I r) → ∀ ρ, I ρ →
    match xs.find? p with
    | some a => ∃ r, loopF tg body (xs.map f) ρ = some (.rt (w a) r)
    | none => ∃ r, loopF tg body (xs.map f) ρ = some (.nx r) ∧ I r
  | [], _, ρ, h0 => ⟨ρ, rfl, h0⟩
  | a :: xs, h, ρ, h0 => by
    have h1 := h a List.mem_cons_self ρ h0
    rw [List.map_cons, ev_loop1, List.find?_cons]
    cases hp : p a with
    | true =>
      rw [if_pos hp] at h1
      obtain ⟨r, e⟩ := h1
      exact ⟨r, by rw [e] <;> rfl⟩
    | false =>
      rw [if_neg (by rw [hp]; decide)] at h1
      obtain ⟨r, e, hr⟩ := h1
      have ih := loop_find p w I xs (fun b hb => h b (List.mem_cons_of_mem _ hb)) r hr
      rcases e with e | e <;> rw [e] <;> exact ih

/-! ### what numbers say of a setting -/
def isSo (s : List Bool) (n : Int) : Bool := match s[n.natAbs - 1]? with | some b => b == decide (0 < n) | none => false
def isLost (s : List Bool) (w : List Int) : Bool := w.all fun n => decide (n.natAbs ≤ s.length) && !isSo s n
def isMet (s : List Bool) (w : List Int) : Bool := w.any (isSo s)
def firstSo (s : List Bool) (w : List Int) : Int := (w.find? (isSo s)).getD 0
def pushN (f : List Int) (n : Int) : List Int := if f.getLast? = some n then f else f ++ [n]
def inOrder (ns : List Int) : List Int := (sortA ns).foldl pushN []
def negs (w : List Int) : List Int := w.map fun n => -n
def endedP (ws : List (List Int)) (s : List Bool) : Option (Bool × List Int) :=
  match ws.find? (isLost s) with
  | some w => some (false, inOrder (negs w))
  | none => if ws.all (isMet s) = true then some (true, inOrder (ws.map (firstSo s))) else none
def wishOk (m : Nat) (w : List Int) : Prop := w.length ≤ 10 ∧ ∀ n ∈ w, n ≠ 0 ∧ n.natAbs ≤ m
theorem so_le {s : List Bool} {n : Int} (h : isSo s n = true) (hn : n ≠ 0) : n.natAbs ≤ s.length := by
  unfold isSo at h
  cases e : s[n.natAbs - 1]? with
  | none => rw [e] at h; cases h
  | some b =>
    have := (List.getElem?_eq_some_iff.mp e).1
    omega
theorem so_iff {s : List Bool} {n : Int} : isSo s n = true ↔ s[n.natAbs - 1]? = some (decide (0 < n)) := by
  unfold isSo
  cases e : s[n.natAbs - 1]? with
  | none => simp
  | some b => simp
theorem so_one {s : List Bool} {a b : Int} (ha : isSo s a = true) (hb : isSo s b = true) (ha0 : a ≠ 0) (hb0 : b ≠ 0) (e : a.natAbs = b.natAbs) : a = b := by
  rw [so_iff] at ha hb
  rw [e, hb] at ha
  simp only [Option.some.injEq, decide_eq_decide] at ha
  omega
theorem oneSign_so {s : List Bool} {ns : List Int} (h : ∀ n ∈ ns, isSo s n = true ∧ n ≠ 0) : oneSign ns := fun a ha b hb e => so_one (h a ha).1 (h b hb).1 (h a ha).2 (h b hb).2 e
theorem so_neg {s : List Bool} {n : Int} (h0 : n ≠ 0) (hl : n.natAbs ≤ s.length) : isSo s (-n) = !isSo s n := by
  unfold isSo
  rw [Int.natAbs_neg]
  have hb : s[n.natAbs - 1]? = some s[n.natAbs - 1] := List.getElem?_eq_getElem (by omega)
  rw [hb]
  cases s[n.natAbs - 1] <;> by_cases h : 0 < n
  · simp [h] <;> omega
  · simp [h] <;> omega
  · simp [h] <;> omega
  · simp [h] <;> omega
theorem negs_so {s : List Bool} {w : List Int} (h : isLost s w = true) (h0 : ∀ n ∈ w, n ≠ 0) : ∀ n ∈ negs w, isSo s n = true ∧ n ≠ 0 := by
  intro n hn
  obtain ⟨m, hm, rfl⟩ := List.mem_map.mp hn
  have := List.all_eq_true.mp h m hm
  simp only [Bool.and_eq_true, decide_eq_true_eq, Bool.not_eq_true'] at this
  exact ⟨by rw [so_neg (h0 m hm) this.1, this.2] <;> rfl, by have := h0 m hm; omega⟩

/-! ### rising by lamp, each once -/
def strictA (l : List Int) : Prop := l.Pairwise (fun a b => a.natAbs < b.natAbs)
theorem strict_unique : ∀ {l l' : List Int}, strictA l → strictA l' → (∀ x, x ∈ l ↔ x ∈ l') → l = l'
  | [], [], _, _, _ => rfl
  | [], b :: l', _, _, h => nomatch (h b).mpr List.mem_cons_self
  | a :: l, [], _, _, h => nomatch (h a).mp List.mem_cons_self
  | a :: l, b :: l', h1, h2, h => by
    unfold strictA at h1 h2
    rw [List.pairwise_cons] at h1 h2
    have e : a = b := by
      rcases List.mem_cons.mp ((h b).mpr List.mem_cons_self) with q | q
      · exact q.symm
      · rcases List.mem_cons.mp ((h a).mp List.mem_cons_self) with r | r
        · exact r
        · have := h1.1 b q
          have := h2.1 a r
          omega
    subst e
    congr 1
    refine strict_unique h1.2 h2.2 fun x => ⟨fun hx => ?_, fun hx => ?_⟩
    · rcases List.mem_cons.mp ((h x).mp (List.mem_cons_of_mem _ hx)) with q | q
      · have := h1.1 x hx
        rw [q] at this
        omega
      · exact q
    · rcases List.mem_cons.mp ((h x).mpr (List.mem_cons_of_mem _ hx)) with q | q
      · have := h2.1 x hx
        rw [q] at this
        omega
      · exact q
theorem push_fold : ∀ (q f : List Int), strictA f → (∀ a ∈ f, ∀ b ∈ q, a.natAbs ≤ b.natAbs) → q.Pairwise (fun a b => a.natAbs ≤ b.natAbs) → oneSign (f ++ q) →
    strictA (q.foldl pushN f) ∧ (∀ x, x ∈ q.foldl pushN f ↔ x ∈ f ∨ x ∈ q) ∧ (q.foldl pushN f).length ≤ f.length + q.length
  | [], f, hf, _, _, _ => ⟨hf, fun x => by simp, Nat.le_refl _⟩
  | n :: q, f, hf, hfq, hq, ho => by
    rw [List.pairwise_cons] at hq
    rw [List.foldl_cons]
    have ho' : ∀ g : List Int, (∀ x ∈ g, x ∈ f ++ n :: q) → oneSign g := fun g hg a ha b hb => ho a (hg a ha) b (hg b hb)
    by_cases hl : f.getLast? = some n
    · have e : pushN f n = f := if_pos hl
      rw [e]
      obtain ⟨h1, h2, h3⟩ := push_fold q f hf (fun a ha b hb => hfq a ha b (List.mem_cons_of_mem _ hb)) hq.2 (ho' _ fun x hx => by
        rcases List.mem_append.mp hx with h | h
        · exact List.mem_append_left _ h
        · exact List.mem_append_right _ (List.mem_cons_of_mem _ h))
      refine ⟨h1, fun x => ?_, by rw [List.length_cons]; omega⟩
      rw [h2, List.mem_cons]
      have hn : n ∈ f := List.mem_of_getLast? hl
      constructor
      · rintro (h | h)
        · exact .inl h
        · exact .inr (.inr h)
      · rintro (h | rfl | h)
        · exact .inl h
        · exact .inl hn
        · exact .inr h
    · have e : pushN f n = f ++ [n] := if_neg hl
      rw [e]
      have hlt : ∀ a ∈ f, a.natAbs < n.natAbs := by
        intro a ha
        rcases f.eq_nil_or_concat with h | ⟨g, y, h⟩
        · subst h; cases ha
        · subst h
          rw [List.concat_eq_append] at *
          have hy : y ∈ g ++ [y] := by simp
          have h1 := hfq y hy n List.mem_cons_self
          have hay : a.natAbs ≤ y.natAbs := by
            rcases List.mem_append.mp ha with q1 | q1
            · exact Nat.le_of_lt ((List.pairwise_append.mp hf).2.2 a q1 y (by simp))
            · rw [List.mem_singleton.mp q1]
              exact Nat.le_refl _
          rcases Nat.lt_or_ge y.natAbs n.natAbs with h2 | h2
          · omega
          · have := ho y (List.mem_append_left _ hy) n (List.mem_append_right _ List.mem_cons_self) (Nat.le_antisymm h1 h2)
            subst this
            exact absurd (by rw [List.getLast?_append] <;> rfl) hl
      obtain ⟨h1, h2, h3⟩ := push_fold q (f ++ [n]) (List.pairwise_append.mpr ⟨hf, by simp, fun a ha b hb => by rw [List.mem_singleton.mp hb]; exact hlt a ha⟩)
        (fun a ha b hb => by
          rcases List.mem_append.mp ha with q1 | q1
          · exact hfq a q1 b (List.mem_cons_of_mem _ hb)
          · rw [List.mem_singleton.mp q1]; exact hq.1 b hb) hq.2 (ho' _ fun x hx => by
            rw [List.append_assoc] at hx
            exact hx)
      refine ⟨h1, fun x => ?_, by rw [List.length_append, List.length_singleton] at h3; rw [List.length_cons]; omega⟩
      rw [h2, List.mem_append, List.mem_singleton, List.mem_cons, or_assoc]
theorem inOrder_ok {ns : List Int} (h : oneSign ns) : strictA (inOrder ns) ∧ (∀ x, x ∈ inOrder ns ↔ x ∈ ns) ∧ (inOrder ns).length ≤ ns.length := by
  have p := sortA_perm ns
  obtain ⟨h1, h2, h3⟩ := push_fold (sortA ns) [] .nil (fun a ha => nomatch ha) (sortA_sorted ns) (fun a ha b hb => h a (p.mem_iff.mp ha) b (p.mem_iff.mp hb))
  refine ⟨h1, fun x => ?_, ?_⟩
  · unfold inOrder
    rw [h2]
    constructor
    · rintro (h | h)
      · cases h
      · exact p.mem_iff.mp h
    · exact fun h => .inr (p.mem_iff.mpr h)
  · rw [p.length_eq, List.length_nil] at h3
    unfold inOrder
    omega
def allN : List Int := [-1, 1, -2, 2, -3, 3, -4, 4, -5, 5, -6, 6, -7, 7, -8, 8, -9, 9, -10, 10]
def rising (xs : List Int) : List Int := allN.filter fun n => decide (n ∈ xs)
theorem mem_allN {n : Int} (h0 : n ≠ 0) (h1 : n.natAbs ≤ 10) : n ∈ allN := by
  unfold allN
  simp only [List.mem_cons, List.not_mem_nil, or_false]
  omega
theorem rising_strict {xs : List Int} (h : oneSign xs) : strictA (rising xs) := by
  have h1 : allN.Pairwise (fun a b => a.natAbs ≤ b.natAbs ∧ a ≠ b) := by decide
  have h2 : (rising xs).Pairwise (fun a b => a.natAbs ≤ b.natAbs ∧ a ≠ b) := h1.sublist List.filter_sublist
  refine h2.imp_of_mem fun {a b} ha hb hab => ?_
  have ha := of_decide_eq_true (List.mem_filter.mp ha).2
  have hb := of_decide_eq_true (List.mem_filter.mp hb).2
  rcases Nat.lt_or_ge a.natAbs b.natAbs with q | q
  · exact q
  · exact absurd (h a ha b hb (Nat.le_antisymm hab.1 q)) hab.2
theorem rising_inOrder {xs : List Int} (h : oneSign xs) (hm : ∀ n ∈ xs, n ≠ 0 ∧ n.natAbs ≤ 10) : inOrder xs = rising xs := by
  obtain ⟨h1, h2, _⟩ := inOrder_ok h
  refine strict_unique h1 (rising_strict h) fun x => ?_
  rw [h2, rising, List.mem_filter, decide_eq_true_iff]
  exact ⟨fun hx => ⟨mem_allN (hm x hx).1 (hm x hx).2, hx⟩, fun hx => hx.2⟩
/-- the first so number of a met wish -/
theorem firstSo_ok {s : List Bool} {w : List Int} (h : isMet s w = true) : firstSo s w ∈ w ∧ isSo s (firstSo s w) = true := by
  obtain ⟨n, hn, e⟩ := List.any_eq_true.mp h
  unfold firstSo
  cases hf : w.find? (isSo s) with
  | none => exact absurd e (List.find?_eq_none.mp hf n hn)
  | some m => exact ⟨List.mem_of_find?_eq_some hf, List.find?_some hf⟩
theorem firsts_so {s : List Bool} {ws : List (List Int)} (h : ws.all (isMet s) = true) (h0 : ∀ w ∈ ws, ∀ n ∈ w, n ≠ 0) : ∀ n ∈ ws.map (firstSo s), isSo s n = true ∧ n ≠ 0 := by
  intro n hn
  obtain ⟨w, hw, rfl⟩ := List.mem_map.mp hn
  have := firstSo_ok (List.all_eq_true.mp h w hw)
  exact ⟨this.2, h0 w hw _ this.1⟩
end Dn

namespace Dn
open PySem PySem.Spec PyProof.Rows L2

/-! ### a list handed on to be changed -/
structure StepM (l : Addr) (Hs H Hs' H' : Hp) : Prop where
  s : Same Hs Hs'
  e : ∀ a o, a ≠ l → H a = some o → H' a = some o
  i : Same Hs' H'
  f : ∀ a, a ≠ l → H a ≠ none → Hs' a = Hs a
/-- the promise of a def whose last argument is such a list -/
def spM (K : PySem.W.Frag) (n : Nat) (g : List D → List D → Option (D × List D)) : Sp := fun vs H Q _ => vs.length = n + 1 ∧ ∃ Hs l ws vs0 ds fs d fs', vs = vs0 ++ [.ref l] ∧ Same Hs H ∧ RpAll K Hs vs0 ds ∧ H l = some (.lst ws) ∧ Hs l = none ∧ RpAll K Hs ws fs ∧ g ds fs = some (d, fs') ∧
  ∀ v Hs' H' ws', StepM l Hs H Hs' H' → H' l = some (.lst ws') → Hs' l = none → RpAll K Hs' ws' fs' → Rp K Hs' v d → Q v H'
/-- the promise of a def whose first argument is a list that is looked at -/
def spW (K : PySem.W.Frag) (n : Nat) (g : List D → List D → Option D) : Sp := fun vs H Q _ => vs.length = n + 1 ∧ ∃ Hs l ws vs0 ds fs d, vs = .ref l :: vs0 ∧ Same Hs H ∧ RpAll K Hs vs0 ds ∧ H l = some (.lst ws) ∧ RpAll K Hs ws fs ∧ g fs ds = some d ∧
  ∀ v Hs' H', Step Hs H Hs' H' → Rp K Hs' v d → Q v H'
section
variable {K : PySem.W.Frag} {P : Option Addr} {Hs0 H0 Hs H Hs' H' : Hp} {σ : L2.St} {ρ : Ro}
/-- behind a call that changes slot i's list -/
theorem SR.stepM (s : SR K P Hs0 H0 Hs H σ ρ) {i : Nat} {l : Addr} {ws' : List V} {fs fs' : List D} (own : Bool) (e : ρ[i]? = some (if own then .own fs else .par fs)) (h1 : σ[i]? = some (some (.ref l))) (h4 : H0 l = none) (h5 : own = true → P ≠ some l) (h6 : own = false → P = some l)
    (t : StepM l Hs H Hs' H') (k1 : H' l = some (.lst ws')) (k2 : Hs' l = none) (r : RpAll K Hs' ws' fs') : SR K P Hs0 H0 Hs' H' σ (ρ.set i (if own then .own fs' else .par fs')) := by
  refine ⟨⟨s.st.s.trans t.s, fun a o q => ?_, t.i, fun a ha => ?_⟩, ?_, fun k ds' h => ?_, fun k ds' h => ?_, fun k ds' h => ?_, fun a b da db hab e1 e2 => ?_, fun a b da db e1 e2 => ?_, fun p hp => ?_⟩
  · exact t.e a o (ne_of_none q h4) (s.st.e a o q)
  · have hne : a ≠ l := fun z => ha (by rw [z]; exact h4)
    cases q : H0 a with
    | none => exact absurd q ha
    | some o => exact (t.f a hne (by rw [s.st.e a o q]; exact fun z => nomatch z)).trans (s.st.f a ha)
  · refine ⟨by rw [List.length_set]; exact s.vr.1, fun k d' hd => ?_⟩
    obtain ⟨hk, hd⟩ := set_ne_val (by cases own <;> exact fun z => nomatch z) hd
    obtain ⟨v, g1, g2⟩ := s.vr.2 k d' hd
    exact ⟨v, g1, Rp.mono t.s _ _ g2⟩
  · rcases own_or h with ⟨rfl, q, hl⟩ | ⟨hk, h⟩
    · cases own with
      | false => cases q
      | true =>
        cases q
        exact ⟨l, _, h1, k1, k2, h4, h5 rfl, r⟩
    · have hh := h
      obtain ⟨l', vs', g1, g2, g3, g4, g5, g6⟩ := s.own k ds' hh
      have hne : l' ≠ l := by
        cases own with
        | true => exact fun z => s.sep k i ds' fs hk hh e (by rw [g1, h1, z])
        | false => exact fun z => g5 (by rw [h6 rfl, z])
      exact ⟨l', vs', g1, t.e _ _ hne g2, (t.f l' hne (by rw [g2]; exact fun z => nomatch z)).trans g3, g4, g5, RpAll.mono t.s _ _ g6⟩
  · rcases own_or h with ⟨rfl, q, hl⟩ | ⟨hk, h⟩
    · cases own with
      | true => cases q
      | false =>
        cases q
        exact ⟨l, _, h6 rfl, h1, k1, k2, h4, r⟩
    · have hh := h
      obtain ⟨l', vs', g0, g1, g2, g3, g4, g6⟩ := s.par k ds' hh
      cases own with
      | false => exact absurd (s.one k i ds' fs hh e) hk
      | true =>
        have hne : l' ≠ l := fun z => h5 rfl (by rw [g0, z])
        exact ⟨l', vs', g0, g1, t.e _ _ hne g2, (t.f l' hne (by rw [g2]; exact fun z => nomatch z)).trans g3, g4, RpAll.mono t.s _ _ g6⟩
  · obtain ⟨hk, h⟩ := set_ne_val (by cases own <;> exact fun z => nomatch z) h
    obtain ⟨l', vs', g1, g2, g3⟩ := s.view k ds' h
    exact ⟨l', vs', g1, g2, RpAll.mono t.s _ _ g3⟩
  · have f : ∀ (k : Nat) dk, (ρ.set i (if own then .own fs' else .par fs'))[k]? = some (.own dk) → ∃ dk', ρ[k]? = some (.own dk') := fun k dk h => by
      rcases own_or h with ⟨rfl, q, _⟩ | ⟨_, h⟩
      · cases own with
        | false => cases q
        | true => exact ⟨fs, e⟩
      · exact ⟨dk, h⟩
    obtain ⟨da', e1⟩ := f a da e1
    obtain ⟨db', e2⟩ := f b db e2
    exact s.sep a b da' db' hab e1 e2
  · have f : ∀ (k : Nat) dk, (ρ.set i (if own then .own fs' else .par fs'))[k]? = some (.par dk) → ∃ dk', ρ[k]? = some (.par dk') := fun k dk h => by
      rcases own_or h with ⟨rfl, q, _⟩ | ⟨_, h⟩
      · cases own with
        | true => cases q
        | false => exact ⟨fs, e⟩
      · exact ⟨dk, h⟩
    obtain ⟨da', e1⟩ := f a da e1
    obtain ⟨db', e2⟩ := f b db e2
    exact s.one a b da' db' e1 e2
  · by_cases hpl : p = l
    · rw [hpl, k1]
      exact fun z => nomatch z
    · have := s.pa p hp
      cases q : H p with
      | none => exact absurd q this
      | some o =>
        rw [t.e p o hpl q]
        exact fun z => nomatch z
end

/-! ### statements with such a call -/
/-- name = g(.., list) -/
def asgM (j i : Nat) (g : List D → List D → Option (D × List D)) (fs : List (Ro → Option D)) : SF := fun ρ => match argsF fs ρ with
  | some ds => (match ρ[i]? with
    | some (.own xs) => (match g ds xs with | some (d, xs') => some (.nx ((ρ.set i (.own xs')).set j (.val d))) | none => none)
    | some (.par xs) => (match g ds xs with | some (d, xs') => some (.nx ((ρ.set i (.par xs')).set j (.val d))) | none => none)
    | _ => none)
  | none => none
/-- name = g(list, ..) -/
def asgW (j i : Nat) (g : List D → List D → Option D) (fs : List (Ro → Option D)) : SF := fun ρ => match argsF fs ρ with
  | some ds => (match ρ[i]? with
    | some (.own xs) => (match g xs ds with | some d => some (.nx (ρ.set j (.val d))) | none => none)
    | some (.par xs) => (match g xs ds with | some d => some (.nx (ρ.set j (.val d))) | none => none)
    | _ => none)
  | none => none
/-- for x in a list that is looked at -/
def forW (i : Nat) (tg : TF) (body : SF) : SF := fun ρ => match ρ[i]? with | some (.view ds) => loopF tg body ds ρ | _ => none
/-- arguments, a list the last -/
def tDAM (K : PySem.W.Frag) (fs : List (Ro → Option D)) (i : Nat) : TA := fun σ H Q => ∃ ρ Hs ds, VR K Hs σ ρ ∧ Same Hs H ∧ argsF fs ρ = some ds ∧ ∀ vs Hs' H', Step Hs H Hs' H' → RpAll K Hs' vs ds → ∃ u, σ[i]? = some (some u) ∧ Q (vs ++ [u]) H'
section
variable {X : Cx} {e : Expr} {es : List Expr} {f : Ro → Option D} {fs : List (Ro → Option D)} {i : Nat}
theorem am_nil (he : PE X e (tVar i)) (hs : starEach [e] X.env = (false, eval e X.env) :: starEach [] X.env := by rfl) : PA X [e] (tDAM X.K [] i) := pa_of (pa_cons he pa_nil hs) fun σ H Q h => by
  obtain ⟨ρ, Hs, ds, vr, sm, hf, k⟩ := h
  cases hf
  obtain ⟨u, h1, h2⟩ := k [] Hs H (Step.refl sm) .nil
  exact ⟨u, h1, h2⟩
theorem am_cons (ha : PE X e (tD X.K f)) (hr : PA X es (tDAM X.K fs i)) (hs : starEach (e :: es) X.env = (false, eval e X.env) :: starEach es X.env := by rfl) : PA X (e :: es) (tDAM X.K (f :: fs) i) := pa_of (pa_cons ha hr hs) fun σ H Q h => by
  obtain ⟨ρ, Hs, ds, vr, sm, hf, k⟩ := h
  unfold argsF at hf
  split at hf
  · rename_i d hd
    split at hf
    · rename_i ds' hds
      cases hf
      refine ⟨ρ, Hs, d, vr, sm, hd, fun v Hs1 H1 s1 r1 => ⟨ρ, Hs1, ds', vr.mono s1.s, s1.i, hds, fun vs Hs2 H2 s2 r2 => ?_⟩⟩
      exact k _ Hs2 H2 (s1.trans s2) (.cons (Rp.mono s2.s _ _ r1) r2)
    · cases hf
  · cases hf
end
section
variable {K : PySem.W.Frag} {xw : String → Hp → Prop} {F : SF} {fs : List (Ro → Option D)} {i j n : Nat} {E0 : XK}
theorem tDS_asgM {g : List D → List D → Option (D × List D)} (hn : fs.length = n) : ∀ (E : Ends) (σ : L2.St) (H : Hp), tDS K xw (asgM j i g fs) E σ H → tAsg (tCall (spM K n g) [] E0 (tDAM K fs i)) (gName j) E σ H := fun E σ H h => by
  obtain ⟨P, Hs0, H0, Hs, ρ, o, sr, hf, fin⟩ := h
  unfold asgM at hf
  split at hf
  · rename_i ds hds
    split at hf
    · rename_i xs hi
      split at hf
      · rename_i d xs' hg
        cases hf
        obtain ⟨l, ws, h1, h2, h3, h4, h5, h6⟩ := sr.own i xs hi
        refine ⟨ρ, Hs, ds, sr.vr, sr.st.i, hds, fun vs Hs1 H1 s1 r1 => ⟨.ref l, h1, ?_⟩⟩
        show spM K n g ((vs ++ [.ref l]) ++ []) H1 _ E0
        rw [List.append_nil]
        have s2 := sr.step s1
        have g3 : Hs1 l = none := (s1.f l (by rw [h2]; exact fun z => nomatch z)).trans h3
        refine ⟨by rw [List.length_append, r1.length, argsF_length hds, hn, List.length_singleton], Hs1, l, ws, vs, ds, xs, d, xs', rfl, s1.i, r1, s1.e _ _ h2, g3, RpAll.mono s1.s _ _ h6, hg, fun v Hs2 H2 ws' t k1 k2 r2 r3 => ?_⟩
        exact fin _ _ _ ((s2.stepM true hi h1 h4 (fun _ => h5) (fun z => nomatch z) t k1 k2 r2).setVal j r3)
      · cases hf
    · rename_i xs hi
      split at hf
      · rename_i d xs' hg
        cases hf
        obtain ⟨l, ws, h0, h1, h2, h3, h4, h6⟩ := sr.par i xs hi
        refine ⟨ρ, Hs, ds, sr.vr, sr.st.i, hds, fun vs Hs1 H1 s1 r1 => ⟨.ref l, h1, ?_⟩⟩
        show spM K n g ((vs ++ [.ref l]) ++ []) H1 _ E0
        rw [List.append_nil]
        have s2 := sr.step s1
        have g3 : Hs1 l = none := (s1.f l (by rw [h2]; exact fun z => nomatch z)).trans h3
        refine ⟨by rw [List.length_append, r1.length, argsF_length hds, hn, List.length_singleton], Hs1, l, ws, vs, ds, xs, d, xs', rfl, s1.i, r1, s1.e _ _ h2, g3, RpAll.mono s1.s _ _ h6, hg, fun v Hs2 H2 ws' t k1 k2 r2 r3 => ?_⟩
        exact fin _ _ _ ((s2.stepM false hi h1 h4 (fun z => nomatch z) (fun _ => h0) t k1 k2 r2).setVal j r3)
      · cases hf
    · cases hf
  · cases hf
theorem tDS_asgW {g : List D → List D → Option D} (hn : fs.length = n) : ∀ (E : Ends) (σ : L2.St) (H : Hp), tDS K xw (asgW j i g fs) E σ H → tAsg (tCall (spW K n g) [] E0 (tCons (tVar i) (tDA K (argsF fs)))) (gName j) E σ H := fun E σ H h => by
  obtain ⟨P, Hs0, H0, Hs, ρ, o, sr, hf, fin⟩ := h
  unfold asgW at hf
  split at hf
  · rename_i ds hds
    have go : ∀ {l ws xs d}, σ[i]? = some (some (.ref l)) → H l = some (.lst ws) → RpAll K Hs ws xs → g xs ds = some d → Fin K xw P Hs0 H0 E (.nx (ρ.set j (.val d))) → tAsg (tCall (spW K n g) [] E0 (tCons (tVar i) (tDA K (argsF fs)))) (gName j) E σ H := fun {l ws xs d} h1 h2 h6 hg fin => by
      refine ⟨.ref l, h1, ρ, Hs, ds, sr.vr, sr.st.i, hds, fun vs Hs1 H1 s1 r1 => ?_⟩
      show spW K n g ((.ref l :: vs) ++ []) H1 _ E0
      rw [List.append_nil]
      exact ⟨by rw [List.length_cons, r1.length, argsF_length hds, hn], Hs1, l, ws, vs, ds, xs, d, rfl, s1.i, r1, s1.e _ _ h2, RpAll.mono s1.s _ _ h6, hg, fun v Hs2 H2 s2 r2 => fin _ _ _ ((sr.step (s1.trans s2)).setVal j r2)⟩
    split at hf
    · rename_i xs hi
      split at hf
      · rename_i d hg
        cases hf
        obtain ⟨l, ws, h1, h2, h3, h4, h5, h6⟩ := sr.own i xs hi
        exact go h1 h2 h6 hg fin
      · cases hf
    · rename_i xs hi
      split at hf
      · rename_i d hg
        cases hf
        obtain ⟨l, ws, h0, h1, h2, h3, h4, h6⟩ := sr.par i xs hi
        exact go h1 h2 h6 hg fin
      · cases hf
    · cases hf
  · cases hf
theorem tDS_forW {g : TG} {tg : TF} (hg : TGok K g tg) : ∀ (E : Ends) (σ : L2.St) (H : Hp), tDS K xw (forW i tg F) E σ H → tFor (iList K (tVar i)) g (tDS K xw F) E σ H := fun E σ H h => by
  obtain ⟨P, Hs0, H0, Hs, ρ, o, sr, hf, fin⟩ := h
  unfold forW at hf
  split at hf
  · rename_i ds hds
    obtain ⟨l, xs, h1, h2, h6⟩ := sr.view i ds hds
    refine ⟨.ref l, h1, l, rfl, ⟨xs, SqL.of (sr.st.e _ _ h2)⟩, ?_⟩
    refine ⟨fun i m σ H => m = ds.length - i ∧ i ≤ ds.length ∧ ∃ Hs1 ρ, SR K P Hs0 H0 Hs1 H σ ρ ∧ Same Hs Hs1 ∧ loopF tg F (ds.drop i) ρ = some o, ⟨_, rfl, Nat.zero_le _, Hs, ρ, sr, Same.refl _, hf⟩, ?_⟩
    rintro i m σ2 H2 ⟨rfl, hi, Hs2, ρ2, sr2, sm2, hl⟩
    by_cases hlt : i < ds.length
    · have hi' : i < xs.length := by rw [h6.length]; exact hlt
      refine .inr ⟨⟨xs, xs[i], SqL.of (sr2.st.e _ _ h2), List.getElem?_eq_getElem hi'⟩, fun σ H => i + 1 ≤ ds.length ∧ ∃ Hs1 ρ, SR K P Hs0 H0 Hs1 H σ ρ ∧ Same Hs Hs1 ∧ loopF tg F (ds.drop (i + 1)) ρ = some o, fun σ' H' q => ⟨ds.length - (i + 1), by omega, rfl, q.1, q.2⟩, fun x H3 y => ?_⟩
      obtain ⟨e1, y⟩ := y
      subst e1
      obtain ⟨v, hv, rv⟩ := h6.get (List.getElem?_eq_getElem hlt)
      have e2 := (y xs (SqL.of (sr2.st.e _ _ h2))).symm.trans hv
      cases e2
      have rx := Rp.mono sm2 _ _ rv
      rw [List.drop_eq_getElem_cons hlt] at hl
      unfold loopF at hl
      split at hl
      · cases hl
      · rename_i ρ3 ht
        refine hg P Hs0 H0 Hs2 H3 σ2 ρ2 ρ3 x _ _ sr2 rx ht fun σ4 sr4 => ?_
        have rb := sr4.rebase
        have again : ∀ {σ5 : L2.St} {Hs5 H5 : Hp} {ρ5 : Ro}, SR K P Hs2 H0 Hs5 H5 σ5 ρ5 → loopF tg F (ds.drop (i + 1)) ρ5 = some o → i + 1 ≤ ds.length ∧ ∃ Hs1 ρ, SR K P Hs0 H0 Hs1 H5 σ5 ρ ∧ Same Hs Hs1 ∧ loopF tg F (ds.drop (i + 1)) ρ = some o := fun {σ5 Hs5 H5 ρ5} s5 h5 =>
          ⟨hlt, Hs5, ρ5, sr4.unbase s5, sm2.trans s5.st.s, h5⟩
        split at hl
        · rename_i ρ5 hb
          exact ⟨P, Hs2, H0, Hs2, ρ3, _, rb, hb, fun σ5 Hs5 H5 s5 => again s5 hl⟩
        · rename_i ρ5 hb
          exact ⟨P, Hs2, H0, Hs2, ρ3, _, rb, hb, fun σ5 Hs5 H5 s5 => again s5 hl⟩
        · rename_i ρ5 hb
          cases hl
          exact ⟨P, Hs2, H0, Hs2, ρ3, _, rb, hb, fun σ5 Hs5 H5 s5 => fin _ _ _ (sr4.unbase s5)⟩
        · rename_i d5 ρ5 hb
          cases hl
          exact ⟨P, Hs2, H0, Hs2, ρ3, _, rb, hb, fun v σ5 Hs5 H5 s5 q => fin _ _ _ _ (sr4.unbase s5) q⟩
        · rename_i c5 hb
          cases hl
          exact ⟨P, Hs2, H0, Hs2, ρ3, _, rb, hb, (Fin.rebase (E := E) (o := .ex c5) sr4 fin : Fin K xw P Hs2 H0 E (.ex c5))⟩
        · cases hl
    · have e1 : i = ds.length := by omega
      subst e1
      rw [List.drop_length] at hl
      cases hl
      exact .inl ⟨⟨xs, SqL.of (sr2.st.e _ _ h2), by rw [h6.length]; exact Nat.le_refl _⟩, fin _ _ _ sr2⟩
  · cases hf
end

/-! ### defs -/
def initM (n : Nat) (ds fs : List D) : Ro := ds.map Slot.val ++ .par fs :: List.replicate (n - ds.length - 1) Slot.no
def runM (F : SF) (n : Nat) (ds fs : List D) : Option (D × List D) := match F (initM n ds fs) with
  | some (.rt d ρ) => (match ρ[ds.length]? with | some (.par fs') => some (d, fs') | _ => none)
  | _ => none
def initW (n : Nat) (fs ds : List D) : Ro := .view fs :: (ds.map Slot.val ++ List.replicate (n - ds.length - 1) Slot.no)
def runW (F : SF) (n : Nat) (fs ds : List D) : Option D := match F (initW n fs ds) with
  | some (.rt d _) => some d
  | some (.nx _) => some .non
  | _ => none
theorem initM_get {n : Nat} {ds fs : List D} {i : Nat} {s : Slot} (h : (initM n ds fs)[i]? = some s) : (∃ d, ds[i]? = some d ∧ s = .val d) ∨ (i = ds.length ∧ s = .par fs) ∨ s = .no := by
  unfold initM at h
  by_cases hi : i < ds.length
  · rw [List.getElem?_append_left (by rw [List.length_map]; exact hi), List.getElem?_map, List.getElem?_eq_getElem hi] at h
    cases h
    exact .inl ⟨_, List.getElem?_eq_getElem hi, rfl⟩
  · rw [List.getElem?_append_right (by rw [List.length_map]; omega), List.length_map] at h
    by_cases h2 : i = ds.length
    · subst h2
      rw [Nat.sub_self] at h
      cases h
      exact .inr (.inl ⟨rfl, rfl⟩)
    · obtain ⟨k, hk⟩ : ∃ k, i - ds.length = k + 1 := ⟨i - ds.length - 1, by omega⟩
      rw [hk, List.getElem?_cons_succ, List.getElem?_replicate] at h
      split at h
      · cases h; exact .inr (.inr rfl)
      · cases h
theorem initW_get {n : Nat} {ds fs : List D} {i : Nat} {s : Slot} (h : (initW n fs ds)[i]? = some s) : (∃ k d, i = k + 1 ∧ ds[k]? = some d ∧ s = .val d) ∨ (i = 0 ∧ s = .view fs) ∨ s = .no := by
  unfold initW at h
  cases i with
  | zero => cases h; exact .inr (.inl ⟨rfl, rfl⟩)
  | succ i =>
    rw [List.getElem?_cons_succ] at h
    by_cases hi : i < ds.length
    · rw [List.getElem?_append_left (by rw [List.length_map]; exact hi), List.getElem?_map, List.getElem?_eq_getElem hi] at h
      cases h
      exact .inl ⟨i, _, rfl, List.getElem?_eq_getElem hi, rfl⟩
    · rw [List.getElem?_append_right (by rw [List.length_map]; omega), List.getElem?_replicate] at h
      split at h
      · cases h; exact .inr (.inr rfl)
      · cases h
/-- all but what stands at l -/
def hide (l : Addr) (H : Hp) : Hp := fun a => if a = l then none else H a
theorem hide_self {l : Addr} {H : Hp} : hide l H l = none := if_pos rfl
theorem hide_ne {l a : Addr} {H : Hp} (h : a ≠ l) : hide l H a = H a := if_neg h
theorem SR.startM {K : PySem.W.Frag} {Hs H : Hp} {N : List Str} {vs : List V} {ds fs : List D} {l : Addr} {ws : List V} (sm : Same Hs H) (r : RpAll K Hs vs ds) (hl : H l = some (.lst ws)) (hs : Hs l = none) (r2 : RpAll K Hs ws fs) (hN : vs.length + 1 ≤ N.length) :
    SR K (some l) Hs (hide l H) Hs H (L2.start N (vs ++ [.ref l])) (initM N.length ds fs) := by
  have at_l : (L2.start N (vs ++ [.ref l]))[ds.length]? = some (some (.ref l)) := start_get (by rw [← r.length, List.getElem?_append_right (Nat.le_refl _), Nat.sub_self] <;> rfl)
  refine ⟨⟨Same.refl _, fun a o q => ?_, sm, fun _ _ => rfl⟩, ⟨?_, fun i d h => ?_⟩, fun i ds' h => ?_, fun i ds' h => ?_, fun i ds' h => ?_, fun i j di dj hij h1 h2 => ?_, fun i j di dj h1 h2 => ?_, fun p z => ?_⟩
  · by_cases ha : a = l
    · subst ha
      rw [hide_self] at q
      cases q
    · rw [hide_ne ha] at q
      exact q
  · unfold L2.start initM
    have := r.length
    simp only [List.length_append, List.length_map, List.length_replicate, List.length_cons, List.length_nil]
    omega
  · rcases initM_get h with ⟨d', hd, e⟩ | ⟨_, e⟩ | e
    · cases e
      obtain ⟨v, hv, rv⟩ := r.get hd
      exact ⟨v, start_get (by rw [List.getElem?_append_left (List.getElem?_eq_some_iff.mp hv).1]; exact hv), rv⟩
    · cases e
    · cases e
  · rcases initM_get h with ⟨d', hd, e⟩ | ⟨_, e⟩ | e <;> cases e
  · rcases initM_get h with ⟨d', hd, e⟩ | ⟨hi, e⟩ | e
    · cases e
    · cases e
      subst hi
      exact ⟨l, ws, rfl, at_l, hl, hs, hide_self, r2⟩
    · cases e
  · rcases initM_get h with ⟨d', hd, e⟩ | ⟨_, e⟩ | e <;> cases e
  · rcases initM_get h1 with ⟨d', hd, e⟩ | ⟨_, e⟩ | e <;> cases e
  · rcases initM_get h1 with ⟨d', hd, e⟩ | ⟨hi, e⟩ | e
    · cases e
    · rcases initM_get h2 with ⟨d', hd, e'⟩ | ⟨hj, e'⟩ | e'
      · cases e'
      · rw [hi, hj]
      · cases e'
    · cases e
  · cases z
    rw [hl]
    exact fun z => nomatch z
theorem SR.startW {K : PySem.W.Frag} {Hs H : Hp} {N : List Str} {vs : List V} {ds fs : List D} {l : Addr} {ws : List V} (sm : Same Hs H) (r : RpAll K Hs vs ds) (hl : H l = some (.lst ws)) (r2 : RpAll K Hs ws fs) (hN : vs.length + 1 ≤ N.length) :
    SR K none Hs H Hs H (L2.start N (.ref l :: vs)) (initW N.length fs ds) := by
  refine ⟨Step.refl sm, ⟨?_, fun i d h => ?_⟩, fun i ds' h => ?_, fun i ds' h => ?_, fun i ds' h => ?_, fun i j di dj hij h1 h2 => ?_, fun i j di dj h1 h2 => ?_, fun p z => nomatch z⟩
  · unfold L2.start initW
    have := r.length
    simp only [List.length_append, List.length_map, List.length_replicate, List.length_cons]
    omega
  · rcases initW_get h with ⟨k, d', rfl, hd, e⟩ | ⟨_, e⟩ | e
    · cases e
      obtain ⟨v, hv, rv⟩ := r.get hd
      exact ⟨v, start_get (by rw [List.getElem?_cons_succ]; exact hv), rv⟩
    · cases e
    · cases e
  · rcases initW_get h with ⟨k, d', _, hd, e⟩ | ⟨_, e⟩ | e <;> cases e
  · rcases initW_get h with ⟨k, d', _, hd, e⟩ | ⟨_, e⟩ | e <;> cases e
  · rcases initW_get h with ⟨k, d', _, hd, e⟩ | ⟨hi, e⟩ | e
    · cases e
    · cases e
      subst hi
      exact ⟨l, ws, start_get rfl, hl, r2⟩
    · cases e
  · rcases initW_get h1 with ⟨k, d', _, hd, e⟩ | ⟨_, e⟩ | e <;> cases e
  · rcases initW_get h1 with ⟨k, d', _, hd, e⟩ | ⟨_, e⟩ | e <;> cases e
structure DefOkM (PP : Program) (w : World) (K : PySem.W.Frag) (mg : Str → Option Value) (base : Heap) (k : Nat) (name : Str) (ps : List Str) (n : Nat) (g : List D → List D → Option (D × List D)) (a : Addr) (fd : FuncData) : Prop where
  ok : FnOk PP w K mg base CX0 k a fd ps (spM K n g)
  m : mg name = some (.ref a)
  kp : PySem.W.keepIn K (.ref a) = true
  b : Binds K fd ps []
structure DefOkW (PP : Program) (w : World) (K : PySem.W.Frag) (mg : Str → Option Value) (base : Heap) (k : Nat) (name : Str) (ps : List Str) (n : Nat) (g : List D → List D → Option D) (a : Addr) (fd : FuncData) : Prop where
  ok : FnOk PP w K mg base CX0 k a fd ps (spW K n g)
  m : mg name = some (.ref a)
  kp : PySem.W.keepIn K (.ref a) = true
  b : Binds K fd ps []
section
variable {PP : Program} {w : World} {K : PySem.W.Frag} {mg : Str → Option Value} {base : Heap} {a : Addr} {fd : FuncData}
theorem defM_of {name : Str} {st : Stmt} {N ps : List Str} {k n : Nat} {F : SF} (T : Top K mg name st ps a fd) (S : FnScope N ps (defScope st)) (hn : ps.length = n + 1) (hN : ps.length ≤ N.length)
    (hbody : ∀ (cdv : Value) (A : Around) (outer : List Env) (s : Shared) (H : Hp) (E : XK), Room k (A.deeper (envOfC name (defScope st) s.heap.objs.size a cdv)) →
      PSs (cxOf CX0 PP w K mg base N name (defScope st) a cdv A outer s H E).nox (defBody st) (tDS K xw0 F)) : DefOkM PP w K mg base (k + 1) name ps n (runM F N.length) a fd := by
  refine ⟨Fun.ok T.fn S (fun vs H Q E h => by rw [hn]; exact h.1) fun cdv A outer s H vs Q E hr h => ⟨_, hbody cdv A outer s H E hr, ?_⟩, T.m, T.fn.kp, T.b⟩
  obtain ⟨hlen, Hs, l, ws, vs0, ds, fs, d, fs', rfl, sm, r, h1, h2, r2, hg, k⟩ := h
  unfold runM at hg
  split at hg
  · rename_i d' ρ' ho
    split at hg
    · rename_i fs2 hp
      cases hg
      have hl0 : vs0.length + 1 ≤ N.length := by
        rw [List.length_append, List.length_singleton] at hlen
        omega
      refine ⟨some l, Hs, hide l H, Hs, _, _, SR.startM sm r h1 h2 r2 hl0, ho, fun v σ Hs' H' sr q => ?_⟩
      obtain ⟨l', ws', g0, g1, g2, g3, g4, g6⟩ := sr.par _ _ hp
      cases g0
      exact k v Hs' H' ws' ⟨sr.st.s, fun a o ha e => sr.st.e a o (by rw [hide_ne ha]; exact e), sr.st.i, fun a ha e => sr.st.f a (by rw [hide_ne ha]; exact e)⟩ g2 g3 g6 q
    · cases hg
  · cases hg
/-- a promise that is none -/
theorem defM_zero {name : Str} {st : Stmt} {ps : List Str} {k n : Nat} (T : Top K mg name st ps a fd) (hn : ps.length = n + 1) : DefOkM PP w K mg base k name ps n (fun _ _ => none) a fd :=
  ⟨⟨fun vs H Q E h => by rw [hn]; exact h.1, fun A outer s H args us vs Q E hr he hb hv h => by
    obtain ⟨_, Hs, l, ws, vs0, ds, fs, d, fs', _, _, _, _, _, _, hg, _⟩ := h
    cases hg⟩, T.m, T.fn.kp, T.b⟩
theorem defW_of {name : Str} {st : Stmt} {N ps : List Str} {k n : Nat} {F : SF} (T : Top K mg name st ps a fd) (S : FnScope N ps (defScope st)) (hn : ps.length = n + 1) (hN : ps.length ≤ N.length)
    (hbody : ∀ (cdv : Value) (A : Around) (outer : List Env) (s : Shared) (H : Hp) (E : XK), Room k (A.deeper (envOfC name (defScope st) s.heap.objs.size a cdv)) →
      PSs (cxOf CX0 PP w K mg base N name (defScope st) a cdv A outer s H E).nox (defBody st) (tDS K xw0 F)) : DefOkW PP w K mg base (k + 1) name ps n (runW F N.length) a fd := by
  refine ⟨Fun.ok T.fn S (fun vs H Q E h => by rw [hn]; exact h.1) fun cdv A outer s H vs Q E hr h => ⟨_, hbody cdv A outer s H E hr, ?_⟩, T.m, T.fn.kp, T.b⟩
  obtain ⟨hlen, Hs, l, ws, vs0, ds, fs, d, rfl, sm, r, h1, r2, hg, k⟩ := h
  have hl0 : vs0.length + 1 ≤ N.length := by
    rw [List.length_cons] at hlen
    omega
  unfold runW at hg
  split at hg
  · rename_i d' ρ' ho
    cases hg
    exact ⟨none, Hs, H, Hs, _, _, SR.startW sm r h1 r2 hl0, ho, fun v σ Hs' H' sr q => k v Hs' H' sr.st q⟩
  · rename_i ρ' ho
    cases hg
    exact ⟨none, Hs, H, Hs, _, _, SR.startW sm r h1 r2 hl0, ho, fun σ Hs' H' sr => k _ Hs' H' sr.st .non⟩
  · cases hg
end
section
variable {X : Cx} {xw : String → Hp → Prop} {body : List Stmt} {F : SF} {e : Expr} {es : List Expr} {f : Ro → Option D} {fs : List (Ro → Option D)} {pos pos' p pos2 : Pos} {x : Str} {a : Addr} {fd : FuncData}
theorem s_asgM (j i : Nat) {k k' n : Nat} {y : Str} {ps : List Str} {g : List D → List D → Option (D × List D)} (Df : DefOkM X.prog X.w X.K X.mg X.base k x ps n g a fd) (hr : Room k' X.A) (hk : k ≤ k') (ha : PA X (e :: es) (tDAM X.K fs i)) (hN : X.N.Nodup) (hg : Gl X x := by rfl) (hn : fs.length = n := by rfl) (hdb : (x == ("__debug__" : Str)) = false := by decide)
    (he : starEach (e :: es) X.env = (false, eval e X.env) :: starEach es X.env := by rfl) (hpl : (backTo pos2 (starEach es X.env)).any (·.1) = false := by rfl)
    (hi : X.N[j]? = some y := by rfl) (hx : Loc X.env.scope y := by first | exact Or.inl rfl | exact Or.inr rfl) (hs : swapsWith (.Call (.Name x p) (e :: es) [] pos2) (some (.Name y pos')) pos.line X.env = pure false := by rfl)
    (hf : X.fn y = true ∨ X.env.scope.names.lookup y = some .local := by first | exact .inl rfl | exact .inr rfl | assumption) :
    PS X (.Assign [.Name y pos'] (.Call (.Name x p) (e :: es) [] pos2) pos) (tDS X.K xw (asgM j i g fs)) := ps_of (ps_set hN hi hx (pe_call Df.ok (hr.mono hk) hg Df.m Df.kp Df.b .nil pass0 ha hdb he hpl) hs hf) (tDS_asgM hn)
theorem s_asgW (j i : Nat) {k k' n : Nat} {y : Str} {ps : List Str} {g : List D → List D → Option D} (Df : DefOkW X.prog X.w X.K X.mg X.base k x ps n g a fd) (hr : Room k' X.A) (hk : k ≤ k') (hv : PE X e (tVar i)) (ha : PA X es (tDA X.K (argsF fs))) (hN : X.N.Nodup) (hg : Gl X x := by rfl) (hn : fs.length = n := by rfl) (hdb : (x == ("__debug__" : Str)) = false := by decide)
    (he : starEach (e :: es) X.env = (false, eval e X.env) :: starEach es X.env := by rfl) (hpl : (backTo pos2 (starEach es X.env)).any (·.1) = false := by rfl)
    (hi : X.N[j]? = some y := by rfl) (hx : Loc X.env.scope y := by first | exact Or.inl rfl | exact Or.inr rfl) (hs : swapsWith (.Call (.Name x p) (e :: es) [] pos2) (some (.Name y pos')) pos.line X.env = pure false := by rfl)
    (hf : X.fn y = true ∨ X.env.scope.names.lookup y = some .local := by first | exact .inl rfl | exact .inr rfl | assumption) :
    PS X (.Assign [.Name y pos'] (.Call (.Name x p) (e :: es) [] pos2) pos) (tDS X.K xw (asgW j i g fs)) := ps_of (ps_set hN hi hx (pe_call Df.ok (hr.mono hk) hg Df.m Df.kp Df.b .nil pass0 (pa_cons hv ha he) hdb he hpl) hs hf) (tDS_asgW hn)
theorem s_forW {tg : Expr} {g : TG} {t : TF} {i : Nat} (hp : PassesOwn (model X.prog X.w) X.A X.env X.xe) (hc : X.calm = true) (hv : PE X e (tVar i)) (hg : PG X tg g) (hgt : TGok X.K g t) (hb : PSs X body (tDS X.K xw F))
    (hs : ∀ x, foldedSetIterable e X.env x = pure x := by intro _; rfl) : PS X (.For tg e body [] pos) (tDS X.K xw (forW i t F)) := ps_of (ps_for hp hc (pi_list hv) hg hb hs) (tDS_forW hgt)
end
end Dn

namespace Dn
open PySem PySem.Spec PyProof.Rows L2

/-! ### who has the game -/
def allMet (ws : List (List Int)) (s : List Bool) : Bool := ws.all (isMet s)
def valP (ws : List (List Int)) : List Bool → List Bool → Bool
  | [], s => allMet ws s
  | o :: l, s => if o = true then valP ws l (s ++ [false]) || valP ws l (s ++ [true]) else valP ws l (s ++ [false]) && valP ws l (s ++ [true])
/-- a rule of a side has the game from a setting on -/
def Wins (ws : List (List Int)) (who : Bool) : Rule → List Bool → List Bool → Prop
  | .fin, [], s => allMet ws s = who
  | .set v r, o :: l, s => o = who ∧ Wins ws who r l (s ++ [v])
  | .see a b, o :: l, s => o ≠ who ∧ Wins ws who a l (s ++ [false]) ∧ Wins ws who b l (s ++ [true])
  | _, _, _ => False
theorem wins_val {ws : List (List Int)} {who : Bool} : ∀ (r : Rule) (l s : List Bool), Wins ws who r l s → valP ws l s = who
  | .fin, [], s, h => h
  | .fin, _ :: _, s, h => h.elim
  | .set v r, [], s, h => h.elim
  | .set v r, o :: l, s, h => by
    obtain ⟨rfl, h⟩ := h
    have := wins_val r l _ h
    unfold valP
    cases v <;> cases o <;> simp [this]
  | .see a b, [], s, h => h.elim
  | .see a b, o :: l, s, h => by
    obtain ⟨ho, h1, h2⟩ := h
    have h1 := wins_val a l _ h1
    have h2 := wins_val b l _ h2
    unfold valP
    rw [h1, h2]
    cases o <;> cases who <;> simp at ho ⊢
theorem so_app {s t : List Bool} {n : Int} (hn : n ≠ 0) (h : n.natAbs ≤ s.length) : isSo (s ++ t) n = isSo s n := by
  unfold isSo
  rw [List.getElem?_append_left (by omega)]
theorem so_ext {s t : List Bool} {n : Int} (hn : n ≠ 0) (h : isSo s n = true) : isSo (s ++ t) n = true := by
  rw [so_app hn (so_le h hn)]
  exact h
theorem idle_wins {ws : List (List Int)} {who : Bool} : ∀ (l s : List Bool), (∀ t : List Bool, t.length = l.length → allMet ws (s ++ t) = who) → Wins ws who (idleR who l) l s
  | [], s, h => by
    have := h [] rfl
    rw [List.append_nil] at this
    exact this
  | o :: l, s, h => by
    have ih := fun v => idle_wins l (s ++ [v]) fun t ht => by
      rw [List.append_assoc]
      exact h (v :: t) (by rw [List.length_cons, List.length_cons, ht])
    cases e : (o == who) with
    | true =>
      rw [idleR_t e]
      exact ⟨beq_iff_eq.mp e, ih false⟩
    | false =>
      rw [idleR_f e]
      exact ⟨beq_eq_false_iff_ne.mp e, ih false, ih true⟩

/-! ### facts -/
structure Fact where
  pl : Nat
  ns : List Int
  who : Bool
  rule : Rule
structure Found where
  who : Bool
  rule : Rule
  hs : List Int
def intsD (ns : List Int) : D := .lst (ns.map D.int)
def Fact.d (f : Fact) : D := .tup [.int f.pl, intsD f.ns, .bl f.who, f.rule.d]
def Found.d (q : Found) : D := .tup [.bl q.who, q.rule.d, intsD q.hs]
def knownP (fs : List Fact) (s : List Bool) : Option Fact := fs.find? fun f => f.pl == s.length && f.ns.all (isSo s)
def withoutP (ns : List Int) (m : Nat) : List Int := ns.filter fun n => n.natAbs != m
def triedP (G : List Bool → List Fact → Found × List Fact) (l s : List Bool) (fs : List Fact) : Found × List Fact :=
  if (G (s ++ [false]) fs).1.who = l.getD s.length false then (⟨l.getD s.length false, .set false (G (s ++ [false]) fs).1.rule, withoutP (G (s ++ [false]) fs).1.hs (s.length + 1)⟩, (G (s ++ [false]) fs).2)
  else if (withoutP (G (s ++ [false]) fs).1.hs (s.length + 1)).length = (G (s ++ [false]) fs).1.hs.length then (⟨(G (s ++ [false]) fs).1.who, .see (G (s ++ [false]) fs).1.rule (G (s ++ [false]) fs).1.rule, (G (s ++ [false]) fs).1.hs⟩, (G (s ++ [false]) fs).2)
  else if (G (s ++ [true]) (G (s ++ [false]) fs).2).1.who = l.getD s.length false then (⟨l.getD s.length false, .set true (G (s ++ [true]) (G (s ++ [false]) fs).2).1.rule, withoutP (G (s ++ [true]) (G (s ++ [false]) fs).2).1.hs (s.length + 1)⟩, (G (s ++ [true]) (G (s ++ [false]) fs).2).2)
  else if (withoutP (G (s ++ [true]) (G (s ++ [false]) fs).2).1.hs (s.length + 1)).length = (G (s ++ [true]) (G (s ++ [false]) fs).2).1.hs.length then (⟨(G (s ++ [true]) (G (s ++ [false]) fs).2).1.who, .see (G (s ++ [true]) (G (s ++ [false]) fs).2).1.rule (G (s ++ [true]) (G (s ++ [false]) fs).2).1.rule, (G (s ++ [true]) (G (s ++ [false]) fs).2).1.hs⟩, (G (s ++ [true]) (G (s ++ [false]) fs).2).2)
  else (⟨(G (s ++ [false]) fs).1.who, .see (G (s ++ [false]) fs).1.rule (G (s ++ [true]) (G (s ++ [false]) fs).2).1.rule, inOrder (withoutP ((G (s ++ [false]) fs).1.hs ++ (G (s ++ [true]) (G (s ++ [false]) fs).2).1.hs) (s.length + 1))⟩, (G (s ++ [true]) (G (s ++ [false]) fs).2).2)
def goneP (l : List Bool) (ws : List (List Int)) : Nat → List Bool → List Fact → Found × List Fact
  | 0, _, fs => (⟨true, .fin, []⟩, fs)
  | n + 1, s, fs => match endedP ws s with
    | some e => (⟨e.1, idleR e.1 (l.drop s.length), e.2⟩, fs)
    | none => match knownP fs s with
      | some f => (⟨f.who, f.rule, f.ns⟩, fs)
      | none => ((triedP (goneP l ws n) l s fs).1, (triedP (goneP l ws n) l s fs).2 ++ [⟨s.length, (triedP (goneP l ws n) l s fs).1.hs, (triedP (goneP l ws n) l s fs).1.who, (triedP (goneP l ws n) l s fs).1.rule⟩])

/-! ### what holds of them -/
structure QOk (l : List Bool) (ws : List (List Int)) (s : List Bool) (q : Found) : Prop where
  st : strictA q.hs
  so : ∀ n ∈ q.hs, isSo s n = true ∧ n ≠ 0
  ht : q.rule.ht ≤ l.length - s.length + 1
  win : ∀ s' : List Bool, s'.length = s.length → (∀ n ∈ q.hs, isSo s' n = true) → Wins ws q.who q.rule (l.drop s.length) s'
structure FOk (l : List Bool) (ws : List (List Int)) (f : Fact) : Prop where
  pl : f.pl < l.length
  st : strictA f.ns
  nz : ∀ n ∈ f.ns, n ≠ 0 ∧ n.natAbs ≤ f.pl
  ht : f.rule.ht ≤ l.length - f.pl + 1
  win : ∀ s' : List Bool, s'.length = f.pl → (∀ n ∈ f.ns, isSo s' n = true) → Wins ws f.who f.rule (l.drop f.pl) s'
def once (fs : List Fact) : Prop := fs.Pairwise fun f g => f.pl = g.pl → ∃ n ∈ f.ns, n ∉ g.ns
structure GOk (l : List Bool) (ws : List (List Int)) (k n : Nat) (s : List Bool) (fs : List Fact) (r : Found × List Fact) : Prop where
  q : QOk l ws s r.1
  ex : ∃ new, r.2 = fs ++ new ∧ ∀ f ∈ new, FOk l ws f ∧ k ≤ f.pl
  once : once r.2
  len : r.2.length + 1 ≤ fs.length + n
theorem hold {s s' : List Bool} {v : Bool} {hs : List Int} (hl : s'.length = s.length) (h1 : ∀ n ∈ hs, isSo (s ++ [v]) n = true ∧ n ≠ 0) (h2 : ∀ n ∈ withoutP hs (s.length + 1), isSo s' n = true) : ∀ n ∈ hs, isSo (s' ++ [v]) n = true := by
  intro n hn
  obtain ⟨a, b⟩ := h1 n hn
  by_cases e : n.natAbs = s.length + 1
  · rw [so_iff] at a ⊢
    rw [e, Nat.add_sub_cancel, List.getElem?_append_right (Nat.le_refl _), Nat.sub_self] at a
    rw [e, Nat.add_sub_cancel, List.getElem?_append_right (by omega), hl, Nat.sub_self]
    exact a
  · have := h2 n (List.mem_filter.mpr ⟨hn, by simp [e]⟩)
    exact so_ext b this
theorem without_so {s : List Bool} {v : Bool} {hs : List Int} (h1 : ∀ n ∈ hs, isSo (s ++ [v]) n = true ∧ n ≠ 0) : ∀ n ∈ withoutP hs (s.length + 1), isSo s n = true ∧ n ≠ 0 := by
  intro n hn
  obtain ⟨h, e⟩ := List.mem_filter.mp hn
  obtain ⟨a, b⟩ := h1 n h
  have := so_le a b
  rw [List.length_append, List.length_singleton] at this
  have e : n.natAbs ≠ s.length + 1 := by simpa using e
  rw [so_app b (by omega)] at a
  exact ⟨a, b⟩
theorem without_strict {hs : List Int} {m : Nat} (h : strictA hs) : strictA (withoutP hs m) := h.sublist List.filter_sublist
theorem without_same {hs : List Int} {m : Nat} (h : (withoutP hs m).length = hs.length) : withoutP hs m = hs := by
  unfold withoutP at h ⊢
  exact List.filter_eq_self.mpr (List.length_filter_eq_length_iff.mp h)
theorem ended_so {ws : List (List Int)} {s : List Bool} (h0 : ∀ w ∈ ws, ∀ n ∈ w, n ≠ 0) {e : Bool × List Int} (he : endedP ws s = some e) :
    strictA e.2 ∧ (∀ n ∈ e.2, isSo s n = true ∧ n ≠ 0) ∧ ∀ s' : List Bool, (∀ n ∈ e.2, isSo s' n = true) → ∀ t : List Bool, allMet ws (s' ++ t) = e.1 := by
  unfold endedP at he
  split at he
  · rename_i w hw
    cases he
    have hm := List.mem_of_find?_eq_some hw
    have hlost : isLost s w = true := List.find?_some hw
    have so := negs_so hlost (h0 w hm)
    obtain ⟨h1, h2, _⟩ := inOrder_ok (oneSign_so so)
    refine ⟨h1, fun n hn => so n ((h2 n).mp hn), fun s' hs t => ?_⟩
    unfold allMet
    rw [List.all_eq_false]
    refine ⟨w, hm, ?_⟩
    simp only [Bool.not_eq_true]
    unfold isMet
    rw [List.any_eq_false]
    intro n hn
    have hneg := hs (-n) ((h2 _).mpr (List.mem_map.mpr ⟨n, hn, rfl⟩))
    have hn0 := h0 w hm n hn
    have hl := so_le hneg (by omega)
    rw [Int.natAbs_neg] at hl
    rw [so_app hn0 hl]
    rw [so_neg hn0 hl] at hneg
    simpa using hneg
  · split at he
    · rename_i hw hall
      cases he
      have so := firsts_so hall h0
      obtain ⟨h1, h2, _⟩ := inOrder_ok (oneSign_so so)
      refine ⟨h1, fun n hn => so n ((h2 n).mp hn), fun s' hs t => ?_⟩
      refine List.all_eq_true.mpr fun w hw' => ?_
      have f := firstSo_ok (List.all_eq_true.mp hall w hw')
      exact List.any_eq_true.mpr ⟨_, f.1, so_ext (h0 w hw' _ f.1) (hs _ ((h2 _).mpr (List.mem_map.mpr ⟨w, hw', rfl⟩)))⟩
    · cases he
theorem ended_none {l s : List Bool} {ws : List (List Int)} (h0 : ∀ w ∈ ws, ∀ n ∈ w, n ≠ 0 ∧ n.natAbs ≤ l.length) (he : endedP ws s = none) : s.length < l.length := by
  unfold endedP at he
  split at he
  · cases he
  · rename_i hf
    split at he
    · cases he
    · rename_i hall
      have hall : ws.all (isMet s) = false := by simpa using hall
      obtain ⟨w, hw, hm⟩ := List.all_eq_false.mp hall
      have hl := List.find?_eq_none.mp hf w hw
      unfold isMet at hm
      unfold isLost at hl
      have hl : (w.all fun n => decide (n.natAbs ≤ s.length) && !isSo s n) = false := by simpa using hl
      obtain ⟨n, hn, e⟩ := List.all_eq_false.mp hl
      have hns : isSo s n = false := by
        cases q : isSo s n with
        | false => rfl
        | true => exact absurd (List.any_eq_true.mpr ⟨n, hn, q⟩) hm
      have := (h0 w hw n hn).2
      simp only [hns, Bool.not_false, Bool.and_true, decide_eq_true_eq] at e
      omega
theorem two_not {x y z : Bool} (h : x ≠ z) (h2 : y ≠ z) : x = y := by cases x <;> cases y <;> cases z <;> first | rfl | (exact absurd rfl h) | (exact absurd rfl h2)
theorem tried_ok {l : List Bool} {ws : List (List Int)} {n : Nat} {s : List Bool} {fs : List Fact} {G : List Bool → List Fact → Found × List Fact} (hs : s.length < l.length)
    (ih : ∀ (v : Bool) (fs : List Fact), (∀ f ∈ fs, FOk l ws f) → once fs → GOk l ws (s.length + 1) n (s ++ [v]) fs (G (s ++ [v]) fs)) (hf : ∀ f ∈ fs, FOk l ws f) (ho : once fs) : GOk l ws (s.length + 1) (2 * n - 1) s fs (triedP G l s fs) := by
  have A := ih false fs hf ho
  obtain ⟨newA, eA, hA⟩ := A.ex
  have hfA : ∀ f ∈ (G (s ++ [false]) fs).2, FOk l ws f := by
    rw [eA]
    intro f h
    rcases List.mem_append.mp h with h | h
    · exact hf f h
    · exact (hA f h).1
  have B := ih true (G (s ++ [false]) fs).2 hfA A.once
  obtain ⟨newB, eB, hB⟩ := B.ex
  have lA := A.len
  have lB := B.len
  have ed : l.drop s.length = l[s.length] :: l.drop (s.length + 1) := List.drop_eq_getElem_cons hs
  have eo : l.getD s.length false = l[s.length] := by simp [List.getD_eq_getElem?_getD, hs]
  have exA : ∃ new, (G (s ++ [false]) fs).2 = fs ++ new ∧ ∀ f ∈ new, FOk l ws f ∧ s.length + 1 ≤ f.pl := ⟨newA, eA, hA⟩
  have exB : ∃ new, (G (s ++ [true]) (G (s ++ [false]) fs).2).2 = fs ++ new ∧ ∀ f ∈ new, FOk l ws f ∧ s.length + 1 ≤ f.pl := ⟨newA ++ newB, by rw [eB, eA, List.append_assoc], fun f h => by
    rcases List.mem_append.mp h with h | h
    · exact hA f h
    · exact hB f h⟩
  unfold triedP
  generalize G (s ++ [false]) fs = a at *
  have own : ∀ (v : Bool) (q : Found), QOk l ws (s ++ [v]) q → q.who = l.getD s.length false → QOk l ws s ⟨l.getD s.length false, .set v q.rule, withoutP q.hs (s.length + 1)⟩ := fun v q Q hw => by
    have ht := Q.ht
    rw [List.length_append, List.length_singleton] at ht
    refine ⟨without_strict Q.st, without_so Q.so, by show q.rule.ht + 1 ≤ _; omega, fun s' hl h => ?_⟩
    show Wins ws _ _ (l.drop s.length) s'
    rw [ed]
    refine ⟨eo.symm, ?_⟩
    have := Q.win (s' ++ [v]) (by rw [List.length_append, List.length_append, hl] <;> rfl) (hold hl Q.so h)
    rw [List.length_append, List.length_singleton, hw] at this
    exact this
  have same : ∀ (v : Bool) (q : Found), QOk l ws (s ++ [v]) q → q.who ≠ l.getD s.length false → (withoutP q.hs (s.length + 1)).length = q.hs.length → QOk l ws s ⟨q.who, .see q.rule q.rule, q.hs⟩ := fun v q Q hw he => by
    have ht := Q.ht
    rw [List.length_append, List.length_singleton] at ht
    have es := without_same he
    have so := without_so Q.so
    rw [es] at so
    refine ⟨Q.st, so, by show max q.rule.ht q.rule.ht + 1 ≤ _; rw [Nat.max_self]; omega, fun s' hl h => ?_⟩
    show Wins ws _ _ (l.drop s.length) s'
    rw [ed]
    have go : ∀ u : Bool, Wins ws q.who q.rule (l.drop (s.length + 1)) (s' ++ [u]) := fun u => by
      have := Q.win (s' ++ [u]) (by rw [List.length_append, List.length_append, hl] <;> rfl) (fun n hn => so_ext (Q.so n hn).2 (h n hn))
      rw [List.length_append, List.length_singleton] at this
      exact this
    exact ⟨by rw [← eo]; exact Ne.symm hw, go false, go true⟩
  split
  · rename_i h1
    exact ⟨own false _ A.q h1, exA, A.once, by show a.2.length + 1 ≤ _; omega⟩
  · rename_i h1
    split
    · rename_i h2
      exact ⟨same false _ A.q h1 h2, exA, A.once, by show a.2.length + 1 ≤ _; omega⟩
    · generalize G (s ++ [true]) a.2 = b at *
      have lb : b.2.length + 1 ≤ fs.length + (2 * n - 1) := by omega
      split
      · rename_i h3
        exact ⟨own true _ B.q h3, exB, B.once, lb⟩
      · rename_i h3
        split
        · rename_i h4
          exact ⟨same true _ B.q h3 h4, exB, B.once, lb⟩
        · refine ⟨?_, exB, B.once, lb⟩
          have htA := A.q.ht
          have htB := B.q.ht
          rw [List.length_append, List.length_singleton] at htA htB
          have sA := without_so A.q.so
          have sB := without_so B.q.so
          have so : ∀ n ∈ withoutP (a.1.hs ++ b.1.hs) (s.length + 1), isSo s n = true ∧ n ≠ 0 := by
            unfold withoutP at sA sB ⊢
            rw [List.filter_append]
            intro n hn
            rcases List.mem_append.mp hn with h | h
            · exact sA n h
            · exact sB n h
          obtain ⟨h5, h6, _⟩ := inOrder_ok (oneSign_so so)
          refine ⟨h5, fun n hn => so n ((h6 n).mp hn), by show max a.1.rule.ht b.1.rule.ht + 1 ≤ _; omega, fun s' hl h => ?_⟩
          show Wins ws _ _ (l.drop s.length) s'
          rw [ed]
          have hw : b.1.who = a.1.who := two_not h3 h1
          have mem : ∀ n, (n ∈ withoutP a.1.hs (s.length + 1) ∨ n ∈ withoutP b.1.hs (s.length + 1)) → isSo s' n = true := fun n hn => h n ((h6 n).mpr (by
            unfold withoutP at hn ⊢
            rw [List.filter_append]
            exact List.mem_append.mpr hn))
          refine ⟨by rw [← eo]; exact Ne.symm h1, ?_, ?_⟩
          · have := A.q.win (s' ++ [false]) (by rw [List.length_append, List.length_append, hl] <;> rfl) (hold hl A.q.so fun n hn => mem n (.inl hn))
            rw [List.length_append, List.length_singleton] at this
            exact this
          · have := B.q.win (s' ++ [true]) (by rw [List.length_append, List.length_append, hl] <;> rfl) (hold hl B.q.so fun n hn => mem n (.inr hn))
            rw [List.length_append, List.length_singleton, hw] at this
            exact this
theorem goneP_ok {l : List Bool} {ws : List (List Int)} (h0 : ∀ w ∈ ws, ∀ n ∈ w, n ≠ 0 ∧ n.natAbs ≤ l.length) : ∀ (n : Nat) (s : List Bool) (fs : List Fact), s.length ≤ l.length → l.length < s.length + n → (∀ f ∈ fs, FOk l ws f) → once fs → GOk l ws s.length (2 ^ n) s fs (goneP l ws n s fs)
  | 0, s, fs, h1, h2, _, _ => by omega
  | n + 1, s, fs, h1, h2, hf, ho => by
    have hp : 1 ≤ 2 ^ n := Nat.one_le_two_pow
    have hp2 : 2 ^ (n + 1) = 2 * 2 ^ n := by rw [Nat.pow_succ]; omega
    unfold goneP
    split
    · rename_i e he
      obtain ⟨k1, k2, k3⟩ := ended_so (fun w hw n hn => (h0 w hw n hn).1) he
      refine ⟨⟨k1, k2, by show (idleR e.1 (l.drop s.length)).ht ≤ _; rw [idleR_ht, List.length_drop]; omega, fun s' hl h => idle_wins _ _ fun t _ => k3 s' h t⟩, ⟨[], by simp, fun f h => nomatch h⟩, ho, by show fs.length + 1 ≤ _; omega⟩
    · rename_i he
      have hs := ended_none h0 he
      split
      · rename_i f hk
        have hm := List.mem_of_find?_eq_some hk
        have hp := List.find?_some hk
        simp only [Bool.and_eq_true, beq_iff_eq, List.all_eq_true] at hp
        have F := hf f hm
        refine ⟨⟨F.st, fun n hn => ⟨hp.2 n hn, (F.nz n hn).1⟩, by have := F.ht; rw [hp.1] at this; exact this, fun s' hl h => by have := F.win s' (by rw [hl, hp.1]) h; rw [hp.1] at this; exact this⟩, ⟨[], by simp, fun f h => nomatch h⟩, ho, by show fs.length + 1 ≤ _; omega⟩
      · rename_i hk
        have ih := fun (v : Bool) (fs : List Fact) (hf : ∀ f ∈ fs, FOk l ws f) (ho : once fs) => goneP_ok h0 n (s ++ [v]) fs (by rw [List.length_append, List.length_singleton]; omega) (by rw [List.length_append, List.length_singleton]; omega) hf ho
        have T := tried_ok (G := goneP l ws n) (n := 2 ^ n) hs (fun v fs hf ho => by
          have := ih v fs hf ho
          rw [List.length_append, List.length_singleton] at this
          exact this) hf ho
        generalize triedP (goneP l ws n) l s fs = t at *
        obtain ⟨new, e, hn⟩ := T.ex
        have lt := T.len
        have F : FOk l ws ⟨s.length, t.1.hs, t.1.who, t.1.rule⟩ := ⟨hs, T.q.st, fun n hn => ⟨(T.q.so n hn).2, so_le (T.q.so n hn).1 (T.q.so n hn).2⟩, T.q.ht, T.q.win⟩
        refine ⟨T.q, ⟨new ++ [⟨s.length, t.1.hs, t.1.who, t.1.rule⟩], by show t.2 ++ _ = _; rw [e, List.append_assoc], fun f h => ?_⟩, ?_, ?_⟩
        · rcases List.mem_append.mp h with h | h
          · exact ⟨(hn f h).1, by have := (hn f h).2; omega⟩
          · rw [List.mem_singleton.mp h]
            exact ⟨F, Nat.le_refl _⟩
        · refine List.pairwise_append.mpr ⟨T.once, by simp, fun f hf' g hg hfg => ?_⟩
          rw [List.mem_singleton.mp hg] at hfg ⊢
          rw [e] at hf'
          rcases List.mem_append.mp hf' with h | h
          · have := List.find?_eq_none.mp hk f h
            simp only [Bool.and_eq_true, beq_iff_eq, List.all_eq_true, not_and] at this
            have := this hfg
            by_cases q : ∃ n ∈ f.ns, n ∉ t.1.hs
            · exact q
            · exfalso
              refine this fun n hn => ?_
              refine (T.q.so n ?_).1
              exact Classical.byContradiction fun z => q ⟨n, hn, z⟩
          · have := (hn f h).2
            simp only at hfg
            omega
        · show (t.2 ++ [_]).length + 1 ≤ _
          rw [List.length_append, List.length_singleton]
          omega
/-- how long a rising row is -/
theorem strict_len : ∀ (l : List Int) (lo m : Nat), strictA l → lo ≤ m → (∀ n ∈ l, lo < n.natAbs ∧ n.natAbs ≤ m) → l.length + lo ≤ m
  | [], lo, m, _, h, _ => by simpa using h
  | a :: l, lo, m, hs, h, hb => by
    unfold strictA at hs
    rw [List.pairwise_cons] at hs
    have ha := hb a List.mem_cons_self
    have := strict_len l a.natAbs m hs.2 ha.2 fun n hn => ⟨hs.1 n hn, (hb n (List.mem_cons_of_mem _ hn)).2⟩
    rw [List.length_cons]
    omega
end Dn

namespace Dn
open PySem PySem.Spec PyProof.Rows L2
section
variable {ρ : Ro} {i j n : Nat} {ds xs xs' : List D} {d a b c : D} {fs : List (Ro → Option D)} {tg : TF} {body F : SF}
theorem comp_map {α : Type} {c : Ro → Option Bool} {f : Ro → Option D} {e' w : α → D} (ys : List α) (hz : ys.length ≤ sz) (hc : ∀ a ∈ ys, c (ρ.set j (.val (e' a))) = some true) (hf : ∀ a ∈ ys, f (ρ.set j (.val (e' a))) = some (w a)) : eLc (some (ys.map e')) j c f ρ = some (.lst (ys.map w)) := by
  rw [eLc_ok (by rw [List.length_map]; exact hz), compL_map ys hc hf]
  rfl
theorem comp_filter {α : Type} {c : Ro → Option Bool} {f : Ro → Option D} {e' w : α → D} (p : α → Bool) (ys : List α) (hz : ys.length ≤ sz) (hc : ∀ a ∈ ys, c (ρ.set j (.val (e' a))) = some (p a)) (hf : ∀ a ∈ ys, p a = true → f (ρ.set j (.val (e' a))) = some (w a)) : eLc (some (ys.map e')) j c f ρ = some (.lst ((ys.filter p).map w)) := by
  rw [eLc_ok (by rw [List.length_map]; exact hz), compL_filter ys hc hf]
  rfl
def eM2 (o : Option (D × List D)) (own : Bool) (j i : Nat) (ρ : Ro) : Option Out := match o with
  | some (d, xs') => some (.nx ((ρ.set i (if own then .own xs' else .par xs')).set j (.val d)))
  | none => none
theorem eM2_own : eM2 (some (d, xs')) true j i ρ = some (.nx ((ρ.set i (.own xs')).set j (.val d))) := rfl
theorem eM2_par : eM2 (some (d, xs')) false j i ρ = some (.nx ((ρ.set i (.par xs')).set j (.val d))) := rfl
def eM1 (s : Option Slot) (ds : List D) (g : List D → List D → Option (D × List D)) (j i : Nat) (ρ : Ro) : Option Out := match s with
  | some (.own xs) => eM2 (g ds xs) true j i ρ
  | some (.par xs) => eM2 (g ds xs) false j i ρ
  | _ => none
def eM (o : Option (List D)) (g : List D → List D → Option (D × List D)) (j i : Nat) (ρ : Ro) : Option Out := match o with
  | some ds => eM1 ρ[i]? ds g j i ρ
  | none => none
theorem ev_asgM {g : List D → List D → Option (D × List D)} : asgM j i g fs ρ = eM (argsF fs ρ) g j i ρ := by
  unfold asgM eM
  cases argsF fs ρ with
  | none => rfl
  | some ds =>
    show _ = eM1 ρ[i]? ds g j i ρ
    unfold eM1 eM2
    cases ρ[i]? with
    | none => rfl
    | some s =>
      cases s with
      | own xs =>
        simp only
        cases g ds xs with
        | none => rfl
        | some r => rfl
      | par xs =>
        simp only
        cases g ds xs with
        | none => rfl
        | some r => rfl
      | _ => rfl
theorem eM_some {g : List D → List D → Option (D × List D)} : eM (some ds) g j i ρ = eM1 ρ[i]? ds g j i ρ := rfl
theorem eM1_own {g : List D → List D → Option (D × List D)} : eM1 (some (.own xs)) ds g j i ρ = eM2 (g ds xs) true j i ρ := rfl
theorem eM1_par {g : List D → List D → Option (D × List D)} : eM1 (some (.par xs)) ds g j i ρ = eM2 (g ds xs) false j i ρ := rfl
def eW1 (s : Option Slot) (ds : List D) (g : List D → List D → Option D) (j : Nat) (ρ : Ro) : Option Out := match s with
  | some (.own xs) => eAsg (g xs ds) j ρ
  | some (.par xs) => eAsg (g xs ds) j ρ
  | _ => none
def eW (o : Option (List D)) (g : List D → List D → Option D) (j i : Nat) (ρ : Ro) : Option Out := match o with
  | some ds => eW1 ρ[i]? ds g j ρ
  | none => none
theorem ev_asgW {g : List D → List D → Option D} : asgW j i g fs ρ = eW (argsF fs ρ) g j i ρ := by
  unfold asgW eW
  cases argsF fs ρ with
  | none => rfl
  | some ds =>
    show _ = eW1 ρ[i]? ds g j ρ
    unfold eW1 eAsg
    cases ρ[i]? with
    | none => rfl
    | some s => cases s <;> rfl
theorem eW_some {g : List D → List D → Option D} : eW (some ds) g j i ρ = eW1 ρ[i]? ds g j ρ := rfl
theorem eW1_own {g : List D → List D → Option D} : eW1 (some (.own xs)) ds g j ρ = eAsg (g xs ds) j ρ := rfl
theorem eW1_par {g : List D → List D → Option D} : eW1 (some (.par xs)) ds g j ρ = eAsg (g xs ds) j ρ := rfl
def eFw (s : Option Slot) (tg : TF) (body : SF) (ρ : Ro) : Option Out := match s with | some (.view ds) => loopF tg body ds ρ | _ => none
theorem ev_forW : forW i tg body ρ = eFw ρ[i]? tg body ρ := rfl
theorem eFw_view : eFw (some (.view ds)) tg body ρ = loopF tg body ds ρ := rfl
theorem initM_3 {ds : List D} : initM n [a, b, c] ds = .val a :: .val b :: .val c :: .par ds :: List.replicate (n - 3 - 1) .no := rfl
theorem initW_1 {ds : List D} : initW n ds [a] = .view ds :: .val a :: List.replicate (n - 1 - 1) .no := rfl
def eRm (o : Option Out) (k : Nat) : Option (D × List D) := match o with
  | some (.rt d ρ) => (match ρ[k]? with | some (.par fs') => some (d, fs') | _ => none)
  | _ => none
theorem ev_runM {fs : List D} : runM F n [a, b, c] fs = eRm (F (initM n [a, b, c] fs)) 3 := rfl
theorem eRm_rt {s0 s1 s2 : Slot} {fs : List D} : eRm (some (.rt d (s0 :: s1 :: s2 :: .par fs :: ρ))) 3 = some (d, fs) := rfl
theorem ev_runW {fs : List D} : runW F n fs ds = eRun (F (initW n fs ds)) := rfl
theorem gAll_bls (bs : List Bool) : gAll [.lst (bs.map D.bl)] = some (.bl (bs.all id)) := by simp [gAll, blsOf_map]
end
/-- what ended tells -/
def endD : Option (Bool × List Int) → D
  | none => .non
  | some e => .tup [.bl e.1, intsD e.2]
def wsD (ws : List (List Int)) : D := .lst (ws.map intsD)
def gameOk (m : Nat) (ws : List (List Int)) : Prop := ws.length ≤ 20 ∧ ∀ w ∈ ws, w.length ≤ 10 ∧ ∀ n ∈ w, n ≠ 0 ∧ n.natAbs ≤ m
theorem len_inOrder_ended {l : List Bool} {s : List Bool} {hs : List Int} (h1 : strictA hs) (h2 : ∀ n ∈ hs, isSo s n = true ∧ n ≠ 0) : hs.length ≤ s.length := by
  have := strict_len hs 0 s.length h1 (Nat.zero_le _) fun n hn => ⟨by have := (h2 n hn).2; omega, so_le (h2 n hn).1 (h2 n hn).2⟩
  omega
end Dn

namespace Dn
open PySem PySem.Spec PyProof.Rows L2
/-! ### list(range(n)) -/
def gListRange : D → Option D
  | .int n => if 0 ≤ n ∧ n ≤ 16777216 then some (.lst (rangeD 0 n.toNat)) else none
  | _ => none
theorem rpAll_ints {K : PySem.W.Frag} {H : Hp} {α : Type} (f : α → Int) : ∀ l : List α, RpAll K H (l.map fun i => V.int (f i)) (l.map fun i => D.int (f i))
  | [] => .nil
  | a :: l => .cons (.int _) (rpAll_ints f l)
theorem d_listRange {X : Cx} {e : Expr} {f : Ro → Option D} {p pos p2 pos2 : Pos} (hm : X.mg "list" = none) (hm2 : X.mg "range" = none) (ha : PE X e (tD X.K f)) (hc : X.calm = true := by rfl) (hg : Gl X "list" := by rfl) (hg2 : Gl X "range" := by rfl)
    (h1 : starEach [e] X.env = (false, eval e X.env) :: starEach [] X.env := by rfl) (h2 : starEach [(.Call (.Name "range" p2) [e] [] pos2 : Expr)] X.env = (false, eval (.Call (.Name "range" p2) [e] [] pos2) X.env) :: starEach [] X.env := by rfl) :
    PE X (.Call (.Name "list" p) [.Call (.Name "range" p2) [e] [] pos2] [] pos) (tD X.K (un gListRange f)) := pe_of (pe_listRg hc hg hm (prg_1 hg2 hm2 ha h1) h2) fun σ H Q h => by
  obtain ⟨ρ, Hs, d, vr, sm, hf, k⟩ := h
  unfold un at hf
  cases ha : f ρ with
  | none => rw [ha] at hf; cases hf
  | some x =>
    rw [ha] at hf
    refine ⟨ρ, Hs, x, vr, sm, ha, fun v Hs1 H1 s1 r1 => ?_⟩
    simp only at hf
    unfold gListRange at hf
    split at hf
    · rename_i n
      split at hf
      · rename_i hn
        cases hf
        cases r1
        refine ⟨n, rfl, RgOk.of_le (Int.le_refl _) hn.2 (by decide) hn.1, fun q hq => ?_⟩
        have e0 : rgV 0 n = (List.range n.toNat).map fun i : Nat => V.int (0 + (i : Int)) := by
          unfold rgV
          rw [Int.sub_zero]
        have sn := Step.new s1.i hq (.lst (rgV 0 n))
        refine k _ _ _ (s1.trans sn) (.lst upd_same ?_)
        rw [e0]
        exact rpAll_ints _ _
      · cases hf
    · cases hf
end Dn

namespace Dn
open PySem PySem.Spec PyProof.Rows L2
/-! ### enumerate of a text -/
def ItEs (x : Str) : It :=
  ⟨fun i _ => i < x.cps.size, fun i H v H' => ∃ T c, v = .ref T ∧ H T = none ∧ H' = upd H T (.tup [.int (i : Nat), .str ⟨#[c]⟩]) ∧ x.cps[i]? = some c, fun i _ => x.cps.size ≤ i⟩
theorem drawsText {prog : Program} {w : World} {A : Around} (hh : A.handled = none) (it : Addr) (x : Str) (t : Tok) :
    Draws prog w A it [it] x.cps.size (fun i v => ∃ c u, x.cps[i]? = some c ∧ v = .str ⟨#[c]⟩ u) (fun i h => h.IsStrIter it (strIterType x) x t i) := by
  unfold strIterType
  cases ha : x.cps.all (· < 128)
  · exact Draws.strWide hh it x t
  · exact Draws.strAscii hh it x t
theorem turn_enumS {P : Program} {w : World} {K : PySem.W.Frag} {elts : List Expr} {kk : Nat} {tpos : Pos} (x : Str) (t : Tok) (e it : Addr) :
    Turn P w K (.Tuple elts kk tpos) (ItEs x) [e, it] e (fun i h => i ≤ x.cps.size ∧ (∃ old, IsEnum h e it ((i : Nat) : Int) old) ∧ h.IsStrIter it (strIterType x) x t i ∧ e ≠ it) where
  mem := by simp
  obj := fun i h st b hb => by
    obtain ⟨_, ⟨old, he⟩, ⟨o, ho, hc, hd⟩, _⟩ := st
    have e' : b = e ∨ b = it := by simpa using hb
    rcases e' with z | z
    · rw [z]; exact ⟨_, he, fun v q => nomatch q⟩
    · rw [z]; exact ⟨o, ho, fun v q => by rw [hd] at q; cases q⟩
  keep := fun i h h' st k => let ⟨hi, ⟨old, he⟩, ⟨o, ho, r⟩, hne⟩ := st; ⟨hi, ⟨old, k e (by simp) _ he⟩, ⟨o, k it (by simp) o ho, r⟩, hne⟩
  item := by
    intro X hP hw hK hc i pins s σ H E I hf st hg
    subst hP hw hK
    obtain ⟨hi, ⟨old, he⟩, hit, hne⟩ := st
    have hel : e < s.heap.objs.size := Heap.lt_size he
    have hil : it < s.heap.objs.size := by obtain ⟨_, q, _⟩ := hit; exact Heap.lt_size q
    have Dr : Draws X.prog X.w X.A.in1 it [it] x.cps.size (fun i v => ∃ c u, x.cps[i]? = some c ∧ v = .str ⟨#[c]⟩ u) (fun i h => h.IsStrIter it (strIterType x) x t i) := drawsText (A := X.A.in1) (show X.A.in1.handled = none from I.ok.hd hc) it x t
    refine wpAny_pyNext_enum_itemD Dr he hit hg hne (by simpa using hne) fun v h' tk hP ho hit' hT hsz hk => ?_
    obtain ⟨c, u, hcx, rfl⟩ := hP
    refine ⟨_, rfl, wpAny_letOwnedTupleGo_enum (s := { s with heap := h', toks := tk + 1 }) ho fun h'' he' sb => ?_⟩
    have hT2 : h''.get? s.heap.objs.size = some { cls := .type "tuple", data := .seq #[.int i tk, .str ⟨#[c]⟩ u] } := (sb.2 _ (Nat.ne_of_gt hel)).trans hT
    have new : ObjOk X.prog X.w (upd H s.heap.objs.size (.tup [.int (i : Nat), .str ⟨#[c]⟩])) h'' s.heap.objs.size (.tup [.int (i : Nat), .str ⟨#[c]⟩]) :=
      ⟨by show 2 ≤ sizeLine; decide, [.int i tk, .str ⟨#[c]⟩ u], .cons ⟨_, rfl⟩ (.cons ⟨_, rfl⟩ .nil), ⟨_, hT2, rfl, _, rfl⟩⟩
    have I1 : Inv X pins σ (upd H s.heap.objs.size (.tup [.int (i : Nat), .str ⟨#[c]⟩])) { s with heap := h'', toks := tk + 1 } :=
      I.turnedNew (ch := [e, it]) (fun b ob hb q => (sb.2 b (fun z => hb (by simp [z]))).trans (hk b ob (fun z => hb (by simp [z])) (fun z => hb (by simp [z])) q)) hf (Nat.le_refl _) new
    refine ⟨.ref s.heap.objs.size, _, I1, rfl, ⟨_, c, rfl, I.hok.fresh (Nat.le_refl _), rfl, hcx⟩, ⟨hg, ⟨.str ⟨#[c]⟩ u, ?_⟩, ?_, hne⟩, fun b hb => ?_⟩
    · have e1 : ((i + 1 : Nat) : Int) = (i : Int) + 1 := by omega
      rw [e1]; exact he'
    · obtain ⟨o, q, r⟩ := hit'
      exact ⟨o, (sb.2 it (Ne.symm hne)).trans q, r⟩
    · have hb' : b < s.heap.objs.size := by
        have e' : b = e ∨ b = it := by simpa using hb
        rcases e' with z | z
        · rw [z]; exact hel
        · rw [z]; exact hil
      rw [upd_ne (Nat.ne_of_lt hb')]
      exact (hf b hb).1
  done := by
    intro X hP hw hK hc i pins s σ H E I hf st hg
    subst hP hw hK
    obtain ⟨hi, ⟨old, he⟩, hit, hne⟩ := st
    obtain ⟨f0, f1, f2, f3, f4, f5⟩ := hf it (by simp)
    have hg : x.cps.size ≤ i := hg
    have hin : i = x.cps.size := Nat.le_antisymm hi hg
    subst hin
    have Dr : Draws X.prog X.w X.A.in1 it [it] x.cps.size (fun i v => ∃ c u, x.cps[i]? = some c ∧ v = .str ⟨#[c]⟩ u) (fun i h => h.IsStrIter it (strIterType x) x t i) := drawsText (A := X.A.in1) (show X.A.in1.handled = none from I.ok.hd hc) it x t
    exact wpAny_pyNext_enum_endD Dr he hit fun h' eb => ⟨rfl, I.turned (t' := s.toks) (fun b o hb q => eb b o hb q) f0 f1 f3 f4 f5⟩
  self := fun A i s Q E st h => let ⟨_, ⟨_, he⟩, _⟩ := st; wpAny_pyIter_enum he h
def iEnumS (ta : TA) : TI := fun σ H R => ta σ H fun vs H1 => ∃ x, vs = [.str x] ∧ R (ItEs x) H1
theorem pi_enumS {X : Cx} {e : Expr} {ta : TA} {p pos tpos : Pos} {elts : List Expr} {kk : Nat} (hg : Gl X "enumerate") (hm : X.mg "enumerate" = none) (ha : PA X [e] ta) (hs : starEach [e] X.env = [(false, eval e X.env)] := by rfl) :
    PI X (.Tuple elts kk tpos) (.Call (.Name "enumerate" p) [e] [] pos) (iEnumS ta) := by
  refine ⟨fun pins s σ H R I h => ?_⟩
  refine Call_ (ld_blt I hg hm boot_enumerate (PyProof.Rows.callWith_type1 (thn (ha.run pos pins s σ H _ I h) fun us s1 ⟨vs, H1, I1, r1, q1⟩ => ?_) hs rfl))
  obtain ⟨x, ex, q⟩ := q1
  subst ex
  cases r1 with
  | cons r rr =>
    cases rr
    obtain ⟨t, rfl⟩ := r
    refine call_enumerate_str fun h' he hit hsz hk => wpAny_pyIter_enum he ?_
    have I2 : Inv X pins σ H1 { s1 with heap := h' } := I1.kept (t' := s1.toks) hk
    refine ⟨s1.heap.objs.size + 1, [s1.heap.objs.size + 1, s1.heap.objs.size], _, _, H1, rfl, I2, turn_enumS x t (s1.heap.objs.size + 1) s1.heap.objs.size, ⟨Nat.zero_le _, ⟨.none, he⟩, hit, Nat.succ_ne_self _⟩, fun b hb => ?_, q⟩
    have e' : b = s1.heap.objs.size + 1 ∨ b = s1.heap.objs.size := by simpa using hb
    have hle : s1.heap.objs.size ≤ b := by
      rcases e' with z | z
      · rw [z]; exact Nat.le_add_right _ _
      · rw [z]; exact Nat.le_refl _
    exact I1.fpOk hle (I1.hok.fresh hle)
def itemsES (f : Ro → Option D) : Ro → Option (List D) := fun ρ => match f ρ with | some (.str x) => some (enumD (Dn.signs x)) | _ => none
theorem signs_length (x : Str) : (Dn.signs x).length = x.cps.size := by
  unfold Dn.signs
  rw [List.length_map, Array.length_toList]
theorem i_enumS {X : Cx} {e : Expr} {fa : Ro → Option D} {p pos tpos : Pos} {elts : List Expr} {kk : Nat} (hm : X.mg "enumerate" = none) (ha : PE X e (tD X.K fa)) (hg : Gl X "enumerate" := by rfl) (hs : starEach [e] X.env = [(false, eval e X.env)] := by rfl) :
    PI X (.Tuple elts kk tpos) (.Call (.Name "enumerate" p) [e] [] pos) (tDI X.K (itemsES fa)) := pi_of (pi_enumS hg hm (a_cons ha a_nil hs) hs) fun σ H R h => by
  obtain ⟨ρ, Hs, ds, vr, sm, hf, k⟩ := h
  unfold itemsES at hf
  split at hf
  · rename_i x hx
    cases hf
    refine ⟨ρ, Hs, [.str x], vr, sm, by unfold argsF; rw [hx] <;> rfl, fun vs Hs1 H1 s1 r1 => ?_⟩
    obtain ⟨v, rfl, rv⟩ := r1.one
    cases rv
    have hl : (enumD (Dn.signs x)).length = x.cps.size := by
      unfold enumD
      rw [pairsD_length, List.length_map, List.length_range, Nat.min_self, signs_length]
    refine ⟨x, rfl, k _ Hs1 H1 s1 ⟨fun i H2 sm2 hi => ?_, fun i H2 sm2 hi => ?_, fun i Hsi H2 y H3 d sma smb hd yy => ?_⟩⟩
    · rw [hl] at hi
      exact hi
    · rw [hl] at hi
      exact hi
    · obtain ⟨T, c, e1, e2, e3, g1⟩ := yy
      subst e1
      subst e3
      obtain ⟨x1, y1, k1, k2, rfl⟩ := pairsD_get hd
      have hi : i < (Dn.signs x).length := (List.getElem?_eq_some_iff.mp k2).1
      rw [List.getElem?_map, List.getElem?_range hi] at k1
      cases k1
      unfold Dn.signs at k2
      rw [List.getElem?_map, Array.getElem?_toList, g1] at k2
      cases k2
      have sn := Step.new smb e2 (.tup [.int (i : Nat), .str ⟨#[c]⟩])
      exact ⟨_, sn, .tup upd_same (.cons (.int _) (.cons (.str _) .nil))⟩
  · cases hf
theorem ev_itES {f : Ro → Option D} {ρ : Ro} : itemsES f ρ = (match f ρ with | some (.str x) => some (enumD (Dn.signs x)) | _ => none) := rfl
end Dn
namespace Dn
open PySem PySem.Spec PyProof.Rows L2
/-! ### text * number -/
theorem fold_rep (a : Array Nat) : ∀ (k : Nat) (b : Array Nat), (List.replicate k a).foldl (· ++ ·) b = b ++ ((List.replicate k a.toList).flatten).toArray
  | 0, b => by simp
  | k + 1, b => by
    rw [List.replicate_succ, List.foldl_cons, fold_rep a k (b ++ a), List.replicate_succ, List.flatten_cons]
    apply Array.ext'
    simp
theorem fold_size (a : Array Nat) (k : Nat) : ((List.replicate k a).foldl (· ++ ·) #[]).size = k * a.size := by
  rw [fold_rep]
  simp
theorem op_rep_str {X : Cx} : OpR X (binaryOp .Mult) (fun x y H Q => ∃ i n, x = .str i ∧ y = .int n ∧ 2 ≤ n ∧ n ≤ 1000 ∧ 1 ≤ i.length ∧ i.length ≤ 1000 ∧ Q (.str ⟨(List.replicate n.toNat i.cps).foldl (· ++ ·) #[]⟩) H) := by
  intro pins s σ H x y v u Q I rx ry h
  obtain ⟨i, n, rfl, rfl, h2, h3, h4, h5, q⟩ := h
  obtain ⟨t, rfl⟩ := rx
  obtain ⟨t', rfl⟩ := ry
  have hz : i.length * n.toNat ≤ 1000 * 1000 := Nat.mul_le_mul h5 (by omega)
  refine P.mul_str (by
      have a1 : ¬ n < -(2 ^ 63) := by omega
      have a2 : ¬ n ≥ 2 ^ 63 := by omega
      rw [decide_eq_false a1, decide_eq_false a2]; rfl) (fun _ _ => ?_) (fun _ _ => ?_) ?_
  · have : (1000 : Int) ≤ (2 ^ 63 - 1) / n := by
      rw [Int.le_ediv_iff_mul_le (by omega)]
      omega
    omega
  · unfold Builtin.Str.tooLong
    rw [decide_eq_false]
    rw [sizeLine_eq]
    omega
  · rw [if_neg (by omega), if_neg]
    · refine ⟨?_, ⟨.str _, H, I.tok _, ⟨_, rfl⟩, q⟩⟩
      show ((List.replicate n.toNat i.cps).foldl (· ++ ·) #[]).size ≤ _
      rw [fold_size, sizeLine_eq, Nat.mul_comm]
      exact Nat.le_trans hz (by decide)
    · simp
      omega
def gMulS : D → D → Option D
  | .str x, .int n => if (2 ≤ n ∧ n ≤ 1000) ∧ 1 ≤ x.length ∧ x.length ≤ 1000 then some (.str ⟨(List.replicate n.toNat x.cps).foldl (· ++ ·) #[]⟩) else none
  | _, _ => none
theorem d_mulS {X : Cx} {a b : Expr} {fa fb : Ro → Option D} {pos : Pos} (ha : PE X a (tD X.K fa)) (hb : PE X b (tD X.K fb)) : PE X (.BinOp a .Mult b pos) (tD X.K (biF gMulS fa fb)) := d_op op_rep_str (fun Hs H x y dx dy d Q sm rx ry hg k => by
  unfold gMulS at hg
  split at hg
  · split at hg
    · rename_i hc
      cases hg
      cases rx
      cases ry
      exact ⟨_, _, rfl, rfl, hc.1.1, hc.1.2, hc.2.1, hc.2.2, k _ Hs H (Step.refl sm) (.str _)⟩
    · cases hg
  · cases hg) ha hb
theorem mulS_ch (b : Bool) (n : Int) (h : 2 ≤ n ∧ n ≤ 1000) : gMulS (.str (ch b)) (.int n) = some (.str (txt (List.replicate n.toNat b))) := by
  have hl : (ch b).length = 1 := rfl
  show (if (2 ≤ n ∧ n ≤ 1000) ∧ 1 ≤ (ch b).length ∧ (ch b).length ≤ 1000 then some (D.str ⟨(List.replicate n.toNat (ch b).cps).foldl (· ++ ·) #[]⟩) else none) = _
  rw [if_pos ⟨h, by rw [hl]; exact Nat.le_refl _, by rw [hl]; decide⟩, fold_rep]
  congr 2
  unfold txt
  congr 1
  show #[] ++ ((List.replicate n.toNat [cp b]).flatten).toArray = _
  simp
end Dn

namespace Dn
open PySem PySem.Spec PyProof.Rows L2
/-! ### a loop through a list that is handed on; the loop leaves it -/
open Classical in
noncomputable def loopP (i : Nat) (ds0 : List D) (tg : TF) (body : SF) : List D → SF
  | [], ρ => some (.nx ρ)
  | d :: ds, ρ => if ρ[i]? = some (.par ds0) then (match tg d ρ with
    | none => none
    | some ρ1 => match body ρ1 with
      | some (.nx ρ2) => loopP i ds0 tg body ds ρ2
      | some (.ct ρ2) => loopP i ds0 tg body ds ρ2
      | some (.bk ρ2) => some (.nx ρ2)
      | some (.rt d ρ2) => some (.rt d ρ2)
      | some (.ex c) => some (.ex c)
      | none => none) else none
open Classical in
noncomputable def forP (i : Nat) (tg : TF) (body : SF) : SF := fun ρ => match ρ[i]? with
  | some (.par ds) => (match loopP i ds tg body ds ρ with
    | some (.nx ρ2) => if ρ2[i]? = some (.par ds) then some (.nx ρ2) else none
    | o => o)
  | _ => none
section
variable {K : PySem.W.Frag} {xw : String → Hp → Prop} {F : SF} {i : Nat}
open Classical in
theorem tDS_forP {g : TG} {tg : TF} (hg : TGok K g tg) : ∀ (E : Ends) (σ : L2.St) (H : Hp), tDS K xw (forP i tg F) E σ H → tFor (iList K (tVar i)) g (tDS K xw F) E σ H := fun E σ H h => by
  obtain ⟨P, Hs0, H0, Hs, ρ, o, sr, hf, fin⟩ := h
  unfold forP at hf
  split at hf
  · rename_i ds hds
    obtain ⟨l, xs, hP, h1, h2, h3, h4, h6⟩ := sr.par i ds hds
    have hfin : ∃ o', loopP i ds tg F ds ρ = some o' ∧ Fin K xw P Hs0 H0 E o' ∧ (∀ ρ2, o' = .nx ρ2 → ρ2[i]? = some (.par ds)) := by
      split at hf
      · rename_i ρ2 hl
        split at hf
        · rename_i hp
          cases hf
          exact ⟨_, hl, fin, fun ρ3 e => by cases e; exact hp⟩
        · cases hf
      · rename_i hno
        cases o with
        | nx ρ2 => exact absurd hf (hno ρ2)
        | rt d r => exact ⟨_, hf, fin, fun _ e => nomatch e⟩
        | bk r => exact ⟨_, hf, fin, fun _ e => nomatch e⟩
        | ct r => exact ⟨_, hf, fin, fun _ e => nomatch e⟩
        | ex c => exact ⟨_, hf, fin, fun _ e => nomatch e⟩
    obtain ⟨o', hl0, fin', hkeep⟩ := hfin
    refine ⟨.ref l, h1, l, rfl, ⟨xs, SqL.of h2⟩, ?_⟩
    refine ⟨fun j m σ H => m = ds.length - j ∧ j ≤ ds.length ∧ ∃ Hs1 ρ, SR K P Hs0 H0 Hs1 H σ ρ ∧ Same Hs Hs1 ∧ loopP i ds tg F (ds.drop j) ρ = some o', ⟨_, rfl, Nat.zero_le _, Hs, ρ, sr, Same.refl _, hl0⟩, ?_⟩
    rintro j m σ2 H2 ⟨rfl, hj, Hs2, ρ2, sr2, sm2, hl⟩
    by_cases hlt : j < ds.length
    · rw [List.drop_eq_getElem_cons hlt] at hl
      unfold loopP at hl
      split at hl
      · rename_i hpar
        obtain ⟨l2, xs2, g0, g1, g2, g3, g4, g6⟩ := sr2.par i ds hpar
        have el : l2 = l := by rw [hP] at g0; cases g0; rfl
        subst el
        have hi' : j < xs2.length := by rw [g6.length]; exact hlt
        refine .inr ⟨⟨xs2, xs2[j], SqL.of g2, List.getElem?_eq_getElem hi'⟩, fun σ H => j + 1 ≤ ds.length ∧ ∃ Hs1 ρ, SR K P Hs0 H0 Hs1 H σ ρ ∧ Same Hs Hs1 ∧ loopP i ds tg F (ds.drop (j + 1)) ρ = some o', fun σ' H' q => ⟨ds.length - (j + 1), by omega, rfl, q.1, q.2⟩, fun x H3 y => ?_⟩
        obtain ⟨e1, y⟩ := y
        subst e1
        obtain ⟨v, hv, rx⟩ := g6.get (List.getElem?_eq_getElem hlt)
        have e2 := (y xs2 (SqL.of g2)).symm.trans hv
        cases e2
        split at hl
        · cases hl
        · rename_i ρ3 ht
          refine hg P Hs0 H0 Hs2 H3 σ2 ρ2 ρ3 x _ _ sr2 rx ht fun σ4 sr4 => ?_
          have rb := sr4.rebase
          have again : ∀ {σ5 : L2.St} {Hs5 H5 : Hp} {ρ5 : Ro}, SR K P Hs2 H0 Hs5 H5 σ5 ρ5 → loopP i ds tg F (ds.drop (j + 1)) ρ5 = some o' → j + 1 ≤ ds.length ∧ ∃ Hs1 ρ, SR K P Hs0 H0 Hs1 H5 σ5 ρ ∧ Same Hs Hs1 ∧ loopP i ds tg F (ds.drop (j + 1)) ρ = some o' := fun {σ5 Hs5 H5 ρ5} s5 h5 =>
            ⟨hlt, Hs5, ρ5, sr4.unbase s5, sm2.trans s5.st.s, h5⟩
          split at hl
          · rename_i ρ5 hb
            exact ⟨P, Hs2, H0, Hs2, ρ3, _, rb, hb, fun σ5 Hs5 H5 s5 => again s5 hl⟩
          · rename_i ρ5 hb
            exact ⟨P, Hs2, H0, Hs2, ρ3, _, rb, hb, fun σ5 Hs5 H5 s5 => again s5 hl⟩
          · rename_i ρ5 hb
            cases hl
            exact ⟨P, Hs2, H0, Hs2, ρ3, _, rb, hb, fun σ5 Hs5 H5 s5 => fin' _ _ _ (sr4.unbase s5)⟩
          · rename_i d5 ρ5 hb
            cases hl
            exact ⟨P, Hs2, H0, Hs2, ρ3, _, rb, hb, fun v σ5 Hs5 H5 s5 q => fin' _ _ _ _ (sr4.unbase s5) q⟩
          · rename_i c5 hb
            cases hl
            exact ⟨P, Hs2, H0, Hs2, ρ3, _, rb, hb, (Fin.rebase (E := E) (o := .ex c5) sr4 fin' : Fin K xw P Hs2 H0 E (.ex c5))⟩
          · cases hl
      · cases hl
    · have e1 : j = ds.length := by omega
      subst e1
      rw [List.drop_length] at hl
      cases hl
      have hpar := hkeep ρ2 rfl
      obtain ⟨l2, xs2, g0, g1, g2, g3, g4, g6⟩ := sr2.par i ds hpar
      have el : l2 = l := by rw [hP] at g0; cases g0; rfl
      subst el
      exact .inl ⟨⟨xs2, SqL.of g2, by rw [g6.length]; exact Nat.le_refl _⟩, fin' _ _ _ sr2⟩
  · cases hf
end
section
variable {X : Cx} {xw : String → Hp → Prop} {body : List Stmt} {F : SF} {e : Expr} {pos : Pos}
theorem s_forP {tg : Expr} {g : TG} {t : TF} {i : Nat} (hp : PassesOwn (model X.prog X.w) X.A X.env X.xe) (hc : X.calm = true) (hv : PE X e (tVar i)) (hg : PG X tg g) (hgt : TGok X.K g t) (hb : PSs X body (tDS X.K xw F))
    (hs : ∀ x, foldedSetIterable e X.env x = pure x := by intro _; rfl) : PS X (.For tg e body [] pos) (tDS X.K xw (forP i t F)) := ps_of (ps_for hp hc (pi_list hv) hg hb hs) (tDS_forP hgt)
end
section
variable {PP : Program} {w : World} {K : PySem.W.Frag} {mg : Str → Option Value} {base : Heap} {a : Addr} {fd : FuncData}
theorem def_zero {name : Str} {st : Stmt} {ps : List Str} {k n : Nat} (T : Top K mg name st ps a fd) (hn : ps.length = n) : DefOk PP w K mg base k name ps n (fun _ => none) a fd :=
  ⟨⟨fun vs H Q E h => by rw [hn]; exact h.1, fun A outer s H args us vs Q E hr he hb hv h => by
    obtain ⟨_, Hs, ds, d, _, _, hg, _⟩ := h
    cases hg⟩, T.m, T.fn.kp, T.b⟩
end
end Dn

namespace Dn
open PySem PySem.Spec PyProof.Rows L2
/-! ### texts: join, split, str(int), int(text) -/
def gJoin : D → D → Option D
  | .str a, .lst ds => (match strsOf ds with
    | some ys => if (ys.map (·.length)).sum + ys.length * a.length ≤ sz then some (.str (Txt.join a ys)) else none
    | none => none)
  | _, _ => none
def gSplit : D → D → Option D
  | .str a, .str b => if (b.length == 0) = false ∧ a.length + 2 ≤ sz then some (.lst ((Txt.split a b).map D.str)) else none
  | _, _ => none
def gStr : List D → Option D
  | [.int i] => if i.natAbs.log2 < 1920 then some (.str (Str.ofString (toString i))) else none
  | _ => none
def gIntS : List D → Option D
  | [.str a] => (match PySem.intText? a with | some n => if a.length ≤ 640 then some (.int n) else none | none => none)
  | _ => none
theorem rpAll_strs {K : PySem.W.Frag} {H : Hp} : ∀ ys : List Str, RpAll K H (ys.map V.str) (ys.map D.str)
  | [] => .nil
  | y :: ys => .cons (.str _) (rpAll_strs ys)
theorem rpAll_strs_inv {K : PySem.W.Frag} {H : Hp} : ∀ {vs : List V} {ys : List Str}, RpAll K H vs (ys.map D.str) → vs = ys.map V.str
  | _, [], .nil => rfl
  | _, y :: ys, .cons r rs => by
    cases r
    rw [rpAll_strs_inv rs]
    rfl
theorem d_join {X : Cx} {o e : Expr} {fa fb : Ro → Option D} {apos cpos : Pos} (ha : PE X o (tD X.K fa)) (hb : PE X e (tD X.K fb))
    (hbase : attributeBase o "join" X.env (eval o X.env) = eval o X.env := by rfl)
    (hfew : ((backTo cpos (starEach [e] X.env)).all (fun x => !x.1) && (backToKw cpos (keywordEach [] X.env)).all (fun x => x.1.isSome)
      && decide ([e].length + ([] : List Keyword).length + (if ([] : List Keyword).isEmpty then 0 else 1) < 30)) = true := by rfl)
    (hline : (apos.endLine == cpos.line) = true := by rfl) (hs : starEach [e] X.env = (false, eval e X.env) :: starEach [] X.env := by rfl) (hplain : (backTo cpos (starEach [] X.env)).any (·.1) = false := by rfl) :
    PE X (.Call (.Attribute o "join" apos) [e] [] cpos) (tD X.K (biF gJoin fa fb)) := pe_of (pe_bm PySem.F.plainAttrs_str PySem.F.slot_str_join PySem.F.type_str_join mt_join ha (pa_cons hb pa_nil hs) hbase hfew hline hs hplain) fun σ H Q h => by
  obtain ⟨ρ, Hs, d, vr, sm, hf, k⟩ := h
  unfold biF at hf
  cases ha : fa ρ with
  | none => rw [ha] at hf; cases hf
  | some x =>
    cases hb : fb ρ with
    | none => rw [ha, hb] at hf; cases hf
    | some y =>
      rw [ha, hb] at hf
      simp only at hf
      unfold gJoin at hf
      split at hf
      · rename_i a ds
        split at hf
        · rename_i ys hys
          split at hf
          · rename_i hz
            cases hf
            refine ⟨ρ, Hs, _, vr, sm, ha, fun v Hs1 H1 s1 r1 => ?_⟩
            cases r1
            refine ⟨rfl, ρ, Hs1, _, vr.mono s1.s, s1.i, hb, fun u Hs2 H2 s2 r2 => ?_⟩
            cases r2
            rename_i p xs h1 r2
            have e := strsOf_eq hys
            subst e
            have e2 := rpAll_strs_inv r2
            subst e2
            exact ⟨a, p, ys, rfl, rfl, .inl (SqL.of (s2.i _ _ h1)), hz, k _ Hs2 H2 (s1.trans s2) (.str _)⟩
          · cases hf
        · cases hf
      · cases hf
theorem d_split {X : Cx} {o e : Expr} {fa fb : Ro → Option D} {apos cpos : Pos} (ha : PE X o (tD X.K fa)) (hb : PE X e (tD X.K fb))
    (hbase : attributeBase o "split" X.env (eval o X.env) = eval o X.env := by rfl)
    (hfew : ((backTo cpos (starEach [e] X.env)).all (fun x => !x.1) && (backToKw cpos (keywordEach [] X.env)).all (fun x => x.1.isSome)
      && decide ([e].length + ([] : List Keyword).length + (if ([] : List Keyword).isEmpty then 0 else 1) < 30)) = true := by rfl)
    (hline : (apos.endLine == cpos.line) = true := by rfl) (hs : starEach [e] X.env = (false, eval e X.env) :: starEach [] X.env := by rfl) (hplain : (backTo cpos (starEach [] X.env)).any (·.1) = false := by rfl) :
    PE X (.Call (.Attribute o "split" apos) [e] [] cpos) (tD X.K (biF gSplit fa fb)) := pe_of (pe_bm PySem.F.plainAttrs_str PySem.F.slot_str_split PySem.F.type_str_split mt_split ha (pa_cons hb pa_nil hs) hbase hfew hline hs hplain) fun σ H Q h => by
  obtain ⟨ρ, Hs, d, vr, sm, hf, k⟩ := h
  unfold biF at hf
  cases ha : fa ρ with
  | none => rw [ha] at hf; cases hf
  | some x =>
    cases hb : fb ρ with
    | none => rw [ha, hb] at hf; cases hf
    | some y =>
      rw [ha, hb] at hf
      simp only at hf
      unfold gSplit at hf
      split at hf
      · rename_i a b
        split at hf
        · rename_i hc
          cases hf
          refine ⟨ρ, Hs, _, vr, sm, ha, fun v Hs1 H1 s1 r1 => ?_⟩
          cases r1
          refine ⟨rfl, ρ, Hs1, _, vr.mono s1.s, s1.i, hb, fun u Hs2 H2 s2 r2 => ?_⟩
          cases r2
          refine ⟨a, b, rfl, rfl, hc.1, sz_le hc.2, fun q hq => ?_⟩
          have sn := Step.new s2.i hq (.lst ((Txt.split a b).map V.str))
          exact k _ _ _ ((s1.trans s2).trans sn) (.lst upd_same (rpAll_strs _))
        · cases hf
      · cases hf
theorem c_str {K : PySem.W.Frag} : C1ok K (fun xs H Q => ∃ i, xs = [.int i] ∧ i.natAbs.log2 < 1920 ∧ Q (.str (toString i)) H) gStr := fun Hs H vs ds d Q sm r hg k => by
  unfold gStr at hg
  split at hg
  · split at hg
    · rename_i hc
      cases hg
      obtain ⟨v, rfl, rv⟩ := r.one
      cases rv
      exact ⟨_, rfl, hc, k _ Hs H (Step.refl sm) (.str _)⟩
    · cases hg
  · cases hg
theorem c_intS {K : PySem.W.Frag} : C1ok K (fun xs H Q => ∃ a n, xs = [.str a] ∧ PySem.intText? a = some n ∧ a.length ≤ 640 ∧ Q (.int n) H) gIntS := fun Hs H vs ds d Q sm r hg k => by
  unfold gIntS at hg
  split at hg
  · split at hg
    · rename_i n hn
      split at hg
      · rename_i hc
        cases hg
        obtain ⟨v, rfl, rv⟩ := r.one
        cases rv
        exact ⟨_, _, rfl, hn, hc, k _ Hs H (Step.refl sm) (.int _)⟩
      · cases hg
    · cases hg
  · cases hg
section
variable {X : Cx} {e : Expr} {f : Ro → Option D} {pos p : Pos}
theorem d_strI (hm : X.mg "str" = none) (ha : PE X e (tD X.K f)) (hg : Gl X "str" := by rfl) (h1 : starEach [e] X.env = (false, eval e X.env) :: starEach [] X.env := by rfl)
    (hpl : (backTo pos (starEach [] X.env)).any (·.1) = false := by rfl) : PE X (.Call (.Name "str" p) [e] [] pos) (tD X.K (callF gStr [f])) := d_callTy call_str_int c_str hm (by decide +kernel) (a_cons ha a_nil h1) hg (by decide) (by decide) h1 hpl
theorem d_intS (hm : X.mg "int" = none) (ha : PE X e (tD X.K f)) (hg : Gl X "int" := by rfl) (h1 : starEach [e] X.env = (false, eval e X.env) :: starEach [] X.env := by rfl)
    (hpl : (backTo pos (starEach [] X.env)).any (·.1) = false := by rfl) : PE X (.Call (.Name "int" p) [e] [] pos) (tD X.K (callF gIntS [f])) := d_callTy call_int_str c_intS hm (by decide +kernel) (a_cons ha a_nil h1) hg (by decide) (by decide) h1 hpl
end
end Dn

namespace Dn
open PySem PySem.Spec PyProof.Rows L2
/-! ### exceptions: what a def that may raise hands back -/
inductive Res where
  | val (d : D) | exc (c : String)
/-- the classes that are raised -/
def exs : List String := ["BadGame", "BadRow", "BadText"]
/-- is an error of the class c one of the class n -/
def ism (c n : String) : Bool := decide (c = n) || decide (n = "WishError")
def RsOk (K : PySem.W.Frag) (Hs H : Hp) (Q : VK) (x : String → Hp → Prop) : Res → Prop
  | .val d => ∀ v Hs' H', Step Hs H Hs' H' → Rp K Hs' v d → Q v H'
  | .exc c => ∀ Hs' H', Step Hs H Hs' H' → x c H'
theorem RsOk.from {K : PySem.W.Frag} {Hs H Hs1 H1 : Hp} {Q : VK} {x : String → Hp → Prop} {r : Res} (h : RsOk K Hs H Q x r) (s : Step Hs H Hs1 H1) : RsOk K Hs1 H1 Q x r := by
  cases r with
  | val d => exact fun v Hs2 H2 s2 r2 => h v Hs2 H2 (s.trans s2) r2
  | exc c => exact fun Hs2 H2 s2 => h Hs2 H2 (s.trans s2)
def tDX (K : PySem.W.Frag) (xs : String → L2.St → Hp → Prop) (f : Ro → Option Res) : TE := fun σ H Q => ∃ ρ Hs r, VR K Hs σ ρ ∧ Same Hs H ∧ f ρ = some r ∧ RsOk K Hs H Q (fun c H' => xs c σ H') r
def spX (K : PySem.W.Frag) (ec : String → Addr) (n : Nat) (g : List D → Option Res) : Sp := fun vs H Q E => vs.length = n ∧ ∃ Hs ds r, Same Hs H ∧ RpAll K Hs vs ds ∧ g ds = some r ∧ RsOk K Hs H Q (fun c H' => E (.ref (ec c)) none H') r
def runX (F : SF) (n : Nat) (ds : List D) : Option Res := match F (initR n ds) with
  | some (.rt d _) => some (.val d)
  | some (.nx _) => some (.val .non)
  | some (.ex c) => some (.exc c)
  | _ => none
abbrev xwE (ec : String → Addr) (E : XK) : String → Hp → Prop := fun c H => E (.ref (ec c)) none H
theorem ok_ofX {PP : Program} {w : World} {K : PySem.W.Frag} {mg : Str → Option Value} {base : Heap} {x qual : Str} {st : Stmt} {f : Addr} {fd : FuncData} {N ps : List Str} {k : Nat} {F : SF} {ec : String → Addr} (Fu : Fun K x qual st f fd) (S : FnScope N ps (defScope st))
    (hbody : ∀ (cdv : Value) (A : Around) (outer : List Env) (s : Shared) (H : Hp) (E : XK), Room k (A.deeper (envOfC qual (defScope st) s.heap.objs.size f cdv)) →
      PSs (cxOf (L2.CX PP w) PP w K mg base N qual (defScope st) f cdv A outer s H E) (defBody st) (tDS K (xwE ec E) F)) : FnOk PP w K mg base (L2.CX PP w) (k + 1) f fd ps (spX K ec ps.length (runX F N.length)) := by
  refine Fun.okX Fu S (fun vs H Q E h => h.1) fun cdv A outer s H vs Q E hr h => ⟨_, hbody cdv A outer s H E hr, ?_⟩
  obtain ⟨_, Hs, ds, d, sm, r, hg, k⟩ := h
  unfold runX at hg
  split at hg
  · rename_i d' ρ' ho
    cases hg
    exact ⟨none, Hs, H, Hs, _, _, SR.start sm r, ho, fun v σ Hs' H' sr q => k v Hs' H' sr.st q⟩
  · rename_i ρ' ho
    cases hg
    exact ⟨none, Hs, H, Hs, _, _, SR.start sm r, ho, fun σ Hs' H' sr => k _ Hs' H' sr.st .non⟩
  · rename_i c ho
    cases hg
    exact ⟨none, Hs, H, Hs, _, _, SR.start sm r, ho, fun Hs' H' st => k Hs' H' st⟩
  · cases hg
structure DefOkX (PP : Program) (w : World) (K : PySem.W.Frag) (mg : Str → Option Value) (base : Heap) (ec : String → Addr) (k : Nat) (name : Str) (ps : List Str) (n : Nat) (g : List D → Option Res) (a : Addr) (fd : FuncData) : Prop where
  ok : FnOk PP w K mg base (L2.CX PP w) k a fd ps (spX K ec n g)
  m : mg name = some (.ref a)
  kp : PySem.W.keepIn K (.ref a) = true
  b : Binds K fd ps []
theorem defX_of {PP : Program} {w : World} {K : PySem.W.Frag} {mg : Str → Option Value} {base : Heap} {a : Addr} {fd : FuncData} {ec : String → Addr} {name : Str} {st : Stmt} {N ps : List Str} {k : Nat} {F : SF} (T : Top K mg name st ps a fd) (S : FnScope N ps (defScope st))
    (hbody : ∀ (cdv : Value) (A : Around) (outer : List Env) (s : Shared) (H : Hp) (E : XK), Room k (A.deeper (envOfC name (defScope st) s.heap.objs.size a cdv)) →
      PSs (cxOf (L2.CX PP w) PP w K mg base N name (defScope st) a cdv A outer s H E) (defBody st) (tDS K (xwE ec E) F)) : DefOkX PP w K mg base ec (k + 1) name ps ps.length (runX F N.length) a fd :=
  ⟨ok_ofX T.fn S hbody, T.m, T.fn.kp, T.b⟩
/-- in a def that may raise: what leaves it is what its promise's last letter says -/
theorem tk_def {CXT0 : Unit} {PP : Program} {w : World} {K : PySem.W.Frag} {mg : Str → Option Value} {base : Heap} {N : List Str} {qual : Str} {scope : Scope} {f : Addr} {cdv : Value} {A : Around} {outer : List Env} {s : Shared} {H : Hp} {E : XK} :
    Takes (cxOf (L2.CX PP w) PP w K mg base N qual scope f cdv A outer s H E) (fun cls d _ H => E cls d H) := takes_of rfl rfl rfl rfl
/-! ### the facts of the classes -/
structure ExOk (K : PySem.W.Frag) (mg : Str → Option Value) (ec : String → Addr) : Prop where
  gm : ∀ c ∈ "WishError" :: exs, mg (Str.ofString c) = some (.ref (ec c))
  own : ∀ c ∈ exs, PySem.W.excIn K (ec c) [.type "ValueError", .type "Exception", .type "BaseException", .type "object"] "ValueError.__new__" = true ∧ PySem.W.keepIn K (.ref (ec c)) = true ∧ PySem.W.subIn K (.ref (ec c)) (.type "BaseException") = some true ∧ PySem.W.typeIn K (.ref (ec c)) = some (.type "type")
  exm : ∀ c ∈ exs, ∀ n ∈ "WishError" :: exs, PySem.W.exmOne K (.ref (ec c)) (.ref (ec n)) = some (ism c n)
  kit : ∀ c ∈ exs, ∀ n ∈ "WishError" :: exs, PySem.W.kitOne K (.ref (ec c)) (.ref (ec n)) = some (ism c n)
  kitV : ∀ c ∈ exs, PySem.W.kitOne K (.ref (ec c)) (.type "ValueError") = some true
  ecc : ∀ c ∈ exs, ExcC K (ec c)
theorem kit_own {K : PySem.W.Frag} {D C : Addr} {b : Bool} (h2 : PySem.W.isClsIn K C = true) (h3 : PySem.W.typeIn K (.ref C) = some (.type "type")) (hs : PySem.W.subIn K (.ref C) (.ref C) = some true) (h4 : PySem.W.subIn K (.ref D) (.ref C) = some b) : PySem.W.kitOne K (.ref D) (.ref C) = some b := by
  unfold PySem.W.kitOne
  by_cases e : ((Value.ref D : Value) == Value.ref C) = true
  · rw [if_pos e]
    have e' : D = C := Value.ref.inj (beq_iff_eq.mp e)
    subst e'
    exact hs.symm.trans h4
  · rw [if_neg e]
    have h2' : (PySem.W.clsIn K C).isSome = true := h2
    show (if ((PySem.W.clsIn K C).isSome && PySem.W.typeIn K (.ref C) == some (.type "type")) = true then PySem.W.subIn K (.ref D) (.ref C) else none) = some b
    rw [h2', h3]
    exact h4
theorem exm_own {K : PySem.W.Frag} {D C : Addr} {b : Bool} (h1 : PySem.W.subIn K (.ref C) (.type "BaseException") = some true) (h2 : PySem.W.isClsIn K C = true) (h3 : PySem.W.typeIn K (.ref C) = some (.type "type")) (h4 : PySem.W.subIn K (.ref D) (.ref C) = some b) : PySem.W.exmOne K (.ref D) (.ref C) = some b := by
  have h2' : (PySem.W.clsIn K C).isSome = true := h2
  show (if (PySem.W.subIn K (.ref C) (.type "BaseException") == some true) = true then (if ((PySem.W.clsIn K C).isSome && PySem.W.typeIn K (.ref C) == some (.type "type")) = true then PySem.W.subIn K (.ref D) (.ref C) else none) else none) = some b
  rw [h1, h2', h3]
  exact h4
theorem kit_val {K : PySem.W.Frag} {D : Addr} (h4 : PySem.W.subIn K (.ref D) (.type "ValueError") = some true) : PySem.W.kitOne K (.ref D) (.type "ValueError") = some true := by
  unfold PySem.W.kitOne
  rw [if_neg (by simp)]
  show (if PySem.W.kitMeta "ValueError" = true then PySem.W.subIn K (.ref D) (.type "ValueError") else none) = some true
  rw [if_pos (by decide +kernel)]
  exact h4
/-! ### rules -/
def raiseF (c : String) : SF := fun _ => some (.ex c)
def callX (g : List D → Option Res) (fs : List (Ro → Option D)) : Ro → Option Res := fun ρ => match argsF fs ρ with | some ds => g ds | none => none
def exprX (f : Ro → Option Res) : SF := fun ρ => match f ρ with | some (.val _) => some (.nx ρ) | some (.exc c) => some (.ex c) | none => none
def asgX (i : Nat) (f : Ro → Option Res) : SF := fun ρ => match f ρ with | some (.val d) => some (.nx (ρ.set i (.val d))) | some (.exc c) => some (.ex c) | none => none
def retX (f : Ro → Option Res) : SF := fun ρ => match f (frzA ρ) with | some (.val d) => some (.rt d (frzA ρ)) | some (.exc c) => some (.ex c) | none => none
/-- of an expression that raises: by which class -/
def excX (f : Ro → Option Res) : Ro → Option String := fun ρ => match f ρ with | some (.exc c) => some c | _ => none
def ifX (f : Ro → Option String) : SF := fun ρ => match f (borA ρ) with | some c => some (.ex c) | none => none
/-- a reading that never comes through -/
def tEX (K : PySem.W.Frag) (xs : String → L2.St → Hp → Prop) (f : Ro → Option String) : TE := fun σ H _ => ∃ ρ Hs c, VR K Hs σ ρ ∧ Same Hs H ∧ f ρ = some c ∧ ∀ Hs' H', Step Hs H Hs' H' → xs c σ H'
def tEXT (K : PySem.W.Frag) (xs : String → L2.St → Hp → Prop) (f : Ro → Option String) : TT := fun σ H _ => ∃ ρ Hs c, VR K Hs σ ρ ∧ Same Hs H ∧ f ρ = some c ∧ ∀ Hs' H', Step Hs H Hs' H' → xs c σ H'
def valO (g : List D → Option Res) : List D → Option D := fun ds => match g ds with | some (.val d) => some d | _ => none
section
variable {X : Cx} {ec : String → Addr} {W : WX} {E : XK} {e : Expr} {es : List Expr} {fs : List (Ro → Option D)} {f : Ro → Option Res} {fc : Ro → Option String} {pos pos' p p2 : Pos} {x : Str} {a : Addr} {fd : FuncData} {F G : SF} {xw : String → Hp → Prop}
theorem s_raise (c : String) {m : Str} {j : Nat} (C : ExOk X.K X.mg ec) (hm : c ∈ exs) (hx : x = Str.ofString c) (hc : X.calm = true) (tk : Takes X (fun cls d _ H => E cls d H)) (hg : Gl X x := by rfl)
    (hdb : (x == ("__debug__" : Str)) = false := by decide) : PS X (.Raise (some (.Call (.Name x p) [.Constant (.str m) j p2] [] pos)) none pos') (tDS X.K (xwE ec E) (raiseF c)) := by
  obtain ⟨h1, h2, h3, h4⟩ := C.own c hm
  have gC : X.mg x = some (.ref (ec c)) := by rw [hx]; exact C.gm c (List.mem_cons_of_mem _ hm)
  refine ps_of (ps_raise hc tk (pmk_own PySem.F.excBase_ValueError h1 gC h2 (raises_own h3 h4) hg hdb)) fun D σ H h => ?_
  obtain ⟨P, Hs0, H0, Hs, ρ, o, sr, hf, fin⟩ := h
  cases hf
  exact fin Hs H sr.st
/-- a call of a def that may raise -/
theorem d_callX {k k' n : Nat} {ps : List Str} {g : List D → Option Res} (Df : DefOkX X.prog X.w X.K X.mg X.base ec k x ps n g a fd) (tk : Takes X W) (hr : Room k' X.A) (hk : k ≤ k') (ha : PA X (e :: es) (tDA X.K (argsF fs))) (hg : Gl X x := by rfl) (hn : fs.length = n := by rfl) (hdb : (x == ("__debug__" : Str)) = false := by decide)
    (he : starEach (e :: es) X.env = (false, eval e X.env) :: starEach es X.env := by rfl) (hpl : (backTo pos (starEach es X.env)).any (·.1) = false := by rfl) :
    PE X (.Call (.Name x p) (e :: es) [] pos) (tDX X.K (fun c σ H => W (.ref (ec c)) none σ H) (callX g fs)) :=
  pe_of (pe_callS Df.ok (hr.mono hk) hg Df.m Df.kp Df.b (fun σ => passAt tk σ) ha hdb he hpl) fun σ H Q h => by
    obtain ⟨ρ, Hs, r, vr, sm, hf, k⟩ := h
    unfold callX at hf
    split at hf
    · rename_i ds hds
      refine ⟨ρ, Hs, ds, vr, sm, hds, fun vs Hs1 H1 s1 r1 => ?_⟩
      exact ⟨by rw [r1.length, argsF_length hds, hn], Hs1, ds, r, s1.i, r1, hf, k.from s1⟩
    · cases hf
/-- a call of a def that might raise and here does not -/
theorem d_fnX0 {k k' n : Nat} {ps : List Str} {g : List D → Option Res} (Df : DefOkX X.prog X.w X.K X.mg X.base ec k x ps n g a fd) (hr : Room k' X.A) (hk : k ≤ k') (ha : PA X (e :: es) (tDA X.K (argsF fs))) (hg : Gl X x := by rfl) (hn : fs.length = n := by rfl) (hdb : (x == ("__debug__" : Str)) = false := by decide)
    (he : starEach (e :: es) X.env = (false, eval e X.env) :: starEach es X.env := by rfl) (hpl : (backTo pos (starEach es X.env)).any (·.1) = false := by rfl) :
    PE X (.Call (.Name x p) (e :: es) [] pos) (tD X.K (callF (valO g) fs)) :=
  pe_of (pe_call Df.ok (hr.mono hk) hg Df.m Df.kp Df.b .nil passL ha hdb he hpl) fun σ H Q h => by
    obtain ⟨ρ, Hs, d, vr, sm, hf, k⟩ := h
    unfold callF at hf
    split at hf
    · rename_i ds hds
      refine ⟨ρ, Hs, ds, vr, sm, hds, fun vs Hs1 H1 s1 r1 => ?_⟩
      show spX X.K ec n g (vs ++ []) H1 Q E0
      rw [List.append_nil]
      unfold valO at hf
      split at hf
      · rename_i d' hg'
        cases hf
        exact ⟨by rw [r1.length, argsF_length hds, hn], Hs1, ds, _, s1.i, r1, hg', fun v Hs2 H2 s2 r2 => k v Hs2 H2 (s1.trans s2) r2⟩
      · cases hf
    · cases hf
theorem e_of {xs : String → L2.St → Hp → Prop} (h : PE X e (tDX X.K xs f)) : PE X e (tEX X.K xs (excX f)) := pe_of h fun σ H Q hh => by
  obtain ⟨ρ, Hs, c, vr, sm, hf, k⟩ := hh
  unfold excX at hf
  split at hf
  · rename_i c' hc
    cases hf
    exact ⟨ρ, Hs, _, vr, sm, hc, fun Hs' H' s => k Hs' H' s⟩
  · cases hf
theorem e_ix {b : Expr} {tb : TE} {xs : String → L2.St → Hp → Prop} (h : PE X e (tEX X.K xs fc)) (hb : PE X b tb) (hs : PlainIx b := by exact fun _ _ => rfl) : PE X (.Subscript e b pos) (tEX X.K xs fc) := pe_of (pe_ix ix_seq h hb hs) fun σ H Q hh => hh
theorem e_test {xs : String → L2.St → Hp → Prop} (h : PE X e (tEX X.K xs fc)) (he : ∀ whole, isTrue e X.env whole = (do let v ← whole; standAt e.pos; holding [v] (truthy v)) := by intro _; rfl) : PT X e (tEXT X.K xs fc) := pt_of (pt_val h he) fun σ H Q hh => hh
theorem e_not {xs : String → L2.St → Hp → Prop} (h : PT X e (tEXT X.K xs fc)) : PT X (.UnaryOp .Not e pos) (tEXT X.K xs fc) := pt_of (pt_not h) fun σ H Q hh => hh
theorem s_ifX {sa sb : List Stmt} (h : PT X e (tEXT X.K (fun c _ H => xw c H) fc)) (ha : PSs X sa (tDS X.K xw F)) (hb : PSs X sb (tDS X.K xw G)) : PS X (.If e sa sb pos) (tDS X.K xw (ifX fc)) := ps_of (ps_if h ha hb) fun D σ H hh => by
  obtain ⟨P, Hs0, H0, Hs, ρ, o, sr, hf, fin⟩ := hh
  unfold ifX at hf
  split at hf
  · rename_i c hc
    cases hf
    refine ⟨_, H, c, sr.vrB, Same.refl _, hc, fun Hs' H' s => ?_⟩
    exact fin Hs H' ⟨sr.st.s, sr.st.e.trans s.e, sr.st.i.trans s.e, fun a ha => sr.st.f a ha⟩
  · cases hf
theorem s_exprX (he : PE X e (tDX X.K (fun c _ H => xw c H) f)) (hs : swapsWith e none pos.line X.env = pure false := by rfl) : PS X (.Expr e pos) (tDS X.K xw (exprX f)) := ps_of (ps_expr he hs) fun D σ H hh => by
  obtain ⟨P, Hs0, H0, Hs, ρ, o, sr, hf, fin⟩ := hh
  unfold exprX at hf
  split at hf
  · rename_i d hd
    cases hf
    exact ⟨ρ, Hs, _, sr.vr, sr.st.i, hd, fun v Hs' H' s r => fin _ _ _ (sr.step s)⟩
  · rename_i c hc
    cases hf
    exact ⟨ρ, Hs, _, sr.vr, sr.st.i, hc, fun Hs' H' s => fin Hs' H' (sr.st.trans s)⟩
  · cases hf
theorem s_asgX (i : Nat) {y : Str} (he : PE X e (tDX X.K (fun c _ H => xw c H) f)) (hN : X.N.Nodup) (hi : X.N[i]? = some y := by rfl) (hx : Loc X.env.scope y := by first | exact Or.inl rfl | exact Or.inr rfl) (hs : swapsWith e (some (.Name y pos')) pos.line X.env = pure false := by rfl)
    (hf : X.fn y = true ∨ X.env.scope.names.lookup y = some .local := by first | exact .inl rfl | exact .inr rfl | assumption) : PS X (.Assign [.Name y pos'] e pos) (tDS X.K xw (asgX i f)) := ps_of (ps_set hN hi hx he hs hf) fun D σ H hh => by
  obtain ⟨P, Hs0, H0, Hs, ρ, o, sr, hf, fin⟩ := hh
  unfold asgX at hf
  split at hf
  · rename_i d hd
    cases hf
    exact ⟨ρ, Hs, _, sr.vr, sr.st.i, hd, fun v Hs' H' s r => fin _ _ _ ((sr.step s).setVal i r)⟩
  · rename_i c hc
    cases hf
    exact ⟨ρ, Hs, _, sr.vr, sr.st.i, hc, fun Hs' H' s => fin Hs' H' (sr.st.trans s)⟩
  · cases hf
theorem s_retX (he : PE X e (tDX X.K (fun c _ H => xw c H) f)) : PS X (.Return (some e) pos) (tDS X.K xw (retX f)) := ps_of (ps_ret he) fun D σ H hh => by
  obtain ⟨P, Hs0, H0, Hs, ρ, o, sr, hf, fin⟩ := hh
  unfold retX at hf
  have s2 := sr.frzA
  split at hf
  · rename_i d hd
    cases hf
    exact ⟨_, _, _, s2.vr, s2.st.i, hd, fun v Hs' H' s r => fin _ _ _ _ (s2.step s) r⟩
  · rename_i c hc
    cases hf
    exact ⟨_, _, _, s2.vr, s2.st.i, hc, fun Hs' H' s => fin Hs' H' (s2.st.trans s)⟩
  · cases hf
end
/-! ### an except suite: return of a truth value, of the error's kind -/
/-- slot i holds the error at a -/
def tDG (K : PySem.W.Frag) (i : Nat) (a : Addr) (f : Ro → Option D) : TE := fun σ H Q => σ[i]? = some (some (.ref a)) ∧ tD K f σ H Q
section
variable {X : Cx} {i : Nat} {a : Addr} {e b : Expr} {rest : List Expr} {f g : Ro → Option D} {pos p p2 : Pos}
theorem g_lift (h : PE X e (tD X.K f)) : PE X e (tDG X.K i a f) := pe_of h fun σ H Q hh => hh.2
theorem g_and1 (h : PE X e (tDG X.K i a f)) : PE X (.BoolOp .And [e] pos) (tDG X.K i a f) := pe_one h
theorem g_and (ha : PE X e (tDG X.K i a f)) (hb : PE X (.BoolOp .And (b :: rest) pos) (tDG X.K i a g)) : PE X (.BoolOp .And (e :: b :: rest) pos) (tDG X.K i a (andV f g)) := pe_of (pe_and ha hb) fun σ H Q h => by
  obtain ⟨hi, ρ, Hs, d, vr, sm, hf, k⟩ := h
  unfold andV at hf
  split at hf
  · rename_i ht
    refine ⟨hi, ρ, Hs, _, vr, sm, ht, fun v Hs1 H1 s1 r1 => ?_⟩
    cases r1
    exact ⟨true, rfl, iteT ⟨hi, ρ, Hs1, d, vr.mono s1.s, s1.i, hf, fun w Hs2 H2 s2 r2 => k w Hs2 H2 (s1.trans s2) r2⟩⟩
  · rename_i ht
    cases hf
    refine ⟨hi, ρ, Hs, _, vr, sm, ht, fun v Hs1 H1 s1 r1 => ?_⟩
    cases r1
    exact ⟨false, rfl, iteF (k _ Hs1 H1 s1 (.bl _))⟩
  · cases hf
theorem g_not (ha : PE X e (tDG X.K i a f)) : PE X (.UnaryOp .Not e pos) (tDG X.K i a (notV f)) := pe_of (pe_not ha) fun σ H Q h => by
  obtain ⟨hi, ρ, Hs, d, vr, sm, hf, k⟩ := h
  unfold notV at hf
  split at hf
  · rename_i b hb
    cases hf
    refine ⟨hi, ρ, Hs, _, vr, sm, hb, fun v Hs1 H1 s1 r1 => ?_⟩
    cases r1
    exact ⟨b, rfl, k _ Hs1 H1 s1 (.bl _)⟩
  · cases hf
end
section
variable {X : Cx} {ec : String → Addr} {i : Nat} {a : Addr} {oe : Obj} {pn : List (Addr × Obj)} {c n : String} {x y : Str} {pos p p2 p3 : Pos}
/-- isinstance(e, C), C a class of the program -/
theorem g_isi (C : ExOk X.K X.mg ec) (hc : c ∈ exs) (hn : n ∈ "WishError" :: exs) (hy : y = Str.ofString n) (hz : Zc (.ref (ec c)) none oe) (hf : ∃ vs, oe.data = .fields vs) (hmi : X.mg "isinstance" = none)
    (hN : X.N[i]? = some x := by rfl) (hv : Vis X.env.scope x := by first | exact Or.inl rfl | exact Or.inr (Or.inl rfl) | exact Or.inr (Or.inr rfl)) (hgi : Gl X "isinstance" := by rfl) (hgt : Gl X y := by rfl)
    (hdx : (x == ("__debug__" : Str)) = false := by decide) (hdx2 : (x == ("__classdict__" : Str)) = false := by decide) (hdt : (y == ("__debug__" : Str)) = false := by decide)
    (h1 : starEach [.Name x p3, .Name y p2] X.env = (false, eval (.Name x p3) X.env) :: starEach [.Name y p2] X.env := by rfl) (h2 : starEach [.Name y p2] X.env = (false, eval (.Name y p2) X.env) :: starEach [] X.env := by rfl)
    (hpl : (backTo pos (starEach [.Name y p2] X.env)).any (·.1) = false := by rfl) :
    PE (X.suite a ((a, oe) :: pn)) (.Call (.Name "isinstance" p) [.Name x p3, .Name y p2] [] pos) (tDG X.K i a (cF (.bl (ism c n)))) := by
  have gC : X.mg y = some (.ref (ec n)) := by rw [hy]; exact C.gm n hn
  refine pe_of (X := X.suite a ((a, oe) :: pn)) (pe_callB (X := X.suite a ((a, oe) :: pn)) (call_isE (C.ecc c hc) hz hf) hgi hmi (by decide +kernel) (pa_cons (pe_var (i := i) hN hv hdx hdx2) (pa_cons (pe_glob (v := .ref (ec n)) hgt gC rfl hdt) pa_nil h2) h1) (by decide) (by decide) h1 hpl) fun σ H Q h => ?_
  obtain ⟨hi, ρ, Hs, d, vr, sm, hf', k⟩ := h
  cases hf'
  exact ⟨_, hi, .ref (ec n), .ref (ec n), _, rfl, fun u hu => hu, C.kit c hc n hn, k _ Hs H (Step.refl sm) (.bl _)⟩
/-- isinstance(e, ValueError) -/
theorem g_isiV (C : ExOk X.K X.mg ec) (hc : c ∈ exs) (hz : Zc (.ref (ec c)) none oe) (hf : ∃ vs, oe.data = .fields vs) (hmi : X.mg "isinstance" = none) (hmv : X.mg "ValueError" = none)
    (hN : X.N[i]? = some x := by rfl) (hv : Vis X.env.scope x := by first | exact Or.inl rfl | exact Or.inr (Or.inl rfl) | exact Or.inr (Or.inr rfl)) (hgi : Gl X "isinstance" := by rfl) (hgt : Gl X "ValueError" := by rfl)
    (hdx : (x == ("__debug__" : Str)) = false := by decide) (hdx2 : (x == ("__classdict__" : Str)) = false := by decide)
    (h1 : starEach [.Name x p3, .Name "ValueError" p2] X.env = (false, eval (.Name x p3) X.env) :: starEach [.Name "ValueError" p2] X.env := by rfl) (h2 : starEach [.Name "ValueError" p2] X.env = (false, eval (.Name "ValueError" p2) X.env) :: starEach [] X.env := by rfl)
    (hpl : (backTo pos (starEach [.Name "ValueError" p2] X.env)).any (·.1) = false := by rfl) :
    PE (X.suite a ((a, oe) :: pn)) (.Call (.Name "isinstance" p) [.Name x p3, .Name "ValueError" p2] [] pos) (tDG X.K i a (cF (.bl true))) := by
  refine pe_of (X := X.suite a ((a, oe) :: pn)) (pe_callB (X := X.suite a ((a, oe) :: pn)) (call_isE (C.ecc c hc) hz hf) hgi hmi (by decide +kernel) (pa_cons (pe_var (i := i) hN hv hdx hdx2) (pa_cons (pe_bltn (v := .ty "ValueError") hgt hmv (by decide +kernel) rfl) pa_nil h2) h1) (by decide) (by decide) h1 hpl) fun σ H Q h => ?_
  obtain ⟨hi, ρ, Hs, d, vr, sm, hf', k⟩ := h
  cases hf'
  exact ⟨_, hi, .ty "ValueError", .type "ValueError", _, rfl, fun u hu => hu, C.kitV c hc, k _ Hs H (Step.refl sm) (.bl _)⟩
end
/-- what the clauses do: the class that a clause names, what it returns of an error of the class c -/
abbrev Hd := List (String × (String → Ro → Option D))
def pickF (ρ1 : Ro) : Hd → String → Option D
  | [], _ => none
  | (n, k) :: r, c => if ism c n = true then k c ρ1 else pickF ρ1 r c
def tryF (i : Nat) (f : Ro → Option Res) (hs : Hd) : SF := fun ρ => match f ρ with
  | some (.val _) => some (.nx ρ)
  | some (.exc c) => if i < ρ.length ∧ c ∈ exs then (match pickF (ρ.set i .no) hs c with | some d => some (.rt d ρ) | none => none) else none
  | none => none
def tSuite (K : PySem.W.Frag) (ec : String → Addr) (i : Nat) (k : String → Ro → Option D) (a : Addr) (cls : Value) (d : Option Addr) : TS := fun D σ H => ∃ c, c ∈ exs ∧ cls = .ref (ec c) ∧ d = none ∧ tRet (tDG K i a (k c)) D σ H
theorem vr_hole {K : PySem.W.Frag} {Hs : Hp} {σ : L2.St} {ρ : Ro} (h : VR K Hs σ ρ) (i : Nat) (x : Option V) : VR K Hs (σ.set i x) (ρ.set i .no) := by
  refine ⟨by rw [List.length_set, List.length_set]; exact h.1, fun k d hd => ?_⟩
  obtain ⟨hk, hd⟩ := set_ne_val (by exact fun z => nomatch z) hd
  rw [List.getElem?_set_ne (Ne.symm hk)]
  exact h.2 k d hd
theorem s_try1 {X : Cx} {ec : String → Addr} {xw : String → Hp → Prop} {i : Nat} {n : String} {k : String → Ro → Option D} {f : Ro → Option Res} {e er : Expr} {x en : Str} {np pos pos' pos2 posr : Pos} (C : ExOk X.K X.mg ec) (hn : n ∈ "WishError" :: exs) (hy : x = Str.ofString n)
    (hs : X.stack = X.env :: X.outer) (hf : X.env.frame = some X.env.locals) (hN : X.N.Nodup)
    (hb : ∀ (W : WX) (pn : List (Addr × Obj)) (xe : Value → Shared → Prop), Takes (X.tr pn xe) W → PE (X.tr pn xe) e (tDX X.K (fun c σ H => W (.ref (ec c)) none σ H) f))
    (hsu : ∀ (c : String) (a : Addr) (oe : Obj) (pn : List (Addr × Obj)), c ∈ exs → Zc (.ref (ec c)) none oe → (∃ vs, oe.data = .fields vs) → PE (X.suite a ((a, oe) :: pn)) er (tDG X.K i a (k c)))
    (hi : X.N[i]? = some en := by rfl) (hln : X.env.kindOf en = some .local := by rfl) (hgx : Gl X x := by rfl) (hdb : (x == ("__debug__" : Str)) = false := by decide) (hsw : swapsWith e none pos2.line X.env = pure false := by rfl) :
    PS X (.Try [.Expr e pos2] [.ExceptHandler (some (.Name x np)) (some en) [.Return (some er) posr] pos'] [] [] pos) (tDS X.K xw (tryF i f [(n, k)])) := by
  have gC : X.mg x = some (.ref (ec n)) := by rw [hy]; exact C.gm n hn
  refine ps_of (ps_try_as (i := i) (Wout := fun _ _ _ _ => False) hs hf hN hi hln ⟨hgx, hdb, .inl gC⟩ takes0 (tb := fun W => tDrop (tDX X.K (fun c σ H => W (.ref (ec c)) none σ H) f)) (ts := tSuite X.K ec i k)
    (fun W pn xe tk _ => pss_one (ps_expr (hb W pn xe tk) hsw)) (fun a oe cls d pn hz hfl => ⟨fun pins s σ H D I hh => ?_⟩)) fun D σ H hh => ?_
  · obtain ⟨c, hc, rfl, rfl, hh⟩ := hh
    exact (pss_one (ps_ret (hsu c a oe pn hc hz hfl))).run pins s σ H D I hh
  · obtain ⟨P, Hs0, H0, Hs, ρ, o, sr, hF, fin⟩ := hh
    unfold tryF at hF
    split at hF
    · rename_i d hd
      cases hF
      exact ⟨ρ, Hs, _, sr.vr, sr.st.i, hd, fun v Hs' H' s r => fin _ _ _ (sr.step s)⟩
    · rename_i c hd
      split at hF
      · rename_i hc
        split at hF
        · rename_i d hp
          cases hF
          refine ⟨ρ, Hs, _, sr.vr, sr.st.i, hd, fun Hs' H' s => ⟨ism c n, C.exm c hc.2 n hn, fun hb a ha => ?_, fun hb => ?_⟩⟩
          · unfold pickF at hp
            rw [if_pos hb] at hp
            refine ⟨c, hc.2, rfl, rfl, ?_, ρ.set i .no, Hs', d, vr_hole (sr.vr.mono s.s) i _, s.i, hp, fun v Hs2 H2 s2 r2 => fin _ _ _ _ (sr.step (s.trans s2)) r2⟩
            rw [List.getElem?_set_self (by rw [sr.vr.1]; exact hc.1)]
          · unfold pickF at hp
            rw [if_neg (by rw [hb]; exact Bool.false_ne_true)] at hp
            cases hp
        · cases hF
      · cases hF
    · cases hF
end Dn
namespace Dn
open PySem PySem.Spec PyProof.Rows L2
/-- what stands of a class at the program's top -/
structure ClsF (K : PySem.W.Frag) (mg : Str → Option Value) (c : String) (C : Addr) : Prop where
  gm : mg (Str.ofString c) = some (.ref C)
  isc : PySem.W.isClsIn K C = true
  ty : PySem.W.typeIn K (.ref C) = some (.type "type")
  sb : PySem.W.subIn K (.ref C) (.type "BaseException") = some true
  ss : PySem.W.subIn K (.ref C) (.ref C) = some true
structure RzF (K : PySem.W.Frag) (C : Addr) : Prop where
  xc : PySem.W.excIn K C [.type "ValueError", .type "Exception", .type "BaseException", .type "object"] "ValueError.__new__" = true
  kp : PySem.W.keepIn K (.ref C) = true
  vl : PySem.W.subIn K (.ref C) (.type "ValueError") = some true
  hg : PySem.W.findIn K (.ref C) "__getattribute__" = some (some (.builtin "BaseException.__getattribute__"))
  hk : PySem.W.findIn K (.ref C) "__getattr__" = some none
  hd : PySem.W.hasDictIn K C = true
  ha : PySem.W.findIn K (.ref C) "__class__" = some (some (.builtin "object.__class__"))
  hn : PySem.W.specialIn K (.builtin "object.__class__") "__get__" = some (some (.builtin "getset_descriptor.__get__"))
  ht : PySem.W.takesIn K (.builtin "object.__class__") = some true
  hm : PySem.W.mroIn K C (.type "object") = some true
theorem ex_mk {K : PySem.W.Frag} {mg : Str → Option Value} {C0 C1 C2 C3 : Addr} (c0 : ClsF K mg "WishError" C0) (c1 : ClsF K mg "BadGame" C1) (c2 : ClsF K mg "BadRow" C2) (c3 : ClsF K mg "BadText" C3) (r1 : RzF K C1) (r2 : RzF K C2) (r3 : RzF K C3)
    (q10 : PySem.W.subIn K (.ref C1) (.ref C0) = some true) (q12 : PySem.W.subIn K (.ref C1) (.ref C2) = some false) (q13 : PySem.W.subIn K (.ref C1) (.ref C3) = some false)
    (q20 : PySem.W.subIn K (.ref C2) (.ref C0) = some true) (q21 : PySem.W.subIn K (.ref C2) (.ref C1) = some false) (q23 : PySem.W.subIn K (.ref C2) (.ref C3) = some false)
    (q30 : PySem.W.subIn K (.ref C3) (.ref C0) = some true) (q31 : PySem.W.subIn K (.ref C3) (.ref C1) = some false) (q32 : PySem.W.subIn K (.ref C3) (.ref C2) = some false) : ∃ ec, ExOk K mg ec := by
  obtain ⟨ec, e0, e1, e2, e3⟩ : ∃ ec : String → Addr, ec "WishError" = C0 ∧ ec "BadGame" = C1 ∧ ec "BadRow" = C2 ∧ ec "BadText" = C3 :=
    ⟨fun s => if s = "WishError" then C0 else if s = "BadGame" then C1 else if s = "BadRow" then C2 else C3, by simp, by simp, by simp, by simp⟩
  subst e0 e1 e2 e3
  have in4 : ∀ {P : String → Prop}, P "WishError" → P "BadGame" → P "BadRow" → P "BadText" → ∀ n ∈ "WishError" :: exs, P n := fun {P} a b c d n hn => by
    simp only [exs, List.mem_cons, List.not_mem_nil, or_false] at hn
    rcases hn with rfl | rfl | rfl | rfl
    · exact a
    · exact b
    · exact c
    · exact d
  have in3 : ∀ {P : String → Prop}, P "BadGame" → P "BadRow" → P "BadText" → ∀ n ∈ exs, P n := fun {P} b c d n hn => by
    simp only [exs, List.mem_cons, List.not_mem_nil, or_false] at hn
    rcases hn with rfl | rfl | rfl
    · exact b
    · exact c
    · exact d
  have S : ∀ c ∈ exs, ∀ n ∈ "WishError" :: exs, PySem.W.subIn K (.ref (ec c)) (.ref (ec n)) = some (ism c n) :=
    in3 (in4 q10 c1.ss q12 q13) (in4 q20 q21 c2.ss q23) (in4 q30 q31 q32 c3.ss)
  have T : ∀ n ∈ "WishError" :: exs, ClsF K mg n (ec n) := in4 c0 c1 c2 c3
  have R : ∀ n ∈ exs, RzF K (ec n) := in3 r1 r2 r3
  refine ⟨ec, fun c hc => (T c hc).gm, fun c hc => ⟨(R c hc).xc, (R c hc).kp, (T c (List.mem_cons_of_mem _ hc)).sb, (T c (List.mem_cons_of_mem _ hc)).ty⟩, fun c hc n hn => exm_own (T n hn).sb (T n hn).isc (T n hn).ty (S c hc n hn),
    fun c hc n hn => kit_own (T n hn).isc (T n hn).ty (T n hn).ss (S c hc n hn), fun c hc => kit_val (R c hc).vl, fun c hc => ?_⟩
  have r := R c hc
  exact ⟨r.hg, r.hk, (T c (List.mem_cons_of_mem _ hc)).sb, r.hd, r.ha, r.hn, r.ht, r.hm⟩
end Dn
namespace Dn
open PySem PySem.Spec PyProof.Rows L2
/-! ### evaluation -/
section
variable {F : SF} {f : Ro → Option Res} {fe : Ro → Option String} {g : List D → Option Res} {fs : List (Ro → Option D)} {ρ r : Ro} {d : D} {ds : List D} {i n : Nat} {c : String} {hs : Hd}
theorem ev_raise : raiseF c ρ = some (.ex c) := rfl
def eExX (o : Option Res) (ρ : Ro) : Option Out := match o with | some (.val _) => some (.nx ρ) | some (.exc c) => some (.ex c) | none => none
theorem ev_exprX : exprX f ρ = eExX (f ρ) ρ := rfl
theorem eExX_val : eExX (some (.val d)) ρ = some (.nx ρ) := rfl
theorem eExX_exc : eExX (some (.exc c)) ρ = some (.ex c) := rfl
def eAsX (o : Option Res) (i : Nat) (ρ : Ro) : Option Out := match o with | some (.val d) => some (.nx (ρ.set i (.val d))) | some (.exc c) => some (.ex c) | none => none
theorem ev_asgX : asgX i f ρ = eAsX (f ρ) i ρ := rfl
theorem eAsX_val : eAsX (some (.val d)) i ρ = some (.nx (ρ.set i (.val d))) := rfl
theorem eAsX_exc : eAsX (some (.exc c)) i ρ = some (.ex c) := rfl
def eReX (o : Option Res) (ρ : Ro) : Option Out := match o with | some (.val d) => some (.rt d ρ) | some (.exc c) => some (.ex c) | none => none
theorem ev_retX : retX f ρ = eReX (f (frzA ρ)) (frzA ρ) := rfl
theorem eReX_val : eReX (some (.val d)) ρ = some (.rt d ρ) := rfl
theorem eReX_exc : eReX (some (.exc c)) ρ = some (.ex c) := rfl
def eXc (o : Option Res) : Option String := match o with | some (.exc c) => some c | _ => none
theorem ev_excX : excX f ρ = eXc (f ρ) := rfl
theorem eXc_exc : eXc (some (.exc c)) = some c := rfl
def eIfX (o : Option String) : Option Out := match o with | some c => some (.ex c) | none => none
theorem ev_ifX : ifX fe ρ = eIfX (fe (borA ρ)) := rfl
theorem eIfX_some : eIfX (some c) = some (.ex c) := rfl
def eCaX (g : List D → Option Res) (o : Option (List D)) : Option Res := match o with | some ds => g ds | none => none
theorem ev_callX : callX g fs ρ = eCaX g (argsF fs ρ) := rfl
theorem eCaX_some : eCaX g (some ds) = g ds := rfl
def eRunX (o : Option Out) : Option Res := match o with
  | some (.rt d _) => some (.val d)
  | some (.nx _) => some (.val .non)
  | some (.ex c) => some (.exc c)
  | _ => none
theorem ev_runX : runX F n ds = eRunX (F (initR n ds)) := rfl
theorem eRunX_rt : eRunX (some (.rt d r)) = some (.val d) := rfl
theorem eRunX_nx : eRunX (some (.nx r)) = some (.val .non) := rfl
theorem eRunX_ex : eRunX (some (.ex c)) = some (.exc c) := rfl
def eTry2 (o : Option D) (ρ : Ro) : Option Out := match o with | some d => some (.rt d ρ) | none => none
theorem eTry2_some : eTry2 (some d) ρ = some (.rt d ρ) := rfl
def eTry (o : Option Res) (i : Nat) (hs : Hd) (ρ : Ro) : Option Out := match o with
  | some (.val _) => some (.nx ρ)
  | some (.exc c) => if i < ρ.length ∧ c ∈ exs then eTry2 (pickF (ρ.set i .no) hs c) ρ else none
  | none => none
theorem ev_try : tryF i f hs ρ = eTry (f ρ) i hs ρ := rfl
theorem eTry_val : eTry (some (.val d)) i hs ρ = some (.nx ρ) := rfl
theorem eTry_exc : eTry (some (.exc c)) i hs ρ = if i < ρ.length ∧ c ∈ exs then eTry2 (pickF (ρ.set i .no) hs c) ρ else none := rfl
theorem ev_pick {m : String} {k : String → Ro → Option D} : pickF ρ ((m, k) :: hs) c = if ism c m = true then k c ρ else pickF ρ hs c := rfl
def eVo (o : Option Res) : Option D := match o with | some (.val d) => some d | _ => none
theorem ev_valO : valO g ds = eVo (g ds) := rfl
theorem eVo_val : eVo (some (.val d)) = some d := rfl
theorem exs_g : ("BadGame" ∈ exs) = True := by simp [exs]
theorem exs_r : ("BadRow" ∈ exs) = True := by simp [exs]
theorem exs_t : ("BadText" ∈ exs) = True := by simp [exs]
theorem ism_gw : ism "BadGame" "WishError" = true := by decide
theorem ism_gg : ism "BadGame" "BadGame" = true := by decide
theorem ism_gr : ism "BadGame" "BadRow" = false := by decide
theorem ism_gt : ism "BadGame" "BadText" = false := by decide
theorem ism_rw : ism "BadRow" "WishError" = true := by decide
theorem ism_rg : ism "BadRow" "BadGame" = false := by decide
theorem ism_rr : ism "BadRow" "BadRow" = true := by decide
theorem ism_rt : ism "BadRow" "BadText" = false := by decide
theorem ism_tw : ism "BadText" "WishError" = true := by decide
theorem ism_tg : ism "BadText" "BadGame" = false := by decide
theorem ism_tr : ism "BadText" "BadRow" = false := by decide
theorem ism_tt : ism "BadText" "BadText" = true := by decide
end
end Dn

namespace Dn
open PySem PySem.Spec PyProof.Rows L2
/-! ### powers -/
def gPow : D → D → Option D
  | .int i, .int j => if 0 ≤ j ∧ j ≤ 1000000 ∧ i.natAbs < 2 ^ 64 then some (.int (i ^ j.toNat)) else none
  | _, _ => none
theorem d_pow {X : Cx} {a b : Expr} {fa fb : Ro → Option D} {pos : Pos} (ha : PE X a (tD X.K fa)) (hb : PE X b (tD X.K fb)) : PE X (.BinOp a .Pow b pos) (tD X.K (biF gPow fa fb)) := d_op op_pow (fun Hs H x y dx dy d Q sm rx ry hg k => by
  unfold gPow at hg
  split at hg
  · split at hg
    · rename_i hc
      cases hg
      cases rx
      cases ry
      exact ⟨_, _, rfl, rfl, hc, k _ Hs H (Step.refl sm) (.int _)⟩
    · cases hg
  · cases hg) ha hb
theorem gPow_10_30 : gPow (.int 10) (.int 30) = some (.int 1000000000000000000000000000000) := by
  have h : (0 : Int) ≤ 30 ∧ (30 : Int) ≤ 1000000 ∧ (10 : Int).natAbs < 2 ^ 64 := by decide +kernel
  have e : (10 : Int) ^ (30 : Int).toNat = 1000000000000000000000000000000 := by decide +kernel
  show (if (0 : Int) ≤ 30 ∧ (30 : Int) ≤ 1000000 ∧ (10 : Int).natAbs < 2 ^ 64 then some (D.int ((10 : Int) ^ (30 : Int).toNat)) else none) = _
  rw [if_pos h, e]
end Dn

namespace Dn
open PySem PySem.Spec PyProof.Rows L2
/-! ### texts by their codes -/
abbrev tx (l : List Nat) : Str := SX.S l
/-- all signs below 128 -/
def asc (l : List Nat) : Prop := ∀ c ∈ l, c < 128
theorem asc_app {l m : List Nat} (h : asc l) (k : asc m) : asc (l ++ m) := fun c hc => by
  rcases List.mem_append.mp hc with q | q
  · exact h c q
  · exact k c q
theorem asc_cut {l : List Nat} (h : asc l) (lo hi : Option Int) : asc (cutL l lo hi) := fun c hc => h c (List.mem_of_mem_drop (List.mem_of_mem_take hc))
theorem ok_tx {l : List Nat} (h : asc l) : PyData.strOk (tx l) = true := by
  show (l.toArray.all _) = true
  rw [Array.all_eq_true]
  intro i hi
  rw [List.getElem_toArray]
  have := h _ (List.getElem_mem (l := l) (n := i) (by simpa using hi))
  exact decide_eq_true (by omega)
theorem tx_len (l : List Nat) : (tx l).length = l.length := SX.S_len l
theorem eq_tx {l m : List Nat} (h : asc l) (k : asc m) : gEq (.str (tx l)) (.str (tx m)) = some (.bl (l == m)) := by rw [gEq_str (ok_tx h) (ok_tx k), SX.S_beq]
theorem ne_tx {l m : List Nat} (h : asc l) (k : asc m) : gNe (.str (tx l)) (.str (tx m)) = some (.bl (l != m)) := by
  rw [gNe_str (ok_tx h) (ok_tx k)]
  show some (D.bl (!(tx l == tx m))) = some (D.bl (!(l == m)))
  rw [SX.S_beq]
theorem len_tx {l : List Nat} (h : l.length ≤ sz) : gLen [.str (tx l)] = some (.int l.length) := by
  show (if (tx l).length ≤ sz then some (D.int (tx l).length) else none) = _
  rw [tx_len, if_pos h]
theorem cut_tx (l : List Nat) (lo hi : Option Int) : cutS (tx l) lo hi = tx (cutL l lo hi) := by
  unfold cutS cutL
  rw [tx_len]
theorem sl_tx {l : List Nat} (h : l.length ≤ sz) (lo hi : Option Int) : gSl (.str (tx l)) lo hi = some (.str (tx (cutL l lo hi))) := by
  show (if (tx l).length ≤ sz then some (D.str (cutS (tx l) lo hi)) else none) = _
  rw [tx_len, if_pos h, cut_tx]
theorem ix_tx {l : List Nat} {k : Nat} {c : Nat} (hl : l.length ≤ sz) (h : l[k]? = some c) : gIx (.str (tx l)) (.int (k : Nat)) = some (.str (tx [c])) := by
  show (if (tx l).length ≤ sz then (atI (tx l).cps.toList ((k : Nat) : Int)).map fun c => D.str ⟨#[c]⟩ else none) = _
  rw [tx_len, if_pos hl]
  have : atI (tx l).cps.toList ((k : Nat) : Int) = some c := atI_nat h
  rw [this] <;> rfl
theorem add_tx {l m : List Nat} (h : l.length + m.length ≤ sz) : gAdd (.str (tx l)) (.str (tx m)) = some (.str (tx (l ++ m))) := by
  rw [gAdd_str, tx_len, tx_len, if_pos h, SX.S_cat]
theorem signs_tx (l : List Nat) : Dn.signs (tx l) = l.map fun c => .str (tx [c]) := rfl
theorem split_tx {l : List Nat} (c : Nat) (hc : c < 256) (h : l.length + 2 ≤ sz) : gSplit (.str (tx l)) (.str (tx [c])) = some (.lst ((TL.spl [c] 0 [] l).map fun p => .str (tx p))) := by
  show (if ((tx [c]).length == 0) = false ∧ (tx l).length + 2 ≤ sz then some (D.lst ((Txt.split (tx l) (tx [c])).map D.str)) else none) = _
  rw [tx_len, tx_len, if_pos ⟨rfl, h⟩, SX.split_S (by simp) (by simpa using hc), List.map_map]
  rfl
theorem strsOf_tx : ∀ ps : List (List Nat), strsOf (ps.map fun p => D.str (tx p)) = some (ps.map SX.S) := fun ps => by
  have e : (ps.map fun p => D.str (tx p)) = (ps.map SX.S).map D.str := by rw [List.map_map]; rfl
  rw [e, strsOf_map]
theorem join_tx {y : List Nat} {ps : List (List Nat)} (h : (ps.map (·.length)).sum + ps.length * y.length ≤ sz) : gJoin (.str (tx y)) (.lst (ps.map fun p => .str (tx p))) = some (.str (tx (TL.joinL y ps))) := by
  unfold gJoin
  simp only [strsOf_tx]
  rw [SX.lens, List.length_map, tx_len, if_pos h, SX.join_S]
theorem in_tx (l : List Nat) (c : Nat) : gIn (.str (tx [c])) (.str (tx l)) = some (.bl (decide (c ∈ l))) := by
  show some (D.bl (!(Builtin.Str.occurrences (tx l) (tx [c]) 0 (tx l).length 1).isEmpty)) = _
  rw [SX.in_one]
theorem notIn_tx (l : List Nat) (c : Nat) : gNotIn (.str (tx [c])) (.str (tx l)) = some (.bl (!decide (c ∈ l))) := by
  unfold gNotIn
  rw [in_tx]
theorem int_tx {l : List Nat} (h : l.all (fun c => decide (48 ≤ c) && decide (c ≤ 57)) = true) (hne : l ≠ []) (hl : l.length ≤ 640) : gIntS [.str (tx l)] = some (.int ((NumText.digitsVal l : Nat) : Int)) := by
  unfold gIntS
  simp only [SX.int_S h hne (by omega)]
  rw [tx_len, if_pos hl]
theorem len_joinL (y : List Nat) : ∀ ps : List (List Nat), (TL.joinL y ps).length ≤ (ps.map (·.length)).sum + ps.length * y.length
  | [] => Nat.zero_le _
  | [p] => by
    show p.length ≤ _
    simp
  | p :: q :: r => by
    have := len_joinL y (q :: r)
    show (p ++ (y ++ TL.joinL y (q :: r))).length ≤ _
    simp only [List.length_append, List.map_cons, List.sum_cons, List.length_cons, Nat.succ_mul] at this ⊢
    omega
/-- cut at each sign c -/
def splL (c : Nat) : List Nat → List (List Nat)
  | [] => [[]]
  | a :: r => if a = c then [] :: splL c r else match splL c r with
    | p :: q => (a :: p) :: q
    | [] => [[a]]
theorem splL_ne (c : Nat) (l : List Nat) : splL c l ≠ [] := by
  cases l with
  | nil => exact fun z => nomatch z
  | cons a r =>
    unfold splL
    split
    · exact fun z => nomatch z
    · split <;> exact fun z => nomatch z
theorem spl_splL (c : Nat) : ∀ (l acc : List Nat), TL.spl [c] 0 acc l = match splL c l with
    | p :: q => (acc ++ p) :: q
    | [] => [acc]
  | [], acc => by
    show [acc] = [acc ++ []]
    rw [List.append_nil]
  | a :: r, acc => by
    unfold splL
    show (if TL.pre [c] (a :: r) = true then acc :: TL.spl [c] ([c].length - 1) [] r else TL.spl [c] 0 (acc ++ [a]) r) = _
    have hp : TL.pre [c] (a :: r) = (a == c) := by
      show ([a] == [c]) = (a == c)
      simp
    rw [hp]
    by_cases h : a = c
    · subst h
      rw [if_pos (beq_self_eq_true a), if_pos rfl]
      show acc :: TL.spl [a] 0 [] r = (acc ++ []) :: splL a r
      rw [spl_splL a r [], List.append_nil]
      cases e : splL a r with
      | nil => exact absurd e (splL_ne a r)
      | cons p q => rfl
    · rw [if_neg (by simpa using h), if_neg h, spl_splL c r (acc ++ [a])]
      cases e : splL c r with
      | nil => exact absurd e (splL_ne c r)
      | cons p q =>
        show (acc ++ [a] ++ p) :: q = (acc ++ (a :: p)) :: q
        rw [List.append_assoc]
        rfl
theorem spl_eq (c : Nat) (l : List Nat) : TL.spl [c] 0 [] l = splL c l := by
  rw [spl_splL]
  cases e : splL c l with
  | nil => exact absurd e (splL_ne c l)
  | cons p q => rfl
theorem splitL_tx {l : List Nat} (c : Nat) (hc : c < 256) (h : l.length + 2 ≤ sz) : gSplit (.str (tx l)) (.str (tx [c])) = some (.lst ((splL c l).map fun p => .str (tx p))) := by rw [split_tx c hc h, spl_eq]
/-- the first part: what stands before the first c -/
theorem splL_head (c : Nat) : ∀ l : List Nat, ∃ q, splL c l = l.takeWhile (fun a => decide (a ≠ c)) :: q
  | [] => ⟨[], rfl⟩
  | a :: r => by
    obtain ⟨q, e⟩ := splL_head c r
    unfold splL
    by_cases h : a = c
    · rw [if_pos h]
      exact ⟨_, by rw [List.takeWhile_cons, if_neg (by simp [h])]⟩
    · rw [if_neg h, e]
      exact ⟨q, by rw [List.takeWhile_cons, if_pos (by simp [h])]⟩
theorem splL_mem {c : Nat} : ∀ {l p : List Nat}, p ∈ splL c l → ∀ x ∈ p, x ∈ l ∧ x ≠ c
  | [], p, hp, x, hx => by
    have hp' : p = [] := List.mem_singleton.mp hp
    subst hp'
    cases hx
  | a :: r, p, hp, x, hx => by
    unfold splL at hp
    by_cases h : a = c
    · rw [if_pos h] at hp
      rcases List.mem_cons.mp hp with rfl | hp
      · cases hx
      · have := splL_mem hp x hx
        exact ⟨List.mem_cons_of_mem _ this.1, this.2⟩
    · rw [if_neg h] at hp
      cases e : splL c r with
      | nil => exact absurd e (splL_ne c r)
      | cons q s =>
        rw [e] at hp
        rcases List.mem_cons.mp hp with rfl | hp
        · rcases List.mem_cons.mp hx with rfl | hx
          · exact ⟨List.mem_cons_self, h⟩
          · have := splL_mem (c := c) (l := r) (p := q) (by rw [e]; exact List.mem_cons_self) x hx
            exact ⟨List.mem_cons_of_mem _ this.1, this.2⟩
        · have := splL_mem (c := c) (l := r) (p := p) (by rw [e]; exact List.mem_cons_of_mem _ hp) x hx
          exact ⟨List.mem_cons_of_mem _ this.1, this.2⟩
theorem splL_len (c : Nat) : ∀ l : List Nat, (splL c l).length ≤ l.length + 1
  | [] => Nat.le_refl _
  | a :: r => by
    have := splL_len c r
    unfold splL
    split
    · simp only [List.length_cons]; omega
    · split
      · rename_i p q e
        rw [e] at this
        simp only [List.length_cons] at this ⊢; omega
      · simp
theorem splL_part {c : Nat} : ∀ {l p : List Nat}, p ∈ splL c l → p.length ≤ l.length
  | [], p, hp => by
    have hp' : p = [] := List.mem_singleton.mp hp
    subst hp'
    exact Nat.le_refl _
  | a :: r, p, hp => by
    unfold splL at hp
    by_cases h : a = c
    · rw [if_pos h] at hp
      rcases List.mem_cons.mp hp with rfl | hp
      · exact Nat.zero_le _
      · exact Nat.le_succ_of_le (splL_part hp)
    · rw [if_neg h] at hp
      cases e : splL c r with
      | nil => exact absurd e (splL_ne c r)
      | cons q s =>
        rw [e] at hp
        rcases List.mem_cons.mp hp with rfl | hp
        · exact Nat.succ_le_succ (splL_part (c := c) (l := r) (p := q) (by rw [e]; exact List.mem_cons_self))
        · exact Nat.le_succ_of_le (splL_part (c := c) (l := r) (p := p) (by rw [e]; exact List.mem_cons_of_mem _ hp))
/-- written texts -/
def cLamps : List Nat := [108, 97, 109, 112, 115]
def cLampsB : List Nat := [108, 97, 109, 112, 115, 32]
def cWish : List Nat := [119, 105, 115, 104]
def cWishB : List Nat := [119, 105, 115, 104, 32]
def cDigits : List Nat := [48, 49, 50, 51, 52, 53, 54, 55, 56, 57]
theorem tx_lamps : Str.ofString "lamps" = tx cLamps := by decide +kernel
theorem tx_lampsB : Str.ofString "lamps " = tx cLampsB := by decide +kernel
theorem tx_wish : Str.ofString "wish" = tx cWish := by decide +kernel
theorem tx_wishB : Str.ofString "wish " = tx cWishB := by decide +kernel
theorem tx_digits : Str.ofString "0123456789" = tx cDigits := by decide +kernel
theorem tx_sp : Str.ofString " " = tx [32] := by decide +kernel
theorem tx_nl : Str.ofString "\n" = tx [10] := by decide +kernel
theorem tx_minus : Str.ofString "-" = tx [45] := by decide +kernel
theorem tx_zero : Str.ofString "0" = tx [48] := by decide +kernel
theorem tx_empty : Str.ofString "" = tx [] := by decide +kernel
theorem tx_f : Str.ofString "f" = tx [102] := by decide +kernel
theorem tx_o : Str.ofString "o" = tx [111] := by decide +kernel
theorem asc_lamps : asc cLamps := by unfold asc; decide
theorem asc_lampsB : asc cLampsB := by unfold asc; decide
theorem asc_wish : asc cWish := by unfold asc; decide
theorem asc_wishB : asc cWishB := by unfold asc; decide
theorem asc_one {c : Nat} (h : c < 128) : asc [c] := fun x hx => by rw [List.mem_singleton.mp hx]; exact h
theorem asc_nil : asc [] := fun _ h => nomatch h
theorem mem_digits {c : Nat} : c ∈ cDigits ↔ 48 ≤ c ∧ c ≤ 57 := by
  unfold cDigits
  simp only [List.mem_cons, List.not_mem_nil, or_false]
  omega
/-- setters among them -/
def cps (l : List Bool) : List Nat := l.map cp
theorem txt_tx (l : List Bool) : txt l = tx (cps l) := rfl
theorem asc_cps (l : List Bool) : asc (cps l) := fun c hc => by
  obtain ⟨b, _, rfl⟩ := List.mem_map.mp hc
  cases b <;> decide
end Dn

namespace Dn
open PySem PySem.Spec PyProof.Rows L2
/-! ### an exception that leaves a comprehension -/
/-- the ground may be smaller -/
theorem flying_sub {B B' h : Heap} {l : List Env} {e : Addr} {Z : Obj → Prop} (le : ∀ b o, B'.get? b = some o → B.get? b = some o) (no : ∀ b, B.get? b = none → B'.get? b = none) (x : HandSPX.FlyingZ B l e Z h) : HandSPX.FlyingZ B' l e Z h := by
  obtain ⟨x1, x2, x3, oe, vs, T, oT, ts, y1, y2, y3, y4, y5, y6, y7, y8, y9⟩ := x
  have fr : ∀ {m : List Env}, h.FunFrames B m → h.FunFrames B' m := by
    intro m
    induction m with
    | nil => exact fun _ => trivial
    | cons env m ih =>
      intro q
      obtain ⟨q1, ⟨L, o, q2, q3, q4, q5⟩, q6⟩ := q
      exact ⟨q1, ⟨L, o, q2, no L q3, q4, q5⟩, ih q6⟩
  exact ⟨fun b o q => x1 b o (le b o q), no e x2, fr x3, oe, vs, T, oT, ts, y1, y2, y3, y4, no T y5, y6, y7, y8, y9⟩
/-- an object that flies is neither new nor held -/
theorem sky_fly {B B0 h : Heap} {l l0 : List Env} {a L : Addr} {Z Z0 : Obj → Prop} (f : HandSPX.FlyingZ B0 l0 a Z0 h) (s : Sky B l a Z L h) : HandSPX.FlyingZ B l a Z h := by
  obtain ⟨_, _, _, oe, vs, T, oT, ts, y1, _, y3, y4, _, _, y7, y8, y9⟩ := f
  rcases s with ⟨_, _, _, oe', vs', z1, _, z3, z4⟩ | s | ⟨_, _, _, oe', vs', T', oT', ts', z1, _, z3, z4, _, _, z7, z8, z9⟩
  · rw [y1] at z1
    cases z1
    rw [y3] at z3
    cases z3
    rw [y4] at z4
    cases z4
  · exact s
  · rw [y1] at z1
    cases z1
    rw [y3] at z3
    cases z3
    rw [y4] at z4
    cases z4
    rw [y7] at z7
    cases z7
    rw [y8] at z8
    cases z8
    rw [y9] at z9
    cases z9
section
variable {X : Cx} {W : XK} {s3 : Shared} {H3 : Hp} {pins : List (Addr × Obj)} {σ0 : L2.St} {scope : Scope} {ce : Env} {fp : List Addr}
/-- the block's objects are let go, and it goes on in the def's own frame -/
theorem comp_fails {a : Addr} {B : Heap} {sI s' : Shared} {pb : List (Addr × Obj)} {σb : L2.St} {H' : Hp} {cls : Value} {d : Option Addr} {xe : Value → Shared → Prop} (tk : Takes X (fun c d _ H => W c d H)) (hs : X.stack = X.env :: X.outer) (hf : X.env.frame = some X.env.locals) (I3 : Inv X pins σ0 H3 s3) (f3 : ∀ b ∈ fp, FpOk X pins H3 b)
    (cF : ce.frame = X.env.frame) (cL : ce.locals = s3.heap.objs.size) (J : Inv ((X.blk s3 H3 scope ce fp).wish xe) pb σb H' sI) (nb : ∀ b o, sI.heap.get? b = some o → b ∉ frs X.stack → B.get? b = some o) (up : sI.heap.UpToSlots s'.heap)
    (fl : HandSPX.FlyingZ B X.stack a (Zc cls d) s'.heap) (na : H' a = none) (os : s'.os = sI.os) (ag : AllBare s'.gens) (w : W cls d H') :
    notedBy (model X.prog X.w) X.A ce (CompFails (model X.prog X.w) X.A X.xe ce) (.ref a) s' := by
  have hfr : X.A.frames = some (X.env :: X.outer) := by rw [I3.ok.frames, hs]
  have hC : H' ce.locals = none := J.free
  have fpC : FpOk X pins H' ce.locals := I3.fpOk (by rw [cL]; exact Nat.le_refl _) hC
  obtain ⟨k0, k1, k2, k3, k4, k5⟩ := fpC
  have Jx : Inv X pins σ0 H' sI := I3.call' (ch := fp) J.os J.base J.hok J.bare fun b hb => ⟨(f3 b hb).2.2.2.1, (f3 b hb).2.1, (f3 b hb).2.2.2.2.1, (f3 b hb).2.2.2.2.2⟩
  obtain ⟨m, hn, _⟩ := J.loc
  have hn : sI.heap.Ns ce.locals m := hn
  obtain ⟨B', hB'⟩ : ∃ B', B' = PySem.W.hideAll B [ce.locals] := ⟨_, rfl⟩
  obtain ⟨G, hG⟩ : ∃ G, G = PySem.W.hideAll sI.heap [ce.locals] := ⟨_, rfl⟩
  have offG : ∀ b o, G.get? b = some o → sI.heap.get? b = some o ∧ b ≠ ce.locals := fun b o q => by
    rw [hG] at q
    refine ⟨PySem.W.of_hideAll _ q, fun z => ?_⟩
    rw [PySem.W.hideAll_none [ce.locals] (List.mem_singleton.mpr z)] at q
    cases q
  have leB : ∀ b o, B'.get? b = some o → B.get? b = some o ∧ b ≠ ce.locals := fun b o q => by
    rw [hB'] at q
    refine ⟨PySem.W.of_hideAll _ q, fun z => ?_⟩
    rw [PySem.W.hideAll_none [ce.locals] (List.mem_singleton.mpr z)] at q
    cases q
  have fl' : HandSPX.FlyingZ B' (X.env :: X.outer) a (Zc cls d) s'.heap := by
    rw [← hs]
    refine flying_sub (fun b o q => (leB b o q).1) (fun b q => ?_) fl
    cases e : B'.get? b with
    | none => rfl
    | some o =>
      have := (leB b o e).1
      rw [q] at this
      cases this
  show wpAny (model X.prog X.w) X.A (noteFrame (.ref a) ce) _ _ s'
  rw [noteFrame_env _ cF]
  refine HandSPX.looks_onZ Zc.steady hfr hf fl' fun h1 hd1 up1 => ?_
  have hn1 : h1.Ns ce.locals m := Heap.Ns.upToSlots hn (fun b o e q => (up.trans up1) b o e q)
  refine ⟨m, hn1, fun h2 m2 hn2 sb2 => ?_⟩
  obtain ⟨b1, b0, ff1, oe, vs, T, oT, ts, y1, y2, y3, y4, y5, y6, y7, y8, y9⟩ := hd1
  have notC : ∀ {x : Addr} {o : Obj} {fs : Array Value}, h1.get? x = some o → o.data = .fields fs → x ≠ ce.locals := fun {x o fs} e q z => by
    obtain ⟨oL, es, ep, hoL, hdL, _⟩ := hn1
    rw [z, hoL] at e
    cases e
    rw [hdL] at q
    cases q
  have e2 : h2.get? a = some oe := (sb2.2 a (notC y1 y3)).trans y1
  have hd2 : HandSPX.HeldZ B' (X.env :: X.outer) a (Zc cls d) X.env.locals h2 :=
    ⟨fun b o q => (sb2.2 b (leB b o q).2).trans (b1 b o q), b0, Heap.FunFrames.sameBut sb2 hn2 ff1, oe, vs, T, oT, ts, e2, y2, y3, y4, y5, y6, (sb2.2 T (notC y7 y8)).trans y7, y8, y9⟩
  unfold PySem.passOn
  refine wpAny_bind (wpAny_field e2 y3 y4 ?_)
  rw [if_neg (show ¬ ((Value.ref T == Value.none) = true) from by simp), cF.trans hf]
  have fin : wpAny (model X.prog X.w) X.A (setFlight (.ref a) (some X.env.locals)) (fun _ s4 => wpAny (model X.prog X.w) X.A (throw (.ref a) : Sem Value) (fun _ _ => False) X.xe s4) X.xe { s' with heap := h2 } := by
    refine HandSPX.setFlight_onZ hd2 fun h3 hd3 up3 => wpAny_throw (tk _ _ ?_)
    have Jg : Inv X pins σ0 H' { sI with heap := G, toks := sI.toks } := Jx.turned (fun b o hb e => by rw [hG]; exact PySem.W.hideAll_get _ e fun z => hb (List.mem_singleton.mp z)) k0 k1 k3 k4 k5
    refine ⟨a, B', { sI with heap := G, toks := sI.toks }, pins, σ0, H', cls, d, rfl, Jg, fun b o q hb => ?_, fun b o q nf => ?_, .inr (.inr (by rw [hs]; exact hd3)), na, os, ag, w⟩
    · obtain ⟨q1, q2⟩ := offG b o q
      rw [hB']
      exact PySem.W.hideAll_get _ (nb b o q1 hb) fun z => q2 (List.mem_singleton.mp z)
    · obtain ⟨q1, q2⟩ := offG b o q
      obtain ⟨sl1, r1⟩ := (up.trans up1) b o q1 nf
      exact up3 b { o with slots := sl1 } ((sb2.2 b q2).trans r1) nf
  first
    | exact wpAny_bind fin
    | exact wpAny_bind (wpAny_pure (wpAny_bind fin))
theorem elt_passes {xe : Value → Shared → Prop} (tk : Takes X (fun c d _ H => W c d H)) (hs : X.stack = X.env :: X.outer) (hf : X.env.frame = some X.env.locals) (I3 : Inv X pins σ0 H3 s3) (f3 : ∀ b ∈ fp, FpOk X pins H3 b)
    (cF : ce.frame = X.env.frame) (cL : ce.locals = s3.heap.objs.size) (hx : ∀ u s', notedBy (model X.prog X.w) X.A ce (CompFails (model X.prog X.w) X.A X.xe ce) u s' → xe u s') (σ : L2.St) :
    PassesAt (L2.CX X.prog X.w) ((X.blk s3 H3 scope ce fp).wish xe) σ W := fun pb H s u s' I c => by
  obtain ⟨a, B, sI, pb', σb, H', cls, d, e, J, nb, up, sky, na, os, ag, w⟩ := XE.of_call (X := (X.blk s3 H3 scope ce fp).wish xe) (W := fun cls d _ H => W cls d H) I (fun _ _ _ h => h) c
  obtain ⟨a0, B0, H0, cls0, d0, e0, f0, _⟩ := c
  have ea : a0 = a := Value.ref.inj (e0.symm.trans e)
  subst ea
  subst e
  exact hx _ _ (comp_fails tk hs hf I3 f3 cF cL J nb up (sky_fly f0 sky) na os ag w)
end
end Dn
namespace Dn
open PySem PySem.Spec PyProof.Rows L2
section
variable {X : Cx} {W : XK}
/-- a list comprehension without tests, whose element may raise -/
theorem lcx_core {pins : List (Addr × Obj)} {s : Shared} {σ : L2.St} {H : Hp} {Q : VK} {elt tg iter : Expr} {scope : Scope} {own : List (Str × Nat)} {pos pos' : Pos} {wi : TI} {g : TG} {te : TE} {use : Option (Value → Sem Unit)} {Qf : Value → Shared → Prop}
    (hc : X.calm = true) (hN : X.N.Nodup) (hs : X.stack = X.env :: X.outer) (hf : X.env.frame = some X.env.locals) (tk : Takes X (fun c d _ H => W c d H)) (I : Inv X pins σ H s) (hi : PI X tg iter wi) (ok : BlkOk X.N X.env.scope scope own)
    (hg : ∀ (s : Shared) (H : Hp) (C : Addr) (cl : List (Str × Addr)) (fp : List Addr), PG (X.blk s H scope (compEnvC scope cl C X.env) fp) tg g)
    (he : ∀ (s : Shared) (H : Hp) (C : Addr) (cl : List (Str × Addr)) (fp : List Addr) (xe : Value → Shared → Prop), (∀ σ, PassesAt (L2.CX X.prog X.w) ((X.blk s H scope (compEnvC scope cl C X.env) fp).wish xe) σ W) → PE ((X.blk s H scope (compEnvC scope cl C X.env) fp).wish xe) elt te)
    (hsf : ∀ x, foldedSetIterable iter X.env x = pure x) (h : tLc wi g tYes te (own.map (·.2)) σ H Q)
    (hR : ∀ D ce s' m H', Inv X pins σ H' s' → Q (.ref D) H' → s'.heap.Ns ce.locals m → FpOk X pins H' ce.locals → compEnds (model X.prog X.w) X.A X.xe use Qf (.ref D) ce (.ok .next) s') :
    wpAny (model X.prog X.w) X.A (comprehension (.ListComp elt [⟨tg, iter, [], 0⟩] scope pos) scope X.env pos' (newList []) false (eval iter X.env) use) Qf X.xe s := by
  have closes : ∀ y ∈ scope.names, y.2 = .free → ∃ c, X.env.cells.lookup y.1 = some c := fun y hy e => (ok.free y hy e).elim (fun q => I.ok.has _ (.inl q)) fun q => I.ok.has _ (.inr q)
  refine comprehension_at (use := use) rfl hsf (closure_ok closes) ok.kind (fun y hy e => (ok.uniq y hy).trans (by rw [e])) (thn (hi.run pins s σ H _ I h) fun xv sA hA => thn hA fun itv sB hB => ?_)
  obtain ⟨it, fp, tn, J, HB, rfl, IB, T, stB, fB, q⟩ := hB
  refine wpAny_newObj_type (newEnv_comp ?_) (by show 0 ≤ sizeLine; decide)
  obtain ⟨D, eD⟩ : ∃ D, D = sB.heap.objs.size := ⟨_, rfl⟩
  obtain ⟨V, ⟨n0, v0⟩, turn⟩ := q D (IB.hok.fresh (Nat.le_of_eq eD.symm))
  obtain ⟨s3, e3⟩ : ∃ s3 : Shared, s3 = { sB with heap := sB.heap.push { cls := .type "list", data := .seq ([] : List Value).toArray } } := ⟨_, rfl⟩
  obtain ⟨H3, eH3⟩ : ∃ H3, H3 = upd HB D (.lst []) := ⟨_, rfl⟩
  rw [← eH3] at v0
  have heap3 : s3.heap = sB.heap.push { cls := .type "list", data := .seq ([] : List Value).toArray } := by rw [e3]
  have grow : ∀ b o, sB.heap.get? b = some o → s3.heap.get? b = some o := fun b o e => by
    rw [heap3]
    exact Heap.get?_push_of_some _ e
  have I3 : Inv X pins σ H3 s3 := by
    have z : ObjOk X.prog X.w H3 s3.heap D (.lst []) := ⟨Nat.zero_le _, [], 0, .nil, by
      rw [heap3, eD]
      exact Heap.get?_push_size _ rfl⟩
    rw [eH3] at z ⊢
    rw [e3] at z ⊢
    exact IB.laid (t' := sB.toks) (fun b o e => Heap.get?_push_of_some _ e) (Nat.le_of_eq eD.symm) z
  have low : ∀ b ∈ fp, b < sB.heap.objs.size := fun b hb => let ⟨_, e, _⟩ := T.obj _ _ stB b hb; Heap.lt_size e
  have f3 : ∀ b ∈ fp, FpOk X pins H3 b := fun b hb => ⟨by
    rw [eH3, upd_ne (by rw [eD]; exact Nat.ne_of_lt (low b hb))]
    exact (fB b hb).1, (fB b hb).2⟩
  have low3 : ∀ b ∈ fp, b < s3.heap.objs.size := fun b hb => by
    rw [heap3, Heap.size_push]
    exact Nat.lt_succ_of_lt (low b hb)
  have st3 : tn 0 s3.heap := T.keep _ _ _ stB fun b _ o e => grow b o e
  have I4 := block_start I3 ok hN fun b hb => ⟨f3 b hb, low3 b hb⟩
  rw [← eD]
  show codeAny _ _ (.compStart (.ListComp elt [⟨tg, iter, [], 0⟩] scope pos) 0 (.ref it) (.ref D) (compEnvC scope (cellsFrom ((sB.heap.push { cls := .type "list", data := .seq ([] : List Value).toArray }).objs.size + 1) scope.names (cloFrom X.env.cells scope.names [])) (sB.heap.push { cls := .type "list", data := .seq ([] : List Value).toArray }).objs.size X.env)) (compEnds (model X.prog X.w) X.A X.xe use Qf (.ref D) (compEnvC scope (cellsFrom ((sB.heap.push { cls := .type "list", data := .seq ([] : List Value).toArray }).objs.size + 1) scope.names (cloFrom X.env.cells scope.names [])) (sB.heap.push { cls := .type "list", data := .seq ([] : List Value).toArray }).objs.size X.env)) { sB with heap := pushCells ((sB.heap.push { cls := .type "list", data := .seq ([] : List Value).toArray }).push { cls := .type "dict", data := .dict #[] }) scope.names }
  rw [← heap3]
  have es4 : ({ sB with heap := pushCells (s3.heap.push { cls := .type "dict", data := .dict #[] }) scope.names } : Shared) = { s3 with heap := pushCells (s3.heap.push { cls := .type "dict", data := .dict #[] }) scope.names } := by rw [e3]
  rw [es4]
  have pg := hg s3 H3 s3.heap.objs.size (cellsFrom (s3.heap.objs.size + 1) scope.names (cloFrom X.env.cells scope.names [])) fp
  have pe := he s3 H3 s3.heap.objs.size (cellsFrom (s3.heap.objs.size + 1) scope.names (cloFrom X.env.cells scope.names [])) fp
  obtain ⟨ce, ece⟩ : ∃ ce, ce = compEnvC scope (cellsFrom (s3.heap.objs.size + 1) scope.names (cloFrom X.env.cells scope.names [])) s3.heap.objs.size X.env := ⟨_, rfl⟩
  have cF : ce.frame = X.env.frame := by rw [ece]; rfl
  have cL : ce.locals = s3.heap.objs.size := by rw [ece]; rfl
  rw [← ece] at I4 pg pe ⊢
  obtain ⟨s4, e4⟩ : ∃ s4 : Shared, s4 = { s3 with heap := pushCells (s3.heap.push { cls := .type "dict", data := .dict #[] }) scope.names } := ⟨_, rfl⟩
  rw [← e4] at I4 ⊢
  have st4 : tn 0 s4.heap := T.keep _ _ _ st3 fun b _ o e => by
    rw [e4]
    exact pushCells_keeps _ _ _ _ (Heap.get?_push_of_some _ e)
  have stay : ∀ {σ' : L2.St} {H' : Hp} {s' : Shared}, Inv (X.blk s3 H3 scope ce fp) [] σ' H' s' → (∀ b ∈ fp, H' b = none) → ∀ b ∈ fp, FpOk (X.blk s3 H3 scope ce fp) [] H' b := fun {σ' H' s'} K n b hb =>
    ⟨n b hb, (K.ok.exf b hb).1, K.ok.exfs b hb, .inl hb, fun x c e => (K.ok.exf b hb).2 x c e, fun p hp => absurd (show p ∈ ([] : List (Addr × Obj)) ++ [] from hp) (by simp)⟩
  have pass := fun (σ : L2.St) => elt_passes (scope := scope) (fp := fp) (ce := ce) (xe := notedBy (model X.prog X.w) X.A ce (CompFails (model X.prog X.w) X.A X.xe ce)) tk hs hf I3 f3 cF cL (fun _ _ z => z) σ
  have pe' := pe _ pass
  have loop : codeAny (model X.prog X.w) X.A (.compLoop (.ListComp elt [⟨tg, iter, [], 0⟩] scope pos) 0 (.ref it) (.ref D) ce) (compEnds (model X.prog X.w) X.A X.xe use Qf (.ref D) ce) s4 := by
    refine compLoop_any (fun k s' => ∃ i H', Inv (X.blk s3 H3 scope ce fp) [] (wipe σ (own.map (·.2))) H' s' ∧ tn i s'.heap ∧ (∀ b ∈ fp, H' b = none) ∧ V i k H') ?_ n0 ⟨0, H3, I4, st4, fun b hb => (f3 b hb).1, v0⟩
    rintro k s5 ⟨i, H5, I5, st5, z5, v5⟩
    rcases turn i k H5 v5 with ⟨stop, fine⟩ | ⟨go, Nx, hNx, step⟩
    · refine thnF (T.done (X.blk s3 H3 scope ce fp) rfl rfl rfl hc i [] s5 _ H5 (fun _ _ => False) I5 (stay I5 z5) st5 stop) fun r s6 ⟨hr, I6⟩ => ?_
      subst hr
      have I7 : Inv X pins σ H5 s6 := I3.call' (ch := fp) I6.os I6.base I6.hok I6.bare fun b hb => ⟨(f3 b hb).2.2.2.1, (f3 b hb).2.1, (f3 b hb).2.2.2.2.1, (f3 b hb).2.2.2.2.2⟩
      obtain ⟨m, hn, _⟩ := I6.loc
      have nC : H5 ce.locals = none := I6.free
      exact hR D ce s6 m H5 I7 fine hn (I3.fpOk (by rw [cL]; exact Nat.le_refl _) nC)
    · refine thnF (T.item (X.blk s3 H3 scope ce fp) rfl rfl rfl hc i [] s5 _ H5 (fun _ _ => False) I5 (stay I5 z5) st5 go) fun r s6 ⟨u, hr, h6⟩ => ?_
      subst hr
      refine thnF h6 fun _ s7 ⟨x, H7, I7, r7, y7, st7, z7⟩ => ?_
      have I7' := I7.pinned (stay I7 z7) (T.obj _ _ st7)
      refine thnF (pg.run _ s7 _ H7 x u _ I7' r7 (step x H7 y7)) fun _ s8 ⟨σ8, H8, I8, w8, q8⟩ => wpAny_tests_nil ?_
      have q8 : te σ8 H8 _ := q8
      refine wpAny_mono (pe'.run _ s8 σ8 H8 _ (I8.wish _) q8) (fun z s9 ⟨yv, H9, I9, r9, acc, a9, b9, nx⟩ => ?_) fun _ _ e => e
      refine app_ok (X := X.blk s3 H3 scope ce fp) I9.unwish a9 b9 r9 fun s10 I10 => ?_
      obtain ⟨k', hk, v'⟩ := hNx _ nx
      have kept : ∀ b ∈ fp, ∀ o, s7.heap.get? b = some o → s10.heap.get? b = some o ∧ (upd H9 D (.lst (acc ++ [yv]))) b = none := fun b hb o e =>
        let z := I10.pin (b, o) (List.mem_append_right _ (List.mem_append_right _ (mem_pinsAt hb e)))
        ⟨z.1, z.2.1⟩
      have hl : (wipe σ (own.map (·.2))).length = σ8.length := by rw [← w8, wipe_length]
      refine ⟨k', hk, i + 1, _, (I10.unpinned (pins := [])).weak hl (fun j v e => ?_), T.keep _ _ _ st7 fun b hb o e => (kept b hb o e).1, fun b hb => ?_, v'⟩
      · rw [← w8] at e
        exact (wipe_some e).1
      · obtain ⟨o, e, _⟩ := T.obj _ _ st7 b hb
        exact (kept b hb o e).2
  exact codeAny_compStart_list loop (T.self X.A 0 _ _ _ st4 loop)
/-- as a value -/
theorem pe_lcX {elt tg iter : Expr} {scope : Scope} {own : List (Str × Nat)} {pos : Pos} {wi : TI} {g : TG} {te : TE} (hc : X.calm = true) (hN : X.N.Nodup) (hs : X.stack = X.env :: X.outer) (hf : X.env.frame = some X.env.locals) (tk : Takes X (fun c d _ H => W c d H)) (hi : PI X tg iter wi) (ok : BlkOk X.N X.env.scope scope own)
    (hg : ∀ (s : Shared) (H : Hp) (C : Addr) (cl : List (Str × Addr)) (fp : List Addr), PG (X.blk s H scope (compEnvC scope cl C X.env) fp) tg g)
    (he : ∀ (s : Shared) (H : Hp) (C : Addr) (cl : List (Str × Addr)) (fp : List Addr) (xe : Value → Shared → Prop), (∀ σ, PassesAt (L2.CX X.prog X.w) ((X.blk s H scope (compEnvC scope cl C X.env) fp).wish xe) σ W) → PE ((X.blk s H scope (compEnvC scope cl C X.env) fp).wish xe) elt te)
    (hsf : ∀ x, foldedSetIterable iter X.env x = pure x := by intro _; rfl) : PE X (.ListComp elt [⟨tg, iter, [], 0⟩] scope pos) (tLc wi g tYes te (own.map (·.2))) := by
  refine ⟨fun pins s σ H Q I h => ?_⟩
  rw [eval_ListComp]
  refine lcx_core hc hN hs hf tk I hi ok hg he hsf h fun D ce s' m H' J q hn f => ⟨m, hn, fun h2 sb => ?_⟩
  obtain ⟨f0, f1, _, f3, f4, f5⟩ := f
  exact ⟨.ref D, H', J.turned (t' := s'.toks) (fun b o hb e => (sb.2 b hb).trans e) f0 f1 f3 f4 f5, rfl, q⟩
/-- name = [..] -/
theorem ps_setLcX {i : Nat} {y : Str} {py : Pos} {elt tg iter : Expr} {scope : Scope} {own : List (Str × Nat)} {pos spos : Pos} {wi : TI} {g : TG} {te : TE} (hc : X.calm = true) (hN : X.N.Nodup) (hs : X.stack = X.env :: X.outer) (hf : X.env.frame = some X.env.locals) (tk : Takes X (fun c d _ H => W c d H)) (hy : X.N[i]? = some y) (hyl : X.env.scope.names.lookup y = some .local)
    (hsw : swapsWith (.ListComp elt [⟨tg, iter, [], 0⟩] scope pos) (some (.Name y py)) spos.line X.env = pure true) (hi : PI X tg iter wi) (ok : BlkOk X.N X.env.scope scope own)
    (hg : ∀ (s : Shared) (H : Hp) (C : Addr) (cl : List (Str × Addr)) (fp : List Addr), PG (X.blk s H scope (compEnvC scope cl C X.env) fp) tg g)
    (he : ∀ (s : Shared) (H : Hp) (C : Addr) (cl : List (Str × Addr)) (fp : List Addr) (xe : Value → Shared → Prop), (∀ σ, PassesAt (L2.CX X.prog X.w) ((X.blk s H scope (compEnvC scope cl C X.env) fp).wish xe) σ W) → PE ((X.blk s H scope (compEnvC scope cl C X.env) fp).wish xe) elt te)
    (hsf : ∀ x, foldedSetIterable iter X.env x = pure x := by intro _; rfl) : PS X (.Assign [.Name y py] (.ListComp elt [⟨tg, iter, [], 0⟩] scope pos) spos) (tAsg (tLc wi g tYes te (own.map (·.2))) (gName i)) := by
  refine ⟨fun pins s σ H D I h => ?_⟩
  rw [exec_Assign_Name_used _ _ _ _ hsw]
  refine wpAny_bind (wpAny_standAt (wpAny_bind ?_))
  have h : tLc wi g tYes te (own.map (·.2)) σ H (fun x H1 => gName i x σ H1 D.nx) := h
  refine wpAny_bind (thn (lcx_core (pos' := firstIterPos [⟨tg, iter, [], 0⟩] pos) (use := some (assign (.Name y py) X.env)) (Qf := fun _ s' => SP X pins D .next s') hc hN hs hf tk I hi ok hg he hsf h fun L ce s' m H' J q hn f => ?_) fun _ s' hq => wpAny_pure (wpAny_pure hq))
  show wpAny _ _ (assign (.Name y py) X.env (.ref L)) _ _ _
  refine wpAny_assign_Name (store_ok2 (v := V.ref L) J hN hy (.inl hyl) rfl (fun s2 I2 ⟨a, sb, ha⟩ => ?_) (.inr hyl))
  obtain ⟨f0, f1, _, f3, f4, f5⟩ := f
  have apart : ce.locals ≠ a := ha.elim (fun z => by rw [z]; exact f1) fun z e => f4 y a z e.symm
  refine ⟨m, hn.sameBut sb apart, fun h3 sb3 => ⟨_, H', I2.turned (t' := s2.toks) (fun b o hb e => (sb3.2 b hb).trans e) f0 f1 f3 f4 f5, q⟩⟩
end
end Dn

namespace Dn
open PySem PySem.Spec PyProof.Rows L2
/-! ### comprehensions whose element may raise, in plain functions -/
inductive ResL where
  | val (ds : List D) | exc (c : String)
def consX (v : D) : Option ResL → Option ResL
  | some (.val r) => some (.val (v :: r))
  | o => o
def compLX (f : Ro → Option Res) (j : Nat) (ρ : Ro) : List D → Option ResL
  | [] => some (.val [])
  | d :: ds => match f (ρ.set j (.val d)) with
    | some (.val v) => consX v (compLX f j ρ ds)
    | some (.exc c) => some (.exc c)
    | none => none
def lstX : Option ResL → Option Res
  | some (.val r) => some (.val (.lst r))
  | some (.exc c) => some (.exc c)
  | none => none
def compX (src : Ro → Option (List D)) (j : Nat) (f : Ro → Option Res) : Ro → Option Res := fun ρ => match src ρ with
  | some ds => if ds.length ≤ sz then lstX (compLX f j ρ ds) else none
  | none => none
/-- what is made so far, ahead of the rest -/
def behind (acc : List D) : ResL → ResL
  | .val r => .val (acc ++ r)
  | .exc c => .exc c
theorem tLcX_of {K : PySem.W.Frag} {src : Ro → Option (List D)} {j : Nat} {f : Ro → Option Res} {xw : String → Hp → Prop} : ∀ (σ : L2.St) (H : Hp) (Q : VK), tDX K (fun c _ H => xw c H) (compX src j f) σ H Q → tLc (tDI K src) (gName j) tYes (tDX K (fun c _ H => xw c H) f) [j] σ H Q := fun σ H Q h => by
  obtain ⟨ρ, Hs, res, vr, sm, hf, k⟩ := h
  unfold compX at hf
  split at hf
  · rename_i ds hds
    split at hf
    · rename_i hz
      cases hL : compLX f j ρ ds with
      | none => rw [hL] at hf; cases hf
      | some R =>
        rw [hL] at hf
        refine ⟨ρ, Hs, ds, vr, sm, hds, fun J Hs1 H1 s1 it Dl hD => ?_⟩
        refine ⟨fun i m H' => m = ds.length - i ∧ i ≤ ds.length ∧ ∃ Hsi vs acc rest, Step Hs1 H1 Hsi H' ∧ Hsi Dl = none ∧ H' Dl = some (.lst vs) ∧ RpAll K Hsi vs acc ∧ acc.length ≤ i ∧ compLX f j ρ (ds.drop i) = some rest ∧ behind acc rest = R,
          ⟨ds.length, rfl, Nat.zero_le _, Hs1, [], [], R, ⟨Same.refl _, same_new hD _, s1.i.trans (same_new hD _), fun _ _ => rfl⟩, s1.i.free hD, upd_same, .nil, Nat.zero_le _, hL, by cases R <;> rfl⟩, ?_⟩
        rintro i m H' ⟨rfl, hi, Hsi, vs, acc, rest, st, hsD, hD', ra, hal, hc, hb⟩
        by_cases hlt : i < ds.length
        · refine .inr ⟨it.go i H' (st.s.trans st.i) hlt, fun H'' => i + 1 ≤ ds.length ∧ ∃ Hsi vs acc rest, Step Hs1 H1 Hsi H'' ∧ Hsi Dl = none ∧ H'' Dl = some (.lst vs) ∧ RpAll K Hsi vs acc ∧ acc.length ≤ i + 1 ∧ compLX f j ρ (ds.drop (i + 1)) = some rest ∧ behind acc rest = R,
            fun H'' q => ⟨ds.length - (i + 1), by omega, rfl, q.1, q.2⟩, fun x H2 y => ?_⟩
          obtain ⟨Hs2, s2, rx⟩ := it.yld i Hsi H' x H2 _ st.s st.i (List.getElem?_eq_getElem hlt) y
          rw [List.drop_eq_getElem_cons hlt] at hc
          unfold compLX at hc
          have st2 := st.trans s2
          have vr2 : VR K Hs2 ((wipe σ [j]).set j (some x)) (ρ.set j (.val ds[i])) := by
            have q := ((vr.mono ((s1.s.trans st2.s))).wipe j).set j rx
            rw [List.set_set] at q
            exact q
          have h2D : Hs2 Dl = none := (s2.f Dl (by rw [hD']; exact fun z => nomatch z)).trans hsD
          have h2D' : H2 Dl = some (.lst vs) := s2.e _ _ hD'
          refine ⟨by show (((σ.set j none).set j (some x)).set j none) = σ.set j none; rw [List.set_set, List.set_set], ?_⟩
          show tDX K (fun c _ H => xw c H) f ((wipe σ [j]).set j (some x)) H2 _
          split at hc
          · rename_i v hv
            cases hrest : compLX f j ρ (ds.drop (i + 1)) with
            | none => rw [hrest] at hc; cases hc
            | some rest' =>
              rw [hrest] at hc
              refine ⟨_, Hs2, _, vr2, s2.i, hv, fun w Hs4 H4 s4 r4 => ?_⟩
              have h4D : H4 Dl = some (.lst vs) := s4.e _ _ h2D'
              have h4s : Hs4 Dl = none := (s4.f Dl (by rw [h2D']; exact fun z => nomatch z)).trans h2D
              have st4 : Step Hs1 H1 Hs4 H4 := st2.trans s4
              refine ⟨vs, h4D, sz_lt (by rw [ra.length]; omega), hlt, Hs4, vs ++ [w], acc ++ [v], rest', ⟨st4.s, fun b u q => ?_, fun b u q => ?_, st4.f⟩, h4s, upd_same, (RpAll.mono (s2.s.trans s4.s) _ _ ra).append (.cons r4 .nil), by rw [List.length_append]; simp; omega, rfl, ?_⟩
              · rw [upd_ne (ne_of_none q hD)]
                exact st4.e _ _ q
              · rw [upd_ne (ne_of_none q h4s)]
                exact st4.i _ _ q
              · rw [← hb]
                cases rest' with
                | val r =>
                  cases hc
                  show ResL.val (acc ++ [v] ++ r) = .val (acc ++ (v :: r))
                  rw [List.append_assoc]
                  rfl
                | exc c =>
                  cases hc
                  rfl
          · rename_i c hv
            cases hc
            refine ⟨_, Hs2, _, vr2, s2.i, hv, fun Hs4 H4 s4 => ?_⟩
            have : R = .exc c := hb.symm
            rw [this] at hf
            cases hf
            exact k Hs4 H4 ((s1.trans st2).trans s4)
          · cases hc
        · have e1 : i = ds.length := by omega
          subst e1
          refine .inl ⟨it.stop _ H' (st.s.trans st.i) (Nat.le_refl _), ?_⟩
          rw [List.drop_length] at hc
          cases hc
          have e2 : R = .val (acc ++ []) := hb.symm
          rw [e2, List.append_nil] at hf
          cases hf
          have s1' : ∀ a, H a ≠ none → H1 a ≠ none := fun a ha z => ha (s1.e.free z)
          refine k _ _ _ ⟨(s1.s.trans st.s).trans (same_new hsD (.lst vs)), s1.e.trans st.e, fun b u q => ?_, fun a ha => ?_⟩ (.lst upd_same (RpAll.mono (same_new hsD _) _ _ ra))
          · by_cases hb2 : b = Dl
            · subst hb2
              rw [upd_same] at q
              rw [hD']
              exact q
            · rw [upd_ne hb2] at q
              exact st.i _ _ q
          · rw [upd_ne (fun z => (s1' a ha) (by rw [z]; exact hD))]
            exact (st.f a (s1' a ha)).trans (s1.f a ha)
    · cases hf
  · cases hf
section
variable {X : Cx} {ec : String → Addr} {E : XK} {e : Expr} {es : List Expr} {fs : List (Ro → Option D)} {f : Ro → Option Res} {pos pos' p p2 : Pos} {x : Str} {a : Addr} {fd : FuncData}
/-- a call in the element -/
theorem d_callP {k k' n : Nat} {ps : List Str} {g : List D → Option Res} (Df : DefOkX X.prog X.w X.K X.mg X.base ec k x ps n g a fd) (hp : ∀ σ, PassesAt (L2.CX X.prog X.w) X σ E) (hr : Room k' X.A) (hk : k ≤ k') (ha : PA X (e :: es) (tDA X.K (argsF fs))) (hg : Gl X x := by rfl) (hn : fs.length = n := by rfl) (hdb : (x == ("__debug__" : Str)) = false := by decide)
    (he : starEach (e :: es) X.env = (false, eval e X.env) :: starEach es X.env := by rfl) (hpl : (backTo pos (starEach es X.env)).any (·.1) = false := by rfl) :
    PE X (.Call (.Name x p) (e :: es) [] pos) (tDX X.K (fun c _ H => xwE ec E c H) (callX g fs)) :=
  pe_of (pe_callS (E := fun _ => E) Df.ok (hr.mono hk) hg Df.m Df.kp Df.b hp ha hdb he hpl) fun σ H Q h => by
    obtain ⟨ρ, Hs, r, vr, sm, hf, k⟩ := h
    unfold callX at hf
    split at hf
    · rename_i ds hds
      refine ⟨ρ, Hs, ds, vr, sm, hds, fun vs Hs1 H1 s1 r1 => ?_⟩
      exact ⟨by rw [r1.length, argsF_length hds, hn], Hs1, ds, r, s1.i, r1, hf, k.from s1⟩
    · cases hf
theorem d_compX (j : Nat) {elt iter : Expr} {px : Pos} {scope : Scope} {src : Ro → Option (List D)} (hc : X.calm = true) (hN : X.N.Nodup) (hs : X.stack = X.env :: X.outer) (hf : X.env.frame = some X.env.locals) (tk : Takes X (fun cls d _ H => E cls d H)) (hi : PI X (.Name x px) iter (tDI X.K src)) (ok : BlkOk X.N X.env.scope scope [(x, j)])
    (hg : ∀ (s : Shared) (H : Hp) (C : Addr) (cl : List (Str × Addr)) (fp : List Addr), PG (X.blk s H scope (compEnvC scope cl C X.env) fp) (.Name x px) (gName j))
    (he : ∀ (s : Shared) (H : Hp) (C : Addr) (cl : List (Str × Addr)) (fp : List Addr) (xe : Value → Shared → Prop), (∀ σ, PassesAt (L2.CX X.prog X.w) ((X.blk s H scope (compEnvC scope cl C X.env) fp).wish xe) σ E) → PE ((X.blk s H scope (compEnvC scope cl C X.env) fp).wish xe) elt (tDX X.K (fun c _ H => xwE ec E c H) f))
    (hsf : ∀ x, foldedSetIterable iter X.env x = pure x := by intro _; rfl) : PE X (.ListComp elt [⟨.Name x px, iter, [], 0⟩] scope pos) (tDX X.K (fun c _ H => xwE ec E c H) (compX src j f)) :=
  pe_of (pe_lcX hc hN hs hf tk hi ok hg he hsf) tLcX_of
theorem s_asgCX (i j : Nat) {y : Str} {py : Pos} {elt iter : Expr} {px : Pos} {scope : Scope} {src : Ro → Option (List D)} (hc : X.calm = true) (hN : X.N.Nodup) (hs : X.stack = X.env :: X.outer) (hf : X.env.frame = some X.env.locals) (tk : Takes X (fun cls d _ H => E cls d H)) (hi : PI X (.Name x px) iter (tDI X.K src)) (ok : BlkOk X.N X.env.scope scope [(x, j)])
    (hg : ∀ (s : Shared) (H : Hp) (C : Addr) (cl : List (Str × Addr)) (fp : List Addr), PG (X.blk s H scope (compEnvC scope cl C X.env) fp) (.Name x px) (gName j))
    (he : ∀ (s : Shared) (H : Hp) (C : Addr) (cl : List (Str × Addr)) (fp : List Addr) (xe : Value → Shared → Prop), (∀ σ, PassesAt (L2.CX X.prog X.w) ((X.blk s H scope (compEnvC scope cl C X.env) fp).wish xe) σ E) → PE ((X.blk s H scope (compEnvC scope cl C X.env) fp).wish xe) elt (tDX X.K (fun c _ H => xwE ec E c H) f))
    (hy : X.N[i]? = some y := by rfl) (hyl : X.env.scope.names.lookup y = some .local := by rfl)
    (hsw : swapsWith (.ListComp elt [⟨.Name x px, iter, [], 0⟩] scope pos) (some (.Name y py)) pos'.line X.env = pure true := by exact sw_true rfl rfl rfl (by decide +kernel)) (hsf : ∀ x, foldedSetIterable iter X.env x = pure x := by intro _; rfl) :
    PS X (.Assign [.Name y py] (.ListComp elt [⟨.Name x px, iter, [], 0⟩] scope pos) pos') (tDS X.K (xwE ec E) (asgX i (compX src j f))) :=
  ps_of (ps_setLcX hc hN hs hf tk hy hyl hsw hi ok hg he hsf) fun D σ H hh => by
    refine tLcX_of σ H _ ?_
    obtain ⟨P, Hs0, H0, Hs, ρ, o, sr, hF, fin⟩ := hh
    unfold asgX at hF
    split at hF
    · rename_i d hd
      cases hF
      exact ⟨ρ, Hs, _, sr.vr, sr.st.i, hd, fun v Hs' H' s r => fin _ _ _ ((sr.step s).setVal i r)⟩
    · rename_i c hd
      cases hF
      exact ⟨ρ, Hs, _, sr.vr, sr.st.i, hd, fun Hs' H' s => fin Hs' H' (sr.st.trans s)⟩
    · cases hF
end
/-! ### evaluation -/
section
variable {f : Ro → Option Res} {src : Ro → Option (List D)} {ρ : Ro} {j : Nat} {ds : List D} {c : String}
def eCoX (o : Option (List D)) (j : Nat) (f : Ro → Option Res) (ρ : Ro) : Option Res := match o with
  | some ds => if ds.length ≤ sz then lstX (compLX f j ρ ds) else none
  | none => none
theorem ev_compX : compX src j f ρ = eCoX (src ρ) j f ρ := rfl
theorem eCoX_ok (h : ds.length ≤ sz) : eCoX (some ds) j f ρ = lstX (compLX f j ρ ds) := by
  show (if ds.length ≤ sz then lstX (compLX f j ρ ds) else none) = _
  rw [if_pos h]
end
end Dn

namespace Dn
open PySem PySem.Spec PyProof.Rows L2
/-! ### try with several clauses, each with the same name -/
def endAs (i : Nat) (D : Ends) : Ends := { nx := fun σ H => D.nx (σ.set i none) H, rt := D.rt, bk := fun σ H => D.bk (σ.set i none) H, ct := fun σ H => D.ct (σ.set i none) H }
abbrev Cl := List (Value × (Addr → Value → Option Addr → TS))
def wAses (K : PySem.W.Frag) (Wout : WX) (D : Ends) (i : Nat) : Cl → WX
  | [] => Wout
  | (c, ts) :: r => fun cls d σ H => ∃ b, PySem.W.exmOne K cls c = some b ∧ (b = true → ∀ a, H a = none → ts a cls d (endAs i D) (σ.set i (some (.ref a))) H) ∧ (b = false → wAses K Wout D i r cls d σ H)
inductive Ases (X : Cx) (n : Str) : List ExceptHandler → Cl → Prop
  | nil : Ases X n [] []
  | cons {x : Str} {c : Value} {ts : Addr → Value → Option Addr → TS} {st : Stmt} {rest : List Stmt} {np pos : Pos} {hds : List ExceptHandler} {l : Cl} (hc : Names X x c)
      (su : ∀ (a : Addr) (oe : Obj) (cls : Value) (d : Option Addr) (pn : List (Addr × Obj)), Zc cls d oe → (∃ vs, oe.data = .fields vs) → PSs (X.suite a ((a, oe) :: pn)) (st :: rest) (ts a cls d)) (r : Ases X n hds l) :
      Ases X n (.ExceptHandler (some (.Name x np)) (some n) (st :: rest) pos :: hds) ((c, ts) :: l)
section
variable {X : Cx} {n : Str} {i : Nat} {Wout : WX}
/-- the clauses, one after the other, of an error that has landed -/
theorem ases_go {D : Ends} {pins : List (Addr × Obj)} {a : Addr} {B : Heap} {sI s3 : Shared} {σ : L2.St} {H : Hp} {cls : Value} {d : Option Addr} (hs : X.stack = X.env :: X.outer) (hf : X.env.frame = some X.env.locals) (hN : X.N.Nodup) (hi : X.N[i]? = some n) (hln : X.env.kindOf n = some .local) (tk : Takes X Wout)
    (J : Inv X pins σ H sI) (nb : ∀ b o, sI.heap.get? b = some o → b ∉ frs X.stack → B.get? b = some o) (up : sI.heap.UpToSlots s3.heap) (os : s3.os = sI.os) (ag : AllBare s3.gens) (na : H a = none) (fl : HandSPX.FlyingZ B (X.env :: X.outer) a (Zc cls d) s3.heap) :
    ∀ {hds : List ExceptHandler} {l : Cl}, Ases X n hds l → wAses X.K Wout D i l cls d σ H → wpAny (model X.prog X.w) X.A (handleBy (.ref a) X.env hds) (SP X pins D) X.xe s3 := by
  intro hds l hk
  have far : ∀ {h : Heap} {o : Obj} {vs : Array Value}, h.FunFrames B (X.env :: X.outer) → h.get? a = some o → o.data = .fields vs → a ∉ frs (X.env :: X.outer) := fun {h o vs} ff e dd hm => by
    obtain ⟨_, o', e', hnf⟩ := ff.mem hm
    rw [e] at e'
    cases e'
    exact hnf _ dd
  obtain ⟨oe3, vs3, g3, z3, d3⟩ := fl.there
  have off := far fl.2.2.1 g3 d3
  have nL : a ≠ X.env.locals := fun z => off (List.mem_filterMap.mpr ⟨X.env, List.mem_cons_self, by rw [hf, z]⟩)
  have nF : a ∉ X.fs := fun hm => by
    obtain ⟨e, he, q⟩ := List.mem_filterMap.mp hm
    exact off (List.mem_filterMap.mpr ⟨e, List.mem_cons_of_mem _ he, q⟩)
  have J3 : Inv X pins σ H s3 := J.landed nb fl.1 up os ag
  have S3 := J3.suite g3 d3 na nL nF
  induction hk with
  | nil =>
    intro w
    refine wpAny_handleBy_nil ?_
    obtain ⟨_, _, _, oe, vs, T, oT, ts', he, _, hd, h1, _⟩ := id fl
    unfold PySem.passOn
    refine wpAny_bind (wpAny_field he hd h1 ?_)
    rw [if_neg (show ¬ ((Value.ref T == Value.none) = true) from by simp)]
    have on : wpAny (model X.prog X.w) X.A (setFlight (.ref a) X.env.frame) (fun _ s4 => wpAny (model X.prog X.w) X.A (throw (.ref a) : Sem Flow) (SP X pins D) X.xe s4) X.xe s3 := by
      rw [hf]
      refine HandSPX.setFlight_upZ fl fun h4 hd4 up4 => wpAny_throw (tk _ _ ?_)
      exact ⟨a, B, sI, pins, σ, H, cls, d, rfl, J, nb, up.trans up4, .inr (.inr (by rw [hs]; exact hd4)), na, os, ag, w⟩
    first
      | exact wpAny_bind (wpAny_pure (wpAny_bind on))
      | exact wpAny_bind on
  | @cons x c ts st rest np pos hds l hc su r ih =>
    intro w
    obtain ⟨b, hb1, yes, no⟩ := w
    refine wpAny_handleBy_cons (codeAny_handlers_test ?_) (by intro q; cases q)
    have lt : PySem.W.Looks (model X.prog X.w) s3.heap (typeOf (.ref a)) cls := fun A Q E s k q => wpAny_typeOf_ref (k _ _ g3) (by rw [z3.1]; exact q)
    have lm := PySem.W.exm_one (M := model X.prog X.w) J3.kIn lt hb1
    have named : ∀ {Q : Value → Shared → Prop} {E : Value → Shared → Prop}, Q c s3 → wpAny (model X.prog X.w) (X.A.mark (some (.ref a))) (eval (.Name x np) X.env) Q E s3 := fun {Q E} q => by
      obtain ⟨hg, hdbg, hm | ⟨hm, hv, hnn⟩⟩ := hc
      · exact ld_glob (X := X.suite a ((a, oe3) :: (X.pn ++ pins))) S3 hg hm q hdbg
      · exact ld_blt (X := X.suite a ((a, oe3) :: (X.pn ++ pins))) S3 hg hm hv q hnn hdbg
    refine named (lm.here ?_)
    cases b with
    | false => exact ih (no rfl)
    | true =>
      refine codeAny_handlers_suite_as (HandSPX.lands_againZ fl fun h4 fl4 up4 => ?_)
      have J4 : Inv X pins σ H { s3 with heap := h4 } := J.landed nb fl4.1 (up.trans up4) os ag
      obtain ⟨oe4, vs4, g4, z4, d4⟩ := fl4.there
      have S4 := J4.suite g4 d4 na nL nF
      refine store_ok (X := X.suite a ((a, oe4) :: (X.pn ++ pins))) (v := .ref a) S4 hN hi (.inl hln) rfl (fun s5 S5 => ?_) (.inr hln)
      refine wpAny_mono ((su a oe4 cls d (X.pn ++ pins) z4 ⟨_, d4⟩).run [] s5 _ H _ S5 (yes rfl a na)) (fun f s6 sp => ?_) (fun _ _ z => False.elim z)
      have drop : ∀ {σ6 : L2.St} {H6 : Hp} {Q : Shared → Prop}, Inv (X.suite a ((a, oe4) :: (X.pn ++ pins))) [] σ6 H6 s6 → (∀ s7, Inv X pins (σ6.set i none) H6 s7 → Q s7) →
          wpAny (model X.prog X.w) X.A (do bindName X.env n .none; unbindBehindTheSuite X.env n pos) (fun _ s7 => Q s7) X.xe s6 := fun {σ6 H6 Q} S6 hq => gone_ok (S6.unsuite J.ok) hN hi hln hq
      cases f with
      | next => obtain ⟨σ6, H6, S6, q6⟩ := sp; exact drop S6 fun s7 J7 => ⟨_, _, J7, q6⟩
      | brk => obtain ⟨σ6, H6, S6, q6⟩ := sp; exact drop S6 fun s7 J7 => ⟨_, _, J7, q6⟩
      | cont => obtain ⟨σ6, H6, S6, q6⟩ := sp; exact drop S6 fun s7 J7 => ⟨_, _, J7, q6⟩
      | ret u => obtain ⟨v6, σ6, H6, S6, r6, q6⟩ := sp; exact drop S6 fun s7 J7 => ⟨_, _, _, J7, r6, q6⟩
theorem ps_try_ases {body : List Stmt} {h0 : ExceptHandler} {hds : List ExceptHandler} {l : Cl} {tb : WX → TS} {pos : Pos} (hs : X.stack = X.env :: X.outer) (hf : X.env.frame = some X.env.locals) (hN : X.N.Nodup) (hi : X.N[i]? = some n) (hln : X.env.kindOf n = some .local) (tk : Takes X Wout)
    (hb : ∀ (W : WX) (pn : List (Addr × Obj)) (xe : Value → Shared → Prop), Takes (X.tr pn xe) W → PassesOwn (model X.prog X.w) X.A X.env xe → PSs (X.tr pn xe) body (tb W))
    (hh : Ases X n (h0 :: hds) l) : PS X (.Try body (h0 :: hds) [] [] pos) (fun D σ H => tb (wAses X.K Wout D i l) D σ H) := by
  refine ⟨fun pins s σ H D I h => wpAny_Try_except ?_⟩
  have ok := I.ok
  have hfr : X.A.frames = some (X.env :: X.outer) := by rw [ok.frames, hs]
  refine wpAny_mono ((hb (wAses X.K Wout D i l) (X.pn ++ pins) (fun e s1 => wpAny (model X.prog X.w) X.A (noteFrame e X.env) (fun _ s2 => wpAny (model X.prog X.w) X.A (setFlight e none) (fun _ s3 =>
    wpAny (model X.prog X.w) X.A (handleBy e X.env (h0 :: hds)) (SP X pins D) X.xe s3) X.xe s2) X.xe s1) (fun u s' xx => ?_) PassesOwn.looking).run [] s σ H D (I.toTry _) h) (fun f s1 sp => ?_) (fun e s1 he => he)
  · obtain ⟨a, B, sI, pins', σ', H', cls, d, rfl, J', nb, up, sky, na, os, ag, w⟩ := xx
    have J : Inv X pins σ' H' sI := J'.ofTry ok
    have sky' : Sky B (X.env :: X.outer) a (Zc cls d) X.env.locals s'.heap := by rw [← hs]; exact sky
    show wpAny (model X.prog X.w) X.A (noteFrame (.ref a) X.env) _ _ _
    exact Sky.land Zc.steady hfr hf sky' fun h3 fl3 up3 => ases_go (s3 := { s' with heap := h3 }) hs hf hN hi hln tk J nb (up.trans up3) os ag na fl3 hh w
  · cases f with
    | next => obtain ⟨σ', H', J, q⟩ := sp; exact wpAny_execs_nil ⟨σ', H', J.ofTry ok, q⟩
    | brk => obtain ⟨σ', H', J, q⟩ := sp; exact ⟨σ', H', J.ofTry ok, q⟩
    | cont => obtain ⟨σ', H', J, q⟩ := sp; exact ⟨σ', H', J.ofTry ok, q⟩
    | ret u => obtain ⟨v, σ', H', J, r, q⟩ := sp; exact ⟨v, σ', H', J.ofTry ok, r, q⟩
end
/-- try: f(..) / except N1 as e: return .. / except N2 as e: return .. -/
theorem s_try2 {X : Cx} {ec : String → Addr} {xw : String → Hp → Prop} {i : Nat} {n1 n2 : String} {k1 k2 : String → Ro → Option D} {f : Ro → Option Res} {e er1 er2 : Expr} {x1 x2 en : Str} {np1 np2 pos pos1 pos2 pos3 posr1 posr2 : Pos} (C : ExOk X.K X.mg ec) (hn1 : n1 ∈ "WishError" :: exs) (hy1 : x1 = Str.ofString n1) (hn2 : n2 ∈ "WishError" :: exs) (hy2 : x2 = Str.ofString n2)
    (hs : X.stack = X.env :: X.outer) (hf : X.env.frame = some X.env.locals) (hN : X.N.Nodup)
    (hb : ∀ (W : WX) (pn : List (Addr × Obj)) (xe : Value → Shared → Prop), Takes (X.tr pn xe) W → PE (X.tr pn xe) e (tDX X.K (fun c σ H => W (.ref (ec c)) none σ H) f))
    (hsu1 : ∀ (c : String) (a : Addr) (oe : Obj) (pn : List (Addr × Obj)), c ∈ exs → Zc (.ref (ec c)) none oe → (∃ vs, oe.data = .fields vs) → PE (X.suite a ((a, oe) :: pn)) er1 (tDG X.K i a (k1 c)))
    (hsu2 : ∀ (c : String) (a : Addr) (oe : Obj) (pn : List (Addr × Obj)), c ∈ exs → Zc (.ref (ec c)) none oe → (∃ vs, oe.data = .fields vs) → PE (X.suite a ((a, oe) :: pn)) er2 (tDG X.K i a (k2 c)))
    (hi : X.N[i]? = some en := by rfl) (hln : X.env.kindOf en = some .local := by rfl) (hgx1 : Gl X x1 := by rfl) (hgx2 : Gl X x2 := by rfl) (hdb1 : (x1 == ("__debug__" : Str)) = false := by decide) (hdb2 : (x2 == ("__debug__" : Str)) = false := by decide) (hsw : swapsWith e none pos3.line X.env = pure false := by rfl) :
    PS X (.Try [.Expr e pos3] [.ExceptHandler (some (.Name x1 np1)) (some en) [.Return (some er1) posr1] pos1, .ExceptHandler (some (.Name x2 np2)) (some en) [.Return (some er2) posr2] pos2] [] [] pos) (tDS X.K xw (tryF i f [(n1, k1), (n2, k2)])) := by
  have gC1 : X.mg x1 = some (.ref (ec n1)) := by rw [hy1]; exact C.gm n1 hn1
  have gC2 : X.mg x2 = some (.ref (ec n2)) := by rw [hy2]; exact C.gm n2 hn2
  have su : ∀ {er : Expr} {posr : Pos} {k : String → Ro → Option D}, (∀ (c : String) (a : Addr) (oe : Obj) (pn : List (Addr × Obj)), c ∈ exs → Zc (.ref (ec c)) none oe → (∃ vs, oe.data = .fields vs) → PE (X.suite a ((a, oe) :: pn)) er (tDG X.K i a (k c))) →
      ∀ (a : Addr) (oe : Obj) (cls : Value) (d : Option Addr) (pn : List (Addr × Obj)), Zc cls d oe → (∃ vs, oe.data = .fields vs) → PSs (X.suite a ((a, oe) :: pn)) [.Return (some er) posr] (tSuite X.K ec i k a cls d) := fun {er posr k} hsu a oe cls d pn hz hfl => ⟨fun pins s σ H D I hh => by
    obtain ⟨c, hc, rfl, rfl, hh⟩ := hh
    exact (pss_one (ps_ret (hsu c a oe pn hc hz hfl))).run pins s σ H D I hh⟩
  refine ps_of (ps_try_ases (i := i) (Wout := fun _ _ _ _ => False) (l := [(.ref (ec n1), tSuite X.K ec i k1), (.ref (ec n2), tSuite X.K ec i k2)]) hs hf hN hi hln takes0 (tb := fun W => tDrop (tDX X.K (fun c σ H => W (.ref (ec c)) none σ H) f))
    (fun W pn xe tk _ => pss_one (ps_expr (hb W pn xe tk) hsw)) (.cons ⟨hgx1, hdb1, .inl gC1⟩ (su hsu1) (.cons ⟨hgx2, hdb2, .inl gC2⟩ (su hsu2) .nil))) fun En σ H hh => ?_
  obtain ⟨P, Hs0, H0, Hs, ρ, o, sr, hF, fin⟩ := hh
  unfold tryF at hF
  split at hF
  · rename_i d hd
    cases hF
    exact ⟨ρ, Hs, _, sr.vr, sr.st.i, hd, fun v Hs' H' s r => fin _ _ _ (sr.step s)⟩
  · rename_i c hd
    split at hF
    · rename_i hc
      split at hF
      · rename_i d hp
        cases hF
        have suite : ∀ {k : String → Ro → Option D} {Hs' H' : Hp} {a : Addr}, Step Hs H Hs' H' → k c (ρ.set i .no) = some d → tSuite X.K ec i k a (.ref (ec c)) none (endAs i En) (σ.set i (some (.ref a))) H' := fun {k Hs' H' a} s hk =>
          ⟨c, hc.2, rfl, rfl, by rw [List.getElem?_set_self (by rw [sr.vr.1]; exact hc.1)], ρ.set i .no, Hs', d, vr_hole (sr.vr.mono s.s) i _, s.i, hk, fun v Hs2 H2 s2 r2 => fin _ _ _ _ (sr.step (s.trans s2)) r2⟩
        unfold pickF at hp
        refine ⟨ρ, Hs, _, sr.vr, sr.st.i, hd, fun Hs' H' s => ⟨ism c n1, C.exm c hc.2 n1 hn1, fun hb a ha => ?_, fun hb => ⟨ism c n2, C.exm c hc.2 n2 hn2, fun hb2 a ha => ?_, fun hb2 => ?_⟩⟩⟩
        · rw [if_pos hb] at hp
          exact suite s hp
        · rw [if_neg (by rw [hb]; exact Bool.false_ne_true)] at hp
          unfold pickF at hp
          rw [if_pos hb2] at hp
          exact suite s hp
        · rw [if_neg (by rw [hb]; exact Bool.false_ne_true)] at hp
          unfold pickF at hp
          rw [if_neg (by rw [hb2]; exact Bool.false_ne_true)] at hp
          cases hp
      · cases hF
    · cases hF
  · cases hF
end Dn

namespace Dn
open PySem PySem.Spec PyProof.Rows L2
/-! ### text * number, the number from 0 on -/
def repT (n : Nat) (l : List Nat) : List Nat := (List.replicate n l).flatten
theorem repT_len (n : Nat) (l : List Nat) : (repT n l).length = n * l.length := by
  unfold repT
  simp
theorem op_rep_strN {X : Cx} : OpR X (binaryOp .Mult) (fun x y H Q => ∃ i n, x = .str i ∧ y = .int n ∧ 0 ≤ n ∧ n ≤ 1000 ∧ i.length ≤ 1000 ∧ Q (.str (tx (repT n.toNat (TL.tl i)))) H) := by
  intro pins s σ H x y v u Q I rx ry h
  obtain ⟨i, n, rfl, rfl, h2, h3, h5, q⟩ := h
  obtain ⟨t, rfl⟩ := rx
  obtain ⟨t', rfl⟩ := ry
  have hz : i.length * n.toNat ≤ 1000 * 1000 := Nat.mul_le_mul h5 (by omega)
  refine P.mul_str (by
      have a1 : ¬ n < -(2 ^ 63) := by omega
      have a2 : ¬ n ≥ 2 ^ 63 := by omega
      rw [decide_eq_false a1, decide_eq_false a2]; rfl) (fun g1 g2 => ?_) (fun _ _ => ?_) ?_
  · have : (1000 : Int) ≤ (2 ^ 63 - 1) / n := by
      rw [Int.le_ediv_iff_mul_le (by omega)]
      omega
    omega
  · unfold Builtin.Str.tooLong
    rw [decide_eq_false]
    rw [sizeLine_eq]
    omega
  · by_cases c1 : n < 1
    · rw [if_pos c1]
      have e : n.toNat = 0 := by omega
      rw [e] at q
      exact ⟨by decide, ⟨.str _, H, I.tok _, ⟨_, rfl⟩, q⟩⟩
    · rw [if_neg c1]
      by_cases c2 : (n == 1 || i.length == 0) = true
      · rw [if_pos c2]
        have e : tx (repT n.toNat (TL.tl i)) = i := by
          rw [Bool.or_eq_true, beq_iff_eq, beq_iff_eq] at c2
          rcases c2 with c2 | c2
          · subst c2
            show tx (List.flatten [TL.tl i]) = i
            rw [List.flatten_cons, List.flatten_nil, List.append_nil]
          · have e0 : TL.tl i = [] := List.length_eq_zero_iff.mp (by
              rw [← c2]
              exact Array.length_toList)
            have e1 : repT n.toNat (TL.tl i) = [] := by
              unfold repT
              rw [e0]
              simp
            rw [e1, ← e0]
        rw [e] at q
        exact ⟨.str i, H, I, ⟨t, rfl⟩, q⟩
      · rw [if_neg c2]
        have e : (⟨(List.replicate n.toNat i.cps).foldl (· ++ ·) #[]⟩ : Str) = tx (repT n.toNat (TL.tl i)) := by
          rw [fold_rep]
          show (⟨#[] ++ (repT n.toNat (TL.tl i)).toArray⟩ : Str) = _
          rw [Array.empty_append]
        rw [← e] at q
        refine ⟨?_, ⟨.str _, H, I.tok _, ⟨_, rfl⟩, q⟩⟩
        show ((List.replicate n.toNat i.cps).foldl (· ++ ·) #[]).size ≤ _
        rw [fold_size, sizeLine_eq, Nat.mul_comm]
        exact Nat.le_trans hz (by decide)
def gMulN : D → D → Option D
  | .str x, .int n => if 0 ≤ n ∧ n ≤ 1000 ∧ x.length ≤ 1000 then some (.str (tx (repT n.toNat (TL.tl x)))) else none
  | _, _ => none
theorem d_mulN {X : Cx} {a b : Expr} {fa fb : Ro → Option D} {pos : Pos} (ha : PE X a (tD X.K fa)) (hb : PE X b (tD X.K fb)) : PE X (.BinOp a .Mult b pos) (tD X.K (biF gMulN fa fb)) := d_op op_rep_strN (fun Hs H x y dx dy d Q sm rx ry hg k => by
  unfold gMulN at hg
  split at hg
  · split at hg
    · rename_i hc
      cases hg
      cases rx
      cases ry
      exact ⟨_, _, rfl, rfl, hc.1, hc.2.1, hc.2.2, k _ Hs H (Step.refl sm) (.str _)⟩
    · cases hg
  · cases hg) ha hb
theorem mulN_tx {l : List Nat} {n : Int} (h0 : 0 ≤ n) (h1 : n ≤ 1000) (hl : l.length ≤ 1000) : gMulN (.str (tx l)) (.int n) = some (.str (tx (repT n.toNat l))) := by
  show (if 0 ≤ n ∧ n ≤ 1000 ∧ (tx l).length ≤ 1000 then some (D.str (tx (repT n.toNat l))) else none) = _
  rw [if_pos ⟨h0, h1, by rw [tx_len]; exact hl⟩]
/-! ### texts of limited length -/
def As (n : Nat) (l : List Nat) : Prop := asc l ∧ l.length ≤ n
theorem As.app {n m : Nat} {a b : List Nat} (h : As n a) (k : As m b) : As (n + m) (a ++ b) := ⟨asc_app h.1 k.1, by rw [List.length_append]; have := h.2; have := k.2; omega⟩
theorem As.mono {n m : Nat} {a : List Nat} (h : As n a) (k : n ≤ m) : As m a := ⟨h.1, Nat.le_trans h.2 k⟩
theorem As.rep {n : Nat} {a : List Nat} (h : As n a) (k : Nat) : As (k * n) (repT k a) := ⟨fun c hc => by
  unfold repT at hc
  obtain ⟨p, hp, hc⟩ := List.mem_flatten.mp hc
  rw [(List.mem_replicate.mp hp).2] at hc
  exact h.1 c hc, by rw [repT_len]; exact Nat.mul_le_mul_left k h.2⟩
theorem As.take {n : Nat} {a : List Nat} (h : As n a) (k : Nat) : As n (a.take k) := ⟨fun c hc => h.1 c (List.mem_of_mem_take hc), Nat.le_trans (by rw [List.length_take]; omega) h.2⟩
theorem As.drop {n : Nat} {a : List Nat} (h : As n a) (k : Nat) : As n (a.drop k) := ⟨fun c hc => h.1 c (List.mem_of_mem_drop hc), Nat.le_trans (by rw [List.length_drop]; omega) h.2⟩
theorem As.cut {n : Nat} {a : List Nat} (h : As n a) (lo hi : Option Int) : As n (cutL a lo hi) := (h.drop _).take _
def asB (n : Nat) (x : Str) : Bool := (TL.tl x).all (fun c => decide (c < 128)) && decide ((TL.tl x).length ≤ n)
theorem As.of {n : Nat} {x : Str} (h : asB n x = true) : As n (TL.tl x) := by
  unfold asB at h
  rw [Bool.and_eq_true, List.all_eq_true] at h
  exact ⟨fun c hc => of_decide_eq_true (h.1 c hc), of_decide_eq_true h.2⟩
theorem str_tx (x : Str) : x = tx (TL.tl x) := (TL.mk_tl x).symm
/-- an item of a list of written texts -/
theorem pick_str (xs : List Str) (n : Nat) (h : xs.all (asB n) = true) (k : Int) (h0 : 0 ≤ k) (h1 : k < xs.length) : ∃ l, As n l ∧ gIx (.lst (xs.map D.str)) (.int k) = some (.str (tx l)) := by
  have hk : k.toNat < xs.length := by omega
  refine ⟨TL.tl xs[k.toNat], As.of (List.all_eq_true.mp h _ (List.getElem_mem hk)), ?_⟩
  rw [← str_tx]
  exact ix_lst h0 (by rw [List.getElem?_map, List.getElem?_eq_getElem hk] <;> rfl)
end Dn

namespace Ev
open PySem PySem.Spec PyProof.Rows L2 Dn
def topS (i : Nat) : Stmt := PySem.Challenge.pw_everywish_k07_texts_refused.main.body.getD i (.Pass ⟨0, 0, 0, 0⟩)
abbrev s_p_check : Stmt := topS 9
theorem sc_p_check : FnScope ["setters", "wishes", "sign", "wish"] ["setters", "wishes"] (defScope s_p_check) := ⟨rfl, rfl, rfl, by decide +kernel, rfl, by decide +kernel, by decide +kernel⟩
abbrev s_p_check_wish : Stmt := topS 10
theorem sc_p_check_wish : FnScope ["wish", "many", "number"] ["wish", "many"] (defScope s_p_check_wish) := ⟨rfl, rfl, rfl, by decide +kernel, rfl, by decide +kernel, by decide +kernel⟩
abbrev s_p_read : Stmt := topS 13
theorem sc_p_read : FnScope ["text", "rows", "setters", "wishes", "row"] ["text"] (defScope s_p_read) := ⟨rfl, rfl, rfl, by decide +kernel, rfl, by decide +kernel, by decide +kernel⟩
abbrev s_p_setters_of : Stmt := topS 14
theorem sc_p_setters_of : FnScope ["row"] ["row"] (defScope s_p_setters_of) := ⟨rfl, rfl, rfl, by decide +kernel, rfl, by decide +kernel, by decide +kernel⟩
abbrev s_p_wish_of : Stmt := topS 15
theorem sc_p_wish_of : FnScope ["row", "words", "word"] ["row"] (defScope s_p_wish_of) := ⟨rfl, rfl, rfl, by decide +kernel, rfl, by decide +kernel, by decide +kernel⟩
abbrev s_p_number_of : Stmt := topS 16
theorem sc_p_number_of : FnScope ["word", "figures", "sign"] ["word"] (defScope s_p_number_of) := ⟨rfl, rfl, rfl, by decide +kernel, rfl, by decide +kernel, by decide +kernel⟩
abbrev s_l_cell_at : Stmt := topS 18
theorem sc_l_cell_at : FnScope ["_law_script", "_law_k"] ["_law_script", "_law_k"] (defScope s_l_cell_at) := ⟨rfl, rfl, rfl, by decide +kernel, rfl, by decide +kernel, by decide +kernel⟩
abbrev s_l_first : Stmt := topS 19
theorem sc_l_first : FnScope ["_law_cell", "_law_some"] ["_law_cell"] (defScope s_l_first) := ⟨rfl, rfl, rfl, by decide +kernel, rfl, by decide +kernel, by decide +kernel⟩
abbrev s_l_next : Stmt := topS 20
theorem sc_l_next : FnScope ["_law_cell", "_law_some", "_law_sign"] ["_law_cell"] (defScope s_l_next) := ⟨rfl, rfl, rfl, by decide +kernel, rfl, by decide +kernel, by decide +kernel⟩
abbrev s_l_sign_by : Stmt := topS 21
theorem sc_l_sign_by : FnScope ["_law_cell", "_law_some"] ["_law_cell"] (defScope s_l_sign_by) := ⟨rfl, rfl, rfl, by decide +kernel, rfl, by decide +kernel, by decide +kernel⟩
abbrev s_l_great : Stmt := topS 22
theorem sc_l_great : FnScope ["_law_cell", "_law_way", "_law_lamps", "_law_rows", "_law_k"] ["_law_cell"] (defScope s_l_great) := ⟨rfl, rfl, rfl, by decide +kernel, rfl, by decide +kernel, by decide +kernel⟩
abbrev s_l_text : Stmt := topS 23
theorem sc_l_text : FnScope ["_law_script", "_law_rows", "_law_k", "_law_text_here", "_law_way", "_law_at"] ["_law_script"] (defScope s_l_text) := ⟨rfl, rfl, rfl, by decide +kernel, rfl, by decide +kernel, by decide +kernel⟩
abbrev s_l_number : Stmt := topS 24
theorem sc_l_number : FnScope ["_law_word", "_law_figures", "_law_sign"] ["_law_word"] (defScope s_l_number) := ⟨rfl, rfl, rfl, by decide +kernel, rfl, by decide +kernel, by decide +kernel⟩
abbrev s_l_wish : Stmt := topS 25
theorem sc_l_wish : FnScope ["_law_row", "_law_wish_here", "_law_word"] ["_law_row"] (defScope s_l_wish) := ⟨rfl, rfl, rfl, by decide +kernel, rfl, by decide +kernel, by decide +kernel⟩
abbrev s_l_game : Stmt := topS 26
theorem sc_l_game : FnScope ["_law_text_here", "_law_rows", "_law_wishes", "_law_row"] ["_law_text_here"] (defScope s_l_game) := ⟨rfl, rfl, rfl, by decide +kernel, rfl, by decide +kernel, by decide +kernel⟩
abbrev s_l_good : Stmt := topS 27
theorem sc_l_good : FnScope ["_law_game_here", "_law_sign", "_law_wish_here", "_law_number_here"] ["_law_game_here"] (defScope s_l_good) := ⟨rfl, rfl, rfl, by decide +kernel, rfl, by decide +kernel, by decide +kernel⟩
abbrev s_l_refused : Stmt := topS 28
theorem sc_l_refused : FnScope ["_law_text_here", "_law_by_game", "e"] ["_law_text_here", "_law_by_game"] (defScope s_l_refused) := ⟨rfl, rfl, rfl, by decide +kernel, rfl, by decide +kernel, by decide +kernel⟩
abbrev s_l_alike : Stmt := topS 29
theorem sc_l_alike : FnScope ["_law_found", "_law_due", "_law_wish_here", "_law_number_here"] ["_law_found", "_law_due"] (defScope s_l_alike) := ⟨rfl, rfl, rfl, by decide +kernel, rfl, by decide +kernel, by decide +kernel⟩
abbrev s_law0 : Stmt := topS 30
theorem sc_law0 : FnScope ["_law_script", "_law_text_here", "_law_game_here"] ["_law_script"] (defScope s_law0) := ⟨rfl, rfl, rfl, by decide +kernel, rfl, by decide +kernel, by decide +kernel⟩
section
variable {PP : Program} {w : World} {K : PySem.W.Frag} {mg : Str → Option Value} {base : Heap}
def F_l_cell_at : SF := (seqF (ifF (testF (biF gLt (varF 1) (callF gLen [(varF 0)]))) (retF (biF gIx (varF 0) (varF 1))) skipF)
  (retF (cF (.int 0))))
def g_l_cell_at : List D → Option D := runF F_l_cell_at 2
theorem ok_l_cell_at {a_ : Addr} {fd_ : FuncData} (T : Top K mg "_law_cell_at" s_l_cell_at ["_law_script", "_law_k"] a_ fd_) (m_len : mg "len" = none) : DefOk PP w K mg base 1 "_law_cell_at" ["_law_script", "_law_k"] 2 g_l_cell_at a_ fd_ :=
  def_of T sc_l_cell_at fun cdv A outer s H E hr => (s_cons (s_if (t_lt (d_var 1) (d_len m_len (d_var 0))) (s_one (s_ret (d_ix (d_var 0) (d_var 1)))) s_nil)
    (s_one (s_ret d_int)))
def F_l_great : SF := (seqF (asgF 1 (biF gMod (varF 0) (cF (.int 3))))
  (seqF (asgF 2 (biF gIx (lstF [(cF (.int 9)), (cF (.int 10)), (cF (.int 11)), (cF (.int 12))]) (biF gMod (biF gDiv (varF 0) (cF (.int 3))) (cF (.int 4)))))
  (seqF (ifF (testF (biF gEq (varF 1) (cF (.int 0)))) (retF (biF gAdd (biF gAdd (biF gAdd (cF (.str "lamps ")) (biF gMulN (cF (.str "fo")) (biF gDiv (varF 2) (cF (.int 2))))) (biF gMulN (cF (.str "f")) (biF gMod (varF 2) (cF (.int 2))))) (cF (.str "\nwish 1")))) skipF)
  (seqF (ifF (testF (biF gEq (varF 1) (cF (.int 1)))) (seqF (asgO 3 (lstF [(cF (.str "lamps of"))]))
  (seqF (forF (itemsR1 (biF gAdd (varF 2) (cF (.int 10)))) (nameT 4) (appF 3 (slF (cF (.str "wish 1 -2")) noF (someF (biF gAdd (cF (.int 4)) (biF gMul (cF (.int 2)) (biF gMod (varF 4) (cF (.int 2)))))))))
  (retF (biF gJoin (cF (.str "\n")) (varF 3))))) skipF)
  (retF (biF gAdd (cF (.str "lamps fo\nwish\nwish")) (biF gMulN (cF (.str " -2")) (callF gMin [(varF 2), (cF (.int 11))]))))))))
def g_l_great : List D → Option D := runF F_l_great 5
theorem ok_l_great {a_ : Addr} {fd_ : FuncData} (T : Top K mg "_law_great" s_l_great ["_law_cell"] a_ fd_) (m_range : mg "range" = none) (m_min : mg "min" = none) : DefOk PP w K mg base 1 "_law_great" ["_law_cell"] 1 g_l_great a_ fd_ :=
  def_of T sc_l_great fun cdv A outer s H E hr => (s_cons (s_asg 1 (d_mod (d_var 0) d_int) sc_l_great.nd)
    (s_cons (s_asg 2 (d_ix (d_lst (a_cons d_int (a_cons d_int (a_cons d_int (a_cons d_int a_nil))))) (d_mod (d_div (d_var 0) d_int) d_int)) sc_l_great.nd)
    (s_cons (s_if (t_eq hr (d_var 1) d_int) (s_one (s_ret (d_add (d_add (d_add d_str (d_mulN d_str (d_div (d_var 2) d_int))) (d_mulN d_str (d_mod (d_var 2) d_int))) d_str))) s_nil)
    (s_cons (s_if (t_eq hr (d_var 1) d_int) (s_cons (s_asgO 3 (n_lst (a_cons d_str a_nil)) sc_l_great.nd)
    (s_cons (s_for PassesOwn.never rfl (i_range1 m_range (d_add (d_var 2) d_int)) (pg_name (i := 4) sc_l_great.nd rfl (by first | exact Or.inl rfl | exact Or.inr rfl)) tg_name (s_one (s_app 3 (pe_bm PySem.F.plainAttrs_list PySem.F.slot_list_append PySem.F.type_list_append mt_append (pv 3) (pa_cons (d_sl d_str d_noPart (d_part (d_add d_int (d_mul d_int (d_mod (d_var 4) d_int))))) pa_nil)))))
    (s_one (s_ret (d_join d_str (d_var 3)))))) s_nil)
    (s_one (s_ret (d_add d_str (d_mulN d_str (d_min rfl m_min (d_var 2) d_int)))))))))
def F_l_first : SF := (seqF (asgF 1 (lstF [(cF (.str "lamps")), (cF (.str "lamps fo")), (cF (.str "lamps offo")), (cF (.str "lamps o")), (cF (.str "lamps ")), (cF (.str "lamps  fo")), (cF (.str "Lamps fo")), (cF (.str "lamps f o"))]))
  (seqF (asgF 1 (biF gAdd (varF 1) (lstF [(cF (.str "lamps fx")), (cF (.str "lamp fo")), (cF (.str "")), (cF (.str " lamps fo")), (cF (.str "lampsfo"))])))
  (retF (biF gIx (varF 1) (biF gMod (varF 0) (cF (.int 13)))))))
def g_l_first : List D → Option D := runF F_l_first 2
theorem ok_l_first {a_ : Addr} {fd_ : FuncData} (T : Top K mg "_law_first" s_l_first ["_law_cell"] a_ fd_) : DefOk PP w K mg base 1 "_law_first" ["_law_cell"] 1 g_l_first a_ fd_ :=
  def_of T sc_l_first fun cdv A outer s H E hr => (s_cons (s_asg 1 (d_lst (a_cons d_str (a_cons d_str (a_cons d_str (a_cons d_str (a_cons d_str (a_cons d_str (a_cons d_str (a_cons d_str a_nil))))))))) sc_l_first.nd)
    (s_cons (s_asg 1 (d_add (d_var 1) (d_lst (a_cons d_str (a_cons d_str (a_cons d_str (a_cons d_str (a_cons d_str a_nil))))))) sc_l_first.nd)
    (s_one (s_ret (d_ix (d_var 1) (d_mod (d_var 0) d_int))))))
def F_l_next : SF := (seqF (asgF 1 (lstF [(cF (.str "wish")), (cF (.str "wish 1")), (cF (.str "wish -1 2")), (cF (.str "wish 2 2 -2")), (cF (.str "wish 1  2")), (cF (.str "wish 1 ")), (cF (.str " wish 1")), (cF (.str "wish 01")), (cF (.str "wish +1"))]))
  (seqF (asgF 1 (biF gAdd (varF 1) (lstF [(cF (.str "wish -0")), (cF (.str "wish 0")), (cF (.str "wish 3")), (cF (.str "wish -3 1")), (cF (.str "wish -")), (cF (.str "wish --1")), (cF (.str "wish 1-")), (cF (.str "Wish 1")), (cF (.str "wishes 1"))])))
  (seqF (asgF 1 (biF gAdd (varF 1) (lstF [(cF (.str "")), (cF (.str "lamps fo")), (cF (.str "wish,1")), (cF (.str "wish1")), (cF (.str "wish 1 a")), (cF (.str "wish -01"))])))
  (seqF (ifF (testF (biF gLt (biF gMod (varF 0) (cF (.int 27))) (cF (.int 24)))) (retF (biF gIx (varF 1) (biF gMod (varF 0) (cF (.int 27))))) skipF)
  (seqF (asgF 2 (biF gIx (lstF [(cF (.str "")), (cF (.str "-"))]) (biF gMod (biF gDiv (varF 0) (cF (.int 27))) (cF (.int 2)))))
  (retF (biF gAdd (biF gAdd (biF gAdd (cF (.str "wish ")) (varF 2)) (cF (.str "7"))) (biF gMulN (cF (.str "0")) (biF gIx (lstF [(cF (.int 58)), (cF (.int 59)), (cF (.int 60))]) (biF gMinus (biF gMod (varF 0) (cF (.int 27))) (cF (.int 24))))))))))))
def g_l_next : List D → Option D := runF F_l_next 3
theorem ok_l_next {a_ : Addr} {fd_ : FuncData} (T : Top K mg "_law_next" s_l_next ["_law_cell"] a_ fd_) : DefOk PP w K mg base 1 "_law_next" ["_law_cell"] 1 g_l_next a_ fd_ :=
  def_of T sc_l_next fun cdv A outer s H E hr => (s_cons (s_asg 1 (d_lst (a_cons d_str (a_cons d_str (a_cons d_str (a_cons d_str (a_cons d_str (a_cons d_str (a_cons d_str (a_cons d_str (a_cons d_str a_nil)))))))))) sc_l_next.nd)
    (s_cons (s_asg 1 (d_add (d_var 1) (d_lst (a_cons d_str (a_cons d_str (a_cons d_str (a_cons d_str (a_cons d_str (a_cons d_str (a_cons d_str (a_cons d_str (a_cons d_str a_nil))))))))))) sc_l_next.nd)
    (s_cons (s_asg 1 (d_add (d_var 1) (d_lst (a_cons d_str (a_cons d_str (a_cons d_str (a_cons d_str (a_cons d_str (a_cons d_str a_nil)))))))) sc_l_next.nd)
    (s_cons (s_if (t_lt (d_mod (d_var 0) d_int) d_int) (s_one (s_ret (d_ix (d_var 1) (d_mod (d_var 0) d_int)))) s_nil)
    (s_cons (s_asg 2 (d_ix (d_lst (a_cons d_str (a_cons d_str a_nil))) (d_mod (d_div (d_var 0) d_int) d_int)) sc_l_next.nd)
    (s_one (s_ret (d_add (d_add (d_add d_str (d_var 2)) d_str) (d_mulN d_str (d_ix (d_lst (a_cons d_int (a_cons d_int (a_cons d_int a_nil)))) (d_sub (d_mod (d_var 0) d_int) d_int)))))))))))
def F_l_sign_by : SF := (seqF (asgF 1 (cF (.str " !\"#$&'()*+,-./0123456789:;<=>?@ABCDEFGHIJKLMNOPQRSTUVWXYZ[\\]^_`")))
  (seqF (asgF 1 (biF gAdd (varF 1) (cF (.str "abcdefghijklmnopqrstuvwxyz{|}~\n\t"))))
  (retF (biF gIx (varF 1) (biF gMod (varF 0) (cF (.int 96)))))))
def g_l_sign_by : List D → Option D := runF F_l_sign_by 2
theorem ok_l_sign_by {a_ : Addr} {fd_ : FuncData} (T : Top K mg "_law_sign_by" s_l_sign_by ["_law_cell"] a_ fd_) : DefOk PP w K mg base 1 "_law_sign_by" ["_law_cell"] 1 g_l_sign_by a_ fd_ :=
  def_of T sc_l_sign_by fun cdv A outer s H E hr => (s_cons (s_asg 1 d_str sc_l_sign_by.nd)
    (s_cons (s_asg 1 (d_add (d_var 1) d_str) sc_l_sign_by.nd)
    (s_one (s_ret (d_ix (d_var 1) (d_mod (d_var 0) d_int))))))
def F_l_text : SF := (seqF (ifF (testF (biF gEq (biF gMod (biF gDiv (callF g_l_cell_at [(varF 0), (cF (.int 1))]) (cF (.int 12))) (cF (.int 8))) (cF (.int 1)))) (retF (callF g_l_great [(callF g_l_cell_at [(varF 0), (cF (.int 0))])])) skipF)
  (seqF (asgO 1 (lstF [(callF g_l_first [(callF g_l_cell_at [(varF 0), (cF (.int 0))])])]))
  (seqF (forF (itemsR1 (biF gMod (callF g_l_cell_at [(varF 0), (cF (.int 1))]) (cF (.int 4)))) (nameT 2) (appF 1 (callF g_l_next [(callF g_l_cell_at [(varF 0), (biF gAdd (cF (.int 4)) (varF 2))])])))
  (seqF (frzF 1 (asgF 3 (biF gJoin (cF (.str "\n")) (varF 1))))
  (seqF (asgF 4 (biF gMod (biF gDiv (callF g_l_cell_at [(varF 0), (cF (.int 1))]) (cF (.int 4))) (cF (.int 3))))
  (seqF (asgF 5 (biF gMod (callF g_l_cell_at [(varF 0), (cF (.int 2))]) (biF gAdd (callF gLen [(varF 3)]) (cF (.int 1)))))
  (seqF (ifF (testF (biF gEq (varF 4) (cF (.int 1)))) (asgF 3 (biF gAdd (biF gAdd (slF (varF 3) noF (someF (varF 5))) (callF g_l_sign_by [(callF g_l_cell_at [(varF 0), (cF (.int 3))])])) (slF (varF 3) (someF (varF 5)) noF))) skipF)
  (seqF (ifF (testF (biF gEq (varF 4) (cF (.int 2)))) (asgF 3 (biF gAdd (slF (varF 3) noF (someF (varF 5))) (slF (varF 3) (someF (biF gAdd (varF 5) (cF (.int 1)))) noF))) skipF)
  (retF (varF 3))))))))))
def g_l_text : List D → Option D := runF F_l_text 6
theorem ok_l_text {a_ : Addr} {fd_ : FuncData} {a_l_cell_at : Addr} {fd_l_cell_at : FuncData} {a_l_great : Addr} {fd_l_great : FuncData} {a_l_first : Addr} {fd_l_first : FuncData} {a_l_next : Addr} {fd_l_next : FuncData} {a_l_sign_by : Addr} {fd_l_sign_by : FuncData} (T : Top K mg "_law_text" s_l_text ["_law_script"] a_ fd_) (m_range : mg "range" = none) (m_len : mg "len" = none) (D_l_cell_at : DefOk PP w K mg base 1 "_law_cell_at" ["_law_script", "_law_k"] 2 g_l_cell_at a_l_cell_at fd_l_cell_at) (D_l_great : DefOk PP w K mg base 1 "_law_great" ["_law_cell"] 1 g_l_great a_l_great fd_l_great) (D_l_first : DefOk PP w K mg base 1 "_law_first" ["_law_cell"] 1 g_l_first a_l_first fd_l_first) (D_l_next : DefOk PP w K mg base 1 "_law_next" ["_law_cell"] 1 g_l_next a_l_next fd_l_next) (D_l_sign_by : DefOk PP w K mg base 1 "_law_sign_by" ["_law_cell"] 1 g_l_sign_by a_l_sign_by fd_l_sign_by) : DefOk PP w K mg base 2 "_law_text" ["_law_script"] 1 g_l_text a_ fd_ :=
  def_of T sc_l_text fun cdv A outer s H E hr => (s_cons (s_if (t_eq hr (d_mod (d_div (d_fn D_l_cell_at hr (by decide) (a_cons (d_var 0) (a_cons d_int a_nil))) d_int) d_int) d_int) (s_one (s_ret (d_fn D_l_great hr (by decide) (a_cons (d_fn D_l_cell_at hr (by decide) (a_cons (d_var 0) (a_cons d_int a_nil))) a_nil)))) s_nil)
    (s_cons (s_asgO 1 (n_lst (a_cons (d_fn D_l_first hr (by decide) (a_cons (d_fn D_l_cell_at hr (by decide) (a_cons (d_var 0) (a_cons d_int a_nil))) a_nil)) a_nil)) sc_l_text.nd)
    (s_cons (s_for PassesOwn.never rfl (i_range1 m_range (d_mod (d_fn D_l_cell_at hr (by decide) (a_cons (d_var 0) (a_cons d_int a_nil))) d_int)) (pg_name (i := 2) sc_l_text.nd rfl (by first | exact Or.inl rfl | exact Or.inr rfl)) tg_name (s_one (s_app 1 (pe_bm PySem.F.plainAttrs_list PySem.F.slot_list_append PySem.F.type_list_append mt_append (pv 1) (pa_cons (d_fn D_l_next hr (by decide) (a_cons (d_fn D_l_cell_at hr (by decide) (a_cons (d_var 0) (a_cons (d_add d_int (d_var 2)) a_nil))) a_nil)) pa_nil)))))
    (s_cons (s_frz 1 (s_asg 3 (d_join d_str (d_var 1)) sc_l_text.nd))
    (s_cons (s_asg 4 (d_mod (d_div (d_fn D_l_cell_at hr (by decide) (a_cons (d_var 0) (a_cons d_int a_nil))) d_int) d_int) sc_l_text.nd)
    (s_cons (s_asg 5 (d_mod (d_fn D_l_cell_at hr (by decide) (a_cons (d_var 0) (a_cons d_int a_nil))) (d_add (d_len m_len (d_var 3)) d_int)) sc_l_text.nd)
    (s_cons (s_if (t_eq hr (d_var 4) d_int) (s_one (s_asg 3 (d_add (d_add (d_sl (d_var 3) d_noPart (d_part (d_var 5))) (d_fn D_l_sign_by hr (by decide) (a_cons (d_fn D_l_cell_at hr (by decide) (a_cons (d_var 0) (a_cons d_int a_nil))) a_nil))) (d_sl (d_var 3) (d_part (d_var 5)) d_noPart)) sc_l_text.nd)) s_nil)
    (s_cons (s_if (t_eq hr (d_var 4) d_int) (s_one (s_asg 3 (d_add (d_sl (d_var 3) d_noPart (d_part (d_var 5))) (d_sl (d_var 3) (d_part (d_add (d_var 5) d_int)) d_noPart)) sc_l_text.nd)) s_nil)
    (s_one (s_ret (d_var 3)))))))))))
def F_l_number : SF := (seqF (asgF 1 (varF 0))
  (seqF (ifF (testF (biF gEq (slF (varF 0) noF (someF (cF (.int 1)))) (cF (.str "-")))) (asgF 1 (slF (varF 0) (someF (cF (.int 1))) noF)) skipF)
  (seqF (ifF (orT (testF (biF gEq (varF 1) (cF (.str "")))) (orT (testF (biF gEq (biF gIx (varF 1) (cF (.int 0))) (cF (.str "0")))) (testF (biF gGt (callF gLen [(varF 1)]) (cF (.int 60)))))) (retF (cF (.int 0))) skipF)
  (seqF (forF (itemsS (varF 1)) (nameT 2) (ifF (testF (biF gNotIn (varF 2) (cF (.str "0123456789")))) (retF (cF (.int 0))) skipF))
  (seqF (ifF (testF (biF gEq (varF 1) (varF 0))) (retF (callF gIntS [(varF 1)])) skipF)
  (retF (un gNeg (callF gIntS [(varF 1)]))))))))
def g_l_number : List D → Option D := runF F_l_number 3
theorem ok_l_number {a_ : Addr} {fd_ : FuncData} (T : Top K mg "_law_number" s_l_number ["_law_word"] a_ fd_) (m_len : mg "len" = none) (m_int : mg "int" = none) : DefOk PP w K mg base 1 "_law_number" ["_law_word"] 1 g_l_number a_ fd_ :=
  def_of T sc_l_number fun cdv A outer s H E hr => (s_cons (s_asg 1 (d_var 0) sc_l_number.nd)
    (s_cons (s_if (t_eq hr (d_sl (d_var 0) d_noPart (d_part d_int)) d_str) (s_one (s_asg 1 (d_sl (d_var 0) (d_part d_int) d_noPart) sc_l_number.nd)) s_nil)
    (s_cons (s_if (PW.pt (w_or (t_eq hr (d_var 1) d_str) (w_or (t_eq hr (d_ix (d_var 1) d_int) d_str) (w_or1 (t_gt (d_len m_len (d_var 1)) d_int))))) (s_one (s_ret d_int)) s_nil)
    (s_cons (s_for PassesOwn.never rfl (i_str (d_var 1)) (pg_name (i := 2) sc_l_number.nd rfl (by first | exact Or.inl rfl | exact Or.inr rfl)) tg_name (s_one (s_if (t_notIn hr (d_var 2) d_str) (s_one (s_ret d_int)) s_nil)))
    (s_cons (s_if (t_eq hr (d_var 1) (d_var 0)) (s_one (s_ret (d_intS m_int (d_var 1)))) s_nil)
    (s_one (s_ret (d_neg (d_intS m_int (d_var 1))))))))))
def F_l_wish : SF := (seqF (ifF (andT (testF (biF gNe (varF 0) (cF (.str "wish")))) (testF (biF gNe (slF (varF 0) noF (someF (cF (.int 5)))) (cF (.str "wish "))))) (retF (cF .non)) skipF)
  (seqF (asgF 1 (compF (itemsF (slF (biF gSplit (varF 0) (cF (.str " "))) (someF (cF (.int 1))) noF)) 2 yesT (callF g_l_number [(varF 2)])))
  (seqF (ifF (testF (biF gIn (cF (.int 0)) (varF 1))) (retF (cF .non)) skipF)
  (retF (varF 1)))))
def g_l_wish : List D → Option D := runF F_l_wish 3
theorem ok_l_wish {a_ : Addr} {fd_ : FuncData} {a_l_number : Addr} {fd_l_number : FuncData} (T : Top K mg "_law_wish" s_l_wish ["_law_row"] a_ fd_) (D_l_number : DefOk PP w K mg base 1 "_law_number" ["_law_word"] 1 g_l_number a_l_number fd_l_number) : DefOk PP w K mg base 2 "_law_wish" ["_law_row"] 1 g_l_wish a_ fd_ :=
  def_of T sc_l_wish fun cdv A outer s H E hr => (s_cons (s_if (PW.pt (w_and (t_ne hr (d_var 0) d_str) (w_and1 (t_ne hr (d_sl (d_var 0) d_noPart (d_part d_int)) d_str)))) (s_one (s_ret d_non)) s_nil)
    (s_cons (s_asgC 1 2 rfl sc_l_wish.nd (i_list (d_sl (d_split (d_var 0) d_str) (d_part d_int) d_noPart)) (blkOk_by (N := ["_law_row", "_law_wish_here", "_law_word"]) (sc := defScope s_l_wish) (by decide +kernel)) (fun _ _ _ _ _ => pg_name (i := 2) sc_l_wish.nd rfl (by first | exact Or.inl rfl | exact Or.inr rfl)) (fun _ _ _ _ _ => ts_nil) (fun _ _ _ _ _ => (d_fn D_l_number hr (by decide) (a_cons (d_var 2) a_nil))))
    (s_cons (s_if (t_in hr d_int (d_var 1)) (s_one (s_ret d_non)) s_nil)
    (s_one (s_ret (d_var 1))))))
def F_l_game : SF := (seqF (asgF 1 (biF gSplit (varF 0) (cF (.str "\n"))))
  (seqF (ifF (andT (testF (biF gNe (biF gIx (varF 1) (cF (.int 0))) (cF (.str "lamps")))) (orT (testF (biF gNe (slF (biF gIx (varF 1) (cF (.int 0))) noF (someF (cF (.int 6)))) (cF (.str "lamps ")))) (testF (biF gEq (biF gIx (varF 1) (cF (.int 0))) (cF (.str "lamps ")))))) (retF (cF .non)) skipF)
  (seqF (asgF 2 (compF (itemsF (slF (varF 1) (someF (cF (.int 1))) noF)) 3 yesT (callF g_l_wish [(varF 3)])))
  (seqF (ifF (testF (biF gIn (cF .non) (varF 2))) (retF (cF .non)) skipF)
  (retF (tupF [(slF (biF gIx (varF 1) (cF (.int 0))) (someF (cF (.int 6))) noF), (varF 2)]))))))
def g_l_game : List D → Option D := runF F_l_game 4
theorem ok_l_game {a_ : Addr} {fd_ : FuncData} {a_l_wish : Addr} {fd_l_wish : FuncData} (T : Top K mg "_law_game" s_l_game ["_law_text_here"] a_ fd_) (D_l_wish : DefOk PP w K mg base 2 "_law_wish" ["_law_row"] 1 g_l_wish a_l_wish fd_l_wish) : DefOk PP w K mg base 3 "_law_game" ["_law_text_here"] 1 g_l_game a_ fd_ :=
  def_of T sc_l_game fun cdv A outer s H E hr => (s_cons (s_asg 1 (d_split (d_var 0) d_str) sc_l_game.nd)
    (s_cons (s_if (PW.pt (w_and (t_ne hr (d_ix (d_var 1) d_int) d_str) (w_and1 (PW.pt (w_or (t_ne hr (d_sl (d_ix (d_var 1) d_int) d_noPart (d_part d_int)) d_str) (w_or1 (t_eq hr (d_ix (d_var 1) d_int) d_str))))))) (s_one (s_ret d_non)) s_nil)
    (s_cons (s_asgC 2 3 rfl sc_l_game.nd (i_list (d_sl (d_var 1) (d_part d_int) d_noPart)) (blkOk_by (N := ["_law_text_here", "_law_rows", "_law_wishes", "_law_row"]) (sc := defScope s_l_game) (by decide +kernel)) (fun _ _ _ _ _ => pg_name (i := 3) sc_l_game.nd rfl (by first | exact Or.inl rfl | exact Or.inr rfl)) (fun _ _ _ _ _ => ts_nil) (fun _ _ _ _ _ => (d_fn D_l_wish hr (by decide) (a_cons (d_var 3) a_nil))))
    (s_cons (s_if (t_in hr d_non (d_var 2)) (s_one (s_ret d_non)) s_nil)
    (s_one (s_ret (d_tup (a_cons (d_sl (d_ix (d_var 1) d_int) (d_part d_int) d_noPart) (a_cons (d_var 2) a_nil)))))))))
def F_p_setters_of : SF := (seqF (ifF (testF (biF gEq (varF 0) (cF (.str "lamps")))) (retF (cF (.str ""))) skipF)
  (seqF (ifF (orT (testF (biF gNe (slF (varF 0) noF (someF (cF (.int 6)))) (cF (.str "lamps ")))) (testF (biF gLt (callF gLen [(varF 0)]) (cF (.int 7))))) (raiseF "BadText") skipF)
  (retF (slF (varF 0) (someF (cF (.int 6))) noF))))
def g_p_setters_of : List D → Option Res := runX F_p_setters_of 1
theorem ok_p_setters_of {a_ : Addr} {fd_ : FuncData} {ec : String → Addr} (T : Top K mg "setters_of" s_p_setters_of ["row"] a_ fd_) (C : ExOk K mg ec) (m_len : mg "len" = none) : DefOkX PP w K mg base ec 1 "setters_of" ["row"] 1 g_p_setters_of a_ fd_ :=
  defX_of T sc_p_setters_of fun cdv A outer s H E hr => (s_cons (s_if (t_eq hr (d_var 0) d_str) (s_one (s_ret d_str)) s_nil)
    (s_cons (s_if (PW.pt (w_or (t_ne hr (d_sl (d_var 0) d_noPart (d_part d_int)) d_str) (w_or1 (t_lt (d_len m_len (d_var 0)) d_int)))) (s_one (s_raise "BadText" C (by decide) rfl rfl (takes_of rfl rfl rfl rfl))) s_nil)
    (s_one (s_ret (d_sl (d_var 0) (d_part d_int) d_noPart)))))
def F_p_number_of : SF := (seqF (asgF 1 (varF 0))
  (seqF (ifF (testF (biF gEq (slF (varF 0) noF (someF (cF (.int 1)))) (cF (.str "-")))) (asgF 1 (slF (varF 0) (someF (cF (.int 1))) noF)) skipF)
  (seqF (ifF (orT (notT (testF (chainV gLe gLe (cF (.int 1)) (callF gLen [(varF 1)]) (cF (.int 60))))) (testF (biF gEq (biF gIx (varF 1) (cF (.int 0))) (cF (.str "0"))))) (raiseF "BadText") skipF)
  (seqF (forF (itemsS (varF 1)) (nameT 2) (ifF (testF (biF gNotIn (varF 2) (cF (.str "0123456789")))) (raiseF "BadText") skipF))
  (seqF (ifF (testF (biF gEq (varF 0) (varF 1))) (retF (callF gIntS [(varF 1)])) skipF)
  (retF (un gNeg (callF gIntS [(varF 1)]))))))))
def g_p_number_of : List D → Option Res := runX F_p_number_of 3
theorem ok_p_number_of {a_ : Addr} {fd_ : FuncData} {ec : String → Addr} (T : Top K mg "number_of" s_p_number_of ["word"] a_ fd_) (C : ExOk K mg ec) (m_len : mg "len" = none) (m_int : mg "int" = none) (c_MOST_FIGURES : ∃ t, mg "MOST_FIGURES" = some (.int 60 t)) : DefOkX PP w K mg base ec 1 "number_of" ["word"] 1 g_p_number_of a_ fd_ :=
  defX_of T sc_p_number_of fun cdv A outer s H E hr => (s_cons (s_asg 1 (d_var 0) sc_p_number_of.nd)
    (s_cons (s_if (t_eq hr (d_sl (d_var 0) d_noPart (d_part d_int)) d_str) (s_one (s_asg 1 (d_sl (d_var 0) (d_part d_int) d_noPart) sc_p_number_of.nd)) s_nil)
    (s_cons (s_if (PW.pt (w_or (t_not (t_chain op_le r_le op_le r_le d_int (d_len m_len (d_var 1)) (d_glob c_MOST_FIGURES))) (w_or1 (t_eq hr (d_ix (d_var 1) d_int) d_str)))) (s_one (s_raise "BadText" C (by decide) rfl rfl (takes_of rfl rfl rfl rfl))) s_nil)
    (s_cons (s_for (passes_of rfl) rfl (i_str (d_var 1)) (pg_name (i := 2) sc_p_number_of.nd rfl (by first | exact Or.inl rfl | exact Or.inr rfl)) tg_name (s_one (s_if (t_notIn hr (d_var 2) d_str) (s_one (s_raise "BadText" C (by decide) rfl rfl (takes_of rfl rfl rfl rfl))) s_nil)))
    (s_cons (s_if (t_eq hr (d_var 0) (d_var 1)) (s_one (s_ret (d_intS m_int (d_var 1)))) s_nil)
    (s_one (s_ret (d_neg (d_intS m_int (d_var 1))))))))))
def F_p_wish_of : SF := (seqF (asgF 1 (biF gSplit (varF 0) (cF (.str " "))))
  (seqF (ifF (testF (biF gNe (biF gIx (varF 1) (cF (.int 0))) (cF (.str "wish")))) (raiseF "BadText") skipF)
  (retX (compX (itemsF (slF (varF 1) (someF (cF (.int 1))) noF)) 2 (callX g_p_number_of [(varF 2)])))))
def g_p_wish_of : List D → Option Res := runX F_p_wish_of 3
theorem ok_p_wish_of {a_ : Addr} {fd_ : FuncData} {ec : String → Addr} {a_p_number_of : Addr} {fd_p_number_of : FuncData} (T : Top K mg "wish_of" s_p_wish_of ["row"] a_ fd_) (C : ExOk K mg ec) (D_p_number_of : DefOkX PP w K mg base ec 1 "number_of" ["word"] 1 g_p_number_of a_p_number_of fd_p_number_of) : DefOkX PP w K mg base ec 2 "wish_of" ["row"] 1 g_p_wish_of a_ fd_ :=
  defX_of T sc_p_wish_of fun cdv A outer s H E hr => (s_cons (s_asg 1 (d_split (d_var 0) d_str) sc_p_wish_of.nd)
    (s_cons (s_if (t_ne hr (d_ix (d_var 1) d_int) d_str) (s_one (s_raise "BadText" C (by decide) rfl rfl (takes_of rfl rfl rfl rfl))) s_nil)
    (s_one (s_retX (d_compX 2 rfl sc_p_wish_of.nd rfl rfl (takes_of rfl rfl rfl rfl) (i_list (d_sl (d_var 1) (d_part d_int) d_noPart)) (blkOk_by (N := ["row", "words", "word"]) (sc := defScope s_p_wish_of) (by decide +kernel)) (fun _ _ _ _ _ => pg_name (i := 2) sc_p_wish_of.nd rfl (by first | exact Or.inl rfl | exact Or.inr rfl)) (fun _ _ _ _ _ xe hp => d_callP D_p_number_of hp hr (by decide) (a_cons (d_var 2) a_nil)))))))
def F_p_check_wish : SF := (seqF (ifF (testF (biF gGt (callF gLen [(varF 0)]) (cF (.int 10)))) (raiseF "BadGame") skipF)
  (forF (itemsF (varF 0)) (nameT 2) (ifF (orT (testF (biF gEq (varF 2) (cF (.int 0)))) (testF (biF gGt (callF gAbs [(varF 2)]) (varF 1)))) (raiseF "BadGame") skipF)))
def g_p_check_wish : List D → Option Res := runX F_p_check_wish 3
theorem ok_p_check_wish {a_ : Addr} {fd_ : FuncData} {ec : String → Addr} (T : Top K mg "check_wish" s_p_check_wish ["wish", "many"] a_ fd_) (C : ExOk K mg ec) (m_len : mg "len" = none) (m_abs : mg "abs" = none) (c_MOST_NUMBERS : ∃ t, mg "MOST_NUMBERS" = some (.int 10 t)) : DefOkX PP w K mg base ec 1 "check_wish" ["wish", "many"] 2 g_p_check_wish a_ fd_ :=
  defX_of T sc_p_check_wish fun cdv A outer s H E hr => (s_cons (s_if (t_gt (d_len m_len (d_var 0)) (d_glob c_MOST_NUMBERS)) (s_one (s_raise "BadGame" C (by decide) rfl rfl (takes_of rfl rfl rfl rfl))) s_nil)
    (s_one (s_for (passes_of rfl) rfl (i_list (d_var 0)) (pg_name (i := 2) sc_p_check_wish.nd rfl (by first | exact Or.inl rfl | exact Or.inr rfl)) tg_name (s_one (s_if (PW.pt (w_or (t_eq hr (d_var 2) d_int) (w_or1 (t_gt (d_abs m_abs (d_var 2)) (d_var 1))))) (s_one (s_raise "BadGame" C (by decide) rfl rfl (takes_of rfl rfl rfl rfl))) s_nil)))))
def F_p_check : SF := (seqF (ifF (orT (testF (biF gGt (callF gLen [(varF 0)]) (cF (.int 10)))) (testF (biF gGt (callF gLen [(varF 1)]) (cF (.int 20))))) (raiseF "BadGame") skipF)
  (seqF (forF (itemsS (varF 0)) (nameT 2) (ifF (andT (testF (biF gNe (varF 2) (cF (.str "f")))) (testF (biF gNe (varF 2) (cF (.str "o"))))) (raiseF "BadGame") skipF))
  (forF (itemsF (varF 1)) (nameT 3) (exprX (callX g_p_check_wish [(varF 3), (callF gLen [(varF 0)])])))))
def g_p_check : List D → Option Res := runX F_p_check 4
theorem ok_p_check {a_ : Addr} {fd_ : FuncData} {ec : String → Addr} {a_p_check_wish : Addr} {fd_p_check_wish : FuncData} (T : Top K mg "check" s_p_check ["setters", "wishes"] a_ fd_) (C : ExOk K mg ec) (m_len : mg "len" = none) (c_MOST_LAMPS : ∃ t, mg "MOST_LAMPS" = some (.int 10 t)) (c_MOST_WISHES : ∃ t, mg "MOST_WISHES" = some (.int 20 t)) (D_p_check_wish : DefOkX PP w K mg base ec 1 "check_wish" ["wish", "many"] 2 g_p_check_wish a_p_check_wish fd_p_check_wish) : DefOkX PP w K mg base ec 2 "check" ["setters", "wishes"] 2 g_p_check a_ fd_ :=
  defX_of T sc_p_check fun cdv A outer s H E hr => (s_cons (s_if (PW.pt (w_or (t_gt (d_len m_len (d_var 0)) (d_glob c_MOST_LAMPS)) (w_or1 (t_gt (d_len m_len (d_var 1)) (d_glob c_MOST_WISHES))))) (s_one (s_raise "BadGame" C (by decide) rfl rfl (takes_of rfl rfl rfl rfl))) s_nil)
    (s_cons (s_for (passes_of rfl) rfl (i_str (d_var 0)) (pg_name (i := 2) sc_p_check.nd rfl (by first | exact Or.inl rfl | exact Or.inr rfl)) tg_name (s_one (s_if (PW.pt (w_and (t_ne hr (d_var 2) d_str) (w_and1 (t_ne hr (d_var 2) d_str)))) (s_one (s_raise "BadGame" C (by decide) rfl rfl (takes_of rfl rfl rfl rfl))) s_nil)))
    (s_one (s_for (passes_of rfl) rfl (i_list (d_var 1)) (pg_name (i := 3) sc_p_check.nd rfl (by first | exact Or.inl rfl | exact Or.inr rfl)) tg_name (s_one (s_exprX (d_callX D_p_check_wish (takes_of rfl rfl rfl rfl) hr (by decide) (a_cons (d_var 3) (a_cons (d_len m_len (d_var 0)) a_nil)))))))))
def F_p_read : SF := (seqF (asgF 1 (biF gSplit (varF 0) (cF (.str "\n"))))
  (seqF (asgX 2 (callX g_p_setters_of [(biF gIx (varF 1) (cF (.int 0)))]))
  (seqF (asgX 3 (compX (itemsF (slF (varF 1) (someF (cF (.int 1))) noF)) 4 (callX g_p_wish_of [(varF 4)])))
  (seqF (exprX (callX g_p_check [(varF 2), (varF 3)]))
  (retF (tupF [(varF 2), (varF 3)]))))))
def g_p_read : List D → Option Res := runX F_p_read 5
theorem ok_p_read {a_ : Addr} {fd_ : FuncData} {ec : String → Addr} {a_p_setters_of : Addr} {fd_p_setters_of : FuncData} {a_p_wish_of : Addr} {fd_p_wish_of : FuncData} {a_p_check : Addr} {fd_p_check : FuncData} (T : Top K mg "read" s_p_read ["text"] a_ fd_) (D_p_setters_of : DefOkX PP w K mg base ec 1 "setters_of" ["row"] 1 g_p_setters_of a_p_setters_of fd_p_setters_of) (D_p_wish_of : DefOkX PP w K mg base ec 2 "wish_of" ["row"] 1 g_p_wish_of a_p_wish_of fd_p_wish_of) (D_p_check : DefOkX PP w K mg base ec 2 "check" ["setters", "wishes"] 2 g_p_check a_p_check fd_p_check) : DefOkX PP w K mg base ec 3 "read" ["text"] 1 g_p_read a_ fd_ :=
  defX_of T sc_p_read fun cdv A outer s H E hr => (s_cons (s_asg 1 (d_split (d_var 0) d_str) sc_p_read.nd)
    (s_cons (s_asgX 2 (d_callX D_p_setters_of (takes_of rfl rfl rfl rfl) hr (by decide) (a_cons (d_ix (d_var 1) d_int) a_nil)) sc_p_read.nd)
    (s_cons (s_asgCX 3 4 rfl sc_p_read.nd rfl rfl (takes_of rfl rfl rfl rfl) (i_list (d_sl (d_var 1) (d_part d_int) d_noPart)) (blkOk_by (N := ["text", "rows", "setters", "wishes", "row"]) (sc := defScope s_p_read) (by decide +kernel)) (fun _ _ _ _ _ => pg_name (i := 4) sc_p_read.nd rfl (by first | exact Or.inl rfl | exact Or.inr rfl)) (fun _ _ _ _ _ xe hp => d_callP D_p_wish_of hp hr (by decide) (a_cons (d_var 4) a_nil)))
    (s_cons (s_exprX (d_callX D_p_check (takes_of rfl rfl rfl rfl) hr (by decide) (a_cons (d_var 2) (a_cons (d_var 3) a_nil))))
    (s_one (s_ret (d_tup (a_cons (d_var 2) (a_cons (d_var 3) a_nil)))))))))
def F_l_refused : SF := (seqF (tryF 2 (callX g_p_read [(varF 0)]) [("BadGame", fun c => (andV (varF 1) (andV (cF (.bl (ism c "WishError"))) (notV (cF (.bl (ism c "BadText"))))))), ("BadText", fun c => (andV (notV (varF 1)) (andV (cF (.bl (ism c "WishError"))) (notV (cF (.bl (ism c "BadRow")))))))])
  (retF (cF (.bl false))))
def g_l_refused : List D → Option D := runF F_l_refused 3
theorem ok_l_refused {a_ : Addr} {fd_ : FuncData} {ec : String → Addr} {a_p_read : Addr} {fd_p_read : FuncData} (T : Top K mg "_law_refused" s_l_refused ["_law_text_here", "_law_by_game"] a_ fd_) (C : ExOk K mg ec) (m_isinstance : mg "isinstance" = none) (D_p_read : DefOkX PP w K mg base ec 3 "read" ["text"] 1 g_p_read a_p_read fd_p_read) : DefOk PP w K mg base 4 "_law_refused" ["_law_text_here", "_law_by_game"] 2 g_l_refused a_ fd_ :=
  def_of T sc_l_refused fun cdv A outer s H E hr => (s_cons (s_try2 (i := 2) (n1 := "BadGame") (n2 := "BadText") C (by decide) rfl (by decide) rfl rfl rfl sc_l_refused.nd (fun W pn xe tk => (d_callX D_p_read tk hr (by decide) (a_cons (d_var 0) a_nil))) (fun c a oe pn hc hz hf => (g_and (g_lift (d_var 1)) (g_and (g_isi (n := "WishError") C hc (by decide) rfl hz hf m_isinstance) (g_and1 (g_not (g_isi (n := "BadText") C hc (by decide) rfl hz hf m_isinstance)))))) (fun c a oe pn hc hz hf => (g_and (g_not (g_lift (d_var 1))) (g_and (g_isi (n := "WishError") C hc (by decide) rfl hz hf m_isinstance) (g_and1 (g_not (g_isi (n := "BadRow") C hc (by decide) rfl hz hf m_isinstance)))))))
    (s_one (s_ret d_bl)))
def F_l_good : SF := (seqF (forF (itemsS (biF gIx (varF 0) (cF (.int 0)))) (nameT 1) (ifF (testF (biF gNotInT (varF 1) (tupF [(cF (.str "f")), (cF (.str "o"))]))) (retF (cF (.bl false))) skipF))
  (seqF (forF (itemsF (biF gIx (varF 0) (cF (.int 1)))) (nameT 2) (seqF (forF (itemsF (varF 2)) (nameT 3) (ifF (testF (biF gGt (callF gMax [(varF 3), (un gNeg (varF 3))]) (callF gLen [(biF gIx (varF 0) (cF (.int 0)))]))) (retF (cF (.bl false))) skipF))
  (ifF (testF (biF gGt (callF gLen [(varF 2)]) (cF (.int 10)))) (retF (cF (.bl false))) skipF)))
  (retF (andV (biF gLe (callF gLen [(biF gIx (varF 0) (cF (.int 0)))]) (cF (.int 10))) (biF gLe (callF gLen [(biF gIx (varF 0) (cF (.int 1)))]) (cF (.int 20)))))))
def g_l_good : List D → Option D := runF F_l_good 4
theorem ok_l_good {a_ : Addr} {fd_ : FuncData} (T : Top K mg "_law_good" s_l_good ["_law_game_here"] a_ fd_) (m_max : mg "max" = none) (m_len : mg "len" = none) : DefOk PP w K mg base 1 "_law_good" ["_law_game_here"] 1 g_l_good a_ fd_ :=
  def_of T sc_l_good fun cdv A outer s H E hr => (s_cons (s_for PassesOwn.never rfl (i_str (d_ix (d_var 0) d_int)) (pg_name (i := 1) sc_l_good.nd rfl (by first | exact Or.inl rfl | exact Or.inr rfl)) tg_name (s_one (s_if (t_notInT (d_var 1) (d_tup (a_cons d_str (a_cons d_str a_nil)))) (s_one (s_ret d_bl)) s_nil)))
    (s_cons (s_for PassesOwn.never rfl (i_list (d_ix (d_var 0) d_int)) (pg_name (i := 2) sc_l_good.nd rfl (by first | exact Or.inl rfl | exact Or.inr rfl)) tg_name (s_cons (s_for PassesOwn.never rfl (i_list (d_var 2)) (pg_name (i := 3) sc_l_good.nd rfl (by first | exact Or.inl rfl | exact Or.inr rfl)) tg_name (s_one (s_if (t_gt (d_max rfl m_max (d_var 3) (d_neg (d_var 3))) (d_len m_len (d_ix (d_var 0) d_int))) (s_one (s_ret d_bl)) s_nil)))
    (s_one (s_if (t_gt (d_len m_len (d_var 2)) d_int) (s_one (s_ret d_bl)) s_nil))))
    (s_one (s_ret (d_and (d_le (d_len m_len (d_ix (d_var 0) d_int)) d_int) (d_and1 (d_le (d_len m_len (d_ix (d_var 0) d_int)) d_int)))))))
def F_l_alike : SF := (seqF (ifF (orT (notT (testF (un (gIsi "tuple") (varF 0)))) (testF (biF gNe (callF gLen [(varF 0)]) (cF (.int 2))))) (retF (cF (.bl false))) skipF)
  (seqF (ifF (orT (notT (testF (un (gIsi "str") (biF gIx (varF 0) (cF (.int 0)))))) (notT (testF (un (gIsi "list") (biF gIx (varF 0) (cF (.int 1))))))) (retF (cF (.bl false))) skipF)
  (seqF (forF (itemsF (biF gIx (varF 0) (cF (.int 1)))) (nameT 2) (seqF (ifF (notT (testF (un (gIsi "list") (varF 2)))) (retF (cF (.bl false))) skipF)
  (forF (itemsF (varF 2)) (nameT 3) (ifF (orT (notT (testF (un (gIsi "int") (varF 3)))) (testF (un (gIsi "bool") (varF 3)))) (retF (cF (.bl false))) skipF))))
  (retF (biF gEq (varF 0) (varF 1))))))
def g_l_alike : List D → Option D := runF F_l_alike 4
theorem ok_l_alike {a_ : Addr} {fd_ : FuncData} (T : Top K mg "_law_alike" s_l_alike ["_law_found", "_law_due"] a_ fd_) (m_isinstance : mg "isinstance" = none) (m_tuple : mg "tuple" = none) (m_len : mg "len" = none) (m_str : mg "str" = none) (m_list : mg "list" = none) (m_int : mg "int" = none) (m_bool : mg "bool" = none) : DefOk PP w K mg base 1 "_law_alike" ["_law_found", "_law_due"] 2 g_l_alike a_ fd_ :=
  def_of T sc_l_alike fun cdv A outer s H E hr => (s_cons (s_if (PW.pt (w_or (t_not (d_test (d_isi (T := "tuple") m_isinstance m_tuple (by decide +kernel) (d_var 0)))) (w_or1 (t_ne hr (d_len m_len (d_var 0)) d_int)))) (s_one (s_ret d_bl)) s_nil)
    (s_cons (s_if (PW.pt (w_or (t_not (d_test (d_isi (T := "str") m_isinstance m_str (by decide +kernel) (d_ix (d_var 0) d_int)))) (w_or1 (t_not (d_test (d_isi (T := "list") m_isinstance m_list (by decide +kernel) (d_ix (d_var 0) d_int))))))) (s_one (s_ret d_bl)) s_nil)
    (s_cons (s_for PassesOwn.never rfl (i_list (d_ix (d_var 0) d_int)) (pg_name (i := 2) sc_l_alike.nd rfl (by first | exact Or.inl rfl | exact Or.inr rfl)) tg_name (s_cons (s_if (t_not (d_test (d_isi (T := "list") m_isinstance m_list (by decide +kernel) (d_var 2)))) (s_one (s_ret d_bl)) s_nil)
    (s_one (s_for PassesOwn.never rfl (i_list (d_var 2)) (pg_name (i := 3) sc_l_alike.nd rfl (by first | exact Or.inl rfl | exact Or.inr rfl)) tg_name (s_one (s_if (PW.pt (w_or (t_not (d_test (d_isi (T := "int") m_isinstance m_int (by decide +kernel) (d_var 3)))) (w_or1 (d_test (d_isi (T := "bool") m_isinstance m_bool (by decide +kernel) (d_var 3)))))) (s_one (s_ret d_bl)) s_nil))))))
    (s_one (s_ret (d_eq hr (d_var 0) (d_var 1)))))))
def F_law0 : SF := (seqF (asgF 1 (callF g_l_text [(varF 0)]))
  (seqF (asgF 2 (callF g_l_game [(varF 1)]))
  (seqF (ifF (testF (biF gIsN (varF 2) (cF .non))) (retF (callF g_l_refused [(varF 1), (cF (.bl false))])) skipF)
  (seqF (ifF (notT (testF (callF g_l_good [(varF 2)]))) (retF (callF g_l_refused [(varF 1), (cF (.bl true))])) skipF)
  (retF (callF g_l_alike [(callF (valO g_p_read) [(varF 1)]), (varF 2)]))))))
def g_law0 : List D → Option D := runF F_law0 3
theorem ok_law0 {a_ : Addr} {fd_ : FuncData} {ec : String → Addr} {a_l_text : Addr} {fd_l_text : FuncData} {a_l_game : Addr} {fd_l_game : FuncData} {a_l_refused : Addr} {fd_l_refused : FuncData} {a_l_good : Addr} {fd_l_good : FuncData} {a_p_read : Addr} {fd_p_read : FuncData} {a_l_alike : Addr} {fd_l_alike : FuncData} (T : Top K mg "law" s_law0 ["_law_script"] a_ fd_) (D_l_text : DefOk PP w K mg base 2 "_law_text" ["_law_script"] 1 g_l_text a_l_text fd_l_text) (D_l_game : DefOk PP w K mg base 3 "_law_game" ["_law_text_here"] 1 g_l_game a_l_game fd_l_game) (D_l_refused : DefOk PP w K mg base 4 "_law_refused" ["_law_text_here", "_law_by_game"] 2 g_l_refused a_l_refused fd_l_refused) (D_l_good : DefOk PP w K mg base 1 "_law_good" ["_law_game_here"] 1 g_l_good a_l_good fd_l_good) (D_p_read : DefOkX PP w K mg base ec 3 "read" ["text"] 1 g_p_read a_p_read fd_p_read) (D_l_alike : DefOk PP w K mg base 1 "_law_alike" ["_law_found", "_law_due"] 2 g_l_alike a_l_alike fd_l_alike) : DefOk PP w K mg base 5 "law" ["_law_script"] 1 g_law0 a_ fd_ :=
  def_of T sc_law0 fun cdv A outer s H E hr => (s_cons (s_asg 1 (d_fn D_l_text hr (by decide) (a_cons (d_var 0) a_nil)) sc_law0.nd)
    (s_cons (s_asg 2 (d_fn D_l_game hr (by decide) (a_cons (d_var 1) a_nil)) sc_law0.nd)
    (s_cons (s_if (t_isN (d_var 2) d_non) (s_one (s_ret (d_fn D_l_refused hr (by decide) (a_cons (d_var 1) (a_cons d_bl a_nil))))) s_nil)
    (s_cons (s_if (t_not (d_test (d_fn D_l_good hr (by decide) (a_cons (d_var 2) a_nil)))) (s_one (s_ret (d_fn D_l_refused hr (by decide) (a_cons (d_var 1) (a_cons d_bl a_nil))))) s_nil)
    (s_one (s_ret (d_fn D_l_alike hr (by decide) (a_cons (d_fnX0 D_p_read hr (by decide) (a_cons (d_var 1) a_nil)) (a_cons (d_var 2) a_nil)))))))))
end
end Ev

open PySem PySem.Spec PyProof.Rows L2 Dn
local macro_rules | `(tactic| walk_at "ev") => `(tactic| simp only [ev_seq, eSeq_nx, eSeq_rt, eSeq_bk, eSeq_ct, eSeq_ex, eSeq_none, ev_skip, ev_break, ev_cont, ev_never, ev_var, eVar_val, ev_c, ev_asg, eAsg_some, ev_asgO, eAsgO_some, ev_ret, ev_retP, eRet_some, ev_expr, eExpr_some, ev_if, eIf_t, eIf_f, ev_app, eApp_some, eApp2_own, eApp2_par, ev_frz, ev_frz1, eFrz1_own, ev_frzAF, ev_for, eFor_some, ev_test, eTest_bl, ev_and, eAnd_t, eAnd_f, ev_or, eOr_t, eOr_f, ev_not, eNot_some, ev_andV, eAndV_t, eAndV_f, ev_orV, eOrV_t, eOrV_f, ev_notV, eNotV_bl, ev_ifV, eIfV_t, eIfV_f, ev_bi, e2_some, ev_un, e1_some, ev_args0, ev_args1, eCons_some, ev_call, eCall_some, ev_tup, eTup_some, ev_lst, eLst_some, ev_sl, eSl_some, ev_no, ev_some, eSome_int, ev_chain, eChain_some, eChain2_t, eChain2_f, ev_itF, eItF_some, ev_itT, eItT_some, ev_itS, eItS_some, ev_R1, ev_R2, ev_comp, ev_run, eRun_rt, eRun_nx, ev_turn, eTurn_some, ev_name, ev_pair, ev_yes, gAdd_int, gMinus_int, gNeg_int, gLt_int, gLe_int, gGt_int, gGe_int, gDiv_int, gMod_int, gMul_int, gAbs_int, gMax_int, gMin_int, gLen_lst, gLen_tup, gLen_fz, gList_lst, gList_tup, gInt_int, gInt_bl, gIsN_non, gNotN_non, gSl_lst, gEq_int, gNe_int, gEq_bl, gNe_bl, isi_bool, isi_str, isi_int, isi_list, isi_tuple, initR_1, initR_2, initR_3, initR_4, initR_5, borA_nil, borA_cons, frzA_nil, frzA_cons, bor_no, bor_val, bor_own, bor_par, bor_view, frz_no, frz_val, frz_own, frz_par, frz_view, isBlD_bl, isBlD_int, isBlD_non, isBlD_str, isBlD_lst, isBlD_tup, isIntD_int, isIntD_bl, isStrD_str, isStrD_non, isLstD_lst, isLstD_non, isTupD_tup, isTupD_non, isNoD_non, isNoD_tup, isNoD_lst, isNoD_str,
  List.length_cons, List.length_nil, List.length_map, List.replicate_zero, List.replicate_succ, List.cons_append, List.nil_append, List.getElem?_cons_zero, List.getElem?_cons_succ, List.getElem?_nil, List.set_cons_zero, List.set_cons_succ, Nat.zero_add, Nat.add_zero, Nat.sub_self, Nat.reduceAdd, Nat.reduceSub, if_true, if_false, reduceIte, and_self, and_true, true_and, true_or, or_true, Int.reduceLT, Int.reduceLE, Int.reduceNeg, Int.reducePow, Int.reduceAdd, Int.reduceSub, Nat.reduceLT, Nat.reduceLeDiff, decide_true, decide_false, Bool.not_true, Bool.not_false, gt_iff_lt, Int.cast_ofNat_Int, bne_self_eq_false, beq_self_eq_true, ixt0, ixt1, ixt2, ixt3, eq_ee, eq_es, eq_ew, eq_se, eq_ss, eq_sw, eq_we, eq_ws, eq_ww, ne_ee, ne_es, ne_ew, ne_se, ne_ss, ne_sw, ne_we, ne_ws, ne_ww, ev_asgM, eM_some, eM1_own, eM1_par, eM2_own, eM2_par, ev_asgW, eW_some, eW1_own, eW1_par, ev_forW, eFw_view, initM_3, initW_1, ev_runM, eRm_rt, ev_runW, ixl0, ixl1, ev_raise, ev_exprX, eExX_val, eExX_exc, ev_asgX, eAsX_val, eAsX_exc, ev_retX, eReX_val, eReX_exc, ev_excX, eXc_exc, ev_ifX, eIfX_some, ev_callX, eCaX_some, ev_runX, eRunX_rt, eRunX_nx, eRunX_ex, ev_try, eTry_val, eTry_exc, eTry2_some, ev_pick, ev_valO, eVo_val, exs_g, exs_r, exs_t, ism_gw, ism_gg, ism_gr, ism_gt, ism_rw, ism_rg, ism_rr, ism_rt, ism_tw, ism_tg, ism_tr, ism_tt, eLoop_ex, List.length_set, Nat.zero_lt_succ, Nat.reduceMul, Bool.false_eq_true, Int.reduceBEq, Int.reduceBNe])
namespace Ev
def cell (ns : List Int) (k : Nat) : Int := ns.getD k 0
theorem cell_at (ns : List Int) (k : Nat) : g_l_cell_at [.fz ns, .int k] = some (.int (cell ns k)) := by
  unfold g_l_cell_at F_l_cell_at
  walk_at "ev"
  by_cases h : k < ns.length
  · have h' : (k : Int) < ns.length := by omega
    simp only [h']
    walk_at "ev"
    rw [ix_fz (d := ns[k]) (by omega) (by simp [h])]
    walk_at "ev"
    simp [h, cell]
  · have h' : ¬ (k : Int) < ns.length := by omega
    simp only [h']
    walk_at "ev"
    simp [h, cell]
theorem abs_eq (n : Int) : (if n < 0 then -n else n) = (n.natAbs : Int) := by split <;> omega
theorem cut_to {α : Type} (a : List α) (n : Nat) (z : Int) (h : z = (n : Int)) : cutL a none (some z) = a.take n := by rw [h]; exact cutL_upto a n
theorem cut_fr0 {α : Type} (a : List α) (n : Nat) (z : Int) (h : z = (n : Int)) : cutL a (some z) none = a.drop n := by
  rw [h]
  by_cases hl : n ≤ a.length
  · exact cutL_from a n hl
  · unfold cutL
    rw [HT.sIx_none, HT.sIx_nat, Nat.min_eq_right (by omega), Nat.sub_self, List.take_zero, List.drop_eq_nil_of_le (by omega)]
def firsts : List Str := ["lamps", "lamps fo", "lamps offo", "lamps o", "lamps ", "lamps  fo", "Lamps fo", "lamps f o", "lamps fx", "lamp fo", "", " lamps fo", "lampsfo"]
theorem first_ok (c : Int) : ∃ l, As 30 l ∧ g_l_first [.int c] = some (.str (tx l)) := by
  obtain ⟨l, hl, e⟩ := pick_str firsts 30 (by decide +kernel) (c % 13) (by omega) (by show c % 13 < 13; omega)
  refine ⟨l, hl, ?_⟩
  unfold firsts at e
  simp only [List.map_cons, List.map_nil] at e
  unfold g_l_first F_l_first
  walk_at "ev"
  rw [gAdd_lst, if_pos (by decide)]
  walk_at "ev"
  rw [e]
  walk_at "ev"
def nexts : List Str := ["wish", "wish 1", "wish -1 2", "wish 2 2 -2", "wish 1  2", "wish 1 ", " wish 1", "wish 01", "wish +1", "wish -0", "wish 0", "wish 3", "wish -3 1", "wish -", "wish --1", "wish 1-", "Wish 1", "wishes 1", "", "lamps fo", "wish,1", "wish1", "wish 1 a", "wish -01"]
theorem next_ok (c : Int) : ∃ l, As 100 l ∧ g_l_next [.int c] = some (.str (tx l)) := by
  unfold g_l_next F_l_next
  walk_at "ev"
  rw [gAdd_lst, if_pos (by decide)]
  walk_at "ev"
  rw [gAdd_lst, if_pos (by decide)]
  walk_at "ev"
  have q0 : 0 ≤ c % 27 := by omega
  have q1 : c % 27 < 27 := by omega
  by_cases h : c % 27 < 24
  · obtain ⟨l, hl, e⟩ := pick_str nexts 30 (by decide +kernel) (c % 27) q0 h
    unfold nexts at e
    simp only [List.map_cons, List.map_nil] at e
    refine ⟨l, hl.mono (by decide), ?_⟩
    simp only [h]
    walk_at "ev"
    rw [e]
    walk_at "ev"
  · obtain ⟨l, hl, e⟩ := pick_str ["", "-"] 1 (by decide +kernel) (c / 27 % 2) (by omega) (by show c / 27 % 2 < 2; omega)
    simp only [List.map_cons, List.map_nil] at e
    obtain ⟨n, hn0, hn1, en⟩ : ∃ n : Int, 0 ≤ n ∧ n ≤ 60 ∧ gIx (.lst [.int 58, .int 59, .int 60]) (.int (c % 27 - 24)) = some (.int n) := by
      have hq : c % 27 = 24 ∨ c % 27 = 25 ∨ c % 27 = 26 := by omega
      rcases hq with hq | hq | hq <;> rw [hq]
      · exact ⟨58, by decide, by decide, ix_lst (by decide) rfl⟩
      · exact ⟨59, by decide, by decide, ix_lst (by decide) rfl⟩
      · exact ⟨60, by decide, by decide, ix_lst (by decide) rfl⟩
    have a1 : As 5 cWishB := ⟨asc_wishB, by decide⟩
    have a7 : As 1 [55] := ⟨asc_one (by decide), by decide⟩
    have a0 : As 1 [48] := ⟨asc_one (by decide), by decide⟩
    have e7 : Str.ofString "7" = tx [55] := by decide +kernel
    have b1 := a1.app hl
    have b2 := b1.app a7
    have b3 := a0.rep n.toNat
    have b4 := b2.app (b3.mono (m := 60) (by omega))
    refine ⟨_, b4.mono (by decide), ?_⟩
    simp only [h]
    walk_at "ev"
    rw [e]
    walk_at "ev"
    rw [en]
    rw [tx_wishB, e7, tx_zero]
    rw [add_tx (by have := b1.2; rw [List.length_append] at this; unfold sz; omega)]
    walk_at "ev"
    rw [add_tx (by have := b2.2; rw [List.length_append] at this; unfold sz; omega)]
    rw [mulN_tx hn0 (by omega) (by decide)]
    walk_at "ev"
    rw [add_tx (by have := b4.2; rw [List.length_append] at this; unfold sz; omega)]
    walk_at "ev"
def signs1 : Str := " !\"#$&'()*+,-./0123456789:;<=>?@ABCDEFGHIJKLMNOPQRSTUVWXYZ[\\]^_`"
def signs2 : Str := "abcdefghijklmnopqrstuvwxyz{|}~\n\t"
theorem sign_ok (c : Int) : ∃ x, x < 128 ∧ g_l_sign_by [.int c] = some (.str (tx [x])) := by
  have e1 : signs1 = tx (TL.tl signs1) := str_tx _
  have e2 : signs2 = tx (TL.tl signs2) := str_tx _
  have hl : (TL.tl signs1 ++ TL.tl signs2).length = 96 := by decide +kernel
  have ha : (TL.tl signs1 ++ TL.tl signs2).all (fun c => decide (c < 128)) = true := by decide +kernel
  generalize hA : TL.tl signs1 = A at e1 hl ha
  generalize hB : TL.tl signs2 = B at e2 hl ha
  obtain ⟨k, hk⟩ : ∃ k : Nat, c % 96 = (k : Int) := ⟨(c % 96).toNat, by omega⟩
  have hk2 : k < (A ++ B).length := by omega
  refine ⟨(A ++ B)[k], of_decide_eq_true (List.all_eq_true.mp ha _ (List.getElem_mem hk2)), ?_⟩
  unfold g_l_sign_by F_l_sign_by
  rw [show (D.str " !\"#$&'()*+,-./0123456789:;<=>?@ABCDEFGHIJKLMNOPQRSTUVWXYZ[\\]^_`") = .str signs1 from rfl, show (D.str "abcdefghijklmnopqrstuvwxyz{|}~\n\t") = .str signs2 from rfl, e1, e2]
  walk_at "ev"
  rw [add_tx (by rw [List.length_append] at hl; unfold sz; omega)]
  walk_at "ev"
  rw [hk, ix_tx (by rw [hl]; unfold sz; omega) (List.getElem?_eq_getElem hk2)]
  walk_at "ev"
end Ev

open PySem PySem.Spec PyProof.Rows L2 Dn
local macro_rules | `(tactic| walk_at "ev") => `(tactic| simp only [ev_seq, eSeq_nx, eSeq_rt, eSeq_bk, eSeq_ct, eSeq_ex, eSeq_none, ev_skip, ev_break, ev_cont, ev_never, ev_var, eVar_val, ev_c, ev_asg, eAsg_some, ev_asgO, eAsgO_some, ev_ret, ev_retP, eRet_some, ev_expr, eExpr_some, ev_if, eIf_t, eIf_f, ev_app, eApp_some, eApp2_own, eApp2_par, ev_frz, ev_frz1, eFrz1_own, ev_frzAF, ev_for, eFor_some, ev_test, eTest_bl, ev_and, eAnd_t, eAnd_f, ev_or, eOr_t, eOr_f, ev_not, eNot_some, ev_andV, eAndV_t, eAndV_f, ev_orV, eOrV_t, eOrV_f, ev_notV, eNotV_bl, ev_ifV, eIfV_t, eIfV_f, ev_bi, e2_some, ev_un, e1_some, ev_args0, ev_args1, eCons_some, ev_call, eCall_some, ev_tup, eTup_some, ev_lst, eLst_some, ev_sl, eSl_some, ev_no, ev_some, eSome_int, ev_chain, eChain_some, eChain2_t, eChain2_f, ev_itF, eItF_some, ev_itT, eItT_some, ev_itS, eItS_some, ev_R1, ev_R2, ev_comp, ev_run, eRun_rt, eRun_nx, ev_turn, eTurn_some, ev_name, ev_pair, ev_yes, gAdd_int, gMinus_int, gNeg_int, gLt_int, gLe_int, gGt_int, gGe_int, gDiv_int, gMod_int, gMul_int, gAbs_int, gMax_int, gMin_int, gLen_lst, gLen_tup, gLen_fz, gList_lst, gList_tup, gInt_int, gInt_bl, gIsN_non, gNotN_non, gSl_lst, gEq_int, gNe_int, gEq_bl, gNe_bl, isi_bool, isi_str, isi_int, isi_list, isi_tuple, initR_1, initR_2, initR_3, initR_4, initR_5, borA_nil, borA_cons, frzA_nil, frzA_cons, bor_no, bor_val, bor_own, bor_par, bor_view, frz_no, frz_val, frz_own, frz_par, frz_view, isBlD_bl, isBlD_int, isBlD_non, isBlD_str, isBlD_lst, isBlD_tup, isIntD_int, isIntD_bl, isStrD_str, isStrD_non, isLstD_lst, isLstD_non, isTupD_tup, isTupD_non, isNoD_non, isNoD_tup, isNoD_lst, isNoD_str,
  List.length_cons, List.length_nil, List.length_map, List.replicate_zero, List.replicate_succ, List.cons_append, List.nil_append, List.getElem?_cons_zero, List.getElem?_cons_succ, List.getElem?_nil, List.set_cons_zero, List.set_cons_succ, Nat.zero_add, Nat.add_zero, Nat.sub_self, Nat.reduceAdd, Nat.reduceSub, if_true, if_false, reduceIte, and_self, and_true, true_and, true_or, or_true, Int.reduceLT, Int.reduceLE, Int.reduceNeg, Int.reducePow, Int.reduceAdd, Int.reduceSub, Nat.reduceLT, Nat.reduceLeDiff, decide_true, decide_false, Bool.not_true, Bool.not_false, gt_iff_lt, Int.cast_ofNat_Int, bne_self_eq_false, beq_self_eq_true, ixt0, ixt1, ixt2, ixt3, eq_ee, eq_es, eq_ew, eq_se, eq_ss, eq_sw, eq_we, eq_ws, eq_ww, ne_ee, ne_es, ne_ew, ne_se, ne_ss, ne_sw, ne_we, ne_ws, ne_ww, ev_asgM, eM_some, eM1_own, eM1_par, eM2_own, eM2_par, ev_asgW, eW_some, eW1_own, eW1_par, ev_forW, eFw_view, initM_3, initW_1, ev_runM, eRm_rt, ev_runW, ixl0, ixl1, ev_raise, ev_exprX, eExX_val, eExX_exc, ev_asgX, eAsX_val, eAsX_exc, ev_retX, eReX_val, eReX_exc, ev_excX, eXc_exc, ev_ifX, eIfX_some, ev_callX, eCaX_some, ev_runX, eRunX_rt, eRunX_nx, eRunX_ex, ev_try, eTry_val, eTry_exc, eTry2_some, ev_pick, ev_valO, eVo_val, exs_g, exs_r, exs_t, ism_gw, ism_gg, ism_gr, ism_gt, ism_rw, ism_rg, ism_rr, ism_rt, ism_tw, ism_tg, ism_tr, ism_tt, eLoop_ex, List.length_set, Nat.zero_lt_succ, Nat.reduceMul, Bool.false_eq_true, Int.reduceBEq, Int.reduceBNe])
namespace Ev
theorem As.join {n m : Nat} {y : List Nat} {ps : List (List Nat)} (h : ∀ p ∈ ps, As n p) (k : As m y) : As (ps.length * (n + m)) (TL.joinL y ps) ∧ (ps.map (·.length)).sum + ps.length * y.length ≤ ps.length * (n + m) := by
  have hsum : (ps.map (·.length)).sum ≤ ps.length * n := by
    induction ps with
    | nil => simp
    | cons p ps ih =>
      have := ih fun q hq => h q (List.mem_cons_of_mem _ hq)
      have := (h p List.mem_cons_self).2
      rw [List.map_cons, List.sum_cons, List.length_cons, Nat.succ_mul]
      omega
  have hy : ps.length * y.length ≤ ps.length * m := Nat.mul_le_mul_left _ k.2
  have hb : (ps.map (·.length)).sum + ps.length * y.length ≤ ps.length * (n + m) := by rw [Nat.mul_add]; omega
  refine ⟨⟨?_, Nat.le_trans (len_joinL y ps) hb⟩, hb⟩
  clear hb hy hsum
  induction ps with
  | nil => exact asc_nil
  | cons p ps ih =>
    cases ps with
    | nil => exact (h p List.mem_cons_self).1
    | cons q r => exact asc_app (h p List.mem_cons_self).1 (asc_app k.1 (ih fun x hx => h x (List.mem_cons_of_mem _ hx)))
theorem rows_join {n : Nat} {ps : List (List Nat)} (h : ∀ p ∈ ps, As n p) (hl : ps.length * (n + 1) ≤ sz) : gJoin (.str "\n") (.lst (ps.map fun p => .str (tx p))) = some (.str (tx (TL.joinL [10] ps))) := by
  have k : As 1 [10] := ⟨asc_one (by decide), by decide⟩
  rw [tx_nl, join_tx (Nat.le_trans (As.join h k).2 hl)]
theorem lit_As (x : Str) (n : Nat) (h : asB n x = true) : ∃ l, As n l ∧ x = tx l := ⟨TL.tl x, As.of h, str_tx x⟩
theorem great_ok (c : Int) : ∃ l, As 1000 l ∧ g_l_great [.int c] = some (.str (tx l)) := by
  obtain ⟨n, hn0, hn1, en⟩ : ∃ n : Int, 9 ≤ n ∧ n ≤ 12 ∧ gIx (.lst [.int 9, .int 10, .int 11, .int 12]) (.int (c / 3 % 4)) = some (.int n) := by
    have hq : c / 3 % 4 = 0 ∨ c / 3 % 4 = 1 ∨ c / 3 % 4 = 2 ∨ c / 3 % 4 = 3 := by omega
    rcases hq with hq | hq | hq | hq <;> rw [hq]
    · exact ⟨9, by decide, by decide, ix_lst (by decide) rfl⟩
    · exact ⟨10, by decide, by decide, ix_lst (by decide) rfl⟩
    · exact ⟨11, by decide, by decide, ix_lst (by decide) rfl⟩
    · exact ⟨12, by decide, by decide, ix_lst (by decide) rfl⟩
  unfold g_l_great F_l_great
  generalize hB : appF 3 _ = B
  by_cases h0 : c % 3 = 0
  · obtain ⟨w, hw, ew⟩ := lit_As "\nwish 1" 7 (by decide +kernel)
    obtain ⟨fo, hfo, efo⟩ := lit_As "fo" 2 (by decide +kernel)
    have a1 : As 6 cLampsB := ⟨asc_lampsB, by decide⟩
    have af : As 1 [102] := ⟨asc_one (by decide), by decide⟩
    have b1 := a1.app ((hfo.rep (n / 2).toNat).mono (m := 12) (by omega))
    have b2 := b1.app ((af.rep (n % 2).toNat).mono (m := 1) (by omega))
    have b3 := b2.app hw
    refine ⟨_, b3.mono (by decide), ?_⟩
    rw [tx_lampsB, tx_f, efo, ew]
    walk_at "ev"
    rw [en]
    walk_at "ev"
    rw [h0]
    walk_at "ev"
    rw [mulN_tx (by omega) (by omega) (by have := hfo.2; omega)]
    walk_at "ev"
    rw [add_tx (by have := b1.2; rw [List.length_append] at this; unfold sz; omega)]
    rw [mulN_tx (by omega) (by omega) (by decide)]
    walk_at "ev"
    rw [add_tx (by have := b2.2; rw [List.length_append] at this; unfold sz; omega)]
    walk_at "ev"
    rw [add_tx (by have := b3.2; rw [List.length_append] at this; unfold sz; omega)]
    walk_at "ev"
  · by_cases h1 : c % 3 = 1
    · obtain ⟨lo, hlo, elo⟩ := lit_As "lamps of" 9 (by decide +kernel)
      obtain ⟨wi, hwi, ewi⟩ := lit_As "wish 1 -2" 9 (by decide +kernel)
      obtain ⟨r, hr, ps, x, hpl, hps, rfl⟩ := loop_range (tg := nameT 4) (body := B) (n := (n + 10).toNat)
        (fun i ρ => ∃ (ps : List (List Nat)) (x : Dn.Slot), ps.length = i + 1 ∧ (∀ p ∈ ps, As 9 p) ∧ ρ = [.val (.int c), .val (.int 1), .val (.int n), .own (ps.map fun p => .str (tx p)), x]) (fun i ρ hlt hi => by
          obtain ⟨ps, x, hl, hp, rfl⟩ := hi
          have hz : ps.length < sz := by unfold sz; omega
          have hcap : (4 : Int) + 2 * ((i : Int) % 2) = ((4 + 2 * (i % 2) : Nat) : Int) := by omega
          have hm : (0 : Int) < 2 := by decide
          rw [← hB, ewi]
          walk_at "ev"
          rw [sl_tx (by have := hwi.2; unfold sz; omega), cut_to _ _ _ hcap]
          walk_at "ev"
          simp only [hz, if_true]
          refine ⟨_, rfl, _, rfl, ps ++ [wi.take (4 + 2 * (i % 2))], _, by simp [hl], fun p hp' => ?_, by rw [List.map_append] <;> rfl⟩
          rcases List.mem_append.mp hp' with q | q
          · exact hp p q
          · rw [List.mem_singleton.mp q]
            exact hwi.take _) [.val (.int c), .val (.int 1), .val (.int n), .own [.str (tx lo)], .no] ⟨[lo], _, rfl, fun p hp => by rw [List.mem_singleton.mp hp]; exact hlo, rfl⟩
      have k : As 1 [10] := ⟨asc_one (by decide), by decide⟩
      refine ⟨TL.joinL [10] ps, (As.join hps k).1.mono (by omega), ?_⟩
      rw [elo]
      walk_at "ev"
      rw [en]
      walk_at "ev"
      rw [h1]
      walk_at "ev"
      rw [eR1_ok (by omega) (by omega)]
      walk_at "ev"
      rw [hr]
      walk_at "ev"
      rw [rows_join hps (by unfold sz; omega)]
      walk_at "ev"
    · obtain ⟨a, ha, ea⟩ := lit_As "lamps fo\nwish\nwish" 18 (by decide +kernel)
      obtain ⟨b, hb, eb⟩ := lit_As " -2" 3 (by decide +kernel)
      obtain ⟨m, em⟩ : ∃ m : Int, m = (if 11 < n then 11 else n) := ⟨_, rfl⟩
      have hm0 : 0 ≤ m := by rw [em]; split <;> omega
      have hm1 : m ≤ 11 := by rw [em]; split <;> omega
      have b1 := ha.app ((hb.rep m.toNat).mono (m := 33) (by omega))
      refine ⟨_, b1.mono (by decide), ?_⟩
      rw [ea, eb]
      walk_at "ev"
      rw [en]
      walk_at "ev"
      rw [beq_eq_false_iff_ne.mpr h0]
      walk_at "ev"
      rw [beq_eq_false_iff_ne.mpr h1]
      walk_at "ev"
      rw [← em, mulN_tx hm0 (by omega) (by have := hb.2; omega)]
      walk_at "ev"
      rw [add_tx (by have := b1.2; rw [List.length_append] at this; unfold sz; omega)]
      walk_at "ev"
theorem text_ok (ns : List Int) : ∃ l, As 1000 l ∧ g_l_text [.fz ns] = some (.str (tx l)) := by
  have c0 : g_l_cell_at [.fz ns, .int 0] = _ := cell_at ns 0
  have c1 : g_l_cell_at [.fz ns, .int 1] = _ := cell_at ns 1
  have c2 : g_l_cell_at [.fz ns, .int 2] = _ := cell_at ns 2
  have c3 : g_l_cell_at [.fz ns, .int 3] = _ := cell_at ns 3
  generalize cell ns 0 = a0 at c0
  generalize cell ns 1 = a1 at c1
  generalize cell ns 2 = a2 at c2
  generalize cell ns 3 = a3 at c3
  unfold g_l_text F_l_text
  generalize hB : appF 1 _ = B
  by_cases h8 : a1 / 12 % 8 = 1
  · obtain ⟨l, hl, e⟩ := great_ok a0
    refine ⟨l, hl, ?_⟩
    walk_at "ev"
    rw [c1]
    walk_at "ev"
    rw [h8]
    walk_at "ev"
    rw [c0]
    walk_at "ev"
    rw [e]
    walk_at "ev"
  · obtain ⟨f, hf, ef⟩ := first_ok a0
    obtain ⟨r, hr, ps, x, hpl, hps, rfl⟩ := loop_range (tg := nameT 2) (body := B) (n := (a1 % 4).toNat)
      (fun i ρ => ∃ (ps : List (List Nat)) (x : Dn.Slot), ps.length = i + 1 ∧ (∀ p ∈ ps, As 100 p) ∧ ρ = [.val (.fz ns), .own (ps.map fun p => .str (tx p)), x, .no, .no, .no]) (fun i ρ hlt hi => by
        obtain ⟨ps, x, hl, hp, rfl⟩ := hi
        have hz : ps.length < sz := by unfold sz; omega
        have cc : g_l_cell_at [.fz ns, .int (4 + (i : Int))] = some (.int (cell ns (4 + i))) := by
          have := cell_at ns (4 + i)
          rw [show ((4 + i : Nat) : Int) = 4 + (i : Int) by omega] at this
          exact this
        obtain ⟨q, hq, eq⟩ := next_ok (cell ns (4 + i))
        rw [← hB]
        walk_at "ev"
        rw [cc]
        walk_at "ev"
        rw [eq]
        walk_at "ev"
        simp only [hz, if_true]
        refine ⟨_, rfl, _, rfl, ps ++ [q], _, by simp [hl], fun p hp' => ?_, by rw [List.map_append] <;> rfl⟩
        rcases List.mem_append.mp hp' with z | z
        · exact hp p z
        · rw [List.mem_singleton.mp z]
          exact hq) [.val (.fz ns), .own [.str (tx f)], .no, .no, .no, .no] ⟨[f], _, rfl, fun p hp => by rw [List.mem_singleton.mp hp]; exact hf.mono (by decide), rfl⟩
    have k : As 1 [10] := ⟨asc_one (by decide), by decide⟩
    have aj := (As.join hps k).1.mono (m := 404) (by omega)
    have ej := rows_join hps (by unfold sz; omega)
    generalize TL.joinL [10] ps = t at aj ej
    obtain ⟨L, hL⟩ : ∃ L : Int, L = (t.length : Int) := ⟨_, rfl⟩
    have hpos : 0 < L + 1 := by omega
    have g0 := Int.emod_nonneg a2 (show L + 1 ≠ 0 by omega)
    have g1 := Int.emod_lt_of_pos a2 hpos
    obtain ⟨k, hk⟩ : ∃ k : Nat, a2 % (L + 1) = (k : Int) := ⟨(a2 % (L + 1)).toNat, by omega⟩
    have lenL : gLen [.str (tx t)] = some (.int L) := by rw [len_tx (by have := aj.2; unfold sz; omega), hL]
    have tz : t.length ≤ sz := by have := aj.2; unfold sz; omega
    have pre : ∀ G : SF, eRun (seqF (ifF (testF (biF gEq (biF gMod (biF gDiv (callF g_l_cell_at [(varF 0), (cF (.int 1))]) (cF (.int 12))) (cF (.int 8))) (cF (.int 1)))) (retF (callF g_l_great [(callF g_l_cell_at [(varF 0), (cF (.int 0))])])) skipF)
        (seqF (asgO 1 (lstF [(callF g_l_first [(callF g_l_cell_at [(varF 0), (cF (.int 0))])])]))
        (seqF (forF (itemsR1 (biF gMod (callF g_l_cell_at [(varF 0), (cF (.int 1))]) (cF (.int 4)))) (nameT 2) B)
        (seqF (frzF 1 (asgF 3 (biF gJoin (cF (.str "\n")) (varF 1))))
        (seqF (asgF 4 (biF gMod (biF gDiv (callF g_l_cell_at [(varF 0), (cF (.int 1))]) (cF (.int 4))) (cF (.int 3))))
        (seqF (asgF 5 (biF gMod (callF g_l_cell_at [(varF 0), (cF (.int 2))]) (biF gAdd (callF gLen [(varF 3)]) (cF (.int 1)))))
        G))))) [.val (.fz ns), .no, .no, .no, .no, .no]) = eRun (G [.val (.fz ns), .val (.lst (ps.map fun p => .str (tx p))), x, .val (.str (tx t)), .val (.int (a1 / 4 % 3)), .val (.int (k : Nat))]) := by
      intro G
      walk_at "ev"
      rw [c1]
      walk_at "ev"
      rw [beq_eq_false_iff_ne.mpr h8]
      walk_at "ev"
      rw [c0]
      walk_at "ev"
      rw [ef]
      walk_at "ev"
      rw [c1]
      walk_at "ev"
      rw [eR1_ok (by omega) (by omega)]
      walk_at "ev"
      rw [hr]
      walk_at "ev"
      rw [ej]
      walk_at "ev"
      rw [c1]
      walk_at "ev"
      rw [c2]
      rw [lenL]
      walk_at "ev"
      rw [if_pos hpos, hk]
      walk_at "ev"
    generalize hG : seqF (ifF (testF (biF gEq (varF 4) (cF (.int 1)))) _ _) _ = G
    have ini : ∃ l, As 1000 l ∧ eRun (G [.val (.fz ns), .val (.lst (ps.map fun p => .str (tx p))), x, .val (.str (tx t)), .val (.int (a1 / 4 % 3)), .val (.int (k : Nat))]) = some (.str (tx l)) := by
      rw [← hG]
      by_cases w1 : a1 / 4 % 3 = 1
      · obtain ⟨s, hs, es⟩ := sign_ok a3
        have as : As 1 [s] := ⟨asc_one hs, by simp⟩
        have b1 := (aj.take k).app as
        have b2 := b1.app (aj.drop k)
        refine ⟨_, b2.mono (by decide), ?_⟩
        rw [w1]
        walk_at "ev"
        rw [c3]
        walk_at "ev"
        rw [es]
        rw [sl_tx tz, sl_tx tz, cut_to _ k _ rfl, cut_fr0 _ k _ rfl]
        walk_at "ev"
        rw [add_tx (by have := b1.2; rw [List.length_append] at this; unfold sz; omega)]
        walk_at "ev"
        rw [add_tx (by have := b2.2; rw [List.length_append] at this; unfold sz; omega)]
        walk_at "ev"
      · by_cases w2 : a1 / 4 % 3 = 2
        · have b1 := (aj.take k).app (aj.drop (k + 1))
          refine ⟨_, b1.mono (by decide), ?_⟩
          rw [w2]
          walk_at "ev"
          rw [sl_tx tz, sl_tx tz, cut_to _ k _ rfl, cut_fr0 _ (k + 1) _ (by omega)]
          walk_at "ev"
          rw [add_tx (by have := b1.2; rw [List.length_append] at this; unfold sz; omega)]
          walk_at "ev"
        · refine ⟨t, aj.mono (by decide), ?_⟩
          walk_at "ev"
          rw [beq_eq_false_iff_ne.mpr w1]
          walk_at "ev"
          rw [beq_eq_false_iff_ne.mpr w2]
          walk_at "ev"
    obtain ⟨l, hl, e⟩ := ini
    exact ⟨l, hl, (pre G).trans e⟩
end Ev

open PySem PySem.Spec PyProof.Rows L2 Dn
local macro_rules | `(tactic| walk_at "ev") => `(tactic| simp only [ev_seq, eSeq_nx, eSeq_rt, eSeq_bk, eSeq_ct, eSeq_ex, eSeq_none, ev_skip, ev_break, ev_cont, ev_never, ev_var, eVar_val, ev_c, ev_asg, eAsg_some, ev_asgO, eAsgO_some, ev_ret, ev_retP, eRet_some, ev_expr, eExpr_some, ev_if, eIf_t, eIf_f, ev_app, eApp_some, eApp2_own, eApp2_par, ev_frz, ev_frz1, eFrz1_own, ev_frzAF, ev_for, eFor_some, ev_test, eTest_bl, ev_and, eAnd_t, eAnd_f, ev_or, eOr_t, eOr_f, ev_not, eNot_some, ev_andV, eAndV_t, eAndV_f, ev_orV, eOrV_t, eOrV_f, ev_notV, eNotV_bl, ev_ifV, eIfV_t, eIfV_f, ev_bi, e2_some, ev_un, e1_some, ev_args0, ev_args1, eCons_some, ev_call, eCall_some, ev_tup, eTup_some, ev_lst, eLst_some, ev_sl, eSl_some, ev_no, ev_some, eSome_int, ev_chain, eChain_some, eChain2_t, eChain2_f, ev_itF, eItF_some, ev_itT, eItT_some, ev_itS, eItS_some, ev_R1, ev_R2, ev_comp, ev_run, eRun_rt, eRun_nx, ev_turn, eTurn_some, ev_name, ev_pair, ev_yes, gAdd_int, gMinus_int, gNeg_int, gLt_int, gLe_int, gGt_int, gGe_int, gDiv_int, gMod_int, gMul_int, gAbs_int, gMax_int, gMin_int, gLen_lst, gLen_tup, gLen_fz, gList_lst, gList_tup, gInt_int, gInt_bl, gIsN_non, gNotN_non, gSl_lst, gEq_int, gNe_int, gEq_bl, gNe_bl, isi_bool, isi_str, isi_int, isi_list, isi_tuple, initR_1, initR_2, initR_3, initR_4, initR_5, borA_nil, borA_cons, frzA_nil, frzA_cons, bor_no, bor_val, bor_own, bor_par, bor_view, frz_no, frz_val, frz_own, frz_par, frz_view, isBlD_bl, isBlD_int, isBlD_non, isBlD_str, isBlD_lst, isBlD_tup, isIntD_int, isIntD_bl, isStrD_str, isStrD_non, isLstD_lst, isLstD_non, isTupD_tup, isTupD_non, isNoD_non, isNoD_tup, isNoD_lst, isNoD_str,
  List.length_cons, List.length_nil, List.length_map, List.replicate_zero, List.replicate_succ, List.cons_append, List.nil_append, List.getElem?_cons_zero, List.getElem?_cons_succ, List.getElem?_nil, List.set_cons_zero, List.set_cons_succ, Nat.zero_add, Nat.add_zero, Nat.sub_self, Nat.reduceAdd, Nat.reduceSub, if_true, if_false, reduceIte, and_self, and_true, true_and, true_or, or_true, Int.reduceLT, Int.reduceLE, Int.reduceNeg, Int.reducePow, Int.reduceAdd, Int.reduceSub, Nat.reduceLT, Nat.reduceLeDiff, decide_true, decide_false, Bool.not_true, Bool.not_false, gt_iff_lt, Int.cast_ofNat_Int, bne_self_eq_false, beq_self_eq_true, ixt0, ixt1, ixt2, ixt3, eq_ee, eq_es, eq_ew, eq_se, eq_ss, eq_sw, eq_we, eq_ws, eq_ww, ne_ee, ne_es, ne_ew, ne_se, ne_ss, ne_sw, ne_we, ne_ws, ne_ww, ev_asgM, eM_some, eM1_own, eM1_par, eM2_own, eM2_par, ev_asgW, eW_some, eW1_own, eW1_par, ev_forW, eFw_view, initM_3, initW_1, ev_runM, eRm_rt, ev_runW, ixl0, ixl1, ev_raise, ev_exprX, eExX_val, eExX_exc, ev_asgX, eAsX_val, eAsX_exc, ev_retX, eReX_val, eReX_exc, ev_excX, eXc_exc, ev_ifX, eIfX_some, ev_callX, eCaX_some, ev_runX, eRunX_rt, eRunX_nx, eRunX_ex, ev_try, eTry_val, eTry_exc, eTry2_some, ev_pick, ev_valO, eVo_val, exs_g, exs_r, exs_t, ism_gw, ism_gg, ism_gr, ism_gt, ism_rw, ism_rg, ism_rr, ism_rt, ism_tw, ism_tg, ism_tr, ism_tt, eLoop_ex, List.length_set, Nat.zero_lt_succ, Nat.reduceMul, Bool.false_eq_true, Int.reduceBEq, Int.reduceBNe])
namespace Ev
/-- a loop that raises where p is so, and else goes on -/
theorem loop_exc {α : Type} {tg : TF} {body : SF} {f : α → D} (p : α → Bool) (e : String) (I : Ro → Prop) : ∀ (xs : List α), (∀ a ∈ xs, ∀ ρ, I ρ → (p a = true → turnF tg body (f a) ρ = some (.ex e)) ∧ (p a = false → ∃ r, turnF tg body (f a) ρ = some (.nx r) ∧ I r)) →
    ∀ ρ, I ρ → (xs.any p = true ∧ loopF tg body (xs.map f) ρ = some (.ex e)) ∨ (xs.any p = false ∧ ∃ r, loopF tg body (xs.map f) ρ = some (.nx r) ∧ I r)
  | [], _, ρ, h => .inr ⟨rfl, ρ, rfl, h⟩
  | a :: xs, st, ρ, h => by
    have s := st a List.mem_cons_self ρ h
    rw [List.map_cons, ev_loop1, List.any_cons]
    cases hp : p a with
    | true =>
      rw [s.1 hp]
      exact .inl ⟨rfl, rfl⟩
    | false =>
      obtain ⟨r, e1, hr⟩ := s.2 hp
      rw [e1, eLoop_nx, Bool.false_or]
      exact loop_exc p e I xs (fun b hb => st b (List.mem_cons_of_mem _ hb)) r hr
def isF (c : Nat) : Bool := c == 102 || c == 111
def badN (m : Nat) (n : Int) : Bool := n == 0 || decide (m < n.natAbs)
def badW (m : Nat) (w : List Int) : Bool := decide (10 < w.length) || w.any (badN m)
def badG (l : List Nat) (ws : List (List Int)) : Bool := (decide (10 < l.length) || decide (20 < ws.length)) || (l.any fun c => !isF c) || ws.any (badW l.length)
def resG (b : Bool) : Res := if b = true then .exc "BadGame" else .val .non
theorem check_wish_x (w : List Int) (m : Nat) : g_p_check_wish [intsD w, .int (m : Nat)] = some (resG (badW m w)) := by
  unfold g_p_check_wish F_p_check_wish intsD
  generalize hB : ifF (orT _ _) _ _ = B
  obtain ⟨z, hz⟩ : ∃ z : Int, z = (m : Int) := ⟨_, rfl⟩
  rw [← hz]
  have L := loop_exc (tg := nameT 2) (body := B) (f := D.int) (badN m) "BadGame" (fun ρ => ∃ x, ρ = [.val (.lst (w.map .int)), .val (.int z), x]) w (fun n _ ρ hI => by
    obtain ⟨x, rfl⟩ := hI
    rw [← hB]
    walk_at "ev"
    by_cases h0 : n = 0
    · subst h0
      rw [beq_self_eq_true]
      walk_at "ev"
      exact ⟨fun _ => by trivial, fun h => by simp [badN] at h⟩
    · rw [beq_eq_false_iff_ne.mpr h0]
      walk_at "ev"
      rw [abs_eq]
      by_cases h1 : z < (n.natAbs : Int)
      · simp only [h1]
        walk_at "ev"
        exact ⟨fun _ => by trivial, fun h => by
          simp only [badN, Bool.or_eq_false_iff, decide_eq_false_iff_not] at h
          omega⟩
      · simp only [h1]
        walk_at "ev"
        exact ⟨fun h => by
          simp only [badN, Bool.or_eq_true, beq_iff_eq, decide_eq_true_eq] at h
          omega, fun _ => ⟨_, rfl, _, rfl⟩⟩) [.val (.lst (w.map .int)), .val (.int z), .no] ⟨_, rfl⟩
  walk_at "ev"
  by_cases h1 : (10 : Int) < (w.length : Int)
  · simp only [h1]
    walk_at "ev"
    have : badW m w = true := by
      unfold badW
      rw [decide_eq_true (by omega)] <;> rfl
    rw [this]
    rfl
  · simp only [h1]
    walk_at "ev"
    have hw : badW m w = w.any (badN m) := by
      unfold badW
      rw [decide_eq_false (by omega), Bool.false_or]
    rw [hw]
    rcases L with ⟨a, e⟩ | ⟨a, r, e, _⟩
    · rw [e, a] <;> rfl
    · rw [e, a] <;> rfl
theorem one_ne (c d : Nat) : ([c] != [d]) = (c != d) := by
  by_cases h : c = d
  · subst h
    rw [bne_self_eq_false, bne_self_eq_false]
  · rw [show (c != d) = true from bne_iff_ne.mpr h, bne_iff_ne.mpr (fun z => h (List.cons.inj z).1)]
theorem check_x (l : List Nat) (ws : List (List Int)) (ha : asc l) (hl : l.length ≤ 1000) : g_p_check [.str (tx l), wsD ws] = some (resG (badG l ws)) := by
  unfold g_p_check F_p_check wsD
  generalize hB : ifF (andT _ _) _ _ = B
  generalize hC : exprX _ = C
  obtain ⟨z, hz⟩ : ∃ z : Int, z = (l.length : Int) := ⟨_, rfl⟩
  have lenz : gLen [.str (tx l)] = some (.int z) := by rw [len_tx (by unfold sz; omega), hz]
  have L1 := loop_exc (tg := nameT 2) (body := B) (f := fun c => D.str (tx [c])) (fun c => !isF c) "BadGame" (fun ρ => ∃ x, ρ = [.val (.str (tx l)), .val (.lst (ws.map intsD)), x, .no]) l (fun c hc ρ hI => by
    obtain ⟨x, rfl⟩ := hI
    have hc' := ha c hc
    rw [← hB, tx_f, tx_o]
    walk_at "ev"
    rw [ne_tx (asc_one hc') (asc_one (by decide)), one_ne]
    by_cases h1 : c = 102
    · subst h1
      rw [bne_self_eq_false]
      walk_at "ev"
      exact ⟨fun h => by simp [isF] at h, fun _ => ⟨_, rfl, _, rfl⟩⟩
    · rw [bne_iff_ne.mpr h1]
      walk_at "ev"
      rw [ne_tx (asc_one hc') (asc_one (by decide)), one_ne]
      by_cases h2 : c = 111
      · subst h2
        rw [bne_self_eq_false]
        walk_at "ev"
        exact ⟨fun h => by simp [isF] at h, fun _ => ⟨_, rfl, _, rfl⟩⟩
      · rw [bne_iff_ne.mpr h2]
        walk_at "ev"
        exact ⟨fun _ => by trivial, fun h => by simp [isF, h1, h2] at h⟩) [.val (.str (tx l)), .val (.lst (ws.map intsD)), .no, .no] ⟨_, rfl⟩
  have L2 : ∀ x : Slot, _ := fun x => loop_exc (tg := nameT 3) (body := C) (f := intsD) (badW l.length) "BadGame" (fun ρ => ∃ y, ρ = [.val (.str (tx l)), .val (.lst (ws.map intsD)), x, y]) ws (fun w _ ρ hI => by
    obtain ⟨y, rfl⟩ := hI
    rw [← hC]
    walk_at "ev"
    rw [lenz]
    walk_at "ev"
    rw [hz, check_wish_x]
    unfold resG
    constructor
    · intro h
      rw [if_pos h]
      walk_at "ev"
    · intro h
      rw [if_neg (by rw [h]; exact Bool.false_ne_true)]
      walk_at "ev"
      exact ⟨_, rfl, _, rfl⟩) [.val (.str (tx l)), .val (.lst (ws.map intsD)), x, .no] ⟨_, rfl⟩
  walk_at "ev"
  rw [lenz]
  walk_at "ev"
  by_cases h1 : (10 : Int) < z
  · simp only [h1]
    walk_at "ev"
    have : badG l ws = true := by
      unfold badG
      rw [decide_eq_true (show 10 < l.length by omega)] <;> rfl
    rw [this]
    rfl
  · simp only [h1]
    walk_at "ev"
    by_cases h2 : (20 : Int) < (ws.length : Int)
    · simp only [h2]
      walk_at "ev"
      have : badG l ws = true := by
        unfold badG
        rw [decide_eq_true (show 20 < ws.length by omega), Bool.or_true] <;> rfl
      rw [this]
      rfl
    · simp only [h2]
      walk_at "ev"
      rw [signs_tx]
      have hw : badG l ws = ((l.any fun c => !isF c) || ws.any (badW l.length)) := by
        unfold badG
        rw [decide_eq_false (show ¬ 10 < l.length by omega), decide_eq_false (show ¬ 20 < ws.length by omega)] <;> rfl
      rw [hw]
      rcases L1 with ⟨a, e⟩ | ⟨a, r, e, x, rfl⟩
      · rw [e, a] <;> rfl
      · rw [e, a, Bool.false_or]
        walk_at "ev"
        rcases L2 x with ⟨a, e⟩ | ⟨a, r, e, _⟩
        · rw [e, a] <;> rfl
        · rw [e, a] <;> rfl
end Ev

open PySem PySem.Spec PyProof.Rows L2 Dn
local macro_rules | `(tactic| walk_at "ev") => `(tactic| simp only [ev_seq, eSeq_nx, eSeq_rt, eSeq_bk, eSeq_ct, eSeq_ex, eSeq_none, ev_skip, ev_break, ev_cont, ev_never, ev_var, eVar_val, ev_c, ev_asg, eAsg_some, ev_asgO, eAsgO_some, ev_ret, ev_retP, eRet_some, ev_expr, eExpr_some, ev_if, eIf_t, eIf_f, ev_app, eApp_some, eApp2_own, eApp2_par, ev_frz, ev_frz1, eFrz1_own, ev_frzAF, ev_for, eFor_some, ev_test, eTest_bl, ev_and, eAnd_t, eAnd_f, ev_or, eOr_t, eOr_f, ev_not, eNot_some, ev_andV, eAndV_t, eAndV_f, ev_orV, eOrV_t, eOrV_f, ev_notV, eNotV_bl, ev_ifV, eIfV_t, eIfV_f, ev_bi, e2_some, ev_un, e1_some, ev_args0, ev_args1, eCons_some, ev_call, eCall_some, ev_tup, eTup_some, ev_lst, eLst_some, ev_sl, eSl_some, ev_no, ev_some, eSome_int, ev_chain, eChain_some, eChain2_t, eChain2_f, ev_itF, eItF_some, ev_itT, eItT_some, ev_itS, eItS_some, ev_R1, ev_R2, ev_comp, ev_run, eRun_rt, eRun_nx, ev_turn, eTurn_some, ev_name, ev_pair, ev_yes, gAdd_int, gMinus_int, gNeg_int, gLt_int, gLe_int, gGt_int, gGe_int, gDiv_int, gMod_int, gMul_int, gAbs_int, gMax_int, gMin_int, gLen_lst, gLen_tup, gLen_fz, gList_lst, gList_tup, gInt_int, gInt_bl, gIsN_non, gNotN_non, gSl_lst, gEq_int, gNe_int, gEq_bl, gNe_bl, isi_bool, isi_str, isi_int, isi_list, isi_tuple, initR_1, initR_2, initR_3, initR_4, initR_5, borA_nil, borA_cons, frzA_nil, frzA_cons, bor_no, bor_val, bor_own, bor_par, bor_view, frz_no, frz_val, frz_own, frz_par, frz_view, isBlD_bl, isBlD_int, isBlD_non, isBlD_str, isBlD_lst, isBlD_tup, isIntD_int, isIntD_bl, isStrD_str, isStrD_non, isLstD_lst, isLstD_non, isTupD_tup, isTupD_non, isNoD_non, isNoD_tup, isNoD_lst, isNoD_str,
  List.length_cons, List.length_nil, List.length_map, List.replicate_zero, List.replicate_succ, List.cons_append, List.nil_append, List.getElem?_cons_zero, List.getElem?_cons_succ, List.getElem?_nil, List.set_cons_zero, List.set_cons_succ, Nat.zero_add, Nat.add_zero, Nat.sub_self, Nat.reduceAdd, Nat.reduceSub, if_true, if_false, reduceIte, and_self, and_true, true_and, true_or, or_true, Int.reduceLT, Int.reduceLE, Int.reduceNeg, Int.reducePow, Int.reduceAdd, Int.reduceSub, Nat.reduceLT, Nat.reduceLeDiff, decide_true, decide_false, Bool.not_true, Bool.not_false, gt_iff_lt, Int.cast_ofNat_Int, bne_self_eq_false, beq_self_eq_true, ixt0, ixt1, ixt2, ixt3, eq_ee, eq_es, eq_ew, eq_se, eq_ss, eq_sw, eq_we, eq_ws, eq_ww, ne_ee, ne_es, ne_ew, ne_se, ne_ss, ne_sw, ne_we, ne_ws, ne_ww, ev_asgM, eM_some, eM1_own, eM1_par, eM2_own, eM2_par, ev_asgW, eW_some, eW1_own, eW1_par, ev_forW, eFw_view, initM_3, initW_1, ev_runM, eRm_rt, ev_runW, ixl0, ixl1, ev_raise, ev_exprX, eExX_val, eExX_exc, ev_asgX, eAsX_val, eAsX_exc, ev_retX, eReX_val, eReX_exc, ev_excX, eXc_exc, ev_ifX, eIfX_some, ev_callX, eCaX_some, ev_runX, eRunX_rt, eRunX_nx, eRunX_ex, ev_try, eTry_val, eTry_exc, eTry2_some, ev_pick, ev_valO, eVo_val, exs_g, exs_r, exs_t, ism_gw, ism_gg, ism_gr, ism_gt, ism_rw, ism_rg, ism_rr, ism_rt, ism_tw, ism_tg, ism_tr, ism_tt, eLoop_ex, List.length_set, Nat.zero_lt_succ, Nat.reduceMul, Bool.false_eq_true, Int.reduceBEq, Int.reduceBNe])
namespace Ev
/-- a loop that hands back v where p is so, and else goes on -/
theorem loop_ret {α : Type} {tg : TF} {body : SF} {f : α → D} (p : α → Bool) (v : D) (I : Ro → Prop) : ∀ (xs : List α), (∀ a ∈ xs, ∀ ρ, I ρ → (p a = true → ∃ r, turnF tg body (f a) ρ = some (.rt v r)) ∧ (p a = false → ∃ r, turnF tg body (f a) ρ = some (.nx r) ∧ I r)) →
    ∀ ρ, I ρ → (xs.any p = true ∧ ∃ r, loopF tg body (xs.map f) ρ = some (.rt v r)) ∨ (xs.any p = false ∧ ∃ r, loopF tg body (xs.map f) ρ = some (.nx r) ∧ I r)
  | [], _, ρ, h => .inr ⟨rfl, ρ, rfl, h⟩
  | a :: xs, st, ρ, h => by
    have s := st a List.mem_cons_self ρ h
    rw [List.map_cons, ev_loop1, List.any_cons]
    cases hp : p a with
    | true =>
      obtain ⟨r, e⟩ := s.1 hp
      rw [e]
      exact .inl ⟨rfl, r, rfl⟩
    | false =>
      obtain ⟨r, e1, hr⟩ := s.2 hp
      rw [e1, eLoop_nx, Bool.false_or]
      exact loop_ret p v I xs (fun b hb => st b (List.mem_cons_of_mem _ hb)) r hr
def fig (l : List Nat) : List Nat := if l.take 1 = [45] then l.drop 1 else l
def dig (c : Nat) : Bool := decide (48 ≤ c) && decide (c ≤ 57)
/-- figures that are a number -/
def figB : List Nat → Bool
  | [] => false
  | c :: r => decide (r.length ≤ 59) && (c != 48) && (c :: r).all dig
theorem not_t {b : Bool} (h : (!b) = true) : b = false := by cases b <;> first | rfl | cases h
theorem not_f {b : Bool} (h : (!b) = false) : b = true := by cases b <;> first | rfl | cases h
theorem figB_cons (c : Nat) (r : List Nat) : figB (c :: r) = (decide (r.length ≤ 59) && (c != 48) && (c :: r).all dig) := rfl
def numB (l : List Nat) : Bool := figB (fig l)
def numV (l : List Nat) : Int := if l = fig l then ((NumText.digitsVal l : Nat) : Int) else -((NumText.digitsVal (fig l) : Nat) : Int)
theorem val_ge : ∀ (r : List Nat) (a : Nat), a ≤ r.foldl (fun acc c => acc * 10 + (c - 48)) a
  | [], a => Nat.le_refl a
  | c :: r, a => Nat.le_trans (by omega) (val_ge r (a * 10 + (c - 48)))
theorem val_pos {f : List Nat} (h : figB f = true) : 0 < NumText.digitsVal f := by
  cases f with
  | nil => cases h
  | cons c r =>
    unfold figB at h
    simp only [Bool.and_eq_true, List.all_cons, dig, decide_eq_true_eq, bne_iff_ne] at h
    have := val_ge r (0 * 10 + (c - 48))
    show 0 < r.foldl (fun acc c => acc * 10 + (c - 48)) (0 * 10 + (c - 48))
    omega
theorem numV_ne {l : List Nat} (h : numB l = true) : numV l ≠ 0 := by
  have := val_pos h
  unfold numV
  split
  · rename_i e
    rw [e]
    omega
  · omega
theorem fig_asc {l : List Nat} (h : asc l) : asc (fig l) := by
  unfold fig
  split
  · exact fun c hc => h c (List.mem_of_mem_drop hc)
  · exact h
theorem fig_len (l : List Nat) : (fig l).length ≤ l.length := by
  unfold fig
  split
  · rw [List.length_drop]
    omega
  · exact Nat.le_refl _
theorem dig_not (c : Nat) : (!decide (c ∈ cDigits)) = !dig c := by
  unfold dig
  by_cases h : 48 ≤ c ∧ c ≤ 57
  · rw [decide_eq_true (mem_digits.mpr h), decide_eq_true h.1, decide_eq_true h.2] <;> rfl
  · rw [decide_eq_false (fun z => h (mem_digits.mp z))]
    by_cases h1 : 48 ≤ c
    · rw [decide_eq_true h1, decide_eq_false (fun z => h ⟨h1, z⟩)] <;> rfl
    · rw [decide_eq_false h1] <;> rfl
theorem all_any (r : List Nat) : r.any (fun c => !dig c) = !r.all dig := by
  induction r with
  | nil => rfl
  | cons c r ih => rw [List.any_cons, List.all_cons, ih, Bool.not_and]
theorem one_eq (c d : Nat) : ([c] == [d]) = (c == d) := by
  by_cases h : c = d
  · subst h
    rw [beq_self_eq_true, beq_self_eq_true]
  · rw [beq_eq_false_iff_ne.mpr h, beq_eq_false_iff_ne.mpr (fun z => h (List.cons.inj z).1)]
theorem number_x (l : List Nat) (ha : asc l) (hl : l.length ≤ 1000) : g_p_number_of [.str (tx l)] = some (if numB l = true then .val (.int (numV l)) else .exc "BadText") := by
  have hf := fig_asc ha
  have hfl := fig_len l
  have lz : l.length ≤ sz := by unfold sz; omega
  unfold g_p_number_of F_p_number_of
  generalize hB : ifF (testF (biF gNotIn (varF 2) _)) _ _ = B
  have fin : ∀ f : List Nat, f = fig l → eRunX (seqF (ifF (orT (notT (testF (chainV gLe gLe (cF (.int 1)) (callF gLen [(varF 1)]) (cF (.int 60))))) (testF (biF gEq (biF gIx (varF 1) (cF (.int 0))) (cF (.str "0"))))) (raiseF "BadText") skipF)
      (seqF (forF (itemsS (varF 1)) (nameT 2) B) (seqF (ifF (testF (biF gEq (varF 0) (varF 1))) (retF (callF gIntS [(varF 1)])) skipF) (retF (un gNeg (callF gIntS [(varF 1)]))))) [.val (.str (tx l)), .val (.str (tx f)), .no]) = some (if numB l = true then .val (.int (numV l)) else .exc "BadText") := by
    intro f ef
    rw [← ef] at hf hfl
    have en : numB l = figB f := by unfold numB; rw [ef]
    cases f with
    | nil =>
      rw [en, if_neg (by unfold figB; exact Bool.false_ne_true)]
      walk_at "ev"
      rw [len_tx (by unfold sz; exact Nat.zero_le _)]
      walk_at "ev"
    | cons c r =>
      obtain ⟨z, hz⟩ : ∃ z : Int, z = ((c :: r).length : Int) := ⟨_, rfl⟩
      have hz' : z = (r.length : Int) + 1 := by rw [hz, List.length_cons]; omega
      have lenz : gLen [.str (tx (c :: r))] = some (.int z) := by rw [len_tx (by unfold sz; omega), hz]
      have z1 : (1 : Int) ≤ z := by omega
      walk_at "ev"
      rw [lenz]
      walk_at "ev"
      simp only [z1]
      walk_at "ev"
      by_cases h60 : z ≤ 60
      · simp only [h60]
        walk_at "ev"
        have e0 : gIx (.str (tx (c :: r))) (.int 0) = some (.str (tx [c])) := ix_tx (k := 0) (by unfold sz; omega) rfl
        rw [e0, tx_zero]
        walk_at "ev"
        rw [eq_tx (asc_one (hf c List.mem_cons_self)) (asc_one (by decide)), one_eq]
        by_cases hc : c = 48
        · rw [en, if_neg (by simp [figB, hc]), hc, beq_self_eq_true]
          walk_at "ev"
        · rw [beq_eq_false_iff_ne.mpr hc]
          walk_at "ev"
          rw [signs_tx]
          have L := loop_exc (tg := nameT 2) (body := B) (f := fun c => D.str (tx [c])) (fun c => !dig c) "BadText" (fun ρ => ∃ x, ρ = [.val (.str (tx l)), .val (.str (tx (c :: r))), x]) (c :: r) (fun a _ ρ hI => by
            obtain ⟨x, rfl⟩ := hI
            rw [← hB, tx_digits]
            walk_at "ev"
            rw [notIn_tx, dig_not]
            constructor
            · intro h
              rw [h]
              walk_at "ev"
            · intro h
              rw [h]
              walk_at "ev"
              exact ⟨_, rfl, _, rfl⟩) [.val (.str (tx l)), .val (.str (tx (c :: r))), .no] ⟨_, rfl⟩
          rw [all_any] at L
          rcases L with ⟨h, e⟩ | ⟨h, q, e, x, rfl⟩
          · rw [e, en, if_neg (by
              rw [figB_cons, not_t h, Bool.and_false]
              exact Bool.false_ne_true)]
            walk_at "ev"
          · have hd : (c :: r).all dig = true := not_f h
            rw [e, en, if_pos (by
              rw [figB_cons, hd, decide_eq_true (show r.length ≤ 59 by omega), bne_iff_ne.mpr hc] <;> rfl)]
            have ei := int_tx (l := c :: r) hd (by exact fun z => nomatch z) (by omega)
            walk_at "ev"
            rw [eq_tx ha hf]
            unfold numV
            rw [← ef]
            by_cases hs : l = c :: r
            · rw [if_pos hs, beq_iff_eq.mpr hs, hs]
              walk_at "ev"
              rw [ei]
              walk_at "ev"
            · rw [if_neg hs, beq_eq_false_iff_ne.mpr hs]
              walk_at "ev"
              rw [ei]
              walk_at "ev"
      · simp only [h60]
        walk_at "ev"
        rw [en, if_neg (by
          rw [figB_cons, decide_eq_false (by omega)]
          exact Bool.false_ne_true)]
  generalize hT : seqF (ifF (orT (notT (testF (chainV _ _ _ _ _))) _) _ _) _ = T at fin ⊢
  walk_at "ev"
  rw [tx_minus, sl_tx lz, cut_to _ 1 1 rfl]
  walk_at "ev"
  rw [eq_tx (fun c hc => ha c (List.mem_of_mem_take hc)) (asc_one (by decide))]
  by_cases hm : l.take 1 = [45]
  · rw [beq_iff_eq.mpr hm]
    walk_at "ev"
    rw [sl_tx lz, cut_fr0 _ 1 1 rfl]
    walk_at "ev"
    exact fin _ (by unfold fig; rw [if_pos hm])
  · rw [beq_eq_false_iff_ne.mpr hm]
    walk_at "ev"
    exact fin _ (by unfold fig; rw [if_neg hm])
theorem number_l (l : List Nat) (ha : asc l) (hl : l.length ≤ 1000) : g_l_number [.str (tx l)] = some (.int (if numB l = true then numV l else 0)) := by
  have hf := fig_asc ha
  have hfl := fig_len l
  have lz : l.length ≤ sz := by unfold sz; omega
  unfold g_l_number F_l_number
  generalize hB : ifF (testF (biF gNotIn (varF 2) _)) _ _ = B
  have fin : ∀ f : List Nat, f = fig l → eRun (seqF (ifF (orT (testF (biF gEq (varF 1) (cF (.str "")))) (orT (testF (biF gEq (biF gIx (varF 1) (cF (.int 0))) (cF (.str "0")))) (testF (biF gGt (callF gLen [(varF 1)]) (cF (.int 60)))))) (retF (cF (.int 0))) skipF)
      (seqF (forF (itemsS (varF 1)) (nameT 2) B) (seqF (ifF (testF (biF gEq (varF 1) (varF 0))) (retF (callF gIntS [(varF 1)])) skipF) (retF (un gNeg (callF gIntS [(varF 1)]))))) [.val (.str (tx l)), .val (.str (tx f)), .no]) = some (.int (if numB l = true then numV l else 0)) := by
    intro f ef
    rw [← ef] at hf hfl
    have en : numB l = figB f := by unfold numB; rw [ef]
    cases f with
    | nil =>
      rw [en, if_neg (by unfold figB; exact Bool.false_ne_true), tx_empty]
      walk_at "ev"
      rw [eq_tx asc_nil asc_nil, beq_self_eq_true]
      walk_at "ev"
    | cons c r =>
      obtain ⟨z, hz⟩ : ∃ z : Int, z = ((c :: r).length : Int) := ⟨_, rfl⟩
      have hz' : z = (r.length : Int) + 1 := by rw [hz, List.length_cons]; omega
      have lenz : gLen [.str (tx (c :: r))] = some (.int z) := by rw [len_tx (by unfold sz; omega), hz]
      have e0 : gIx (.str (tx (c :: r))) (.int 0) = some (.str (tx [c])) := ix_tx (k := 0) (by unfold sz; omega) rfl
      rw [tx_empty, tx_zero]
      walk_at "ev"
      rw [eq_tx hf asc_nil, show ((c :: r) == ([] : List Nat)) = false from rfl]
      walk_at "ev"
      rw [e0]
      walk_at "ev"
      rw [eq_tx (asc_one (hf c List.mem_cons_self)) (asc_one (by decide)), one_eq]
      by_cases hc : c = 48
      · rw [en, if_neg (by simp [figB, hc]), hc, beq_self_eq_true]
        walk_at "ev"
      · rw [beq_eq_false_iff_ne.mpr hc]
        walk_at "ev"
        rw [lenz]
        walk_at "ev"
        by_cases h60 : (60 : Int) < z
        · simp only [h60]
          walk_at "ev"
          rw [en, if_neg (by
            rw [figB_cons, decide_eq_false (by omega)]
            exact Bool.false_ne_true)]
        · simp only [h60]
          walk_at "ev"
          rw [signs_tx]
          have L := loop_ret (tg := nameT 2) (body := B) (f := fun c => D.str (tx [c])) (fun c => !dig c) (.int 0) (fun ρ => ∃ x, ρ = [.val (.str (tx l)), .val (.str (tx (c :: r))), x]) (c :: r) (fun a _ ρ hI => by
            obtain ⟨x, rfl⟩ := hI
            rw [← hB, tx_digits]
            walk_at "ev"
            rw [notIn_tx, dig_not]
            constructor
            · intro h
              rw [h]
              walk_at "ev"
              exact ⟨_, rfl⟩
            · intro h
              rw [h]
              walk_at "ev"
              exact ⟨_, rfl, _, rfl⟩) [.val (.str (tx l)), .val (.str (tx (c :: r))), .no] ⟨_, rfl⟩
          rw [all_any] at L
          rcases L with ⟨h, q, e⟩ | ⟨h, q, e, x, rfl⟩
          · rw [e, en, if_neg (by
              rw [figB_cons, not_t h, Bool.and_false]
              exact Bool.false_ne_true)]
            walk_at "ev"
          · have hd : (c :: r).all dig = true := not_f h
            rw [e, en, if_pos (by
              rw [figB_cons, hd, decide_eq_true (show r.length ≤ 59 by omega), bne_iff_ne.mpr hc] <;> rfl)]
            have ei := int_tx (l := c :: r) hd (by exact fun z => nomatch z) (by omega)
            walk_at "ev"
            rw [eq_tx hf ha]
            unfold numV
            rw [← ef]
            by_cases hs : l = c :: r
            · rw [if_pos hs, beq_iff_eq.mpr hs.symm, hs]
              walk_at "ev"
              rw [ei]
              walk_at "ev"
            · rw [if_neg hs, beq_eq_false_iff_ne.mpr (fun z => hs z.symm)]
              walk_at "ev"
              rw [ei]
              walk_at "ev"
  generalize hT : seqF (ifF (orT (testF (biF gEq (varF 1) _)) _) _ _) _ = T at fin ⊢
  walk_at "ev"
  rw [tx_minus, sl_tx lz, cut_to _ 1 1 rfl]
  walk_at "ev"
  rw [eq_tx (fun c hc => ha c (List.mem_of_mem_take hc)) (asc_one (by decide))]
  by_cases hm : l.take 1 = [45]
  · rw [beq_iff_eq.mpr hm]
    walk_at "ev"
    rw [sl_tx lz, cut_fr0 _ 1 1 rfl]
    walk_at "ev"
    exact fin _ (by unfold fig; rw [if_pos hm])
  · rw [beq_eq_false_iff_ne.mpr hm]
    walk_at "ev"
    exact fin _ (by unfold fig; rw [if_neg hm])
end Ev

open PySem PySem.Spec PyProof.Rows L2 Dn
local macro_rules | `(tactic| walk_at "ev") => `(tactic| simp only [ev_seq, eSeq_nx, eSeq_rt, eSeq_bk, eSeq_ct, eSeq_ex, eSeq_none, ev_skip, ev_break, ev_cont, ev_never, ev_var, eVar_val, ev_c, ev_asg, eAsg_some, ev_asgO, eAsgO_some, ev_ret, ev_retP, eRet_some, ev_expr, eExpr_some, ev_if, eIf_t, eIf_f, ev_app, eApp_some, eApp2_own, eApp2_par, ev_frz, ev_frz1, eFrz1_own, ev_frzAF, ev_for, eFor_some, ev_test, eTest_bl, ev_and, eAnd_t, eAnd_f, ev_or, eOr_t, eOr_f, ev_not, eNot_some, ev_andV, eAndV_t, eAndV_f, ev_orV, eOrV_t, eOrV_f, ev_notV, eNotV_bl, ev_ifV, eIfV_t, eIfV_f, ev_bi, e2_some, ev_un, e1_some, ev_args0, ev_args1, eCons_some, ev_call, eCall_some, ev_tup, eTup_some, ev_lst, eLst_some, ev_sl, eSl_some, ev_no, ev_some, eSome_int, ev_chain, eChain_some, eChain2_t, eChain2_f, ev_itF, eItF_some, ev_itT, eItT_some, ev_itS, eItS_some, ev_R1, ev_R2, ev_comp, ev_run, eRun_rt, eRun_nx, ev_turn, eTurn_some, ev_name, ev_pair, ev_yes, gAdd_int, gMinus_int, gNeg_int, gLt_int, gLe_int, gGt_int, gGe_int, gDiv_int, gMod_int, gMul_int, gAbs_int, gMax_int, gMin_int, gLen_lst, gLen_tup, gLen_fz, gList_lst, gList_tup, gInt_int, gInt_bl, gIsN_non, gNotN_non, gSl_lst, gEq_int, gNe_int, gEq_bl, gNe_bl, isi_bool, isi_str, isi_int, isi_list, isi_tuple, initR_1, initR_2, initR_3, initR_4, initR_5, borA_nil, borA_cons, frzA_nil, frzA_cons, bor_no, bor_val, bor_own, bor_par, bor_view, frz_no, frz_val, frz_own, frz_par, frz_view, isBlD_bl, isBlD_int, isBlD_non, isBlD_str, isBlD_lst, isBlD_tup, isIntD_int, isIntD_bl, isStrD_str, isStrD_non, isLstD_lst, isLstD_non, isTupD_tup, isTupD_non, isNoD_non, isNoD_tup, isNoD_lst, isNoD_str,
  List.length_cons, List.length_nil, List.length_map, List.replicate_zero, List.replicate_succ, List.cons_append, List.nil_append, List.getElem?_cons_zero, List.getElem?_cons_succ, List.getElem?_nil, List.set_cons_zero, List.set_cons_succ, Nat.zero_add, Nat.add_zero, Nat.sub_self, Nat.reduceAdd, Nat.reduceSub, if_true, if_false, reduceIte, and_self, and_true, true_and, true_or, or_true, Int.reduceLT, Int.reduceLE, Int.reduceNeg, Int.reducePow, Int.reduceAdd, Int.reduceSub, Nat.reduceLT, Nat.reduceLeDiff, decide_true, decide_false, Bool.not_true, Bool.not_false, gt_iff_lt, Int.cast_ofNat_Int, bne_self_eq_false, beq_self_eq_true, ixt0, ixt1, ixt2, ixt3, eq_ee, eq_es, eq_ew, eq_se, eq_ss, eq_sw, eq_we, eq_ws, eq_ww, ne_ee, ne_es, ne_ew, ne_se, ne_ss, ne_sw, ne_we, ne_ws, ne_ww, ev_asgM, eM_some, eM1_own, eM1_par, eM2_own, eM2_par, ev_asgW, eW_some, eW1_own, eW1_par, ev_forW, eFw_view, initM_3, initW_1, ev_runM, eRm_rt, ev_runW, ixl0, ixl1, ev_raise, ev_exprX, eExX_val, eExX_exc, ev_asgX, eAsX_val, eAsX_exc, ev_retX, eReX_val, eReX_exc, ev_excX, eXc_exc, ev_ifX, eIfX_some, ev_callX, eCaX_some, ev_runX, eRunX_rt, eRunX_nx, eRunX_ex, ev_try, eTry_val, eTry_exc, eTry2_some, ev_pick, ev_valO, eVo_val, exs_g, exs_r, exs_t, ism_gw, ism_gg, ism_gr, ism_gt, ism_rw, ism_rg, ism_rr, ism_rt, ism_tw, ism_tg, ism_tr, ism_tt, eLoop_ex, List.length_set, Nat.zero_lt_succ, Nat.reduceMul, Bool.false_eq_true, Int.reduceBEq, Int.reduceBNe])
namespace Ev
theorem compLX_map {α : Type} {f : Ro → Option Res} {j : Nat} {ρ : Ro} {e' w : α → D} {p : α → Bool} {x : String} : ∀ xs : List α, (∀ a ∈ xs, f (ρ.set j (.val (e' a))) = some (if p a = true then .val (w a) else .exc x)) →
    lstX (compLX f j ρ (xs.map e')) = some (if xs.all p = true then .val (.lst (xs.map w)) else .exc x) := by
  have core : ∀ xs : List α, (∀ a ∈ xs, f (ρ.set j (.val (e' a))) = some (if p a = true then .val (w a) else .exc x)) →
      compLX f j ρ (xs.map e') = some (if xs.all p = true then .val (xs.map w) else .exc x) := by
    intro xs
    induction xs with
    | nil => exact fun _ => rfl
    | cons a xs ih =>
      intro h
      have h1 := h a List.mem_cons_self
      have h2 := ih fun b hb => h b (List.mem_cons_of_mem _ hb)
      rw [List.map_cons]
      unfold compLX
      rw [h1, List.all_cons]
      cases hp : p a with
      | true =>
        simp only [if_true, Bool.true_and]
        rw [h2]
        by_cases ha : xs.all p = true
        · rw [if_pos ha, if_pos ha] <;> rfl
        · rw [if_neg ha, if_neg ha] <;> rfl
      | false =>
        simp only [Bool.false_eq_true, if_false, Bool.false_and]
  intro xs h
  rw [core xs h]
  by_cases ha : xs.all p = true
  · rw [if_pos ha, if_pos ha] <;> rfl
  · rw [if_neg ha, if_neg ha] <;> rfl
/-! ### a row with a wish -/
def wishB (l : List Nat) : Bool := match splL 32 l with | p :: q => (p == cWish) && q.all numB | [] => false
def wishV (l : List Nat) : List Int := (splL 32 l).tail.map numV
theorem part_asc {l p : List Nat} {c : Nat} (ha : asc l) (h : p ∈ splL c l) : asc p := fun x hx => ha x (splL_mem h x hx).1
theorem wish_x (l : List Nat) (ha : asc l) (hl : l.length ≤ 1000) : g_p_wish_of [.str (tx l)] = some (if wishB l = true then .val (intsD (wishV l)) else .exc "BadText") := by
  have pa := fun p (h : p ∈ splL 32 l) => part_asc ha h
  have pl := fun p (h : p ∈ splL 32 l) => Nat.le_trans (splL_part h) hl
  have sl := splL_len 32 l
  have sp := splitL_tx (l := l) 32 (by decide) (by unfold sz; omega)
  unfold wishB wishV
  cases e : splL 32 l with
  | nil => exact absurd e (splL_ne 32 l)
  | cons p q =>
    rw [e] at pa pl sl sp
    unfold g_p_wish_of F_p_wish_of
    rw [tx_sp, tx_wish]
    walk_at "ev"
    rw [sp]
    walk_at "ev"
    rw [List.map_cons]
    walk_at "ev"
    rw [ne_tx (pa p List.mem_cons_self) asc_wish]
    by_cases hp : p = cWish
    · rw [hp, bne_self_eq_false]
      walk_at "ev"
      rw [ev_compX]
      walk_at "ev"
      rw [cut_fr0 _ 1 1 rfl, List.drop_succ_cons, List.drop_zero, eCoX_ok (by rw [List.length_map]; rw [List.length_cons] at sl; unfold sz; omega), compLX_map (p := numB) (w := fun a => .int (numV a)) (x := "BadText") q (fun a haq => by
        walk_at "ev"
        exact number_x a (pa a (List.mem_cons_of_mem _ haq)) (pl a (List.mem_cons_of_mem _ haq)))]
      rw [Bool.true_and]
      by_cases hq : q.all numB = true
      · rw [if_pos hq, if_pos hq]
        walk_at "ev"
        unfold intsD
        rw [List.tail_cons, List.map_map]
        rfl
      · rw [if_neg hq, if_neg hq]
        walk_at "ev"
    · rw [bne_iff_ne.mpr hp]
      walk_at "ev"
      rw [if_neg (by rw [beq_eq_false_iff_ne.mpr hp]; exact Bool.false_ne_true)]
theorem head_wish (l : List Nat) : (l = cWish ∨ l.take 5 = cWishB) ↔ l.takeWhile (fun a => decide (a ≠ 32)) = cWish := by
  constructor
  · intro h
    rcases h with rfl | h
    · decide
    · have e : l = cWishB ++ l.drop 5 := by
        rw [← h]
        exact (List.take_append_drop 5 l).symm
      rw [e]
      rfl
  · intro h
    have e : l = cWish ++ l.dropWhile (fun a => decide (a ≠ 32)) := by
      rw [← h]
      exact (List.takeWhile_append_dropWhile).symm
    cases d : l.dropWhile (fun a => decide (a ≠ 32)) with
    | nil =>
      left
      rw [d, List.append_nil] at e
      exact e
    | cons c r =>
      right
      have hc : (fun a => decide (a ≠ 32)) c = false := by
        have := List.head?_dropWhile_not (fun a => decide (a ≠ 32)) l
        rw [d] at this
        simpa using this
      have hc : c = 32 := by simpa using hc
      rw [d, hc] at e
      rw [e]
      rfl
theorem in_zero (ns : List Int) : gIn (.int 0) (.lst (ns.map .int)) = some (.bl (ns.any fun n => n == 0)) := by
  show (if okD (.int 0) = true ∧ okD (.lst (ns.map D.int)) = true then some (D.bl ((ns.map D.int).any fun z => eqD z (.int 0))) else none) = _
  rw [if_pos ⟨okD_int 0, okD_ints ns⟩, List.any_map]
  congr 2
theorem zero_any : ∀ q : List (List Nat), ((q.map fun a => if numB a = true then numV a else 0).any fun n => n == 0) = !q.all numB
  | [] => rfl
  | a :: q => by
    rw [List.map_cons, List.any_cons, List.all_cons, zero_any q]
    cases h : numB a with
    | true =>
      rw [if_pos rfl, beq_eq_false_iff_ne.mpr (numV_ne h)] <;> rfl
    | false => rfl
theorem val_map : ∀ q : List (List Nat), q.all numB = true → (q.map fun a => if numB a = true then numV a else 0) = q.map numV
  | [], _ => rfl
  | a :: q, h => by
    rw [List.all_cons, Bool.and_eq_true] at h
    rw [List.map_cons, List.map_cons, val_map q h.2, if_pos h.1]
theorem wish_l (l : List Nat) (ha : asc l) (hl : l.length ≤ 1000) : g_l_wish [.str (tx l)] = some (if wishB l = true then intsD (wishV l) else .non) := by
  have pa := fun p (h : p ∈ splL 32 l) => part_asc ha h
  have pl := fun p (h : p ∈ splL 32 l) => Nat.le_trans (splL_part h) hl
  have sl := splL_len 32 l
  have sp := splitL_tx (l := l) 32 (by decide) (by unfold sz; omega)
  have lz : l.length ≤ sz := by unfold sz; omega
  obtain ⟨q, e⟩ := splL_head 32 l
  have hw := head_wish l
  generalize l.takeWhile (fun a => decide (a ≠ 32)) = p at e hw
  rw [e] at pa pl sl sp
  have eB : wishB l = ((p == cWish) && q.all numB) := by unfold wishB; rw [e]
  have eV : wishV l = q.map numV := by unfold wishV; rw [e] <;> rfl
  rw [eB, eV]
  unfold g_l_wish F_l_wish
  generalize hT : seqF (asgF 1 _) _ = T
  have good : p = cWish → eRun (T [.val (.str (tx l)), .no, .no]) = some (if ((p == cWish) && q.all numB) = true then intsD (q.map numV) else .non) := by
    intro hp
    rw [← hT, tx_sp]
    walk_at "ev"
    rw [sp]
    walk_at "ev"
    rw [List.map_cons, cut_fr0 _ 1 1 rfl, List.drop_succ_cons, List.drop_zero, comp_map (w := fun a => .int (if numB a = true then numV a else 0)) q (by rw [List.length_cons] at sl; unfold sz; omega) (fun _ _ => rfl) (fun a haq => by
      walk_at "ev"
      exact number_l a (pa a (List.mem_cons_of_mem _ haq)) (pl a (List.mem_cons_of_mem _ haq)))]
    have em : (q.map fun a => D.int (if numB a = true then numV a else 0)) = (q.map fun a => if numB a = true then numV a else 0).map D.int := by rw [List.map_map]; rfl
    rw [em]
    walk_at "ev"
    rw [in_zero, zero_any, hp, beq_self_eq_true, Bool.true_and]
    cases hq : q.all numB with
    | true =>
      walk_at "ev"
      rw [val_map q hq]
      rfl
    | false =>
      walk_at "ev"
  rw [tx_wish, tx_wishB]
  walk_at "ev"
  rw [ne_tx ha asc_wish]
  by_cases h1 : l = cWish
  · rw [show (l != cWish) = false by rw [h1, bne_self_eq_false]]
    walk_at "ev"
    exact good (hw.mp (.inl h1))
  · rw [bne_iff_ne.mpr h1]
    walk_at "ev"
    rw [sl_tx lz, cut_to _ 5 5 rfl]
    walk_at "ev"
    rw [ne_tx (fun c hc => ha c (List.mem_of_mem_take hc)) asc_wishB]
    by_cases h2 : l.take 5 = cWishB
    · rw [show (l.take 5 != cWishB) = false by rw [h2, bne_self_eq_false]]
      walk_at "ev"
      exact good (hw.mp (.inr h2))
    · rw [bne_iff_ne.mpr h2]
      walk_at "ev"
      rw [if_neg (by
        rw [beq_eq_false_iff_ne.mpr (fun z => (hw.mpr z).elim h1 h2)]
        exact Bool.false_ne_true)]
/-! ### the first row -/
def setB (l : List Nat) : Bool := (l == cLamps) || ((l.take 6 == cLampsB) && decide (7 ≤ l.length))
theorem set_len {l : List Nat} (h : l.take 6 = cLampsB) : l = cLampsB ++ l.drop 6 ∧ 6 ≤ l.length := by
  have e : l = cLampsB ++ l.drop 6 := by
    rw [← h]
    exact (List.take_append_drop 6 l).symm
  refine ⟨e, ?_⟩
  have := congrArg List.length h
  rw [List.length_take] at this
  have h6 : cLampsB.length = 6 := rfl
  omega
theorem setters_x (l : List Nat) (ha : asc l) (hl : l.length ≤ 1000) : g_p_setters_of [.str (tx l)] = some (if setB l = true then .val (.str (tx (l.drop 6))) else .exc "BadText") := by
  have lz : l.length ≤ sz := by unfold sz; omega
  obtain ⟨z, hz⟩ : ∃ z : Int, z = (l.length : Int) := ⟨_, rfl⟩
  have lenz : gLen [.str (tx l)] = some (.int z) := by rw [len_tx lz, hz]
  unfold g_p_setters_of F_p_setters_of
  rw [tx_lamps, tx_lampsB, tx_empty]
  walk_at "ev"
  rw [eq_tx ha asc_lamps]
  by_cases h1 : l = cLamps
  · rw [if_pos (by unfold setB; rw [beq_iff_eq.mpr h1] <;> rfl), h1, beq_self_eq_true]
    walk_at "ev"
    rfl
  · rw [beq_eq_false_iff_ne.mpr h1]
    walk_at "ev"
    rw [sl_tx lz, cut_to _ 6 6 rfl]
    walk_at "ev"
    rw [ne_tx (fun c hc => ha c (List.mem_of_mem_take hc)) asc_lampsB]
    by_cases h2 : l.take 6 = cLampsB
    · rw [show (l.take 6 != cLampsB) = false by rw [h2, bne_self_eq_false]]
      walk_at "ev"
      rw [lenz]
      walk_at "ev"
      by_cases h3 : z < 7
      · simp only [h3]
        walk_at "ev"
        rw [if_neg (by
          unfold setB
          rw [beq_eq_false_iff_ne.mpr h1, decide_eq_false (by omega), Bool.and_false]
          exact Bool.false_ne_true)]
      · simp only [h3]
        walk_at "ev"
        rw [sl_tx lz, cut_fr0 _ 6 6 rfl, if_pos (by
          unfold setB
          rw [beq_iff_eq.mpr h2, decide_eq_true (by omega), Bool.and_true, Bool.or_true])]
        walk_at "ev"
    · rw [bne_iff_ne.mpr h2]
      walk_at "ev"
      rw [if_neg (by
        unfold setB
        rw [beq_eq_false_iff_ne.mpr h1, beq_eq_false_iff_ne.mpr h2]
        exact Bool.false_ne_true)]
/-! ### the whole text -/
def rowS (l : List Nat) : List Nat := match splL 10 l with | p :: _ => p.drop 6 | [] => []
def rowsW (l : List Nat) : List (List Int) := (splL 10 l).tail.map wishV
def gameB (l : List Nat) : Bool := match splL 10 l with | p :: q => setB p && q.all wishB | [] => false
theorem rowS_asc {l : List Nat} (ha : asc l) : asc (rowS l) := by
  unfold rowS
  split
  · rename_i p q e
    exact fun c hc => part_asc ha (l := l) (c := 10) (p := p) (by rw [e]; exact List.mem_cons_self) c (List.mem_of_mem_drop hc)
  · exact asc_nil
theorem rowS_len (l : List Nat) : (rowS l).length ≤ l.length := by
  unfold rowS
  split
  · rename_i p q e
    have := splL_part (c := 10) (l := l) (p := p) (by rw [e]; exact List.mem_cons_self)
    rw [List.length_drop]
    omega
  · exact Nat.zero_le _
theorem read_x (l : List Nat) (ha : asc l) (hl : l.length ≤ 1000) :
    g_p_read [.str (tx l)] = some (if gameB l = true then (if badG (rowS l) (rowsW l) = true then .exc "BadGame" else .val (.tup [.str (tx (rowS l)), wsD (rowsW l)])) else .exc "BadText") := by
  have pa := fun p (h : p ∈ splL 10 l) => part_asc ha h
  have pl := fun p (h : p ∈ splL 10 l) => Nat.le_trans (splL_part h) hl
  have sl := splL_len 10 l
  have sp := splitL_tx (l := l) 10 (by decide) (by unfold sz; omega)
  have C := check_x (rowS l) (rowsW l) (rowS_asc ha) (Nat.le_trans (rowS_len l) hl)
  unfold gameB
  cases e : splL 10 l with
  | nil => exact absurd e (splL_ne 10 l)
  | cons p q =>
    rw [e] at pa pl sl sp
    have eS : rowS l = p.drop 6 := by unfold rowS; rw [e]
    have eW : rowsW l = q.map wishV := by unfold rowsW; rw [e] <;> rfl
    unfold g_p_read F_p_read
    rw [tx_nl]
    walk_at "ev"
    rw [sp]
    walk_at "ev"
    rw [List.map_cons]
    walk_at "ev"
    rw [setters_x p (pa p List.mem_cons_self) (pl p List.mem_cons_self)]
    show _ = some (if (setB p && q.all wishB) = true then _ else _)
    cases hs : setB p with
    | false =>
      simp only [Bool.false_and, Bool.false_eq_true, if_false]
      walk_at "ev"
    | true =>
      simp only [Bool.true_and, if_true]
      walk_at "ev"
      rw [ev_compX]
      walk_at "ev"
      rw [cut_fr0 _ 1 1 rfl, List.drop_succ_cons, List.drop_zero, eCoX_ok (by rw [List.length_map]; rw [List.length_cons] at sl; unfold sz; omega), compLX_map (p := wishB) (w := fun a => intsD (wishV a)) (x := "BadText") q (fun a haq => by
        walk_at "ev"
        exact wish_x a (pa a (List.mem_cons_of_mem _ haq)) (pl a (List.mem_cons_of_mem _ haq)))]
      by_cases hq : q.all wishB = true
      · rw [if_pos hq, if_pos hq]
        have em : (q.map fun a => intsD (wishV a)) = (rowsW l).map intsD := by rw [eW, List.map_map]; rfl
        walk_at "ev"
        rw [em, ← eS]
        have C' : g_p_check [.str (tx (rowS l)), .lst ((rowsW l).map intsD)] = _ := C
        rw [C']
        unfold resG
        by_cases hb : badG (rowS l) (rowsW l) = true
        · rw [if_pos hb, if_pos hb]
          walk_at "ev"
        · rw [if_neg hb, if_neg hb]
          walk_at "ev"
          rfl
      · rw [if_neg hq, if_neg hq]
        walk_at "ev"
theorem okD_mix (q : List (List Nat)) : okD (.lst (q.map fun a => if wishB a = true then intsD (wishV a) else .non)) = true := okD_of (n := 2) (okN_map (n := 1) (fun a => by
  split
  · exact okN_map (okN_int 0) _
  · exact okN_non 1) q)
theorem in_non : ∀ q : List (List Nat), ((q.map fun a => if wishB a = true then intsD (wishV a) else .non).any fun z => eqD z .non) = !q.all wishB
  | [] => rfl
  | a :: q => by
    rw [List.map_cons, List.any_cons, List.all_cons, in_non q]
    cases h : wishB a with
    | true =>
      rw [if_pos rfl]
      have : eqD (intsD (wishV a)) .non = false := by simp [eqD, intsD, D.py, PyData.eqv]
      rw [this] <;> rfl
    | false =>
      rw [if_neg Bool.false_ne_true]
      have : eqD .non .non = true := eqD_refl .non
      rw [this] <;> rfl
theorem mix_map : ∀ q : List (List Nat), q.all wishB = true → (q.map fun a => if wishB a = true then intsD (wishV a) else .non) = q.map fun a => intsD (wishV a)
  | [], _ => rfl
  | a :: q, h => by
    rw [List.all_cons, Bool.and_eq_true] at h
    rw [List.map_cons, List.map_cons, mix_map q h.2, if_pos h.1]
theorem game_l (l : List Nat) (ha : asc l) (hl : l.length ≤ 1000) : g_l_game [.str (tx l)] = some (if gameB l = true then .tup [.str (tx (rowS l)), wsD (rowsW l)] else .non) := by
  have pa := fun p (h : p ∈ splL 10 l) => part_asc ha h
  have pl := fun p (h : p ∈ splL 10 l) => Nat.le_trans (splL_part h) hl
  have sl := splL_len 10 l
  have sp := splitL_tx (l := l) 10 (by decide) (by unfold sz; omega)
  unfold gameB
  cases e : splL 10 l with
  | nil => exact absurd e (splL_ne 10 l)
  | cons p q =>
    rw [e] at pa pl sl sp
    have eS : rowS l = p.drop 6 := by unfold rowS; rw [e]
    have eW : rowsW l = q.map wishV := by unfold rowsW; rw [e] <;> rfl
    have hp := pa p List.mem_cons_self
    have pz : p.length ≤ sz := by have := pl p List.mem_cons_self; unfold sz; omega
    show _ = some (if (setB p && q.all wishB) = true then _ else _)
    unfold g_l_game F_l_game
    generalize hT : seqF (asgF 2 _) _ = T
    have rest : setB p = true → eRun (T [.val (.str (tx l)), .val (.lst (.str (tx p) :: q.map fun a => .str (tx a))), .no, .no]) = some (if (setB p && q.all wishB) = true then .tup [.str (tx (rowS l)), wsD (rowsW l)] else .non) := by
      intro hs
      rw [← hT]
      walk_at "ev"
      rw [cut_fr0 _ 1 1 rfl, List.drop_succ_cons, List.drop_zero, comp_map (w := fun a => if wishB a = true then intsD (wishV a) else .non) q (by rw [List.length_cons] at sl; unfold sz; omega) (fun _ _ => rfl) (fun a haq => by
        walk_at "ev"
        exact wish_l a (pa a (List.mem_cons_of_mem _ haq)) (pl a (List.mem_cons_of_mem _ haq)))]
      walk_at "ev"
      have ei : gIn .non (.lst (q.map fun a => if wishB a = true then intsD (wishV a) else .non)) = some (.bl (!q.all wishB)) := by
        show (if okD .non = true ∧ okD (.lst (q.map fun a => if wishB a = true then intsD (wishV a) else .non)) = true then some (D.bl ((q.map fun a => if wishB a = true then intsD (wishV a) else .non).any fun z => eqD z .non)) else none) = _
        rw [if_pos ⟨okD_non, okD_mix q⟩, in_non]
      rw [ei, hs, Bool.true_and]
      cases hq : q.all wishB with
      | true =>
        walk_at "ev"
        rw [sl_tx pz, cut_fr0 _ 6 6 rfl, mix_map q hq, eS, eW]
        walk_at "ev"
        unfold wsD
        rw [List.map_map]
        rfl
      | false =>
        walk_at "ev"
    rw [tx_nl, tx_lamps, tx_lampsB]
    walk_at "ev"
    rw [sp]
    walk_at "ev"
    rw [List.map_cons]
    walk_at "ev"
    rw [ne_tx hp asc_lamps]
    by_cases h1 : p = cLamps
    · rw [show (p != cLamps) = false by rw [h1, bne_self_eq_false]]
      walk_at "ev"
      exact rest (by unfold setB; rw [beq_iff_eq.mpr h1] <;> rfl)
    · rw [bne_iff_ne.mpr h1]
      walk_at "ev"
      rw [sl_tx pz, cut_to _ 6 6 rfl]
      walk_at "ev"
      rw [ne_tx (fun c hc => hp c (List.mem_of_mem_take hc)) asc_lampsB]
      by_cases h2 : p.take 6 = cLampsB
      · rw [show (p.take 6 != cLampsB) = false by rw [h2, bne_self_eq_false]]
        walk_at "ev"
        rw [eq_tx hp asc_lampsB]
        have ⟨f1, f2⟩ := set_len h2
        by_cases h3 : p = cLampsB
        · rw [beq_iff_eq.mpr h3]
          walk_at "ev"
          rw [if_neg (by
            unfold setB
            rw [beq_eq_false_iff_ne.mpr h1, decide_eq_false (by rw [h3]; decide), Bool.and_false]
            exact Bool.false_ne_true)]
        · rw [beq_eq_false_iff_ne.mpr h3]
          walk_at "ev"
          refine rest ?_
          unfold setB
          rw [beq_iff_eq.mpr h2, decide_eq_true, Bool.and_true, Bool.or_true]
          have : p.length ≠ 6 := fun z => h3 (by rw [f1, List.drop_eq_nil_of_le (by omega), List.append_nil])
          omega
      · rw [bne_iff_ne.mpr h2]
        walk_at "ev"
        rw [if_neg (by
          unfold setB
          rw [beq_eq_false_iff_ne.mpr h1, beq_eq_false_iff_ne.mpr h2]
          exact Bool.false_ne_true)]
end Ev

open PySem PySem.Spec PyProof.Rows L2 Dn
local macro_rules | `(tactic| walk_at "ev") => `(tactic| simp only [ev_seq, eSeq_nx, eSeq_rt, eSeq_bk, eSeq_ct, eSeq_ex, eSeq_none, ev_skip, ev_break, ev_cont, ev_never, ev_var, eVar_val, ev_c, ev_asg, eAsg_some, ev_asgO, eAsgO_some, ev_ret, ev_retP, eRet_some, ev_expr, eExpr_some, ev_if, eIf_t, eIf_f, ev_app, eApp_some, eApp2_own, eApp2_par, ev_frz, ev_frz1, eFrz1_own, ev_frzAF, ev_for, eFor_some, ev_test, eTest_bl, ev_and, eAnd_t, eAnd_f, ev_or, eOr_t, eOr_f, ev_not, eNot_some, ev_andV, eAndV_t, eAndV_f, ev_orV, eOrV_t, eOrV_f, ev_notV, eNotV_bl, ev_ifV, eIfV_t, eIfV_f, ev_bi, e2_some, ev_un, e1_some, ev_args0, ev_args1, eCons_some, ev_call, eCall_some, ev_tup, eTup_some, ev_lst, eLst_some, ev_sl, eSl_some, ev_no, ev_some, eSome_int, ev_chain, eChain_some, eChain2_t, eChain2_f, ev_itF, eItF_some, ev_itT, eItT_some, ev_itS, eItS_some, ev_R1, ev_R2, ev_comp, ev_run, eRun_rt, eRun_nx, ev_turn, eTurn_some, ev_name, ev_pair, ev_yes, gAdd_int, gMinus_int, gNeg_int, gLt_int, gLe_int, gGt_int, gGe_int, gDiv_int, gMod_int, gMul_int, gAbs_int, gMax_int, gMin_int, gLen_lst, gLen_tup, gLen_fz, gList_lst, gList_tup, gInt_int, gInt_bl, gIsN_non, gNotN_non, gSl_lst, gEq_int, gNe_int, gEq_bl, gNe_bl, isi_bool, isi_str, isi_int, isi_list, isi_tuple, initR_1, initR_2, initR_3, initR_4, initR_5, borA_nil, borA_cons, frzA_nil, frzA_cons, bor_no, bor_val, bor_own, bor_par, bor_view, frz_no, frz_val, frz_own, frz_par, frz_view, isBlD_bl, isBlD_int, isBlD_non, isBlD_str, isBlD_lst, isBlD_tup, isIntD_int, isIntD_bl, isStrD_str, isStrD_non, isLstD_lst, isLstD_non, isTupD_tup, isTupD_non, isNoD_non, isNoD_tup, isNoD_lst, isNoD_str,
  List.length_cons, List.length_nil, List.length_map, List.replicate_zero, List.replicate_succ, List.cons_append, List.nil_append, List.getElem?_cons_zero, List.getElem?_cons_succ, List.getElem?_nil, List.set_cons_zero, List.set_cons_succ, Nat.zero_add, Nat.add_zero, Nat.sub_self, Nat.reduceAdd, Nat.reduceSub, if_true, if_false, reduceIte, and_self, and_true, true_and, true_or, or_true, Int.reduceLT, Int.reduceLE, Int.reduceNeg, Int.reducePow, Int.reduceAdd, Int.reduceSub, Nat.reduceLT, Nat.reduceLeDiff, decide_true, decide_false, Bool.not_true, Bool.not_false, gt_iff_lt, Int.cast_ofNat_Int, bne_self_eq_false, beq_self_eq_true, ixt0, ixt1, ixt2, ixt3, eq_ee, eq_es, eq_ew, eq_se, eq_ss, eq_sw, eq_we, eq_ws, eq_ww, ne_ee, ne_es, ne_ew, ne_se, ne_ss, ne_sw, ne_we, ne_ws, ne_ww, ev_asgM, eM_some, eM1_own, eM1_par, eM2_own, eM2_par, ev_asgW, eW_some, eW1_own, eW1_par, ev_forW, eFw_view, initM_3, initW_1, ev_runM, eRm_rt, ev_runW, ixl0, ixl1, ev_raise, ev_exprX, eExX_val, eExX_exc, ev_asgX, eAsX_val, eAsX_exc, ev_retX, eReX_val, eReX_exc, ev_excX, eXc_exc, ev_ifX, eIfX_some, ev_callX, eCaX_some, ev_runX, eRunX_rt, eRunX_nx, eRunX_ex, ev_try, eTry_val, eTry_exc, eTry2_some, ev_pick, ev_valO, eVo_val, exs_g, exs_r, exs_t, ism_gw, ism_gg, ism_gr, ism_gt, ism_rw, ism_rg, ism_rr, ism_rt, ism_tw, ism_tg, ism_tr, ism_tt, eLoop_ex, List.length_set, Nat.zero_lt_succ, Nat.reduceMul, Bool.false_eq_true, Int.reduceBEq, Int.reduceBNe])
namespace Ev
theorem wish_ne {l : List Nat} (h : wishB l = true) : ∀ n ∈ wishV l, n ≠ 0 := by
  unfold wishB at h
  unfold wishV
  cases e : splL 32 l with
  | nil => exact absurd e (splL_ne 32 l)
  | cons p q =>
    rw [e] at h
    have h : ((p == cWish) && q.all numB) = true := h
    rw [Bool.and_eq_true, List.all_eq_true] at h
    intro n hn
    rw [List.tail_cons] at hn
    obtain ⟨a, haq, rfl⟩ := List.mem_map.mp hn
    exact numV_ne (h.2 a haq)
theorem game_ne {l : List Nat} (h : gameB l = true) : ∀ w ∈ rowsW l, ∀ n ∈ w, n ≠ 0 := by
  unfold gameB at h
  unfold rowsW
  cases e : splL 10 l with
  | nil => exact absurd e (splL_ne 10 l)
  | cons p q =>
    rw [e] at h
    have h : (setB p && q.all wishB) = true := h
    rw [Bool.and_eq_true, List.all_eq_true] at h
    intro w hw
    rw [List.tail_cons] at hw
    obtain ⟨a, haq, rfl⟩ := List.mem_map.mp hw
    exact wish_ne (h.2 a haq)
theorem notInT_fo (c : Nat) : gNotInT (.str (tx [c])) (.tup [.str (tx [102]), .str (tx [111])]) = some (.bl (!isF c)) := by
  have e : strsOf [D.str (tx [102]), D.str (tx [111])] = some [tx [102], tx [111]] := rfl
  unfold gNotInT gInT
  simp only [e]
  have h1 : ∀ d : Nat, (tx [d] == tx [c]) = (c == d) := fun d => by
    rw [SX.S_beq, one_eq]
    by_cases h : d = c
    · subst h
      rfl
    · rw [beq_eq_false_iff_ne.mpr h, beq_eq_false_iff_ne.mpr (fun z => h z.symm)]
  simp only [List.any_cons, List.any_nil, h1, Bool.or_false]
  rfl
theorem any_congr {α : Type} {p q : α → Bool} : ∀ xs : List α, (∀ a ∈ xs, p a = q a) → xs.any p = xs.any q
  | [], _ => rfl
  | a :: xs, h => by rw [List.any_cons, List.any_cons, h a List.mem_cons_self, any_congr xs fun b hb => h b (List.mem_cons_of_mem _ hb)]
theorem good_l (s : List Nat) (ws : List (List Int)) (ha : asc s) (hl : s.length ≤ 1000) (hn : ∀ w ∈ ws, ∀ n ∈ w, n ≠ 0) : g_l_good [.tup [.str (tx s), wsD ws]] = some (.bl (!badG s ws)) := by
  obtain ⟨z, hz⟩ : ∃ z : Int, z = (s.length : Int) := ⟨_, rfl⟩
  have lenz : gLen [.str (tx s)] = some (.int z) := by rw [len_tx (by unfold sz; omega), hz]
  unfold g_l_good F_l_good wsD
  generalize hA : ifF (testF (biF gNotInT _ _)) _ _ = A
  generalize hB : ifF (testF (biF gGt (callF gMax _) _)) _ _ = B
  generalize hC : seqF (forF (itemsF (varF 2)) (nameT 3) B) _ = C
  have L1 := loop_ret (tg := nameT 1) (body := A) (f := fun c => D.str (tx [c])) (fun c => !isF c) (.bl false) (fun ρ => ∃ x, ρ = [.val (.tup [.str (tx s), .lst (ws.map intsD)]), x, .no, .no]) s (fun c hc ρ hI => by
    obtain ⟨x, rfl⟩ := hI
    rw [← hA, tx_f, tx_o]
    walk_at "ev"
    rw [notInT_fo]
    constructor
    · intro h
      rw [h]
      walk_at "ev"
      exact ⟨_, rfl⟩
    · intro h
      rw [h]
      walk_at "ev"
      exact ⟨_, rfl, _, rfl⟩) [.val (.tup [.str (tx s), .lst (ws.map intsD)]), .no, .no, .no] ⟨_, rfl⟩
  have inner : ∀ (w : List Int) (x y z' : Dn.Slot), (∀ n ∈ w, n ≠ 0) → _ := fun w x y z' hw => loop_ret (tg := nameT 3) (body := B) (f := D.int) (badN s.length) (.bl false) (fun ρ => ∃ y, ρ = [.val (.tup [.str (tx s), .lst (ws.map intsD)]), x, .val (.lst (w.map .int)), y]) w (fun n hnw ρ hI => by
    obtain ⟨y, rfl⟩ := hI
    have h0 := hw n hnw
    have em : (if -n > n then -n else n) = (n.natAbs : Int) := by split <;> omega
    rw [← hB]
    walk_at "ev"
    rw [lenz]
    have em' : (if n < -n then -n else n) = (n.natAbs : Int) := em
    rw [em']
    walk_at "ev"
    by_cases h1 : z < (n.natAbs : Int)
    · simp only [h1]
      walk_at "ev"
      exact ⟨fun _ => ⟨_, rfl⟩, fun h => by
        simp only [badN, Bool.or_eq_false_iff, decide_eq_false_iff_not] at h
        omega⟩
    · simp only [h1]
      walk_at "ev"
      exact ⟨fun h => by
        simp only [badN, Bool.or_eq_true, beq_iff_eq, decide_eq_true_eq] at h
        omega, fun _ => ⟨_, rfl, _, rfl⟩⟩) [.val (.tup [.str (tx s), .lst (ws.map intsD)]), x, .val (.lst (w.map .int)), y] ⟨_, rfl⟩
  have L2 : ∀ x : Dn.Slot, _ := fun x => loop_ret (tg := nameT 2) (body := C) (f := intsD) (badW s.length) (.bl false) (fun ρ => ∃ a b, ρ = [.val (.tup [.str (tx s), .lst (ws.map intsD)]), x, a, b]) ws (fun w hw ρ hI => by
    obtain ⟨a, b, rfl⟩ := hI
    rw [← hC, show intsD w = .lst (w.map D.int) from rfl]
    walk_at "ev"
    rcases inner w x b .no (hn w hw) with ⟨h, r, e⟩ | ⟨h, r, e, y, rfl⟩
    · rw [e]
      walk_at "ev"
      exact ⟨fun _ => ⟨_, rfl⟩, fun hb => by
        unfold badW at hb
        rw [h, Bool.or_true] at hb
        cases hb⟩
    · rw [e]
      walk_at "ev"
      by_cases h10 : (10 : Int) < (w.length : Int)
      · simp only [h10]
        walk_at "ev"
        exact ⟨fun _ => ⟨_, rfl⟩, fun hb => by
          unfold badW at hb
          rw [decide_eq_true (by omega)] at hb
          cases hb⟩
      · simp only [h10]
        walk_at "ev"
        have nb : badW s.length w = false := by
          unfold badW
          rw [h, decide_eq_false (by omega)] <;> rfl
        exact ⟨fun hb => by rw [nb] at hb; exact absurd hb Bool.false_ne_true, fun _ => ⟨_, rfl, _, _, rfl⟩⟩) [.val (.tup [.str (tx s), .lst (ws.map intsD)]), x, .no, .no] ⟨_, _, rfl⟩
  walk_at "ev"
  rw [signs_tx]
  rcases L1 with ⟨h1, r, e⟩ | ⟨h1, r, e, x, rfl⟩
  · rw [e]
    walk_at "ev"
    unfold badG
    rw [h1, Bool.or_true] <;> rfl
  · rw [e]
    walk_at "ev"
    rcases L2 x with ⟨h2, r, e⟩ | ⟨h2, r, e, a, b, rfl⟩
    · rw [e]
      walk_at "ev"
      unfold badG
      rw [h2, Bool.or_true] <;> rfl
    · rw [e]
      walk_at "ev"
      rw [lenz]
      walk_at "ev"
      have eb : badG s ws = (decide (10 < s.length) || decide (20 < ws.length)) := by
        unfold badG
        rw [h1, h2, Bool.or_false, Bool.or_false]
      rw [eb]
      by_cases h3 : z ≤ 10
      · simp only [h3]
        walk_at "ev"
        rw [decide_eq_false (show ¬ 10 < s.length by omega), Bool.false_or]
        by_cases h4 : ws.length ≤ 20
        · rw [decide_eq_true (show (ws.length : Int) ≤ 20 by omega), decide_eq_false (show ¬ 20 < ws.length by omega)] <;> rfl
        · rw [decide_eq_false (show ¬ (ws.length : Int) ≤ 20 by omega), decide_eq_true (show 20 < ws.length by omega)] <;> rfl
      · simp only [h3]
        walk_at "ev"
        rw [decide_eq_true (show 10 < s.length by omega)] <;> rfl
theorem alike_l (s : List Nat) (ws : List (List Int)) (ha : asc s) : g_l_alike [.tup [.str (tx s), wsD ws], .tup [.str (tx s), wsD ws]] = some (.bl true) := by
  unfold g_l_alike F_l_alike wsD
  generalize hB : ifF (orT (notT (testF (un (gIsi "int") _))) _) _ _ = B
  generalize hC : seqF (ifF (notT (testF (un (gIsi "list") (varF 2)))) _ _) _ = C
  have ok : okD (.tup [.str (tx s), .lst (ws.map intsD)]) = true := okD_of (n := 4) (okN_tup fun d hd => by
    simp only [List.mem_cons, List.not_mem_nil, or_false] at hd
    rcases hd with rfl | rfl
    · exact okN_str 3 _ (ok_tx ha)
    · exact okN_mono (okN_map (fun w => okN_map (okN_int 0) w) ws) (by decide))
  have inner : ∀ (w : List Int) (a b : D) (x y : Dn.Slot), ∃ y', loopF (nameT 3) B (w.map D.int) [.val a, .val b, x, y] = some (.nx [.val a, .val b, x, y']) := fun w a b x y => by
    obtain ⟨r, h, y', rfl⟩ := loop_map (tg := nameT 3) (body := B) (f := D.int) (xs := w) (fun i ρ => ∃ y, ρ = [.val a, .val b, x, y]) (fun i n ρ hn hI => by
      obtain ⟨y, rfl⟩ := hI
      rw [← hB]
      walk_at "ev"
      exact ⟨_, rfl, _, rfl, _, rfl⟩) [.val a, .val b, x, y] ⟨_, rfl⟩
    exact ⟨y', h⟩
  obtain ⟨r, h, x', y', rfl⟩ := loop_map (tg := nameT 2) (body := C) (f := intsD) (xs := ws) (fun i ρ => ∃ x y, ρ = [.val (.tup [.str (tx s), .lst (ws.map intsD)]), .val (.tup [.str (tx s), .lst (ws.map intsD)]), x, y]) (fun i w ρ hw hI => by
    obtain ⟨x, y, rfl⟩ := hI
    rw [← hC, show intsD w = .lst (w.map D.int) from rfl]
    walk_at "ev"
    obtain ⟨y', e⟩ := inner w (.tup [.str (tx s), .lst (ws.map intsD)]) (.tup [.str (tx s), .lst (ws.map intsD)]) (.val (.lst (w.map D.int))) y
    rw [e]
    exact ⟨_, rfl, _, rfl, _, _, rfl⟩) [.val (.tup [.str (tx s), .lst (ws.map intsD)]), .val (.tup [.str (tx s), .lst (ws.map intsD)]), .no, .no] ⟨_, _, rfl⟩
  walk_at "ev"
  rw [h]
  walk_at "ev"
  rw [gEq_refl ok]
  walk_at "ev"
theorem law_true : ∀ ns : List Int, ns.length ≤ 63 → g_law0 [.fz ns] = some (.bl true) := by
  intro ns _
  obtain ⟨l, hl, et⟩ := text_ok ns
  have ha := hl.1
  have hz := hl.2
  have R := read_x l ha hz
  have G := game_l l ha hz
  unfold g_law0 F_law0
  walk_at "ev"
  rw [et]
  walk_at "ev"
  rw [G]
  by_cases hg : gameB l = true
  · rw [if_pos hg] at R ⊢
    walk_at "ev"
    have Gd := good_l (rowS l) (rowsW l) (rowS_asc ha) (Nat.le_trans (rowS_len l) hz) (game_ne hg)
    rw [Gd]
    cases hb : badG (rowS l) (rowsW l) with
    | true =>
      rw [hb, if_pos rfl] at R
      walk_at "ev"
      unfold g_l_refused F_l_refused
      walk_at "ev"
      rw [R]
      walk_at "ev"
    | false =>
      rw [hb, if_neg Bool.false_ne_true] at R
      walk_at "ev"
      rw [R]
      walk_at "ev"
      rw [alike_l _ _ (rowS_asc ha)]
      walk_at "ev"
  · rw [if_neg hg] at R ⊢
    walk_at "ev"
    unfold g_l_refused F_l_refused
    walk_at "ev"
    rw [R]
    walk_at "ev"
end Ev

namespace Ev
open PySem PySem.Spec PyProof.Rows L2 Dn
theorem all_mk {l : PySem.W.OpenLaw} {w : World} {K : PySem.W.Frag} {h : Heap} {mg : Str → Option Value} {fa : Addr} (X : K.In h) (G : h.Ns mainGlobals mg) (hfa : mg "law" = some (.ref fa))
    {C_WishError C_BadGame C_BadRow C_BadText : Addr}
    {f_l_cell_at : Addr} {od_l_cell_at an_l_cell_at : Option Addr} {sl_l_cell_at : Array (Option Value)} {oc_l_cell_at kV_l_cell_at dc_l_cell_at pm_l_cell_at cd_l_cell_at ct_l_cell_at : Value}
    {f_l_great : Addr} {od_l_great an_l_great : Option Addr} {sl_l_great : Array (Option Value)} {oc_l_great kV_l_great dc_l_great pm_l_great cd_l_great ct_l_great : Value}
    {f_l_first : Addr} {od_l_first an_l_first : Option Addr} {sl_l_first : Array (Option Value)} {oc_l_first kV_l_first dc_l_first pm_l_first cd_l_first ct_l_first : Value}
    {f_l_next : Addr} {od_l_next an_l_next : Option Addr} {sl_l_next : Array (Option Value)} {oc_l_next kV_l_next dc_l_next pm_l_next cd_l_next ct_l_next : Value}
    {f_l_sign_by : Addr} {od_l_sign_by an_l_sign_by : Option Addr} {sl_l_sign_by : Array (Option Value)} {oc_l_sign_by kV_l_sign_by dc_l_sign_by pm_l_sign_by cd_l_sign_by ct_l_sign_by : Value}
    {f_l_text : Addr} {od_l_text an_l_text : Option Addr} {sl_l_text : Array (Option Value)} {oc_l_text kV_l_text dc_l_text pm_l_text cd_l_text ct_l_text : Value}
    {f_l_number : Addr} {od_l_number an_l_number : Option Addr} {sl_l_number : Array (Option Value)} {oc_l_number kV_l_number dc_l_number pm_l_number cd_l_number ct_l_number : Value}
    {f_l_wish : Addr} {od_l_wish an_l_wish : Option Addr} {sl_l_wish : Array (Option Value)} {oc_l_wish kV_l_wish dc_l_wish pm_l_wish cd_l_wish ct_l_wish : Value}
    {f_l_game : Addr} {od_l_game an_l_game : Option Addr} {sl_l_game : Array (Option Value)} {oc_l_game kV_l_game dc_l_game pm_l_game cd_l_game ct_l_game : Value}
    {f_p_setters_of : Addr} {od_p_setters_of an_p_setters_of : Option Addr} {sl_p_setters_of : Array (Option Value)} {oc_p_setters_of kV_p_setters_of dc_p_setters_of pm_p_setters_of cd_p_setters_of ct_p_setters_of : Value}
    {f_p_number_of : Addr} {od_p_number_of an_p_number_of : Option Addr} {sl_p_number_of : Array (Option Value)} {oc_p_number_of kV_p_number_of dc_p_number_of pm_p_number_of cd_p_number_of ct_p_number_of : Value}
    {f_p_wish_of : Addr} {od_p_wish_of an_p_wish_of : Option Addr} {sl_p_wish_of : Array (Option Value)} {oc_p_wish_of kV_p_wish_of dc_p_wish_of pm_p_wish_of cd_p_wish_of ct_p_wish_of : Value}
    {f_p_check_wish : Addr} {od_p_check_wish an_p_check_wish : Option Addr} {sl_p_check_wish : Array (Option Value)} {oc_p_check_wish kV_p_check_wish dc_p_check_wish pm_p_check_wish cd_p_check_wish ct_p_check_wish : Value}
    {f_p_check : Addr} {od_p_check an_p_check : Option Addr} {sl_p_check : Array (Option Value)} {oc_p_check kV_p_check dc_p_check pm_p_check cd_p_check ct_p_check : Value}
    {f_p_read : Addr} {od_p_read an_p_read : Option Addr} {sl_p_read : Array (Option Value)} {oc_p_read kV_p_read dc_p_read pm_p_read cd_p_read ct_p_read : Value}
    {f_l_refused : Addr} {od_l_refused an_l_refused : Option Addr} {sl_l_refused : Array (Option Value)} {oc_l_refused kV_l_refused dc_l_refused pm_l_refused cd_l_refused ct_l_refused : Value}
    {f_l_good : Addr} {od_l_good an_l_good : Option Addr} {sl_l_good : Array (Option Value)} {oc_l_good kV_l_good dc_l_good pm_l_good cd_l_good ct_l_good : Value}
    {f_l_alike : Addr} {od_l_alike an_l_alike : Option Addr} {sl_l_alike : Array (Option Value)} {oc_l_alike kV_l_alike dc_l_alike pm_l_alike cd_l_alike ct_l_alike : Value}
    {f_law0 : Addr} {od_law0 an_law0 : Option Addr} {sl_law0 : Array (Option Value)} {oc_law0 kV_law0 dc_law0 pm_law0 cd_law0 ct_law0 : Value}
    {t_MOST_FIGURES : Tok}
    {t_MOST_NUMBERS : Tok}
    {t_MOST_LAMPS : Tok}
    {t_MOST_WISHES : Tok}
    (xa_WishError : PySem.W.nsIn K mainGlobals "WishError" = some (some (.ref C_WishError)))
    (xi_WishError : PySem.W.isClsIn K C_WishError = true)
    (xt_WishError : PySem.W.typeIn K (.ref C_WishError) = some (.type "type"))
    (xb_WishError : PySem.W.subIn K (.ref C_WishError) (.type "BaseException") = some true)
    (xs_WishError : PySem.W.subIn K (.ref C_WishError) (.ref C_WishError) = some true)
    (xa_BadGame : PySem.W.nsIn K mainGlobals "BadGame" = some (some (.ref C_BadGame)))
    (xi_BadGame : PySem.W.isClsIn K C_BadGame = true)
    (xt_BadGame : PySem.W.typeIn K (.ref C_BadGame) = some (.type "type"))
    (xb_BadGame : PySem.W.subIn K (.ref C_BadGame) (.type "BaseException") = some true)
    (xs_BadGame : PySem.W.subIn K (.ref C_BadGame) (.ref C_BadGame) = some true)
    (xa_BadRow : PySem.W.nsIn K mainGlobals "BadRow" = some (some (.ref C_BadRow)))
    (xi_BadRow : PySem.W.isClsIn K C_BadRow = true)
    (xt_BadRow : PySem.W.typeIn K (.ref C_BadRow) = some (.type "type"))
    (xb_BadRow : PySem.W.subIn K (.ref C_BadRow) (.type "BaseException") = some true)
    (xs_BadRow : PySem.W.subIn K (.ref C_BadRow) (.ref C_BadRow) = some true)
    (xa_BadText : PySem.W.nsIn K mainGlobals "BadText" = some (some (.ref C_BadText)))
    (xi_BadText : PySem.W.isClsIn K C_BadText = true)
    (xt_BadText : PySem.W.typeIn K (.ref C_BadText) = some (.type "type"))
    (xb_BadText : PySem.W.subIn K (.ref C_BadText) (.type "BaseException") = some true)
    (xs_BadText : PySem.W.subIn K (.ref C_BadText) (.ref C_BadText) = some true)
    (xx_BadGame : PySem.W.excIn K C_BadGame [.type "ValueError", .type "Exception", .type "BaseException", .type "object"] "ValueError.__new__" = true)
    (xk_BadGame : PySem.W.keepIn K (.ref C_BadGame) = true)
    (xv_BadGame : PySem.W.subIn K (.ref C_BadGame) (.type "ValueError") = some true)
    (xg_BadGame : PySem.W.findIn K (.ref C_BadGame) "__getattribute__" = some (some (.builtin "BaseException.__getattribute__")))
    (xh_BadGame : PySem.W.findIn K (.ref C_BadGame) "__getattr__" = some none)
    (xd_BadGame : PySem.W.hasDictIn K C_BadGame = true)
    (xc_BadGame : PySem.W.findIn K (.ref C_BadGame) "__class__" = some (some (.builtin "object.__class__")))
    (xm_BadGame : PySem.W.mroIn K C_BadGame (.type "object") = some true)
    (xx_BadRow : PySem.W.excIn K C_BadRow [.type "ValueError", .type "Exception", .type "BaseException", .type "object"] "ValueError.__new__" = true)
    (xk_BadRow : PySem.W.keepIn K (.ref C_BadRow) = true)
    (xv_BadRow : PySem.W.subIn K (.ref C_BadRow) (.type "ValueError") = some true)
    (xg_BadRow : PySem.W.findIn K (.ref C_BadRow) "__getattribute__" = some (some (.builtin "BaseException.__getattribute__")))
    (xh_BadRow : PySem.W.findIn K (.ref C_BadRow) "__getattr__" = some none)
    (xd_BadRow : PySem.W.hasDictIn K C_BadRow = true)
    (xc_BadRow : PySem.W.findIn K (.ref C_BadRow) "__class__" = some (some (.builtin "object.__class__")))
    (xm_BadRow : PySem.W.mroIn K C_BadRow (.type "object") = some true)
    (xx_BadText : PySem.W.excIn K C_BadText [.type "ValueError", .type "Exception", .type "BaseException", .type "object"] "ValueError.__new__" = true)
    (xk_BadText : PySem.W.keepIn K (.ref C_BadText) = true)
    (xv_BadText : PySem.W.subIn K (.ref C_BadText) (.type "ValueError") = some true)
    (xg_BadText : PySem.W.findIn K (.ref C_BadText) "__getattribute__" = some (some (.builtin "BaseException.__getattribute__")))
    (xh_BadText : PySem.W.findIn K (.ref C_BadText) "__getattr__" = some none)
    (xd_BadText : PySem.W.hasDictIn K C_BadText = true)
    (xc_BadText : PySem.W.findIn K (.ref C_BadText) "__class__" = some (some (.builtin "object.__class__")))
    (xm_BadText : PySem.W.mroIn K C_BadText (.type "object") = some true)
    (xn_ : PySem.W.specialIn K (.builtin "object.__class__") "__get__" = some (some (.builtin "getset_descriptor.__get__")))
    (xt_ : PySem.W.takesIn K (.builtin "object.__class__") = some true)
    (xq_BadGame_WishError : PySem.W.subIn K (.ref C_BadGame) (.ref C_WishError) = some true)
    (xq_BadGame_BadRow : PySem.W.subIn K (.ref C_BadGame) (.ref C_BadRow) = some false)
    (xq_BadGame_BadText : PySem.W.subIn K (.ref C_BadGame) (.ref C_BadText) = some false)
    (xq_BadRow_WishError : PySem.W.subIn K (.ref C_BadRow) (.ref C_WishError) = some true)
    (xq_BadRow_BadGame : PySem.W.subIn K (.ref C_BadRow) (.ref C_BadGame) = some false)
    (xq_BadRow_BadText : PySem.W.subIn K (.ref C_BadRow) (.ref C_BadText) = some false)
    (xq_BadText_WishError : PySem.W.subIn K (.ref C_BadText) (.ref C_WishError) = some true)
    (xq_BadText_BadGame : PySem.W.subIn K (.ref C_BadText) (.ref C_BadGame) = some false)
    (xq_BadText_BadRow : PySem.W.subIn K (.ref C_BadText) (.ref C_BadRow) = some false)
    (a_l_cell_at : PySem.W.nsIn K mainGlobals "_law_cell_at" = some (some (.ref f_l_cell_at))) (l_l_cell_at : K.lookup f_l_cell_at = some ⟨oc_l_cell_at, od_l_cell_at, .func (PySem.W.fnOf "_law_cell_at" "_law_cell_at" (defArgs s_l_cell_at) (defBody s_l_cell_at) (defScope s_l_cell_at) .none kV_l_cell_at dc_l_cell_at pm_l_cell_at an_l_cell_at cd_l_cell_at ct_l_cell_at), sl_l_cell_at⟩) (c_l_cell_at : PySem.W.codeIn K cd_l_cell_at "_law_cell_at" = true) (k_l_cell_at : PySem.W.keepIn K (.ref f_l_cell_at) = true)
    (a_l_great : PySem.W.nsIn K mainGlobals "_law_great" = some (some (.ref f_l_great))) (l_l_great : K.lookup f_l_great = some ⟨oc_l_great, od_l_great, .func (PySem.W.fnOf "_law_great" "_law_great" (defArgs s_l_great) (defBody s_l_great) (defScope s_l_great) .none kV_l_great dc_l_great pm_l_great an_l_great cd_l_great ct_l_great), sl_l_great⟩) (c_l_great : PySem.W.codeIn K cd_l_great "_law_great" = true) (k_l_great : PySem.W.keepIn K (.ref f_l_great) = true)
    (a_l_first : PySem.W.nsIn K mainGlobals "_law_first" = some (some (.ref f_l_first))) (l_l_first : K.lookup f_l_first = some ⟨oc_l_first, od_l_first, .func (PySem.W.fnOf "_law_first" "_law_first" (defArgs s_l_first) (defBody s_l_first) (defScope s_l_first) .none kV_l_first dc_l_first pm_l_first an_l_first cd_l_first ct_l_first), sl_l_first⟩) (c_l_first : PySem.W.codeIn K cd_l_first "_law_first" = true) (k_l_first : PySem.W.keepIn K (.ref f_l_first) = true)
    (a_l_next : PySem.W.nsIn K mainGlobals "_law_next" = some (some (.ref f_l_next))) (l_l_next : K.lookup f_l_next = some ⟨oc_l_next, od_l_next, .func (PySem.W.fnOf "_law_next" "_law_next" (defArgs s_l_next) (defBody s_l_next) (defScope s_l_next) .none kV_l_next dc_l_next pm_l_next an_l_next cd_l_next ct_l_next), sl_l_next⟩) (c_l_next : PySem.W.codeIn K cd_l_next "_law_next" = true) (k_l_next : PySem.W.keepIn K (.ref f_l_next) = true)
    (a_l_sign_by : PySem.W.nsIn K mainGlobals "_law_sign_by" = some (some (.ref f_l_sign_by))) (l_l_sign_by : K.lookup f_l_sign_by = some ⟨oc_l_sign_by, od_l_sign_by, .func (PySem.W.fnOf "_law_sign_by" "_law_sign_by" (defArgs s_l_sign_by) (defBody s_l_sign_by) (defScope s_l_sign_by) .none kV_l_sign_by dc_l_sign_by pm_l_sign_by an_l_sign_by cd_l_sign_by ct_l_sign_by), sl_l_sign_by⟩) (c_l_sign_by : PySem.W.codeIn K cd_l_sign_by "_law_sign_by" = true) (k_l_sign_by : PySem.W.keepIn K (.ref f_l_sign_by) = true)
    (a_l_text : PySem.W.nsIn K mainGlobals "_law_text" = some (some (.ref f_l_text))) (l_l_text : K.lookup f_l_text = some ⟨oc_l_text, od_l_text, .func (PySem.W.fnOf "_law_text" "_law_text" (defArgs s_l_text) (defBody s_l_text) (defScope s_l_text) .none kV_l_text dc_l_text pm_l_text an_l_text cd_l_text ct_l_text), sl_l_text⟩) (c_l_text : PySem.W.codeIn K cd_l_text "_law_text" = true) (k_l_text : PySem.W.keepIn K (.ref f_l_text) = true)
    (a_l_number : PySem.W.nsIn K mainGlobals "_law_number" = some (some (.ref f_l_number))) (l_l_number : K.lookup f_l_number = some ⟨oc_l_number, od_l_number, .func (PySem.W.fnOf "_law_number" "_law_number" (defArgs s_l_number) (defBody s_l_number) (defScope s_l_number) .none kV_l_number dc_l_number pm_l_number an_l_number cd_l_number ct_l_number), sl_l_number⟩) (c_l_number : PySem.W.codeIn K cd_l_number "_law_number" = true) (k_l_number : PySem.W.keepIn K (.ref f_l_number) = true)
    (a_l_wish : PySem.W.nsIn K mainGlobals "_law_wish" = some (some (.ref f_l_wish))) (l_l_wish : K.lookup f_l_wish = some ⟨oc_l_wish, od_l_wish, .func (PySem.W.fnOf "_law_wish" "_law_wish" (defArgs s_l_wish) (defBody s_l_wish) (defScope s_l_wish) .none kV_l_wish dc_l_wish pm_l_wish an_l_wish cd_l_wish ct_l_wish), sl_l_wish⟩) (c_l_wish : PySem.W.codeIn K cd_l_wish "_law_wish" = true) (k_l_wish : PySem.W.keepIn K (.ref f_l_wish) = true)
    (a_l_game : PySem.W.nsIn K mainGlobals "_law_game" = some (some (.ref f_l_game))) (l_l_game : K.lookup f_l_game = some ⟨oc_l_game, od_l_game, .func (PySem.W.fnOf "_law_game" "_law_game" (defArgs s_l_game) (defBody s_l_game) (defScope s_l_game) .none kV_l_game dc_l_game pm_l_game an_l_game cd_l_game ct_l_game), sl_l_game⟩) (c_l_game : PySem.W.codeIn K cd_l_game "_law_game" = true) (k_l_game : PySem.W.keepIn K (.ref f_l_game) = true)
    (a_p_setters_of : PySem.W.nsIn K mainGlobals "setters_of" = some (some (.ref f_p_setters_of))) (l_p_setters_of : K.lookup f_p_setters_of = some ⟨oc_p_setters_of, od_p_setters_of, .func (PySem.W.fnOf "setters_of" "setters_of" (defArgs s_p_setters_of) (defBody s_p_setters_of) (defScope s_p_setters_of) .none kV_p_setters_of dc_p_setters_of pm_p_setters_of an_p_setters_of cd_p_setters_of ct_p_setters_of), sl_p_setters_of⟩) (c_p_setters_of : PySem.W.codeIn K cd_p_setters_of "setters_of" = true) (k_p_setters_of : PySem.W.keepIn K (.ref f_p_setters_of) = true)
    (a_p_number_of : PySem.W.nsIn K mainGlobals "number_of" = some (some (.ref f_p_number_of))) (l_p_number_of : K.lookup f_p_number_of = some ⟨oc_p_number_of, od_p_number_of, .func (PySem.W.fnOf "number_of" "number_of" (defArgs s_p_number_of) (defBody s_p_number_of) (defScope s_p_number_of) .none kV_p_number_of dc_p_number_of pm_p_number_of an_p_number_of cd_p_number_of ct_p_number_of), sl_p_number_of⟩) (c_p_number_of : PySem.W.codeIn K cd_p_number_of "number_of" = true) (k_p_number_of : PySem.W.keepIn K (.ref f_p_number_of) = true)
    (a_p_wish_of : PySem.W.nsIn K mainGlobals "wish_of" = some (some (.ref f_p_wish_of))) (l_p_wish_of : K.lookup f_p_wish_of = some ⟨oc_p_wish_of, od_p_wish_of, .func (PySem.W.fnOf "wish_of" "wish_of" (defArgs s_p_wish_of) (defBody s_p_wish_of) (defScope s_p_wish_of) .none kV_p_wish_of dc_p_wish_of pm_p_wish_of an_p_wish_of cd_p_wish_of ct_p_wish_of), sl_p_wish_of⟩) (c_p_wish_of : PySem.W.codeIn K cd_p_wish_of "wish_of" = true) (k_p_wish_of : PySem.W.keepIn K (.ref f_p_wish_of) = true)
    (a_p_check_wish : PySem.W.nsIn K mainGlobals "check_wish" = some (some (.ref f_p_check_wish))) (l_p_check_wish : K.lookup f_p_check_wish = some ⟨oc_p_check_wish, od_p_check_wish, .func (PySem.W.fnOf "check_wish" "check_wish" (defArgs s_p_check_wish) (defBody s_p_check_wish) (defScope s_p_check_wish) .none kV_p_check_wish dc_p_check_wish pm_p_check_wish an_p_check_wish cd_p_check_wish ct_p_check_wish), sl_p_check_wish⟩) (c_p_check_wish : PySem.W.codeIn K cd_p_check_wish "check_wish" = true) (k_p_check_wish : PySem.W.keepIn K (.ref f_p_check_wish) = true)
    (a_p_check : PySem.W.nsIn K mainGlobals "check" = some (some (.ref f_p_check))) (l_p_check : K.lookup f_p_check = some ⟨oc_p_check, od_p_check, .func (PySem.W.fnOf "check" "check" (defArgs s_p_check) (defBody s_p_check) (defScope s_p_check) .none kV_p_check dc_p_check pm_p_check an_p_check cd_p_check ct_p_check), sl_p_check⟩) (c_p_check : PySem.W.codeIn K cd_p_check "check" = true) (k_p_check : PySem.W.keepIn K (.ref f_p_check) = true)
    (a_p_read : PySem.W.nsIn K mainGlobals "read" = some (some (.ref f_p_read))) (l_p_read : K.lookup f_p_read = some ⟨oc_p_read, od_p_read, .func (PySem.W.fnOf "read" "read" (defArgs s_p_read) (defBody s_p_read) (defScope s_p_read) .none kV_p_read dc_p_read pm_p_read an_p_read cd_p_read ct_p_read), sl_p_read⟩) (c_p_read : PySem.W.codeIn K cd_p_read "read" = true) (k_p_read : PySem.W.keepIn K (.ref f_p_read) = true)
    (a_l_refused : PySem.W.nsIn K mainGlobals "_law_refused" = some (some (.ref f_l_refused))) (l_l_refused : K.lookup f_l_refused = some ⟨oc_l_refused, od_l_refused, .func (PySem.W.fnOf "_law_refused" "_law_refused" (defArgs s_l_refused) (defBody s_l_refused) (defScope s_l_refused) .none kV_l_refused dc_l_refused pm_l_refused an_l_refused cd_l_refused ct_l_refused), sl_l_refused⟩) (c_l_refused : PySem.W.codeIn K cd_l_refused "_law_refused" = true) (k_l_refused : PySem.W.keepIn K (.ref f_l_refused) = true)
    (a_l_good : PySem.W.nsIn K mainGlobals "_law_good" = some (some (.ref f_l_good))) (l_l_good : K.lookup f_l_good = some ⟨oc_l_good, od_l_good, .func (PySem.W.fnOf "_law_good" "_law_good" (defArgs s_l_good) (defBody s_l_good) (defScope s_l_good) .none kV_l_good dc_l_good pm_l_good an_l_good cd_l_good ct_l_good), sl_l_good⟩) (c_l_good : PySem.W.codeIn K cd_l_good "_law_good" = true) (k_l_good : PySem.W.keepIn K (.ref f_l_good) = true)
    (a_l_alike : PySem.W.nsIn K mainGlobals "_law_alike" = some (some (.ref f_l_alike))) (l_l_alike : K.lookup f_l_alike = some ⟨oc_l_alike, od_l_alike, .func (PySem.W.fnOf "_law_alike" "_law_alike" (defArgs s_l_alike) (defBody s_l_alike) (defScope s_l_alike) .none kV_l_alike dc_l_alike pm_l_alike an_l_alike cd_l_alike ct_l_alike), sl_l_alike⟩) (c_l_alike : PySem.W.codeIn K cd_l_alike "_law_alike" = true) (k_l_alike : PySem.W.keepIn K (.ref f_l_alike) = true)
    (a_law0 : PySem.W.nsIn K mainGlobals "law" = some (some (.ref f_law0))) (l_law0 : K.lookup f_law0 = some ⟨oc_law0, od_law0, .func (PySem.W.fnOf "law" "law" (defArgs s_law0) (defBody s_law0) (defScope s_law0) .none kV_law0 dc_law0 pm_law0 an_law0 cd_law0 ct_law0), sl_law0⟩) (c_law0 : PySem.W.codeIn K cd_law0 "law" = true) (k_law0 : PySem.W.keepIn K (.ref f_law0) = true)
    (z_len : PySem.W.nsIn K mainGlobals "len" = some none)
    (z_range : PySem.W.nsIn K mainGlobals "range" = some none)
    (z_min : PySem.W.nsIn K mainGlobals "min" = some none)
    (z_int : PySem.W.nsIn K mainGlobals "int" = some none)
    (z_abs : PySem.W.nsIn K mainGlobals "abs" = some none)
    (z_isinstance : PySem.W.nsIn K mainGlobals "isinstance" = some none)
    (z_max : PySem.W.nsIn K mainGlobals "max" = some none)
    (z_tuple : PySem.W.nsIn K mainGlobals "tuple" = some none)
    (z_str : PySem.W.nsIn K mainGlobals "str" = some none)
    (z_list : PySem.W.nsIn K mainGlobals "list" = some none)
    (z_bool : PySem.W.nsIn K mainGlobals "bool" = some none)
    (w_MOST_FIGURES : PySem.W.nsIn K mainGlobals "MOST_FIGURES" = some (some (.int 60 t_MOST_FIGURES)))
    (w_MOST_NUMBERS : PySem.W.nsIn K mainGlobals "MOST_NUMBERS" = some (some (.int 10 t_MOST_NUMBERS)))
    (w_MOST_LAMPS : PySem.W.nsIn K mainGlobals "MOST_LAMPS" = some (some (.int 10 t_MOST_LAMPS)))
    (w_MOST_WISHES : PySem.W.nsIn K mainGlobals "MOST_WISHES" = some (some (.int 20 t_MOST_WISHES))) :
    ∃ fd : FuncData, (∀ (s : Shared) (v : Value), BindsTo s fd ⟨[v], []⟩ [("_law_script", v)]) ∧ ∀ base : Heap, K.In base → base.Ns mainGlobals mg → FnOk l.prog w K mg base CX0 5 fa fd ["_law_script"] (spLaw K) := by
  have e := hfa.symm.trans (PySem.W.mg_of X G a_law0)
  cases e
  have T_l_cell_at : Top K mg "_law_cell_at" s_l_cell_at ["_law_script", "_law_k"] _ _ := top_mk X G a_l_cell_at l_l_cell_at c_l_cell_at k_l_cell_at fun _ _ _ _ _ _ us hl => match us, hl with | [_, _], _ => rfl
  have T_l_great : Top K mg "_law_great" s_l_great ["_law_cell"] _ _ := top_mk X G a_l_great l_l_great c_l_great k_l_great fun _ _ _ _ _ _ us hl => match us, hl with | [_], _ => rfl
  have T_l_first : Top K mg "_law_first" s_l_first ["_law_cell"] _ _ := top_mk X G a_l_first l_l_first c_l_first k_l_first fun _ _ _ _ _ _ us hl => match us, hl with | [_], _ => rfl
  have T_l_next : Top K mg "_law_next" s_l_next ["_law_cell"] _ _ := top_mk X G a_l_next l_l_next c_l_next k_l_next fun _ _ _ _ _ _ us hl => match us, hl with | [_], _ => rfl
  have T_l_sign_by : Top K mg "_law_sign_by" s_l_sign_by ["_law_cell"] _ _ := top_mk X G a_l_sign_by l_l_sign_by c_l_sign_by k_l_sign_by fun _ _ _ _ _ _ us hl => match us, hl with | [_], _ => rfl
  have T_l_text : Top K mg "_law_text" s_l_text ["_law_script"] _ _ := top_mk X G a_l_text l_l_text c_l_text k_l_text fun _ _ _ _ _ _ us hl => match us, hl with | [_], _ => rfl
  have T_l_number : Top K mg "_law_number" s_l_number ["_law_word"] _ _ := top_mk X G a_l_number l_l_number c_l_number k_l_number fun _ _ _ _ _ _ us hl => match us, hl with | [_], _ => rfl
  have T_l_wish : Top K mg "_law_wish" s_l_wish ["_law_row"] _ _ := top_mk X G a_l_wish l_l_wish c_l_wish k_l_wish fun _ _ _ _ _ _ us hl => match us, hl with | [_], _ => rfl
  have T_l_game : Top K mg "_law_game" s_l_game ["_law_text_here"] _ _ := top_mk X G a_l_game l_l_game c_l_game k_l_game fun _ _ _ _ _ _ us hl => match us, hl with | [_], _ => rfl
  have T_p_setters_of : Top K mg "setters_of" s_p_setters_of ["row"] _ _ := top_mk X G a_p_setters_of l_p_setters_of c_p_setters_of k_p_setters_of fun _ _ _ _ _ _ us hl => match us, hl with | [_], _ => rfl
  have T_p_number_of : Top K mg "number_of" s_p_number_of ["word"] _ _ := top_mk X G a_p_number_of l_p_number_of c_p_number_of k_p_number_of fun _ _ _ _ _ _ us hl => match us, hl with | [_], _ => rfl
  have T_p_wish_of : Top K mg "wish_of" s_p_wish_of ["row"] _ _ := top_mk X G a_p_wish_of l_p_wish_of c_p_wish_of k_p_wish_of fun _ _ _ _ _ _ us hl => match us, hl with | [_], _ => rfl
  have T_p_check_wish : Top K mg "check_wish" s_p_check_wish ["wish", "many"] _ _ := top_mk X G a_p_check_wish l_p_check_wish c_p_check_wish k_p_check_wish fun _ _ _ _ _ _ us hl => match us, hl with | [_, _], _ => rfl
  have T_p_check : Top K mg "check" s_p_check ["setters", "wishes"] _ _ := top_mk X G a_p_check l_p_check c_p_check k_p_check fun _ _ _ _ _ _ us hl => match us, hl with | [_, _], _ => rfl
  have T_p_read : Top K mg "read" s_p_read ["text"] _ _ := top_mk X G a_p_read l_p_read c_p_read k_p_read fun _ _ _ _ _ _ us hl => match us, hl with | [_], _ => rfl
  have T_l_refused : Top K mg "_law_refused" s_l_refused ["_law_text_here", "_law_by_game"] _ _ := top_mk X G a_l_refused l_l_refused c_l_refused k_l_refused fun _ _ _ _ _ _ us hl => match us, hl with | [_, _], _ => rfl
  have T_l_good : Top K mg "_law_good" s_l_good ["_law_game_here"] _ _ := top_mk X G a_l_good l_l_good c_l_good k_l_good fun _ _ _ _ _ _ us hl => match us, hl with | [_], _ => rfl
  have T_l_alike : Top K mg "_law_alike" s_l_alike ["_law_found", "_law_due"] _ _ := top_mk X G a_l_alike l_l_alike c_l_alike k_l_alike fun _ _ _ _ _ _ us hl => match us, hl with | [_, _], _ => rfl
  have T_law0 : Top K mg "law" s_law0 ["_law_script"] _ _ := top_mk X G a_law0 l_law0 c_law0 k_law0 fun _ _ _ _ _ _ us hl => match us, hl with | [_], _ => rfl
  have m_len := PySem.W.mg_none_of X G z_len
  have m_range := PySem.W.mg_none_of X G z_range
  have m_min := PySem.W.mg_none_of X G z_min
  have m_int := PySem.W.mg_none_of X G z_int
  have m_abs := PySem.W.mg_none_of X G z_abs
  have m_isinstance := PySem.W.mg_none_of X G z_isinstance
  have m_max := PySem.W.mg_none_of X G z_max
  have m_tuple := PySem.W.mg_none_of X G z_tuple
  have m_str := PySem.W.mg_none_of X G z_str
  have m_list := PySem.W.mg_none_of X G z_list
  have m_bool := PySem.W.mg_none_of X G z_bool
  have c_MOST_FIGURES : ∃ t, mg "MOST_FIGURES" = some (.int 60 t) := ⟨_, PySem.W.mg_of X G w_MOST_FIGURES⟩
  have c_MOST_NUMBERS : ∃ t, mg "MOST_NUMBERS" = some (.int 10 t) := ⟨_, PySem.W.mg_of X G w_MOST_NUMBERS⟩
  have c_MOST_LAMPS : ∃ t, mg "MOST_LAMPS" = some (.int 10 t) := ⟨_, PySem.W.mg_of X G w_MOST_LAMPS⟩
  have c_MOST_WISHES : ∃ t, mg "MOST_WISHES" = some (.int 20 t) := ⟨_, PySem.W.mg_of X G w_MOST_WISHES⟩
  have c_WishError : ClsF K mg "WishError" C_WishError := ⟨PySem.W.mg_of X G xa_WishError, xi_WishError, xt_WishError, xb_WishError, xs_WishError⟩
  have c_BadGame : ClsF K mg "BadGame" C_BadGame := ⟨PySem.W.mg_of X G xa_BadGame, xi_BadGame, xt_BadGame, xb_BadGame, xs_BadGame⟩
  have c_BadRow : ClsF K mg "BadRow" C_BadRow := ⟨PySem.W.mg_of X G xa_BadRow, xi_BadRow, xt_BadRow, xb_BadRow, xs_BadRow⟩
  have c_BadText : ClsF K mg "BadText" C_BadText := ⟨PySem.W.mg_of X G xa_BadText, xi_BadText, xt_BadText, xb_BadText, xs_BadText⟩
  have r_BadGame : RzF K C_BadGame := ⟨xx_BadGame, xk_BadGame, xv_BadGame, xg_BadGame, xh_BadGame, xd_BadGame, xc_BadGame, xn_, xt_, xm_BadGame⟩
  have r_BadRow : RzF K C_BadRow := ⟨xx_BadRow, xk_BadRow, xv_BadRow, xg_BadRow, xh_BadRow, xd_BadRow, xc_BadRow, xn_, xt_, xm_BadRow⟩
  have r_BadText : RzF K C_BadText := ⟨xx_BadText, xk_BadText, xv_BadText, xg_BadText, xh_BadText, xd_BadText, xc_BadText, xn_, xt_, xm_BadText⟩
  obtain ⟨ec, C⟩ := ex_mk c_WishError c_BadGame c_BadRow c_BadText r_BadGame r_BadRow r_BadText xq_BadGame_WishError xq_BadGame_BadRow xq_BadGame_BadText xq_BadRow_WishError xq_BadRow_BadGame xq_BadRow_BadText xq_BadText_WishError xq_BadText_BadGame xq_BadText_BadRow
  refine ⟨PySem.W.fnOf "law" "law" (defArgs s_law0) (defBody s_law0) (defScope s_law0) .none kV_law0 dc_law0 pm_law0 an_law0 cd_law0 ct_law0, fun s v => .of_eq rfl, fun base _ _ => ?_⟩
  have D_l_cell_at := ok_l_cell_at (PP := l.prog) (w := w) (base := base) T_l_cell_at m_len
  have D_l_great := ok_l_great (PP := l.prog) (w := w) (base := base) T_l_great m_range m_min
  have D_l_first := ok_l_first (PP := l.prog) (w := w) (base := base) T_l_first
  have D_l_next := ok_l_next (PP := l.prog) (w := w) (base := base) T_l_next
  have D_l_sign_by := ok_l_sign_by (PP := l.prog) (w := w) (base := base) T_l_sign_by
  have D_l_text := ok_l_text (PP := l.prog) (w := w) (base := base) T_l_text m_range m_len D_l_cell_at D_l_great D_l_first D_l_next D_l_sign_by
  have D_l_number := ok_l_number (PP := l.prog) (w := w) (base := base) T_l_number m_len m_int
  have D_l_wish := ok_l_wish (PP := l.prog) (w := w) (base := base) T_l_wish D_l_number
  have D_l_game := ok_l_game (PP := l.prog) (w := w) (base := base) T_l_game D_l_wish
  have D_p_setters_of := ok_p_setters_of (PP := l.prog) (w := w) (base := base) (ec := ec) T_p_setters_of C m_len
  have D_p_number_of := ok_p_number_of (PP := l.prog) (w := w) (base := base) (ec := ec) T_p_number_of C m_len m_int c_MOST_FIGURES
  have D_p_wish_of := ok_p_wish_of (PP := l.prog) (w := w) (base := base) (ec := ec) T_p_wish_of C D_p_number_of
  have D_p_check_wish := ok_p_check_wish (PP := l.prog) (w := w) (base := base) (ec := ec) T_p_check_wish C m_len m_abs c_MOST_NUMBERS
  have D_p_check := ok_p_check (PP := l.prog) (w := w) (base := base) (ec := ec) T_p_check C m_len c_MOST_LAMPS c_MOST_WISHES D_p_check_wish
  have D_p_read := ok_p_read (PP := l.prog) (w := w) (base := base) (ec := ec) T_p_read D_p_setters_of D_p_wish_of D_p_check
  have D_l_refused := ok_l_refused (PP := l.prog) (w := w) (base := base) (ec := ec) T_l_refused C m_isinstance D_p_read
  have D_l_good := ok_l_good (PP := l.prog) (w := w) (base := base) T_l_good m_max m_len
  have D_l_alike := ok_l_alike (PP := l.prog) (w := w) (base := base) T_l_alike m_isinstance m_tuple m_len m_str m_list m_int m_bool
  have D_law0 := ok_law0 (PP := l.prog) (w := w) (base := base) (ec := ec) T_law0 D_l_text D_l_game D_l_refused D_l_good D_p_read D_l_alike
  exact law_end D_law0 law_true
end Ev
open PySem PySem.W PyProof.Rows
set_option maxRecDepth 100000 in
set_option maxHeartbeats 0 in
theorem PySem.Challenge.cw_everywish_k07_texts_refused_holds : PySem.Challenge.rw_everywish_k07_texts_refused.Holds := by
  w_on; o_law; k_head; (case hw => w_witness2)
  k_fill
  refine L2.walk_of (l := PySem.Challenge.rw_everywish_k07_texts_refused) (n := 63) (k := 5) (x := "_law_script") (CX := fun _ => L2.CX0) (sp := fun w => Dn.spLaw _) rfl (by decide) rfl ⟨rfl, by decide, by decide⟩ (fun w h Y => PySem.W.kIn_of Y) ?F (fun _ _ a ns hl _ hS => ⟨a, ns, rfl, hS, hl, fun _ => rfl⟩) (fun _ _ _ _ _ h => h)
  case F =>
    intro w mg fa h KX G hmg
    refine' Ev.all_mk KX G hmg ?xa_WishError ?xi_WishError ?xt_WishError ?xb_WishError ?xs_WishError ?xa_BadGame ?xi_BadGame ?xt_BadGame ?xb_BadGame ?xs_BadGame ?xa_BadRow ?xi_BadRow ?xt_BadRow ?xb_BadRow ?xs_BadRow ?xa_BadText ?xi_BadText ?xt_BadText ?xb_BadText ?xs_BadText ?xx_BadGame ?xk_BadGame ?xv_BadGame ?xg_BadGame ?xh_BadGame ?xd_BadGame ?xc_BadGame ?xm_BadGame ?xx_BadRow ?xk_BadRow ?xv_BadRow ?xg_BadRow ?xh_BadRow ?xd_BadRow ?xc_BadRow ?xm_BadRow ?xx_BadText ?xk_BadText ?xv_BadText ?xg_BadText ?xh_BadText ?xd_BadText ?xc_BadText ?xm_BadText ?xn_ ?xt_ ?xq_BadGame_WishError ?xq_BadGame_BadRow ?xq_BadGame_BadText ?xq_BadRow_WishError ?xq_BadRow_BadGame ?xq_BadRow_BadText ?xq_BadText_WishError ?xq_BadText_BadGame ?xq_BadText_BadRow ?a_l_cell_at ?l_l_cell_at ?c_l_cell_at ?k_l_cell_at ?a_l_great ?l_l_great ?c_l_great ?k_l_great ?a_l_first ?l_l_first ?c_l_first ?k_l_first ?a_l_next ?l_l_next ?c_l_next ?k_l_next ?a_l_sign_by ?l_l_sign_by ?c_l_sign_by ?k_l_sign_by ?a_l_text ?l_l_text ?c_l_text ?k_l_text ?a_l_number ?l_l_number ?c_l_number ?k_l_number ?a_l_wish ?l_l_wish ?c_l_wish ?k_l_wish ?a_l_game ?l_l_game ?c_l_game ?k_l_game ?a_p_setters_of ?l_p_setters_of ?c_p_setters_of ?k_p_setters_of ?a_p_number_of ?l_p_number_of ?c_p_number_of ?k_p_number_of ?a_p_wish_of ?l_p_wish_of ?c_p_wish_of ?k_p_wish_of ?a_p_check_wish ?l_p_check_wish ?c_p_check_wish ?k_p_check_wish ?a_p_check ?l_p_check ?c_p_check ?k_p_check ?a_p_read ?l_p_read ?c_p_read ?k_p_read ?a_l_refused ?l_l_refused ?c_l_refused ?k_l_refused ?a_l_good ?l_l_good ?c_l_good ?k_l_good ?a_l_alike ?l_l_alike ?c_l_alike ?k_l_alike ?a_law0 ?l_law0 ?c_law0 ?k_law0 ?z_len ?z_range ?z_min ?z_int ?z_abs ?z_isinstance ?z_max ?z_tuple ?z_str ?z_list ?z_bool ?w_MOST_FIGURES ?w_MOST_NUMBERS ?w_MOST_LAMPS ?w_MOST_WISHES
    (case xa_WishError => k_is); (case xi_WishError => k_is); (case xt_WishError => k_is); (case xb_WishError => k_is); (case xs_WishError => k_is); (case xa_BadGame => k_is); (case xi_BadGame => k_is); (case xt_BadGame => k_is); (case xb_BadGame => k_is); (case xs_BadGame => k_is); (case xa_BadRow => k_is); (case xi_BadRow => k_is); (case xt_BadRow => k_is); (case xb_BadRow => k_is); (case xs_BadRow => k_is); (case xa_BadText => k_is); (case xi_BadText => k_is); (case xt_BadText => k_is); (case xb_BadText => k_is); (case xs_BadText => k_is); (case xx_BadGame => k_exc); (case xk_BadGame => k_is); (case xv_BadGame => k_is); (case xg_BadGame => k_is); (case xh_BadGame => k_is); (case xd_BadGame => k_is); (case xc_BadGame => k_is); (case xm_BadGame => k_is); (case xx_BadRow => k_exc); (case xk_BadRow => k_is); (case xv_BadRow => k_is); (case xg_BadRow => k_is); (case xh_BadRow => k_is); (case xd_BadRow => k_is); (case xc_BadRow => k_is); (case xm_BadRow => k_is); (case xx_BadText => k_exc); (case xk_BadText => k_is); (case xv_BadText => k_is); (case xg_BadText => k_is); (case xh_BadText => k_is); (case xd_BadText => k_is); (case xc_BadText => k_is); (case xm_BadText => k_is); (case xn_ => k_is); (case xt_ => k_is); (case xq_BadGame_WishError => k_is); (case xq_BadGame_BadRow => k_is); (case xq_BadGame_BadText => k_is); (case xq_BadRow_WishError => k_is); (case xq_BadRow_BadGame => k_is); (case xq_BadRow_BadText => k_is); (case xq_BadText_WishError => k_is); (case xq_BadText_BadGame => k_is); (case xq_BadText_BadRow => k_is); (case a_l_cell_at => k_is); (case l_l_cell_at => k_is); (case c_l_cell_at => k_is); (case k_l_cell_at => k_is); (case a_l_great => k_is); (case l_l_great => k_is); (case c_l_great => k_is); (case k_l_great => k_is); (case a_l_first => k_is); (case l_l_first => k_is); (case c_l_first => k_is); (case k_l_first => k_is); (case a_l_next => k_is); (case l_l_next => k_is); (case c_l_next => k_is); (case k_l_next => k_is); (case a_l_sign_by => k_is); (case l_l_sign_by => k_is); (case c_l_sign_by => k_is); (case k_l_sign_by => k_is); (case a_l_text => k_is); (case l_l_text => k_is); (case c_l_text => k_is); (case k_l_text => k_is); (case a_l_number => k_is); (case l_l_number => k_is); (case c_l_number => k_is); (case k_l_number => k_is); (case a_l_wish => k_is); (case l_l_wish => k_is); (case c_l_wish => k_is); (case k_l_wish => k_is); (case a_l_game => k_is); (case l_l_game => k_is); (case c_l_game => k_is); (case k_l_game => k_is); (case a_p_setters_of => k_is); (case l_p_setters_of => k_is); (case c_p_setters_of => k_is); (case k_p_setters_of => k_is); (case a_p_number_of => k_is); (case l_p_number_of => k_is); (case c_p_number_of => k_is); (case k_p_number_of => k_is); (case a_p_wish_of => k_is); (case l_p_wish_of => k_is); (case c_p_wish_of => k_is); (case k_p_wish_of => k_is); (case a_p_check_wish => k_is); (case l_p_check_wish => k_is); (case c_p_check_wish => k_is); (case k_p_check_wish => k_is); (case a_p_check => k_is); (case l_p_check => k_is); (case c_p_check => k_is); (case k_p_check => k_is); (case a_p_read => k_is); (case l_p_read => k_is); (case c_p_read => k_is); (case k_p_read => k_is); (case a_l_refused => k_is); (case l_l_refused => k_is); (case c_l_refused => k_is); (case k_l_refused => k_is); (case a_l_good => k_is); (case l_l_good => k_is); (case c_l_good => k_is); (case k_l_good => k_is); (case a_l_alike => k_is); (case l_l_alike => k_is); (case c_l_alike => k_is); (case k_l_alike => k_is); (case a_law0 => k_is); (case l_law0 => k_is); (case c_law0 => k_is); (case k_law0 => k_is); (case z_len => k_is); (case z_range => k_is); (case z_min => k_is); (case z_int => k_is); (case z_abs => k_is); (case z_isinstance => k_is); (case z_max => k_is); (case z_tuple => k_is); (case z_str => k_is); (case z_list => k_is); (case z_bool => k_is); (case w_MOST_FIGURES => k_is); (case w_MOST_NUMBERS => k_is); (case w_MOST_LAMPS => k_is); (case w_MOST_WISHES => k_is)
