import PyProof.Rows.All
import Wide.All
import OpenK.AllK
import Wide.FinOn
import Open.SpecLaws
import KE.OsGo
import HandS.ForSpec
import HandS.Comp
import HandS.Iter
import HandS.Walk
import HandS.Conv
import HandS.Deep
import HandS.IsInst
import HandS.CallSlots
import HandS.HeadHook1
import HandS.ExcInit
import HandS.ExcField
import HandS.ExcCtx
import PySem.Challenge.RW_freshbags_s01_answers
import HandS.HeadHook2
import KE.HD4
import KE.OsHead
import OpenK.KQuick
import HandS.SetFor
import HandS.Strs
import HandS.TupSets
import VbcrahSpec
import KE.SortData
import HandS.ExcInitHot
import HandS.RaiseFrom
import HandS.SuiteRaise
import HandS.WordsExc
import KE.KAsSuite
import PyProof.Rows.ChunkEnd
import HandS.CallLocal
import HandS.Spec
import KE.OsShapes
set_option Elab.async false
set_option linter.all false
set_option maxRecDepth 100000
set_option maxHeartbeats 4000000
/-! FbA: my layer over the hand layer: what an expression of the text evaluates to, from a base that knows what is told of values -/
namespace Fb
open PySem PySem.Spec PyProof.Rows L2

/-! ### heaps -/
theorem same_upd {B H : Hp} {p : Addr} {o : HO} (s : Same B H) (h : B p = none) : Same B (upd H p o) := fun a u e => by
  rw [upd_ne (ne_of_none e h)]; exact s a u e
theorem same_new {H : Hp} {p : Addr} {o : HO} (h : H p = none) : Same H (upd H p o) := same_upd (Same.refl H) h
/-- what both know -/
def both (B C : Hp) : Hp := fun a => match B a with | some o => some o | none => C a
theorem both_l {B C : Hp} : Same B (both B C) := fun a o e => by unfold both; rw [e]
theorem both_r {B C H : Hp} (b : Same B H) (c : Same C H) : Same C (both B C) := fun a o e => by
  unfold both
  cases q : B a with
  | none => exact e
  | some u =>
    have h1 := b a u q
    have h2 := c a o e
    rw [h1] at h2
    exact h2
theorem both_le {B C H : Hp} (b : Same B H) (c : Same C H) : Same (both B C) H := fun a o e => by
  unfold both at e
  cases q : B a with
  | none => rw [q] at e; exact c a o e
  | some u => rw [q] at e; cases e; exact b a _ q
theorem both_cases {B C : Hp} {a : Addr} {o : HO} (e : both B C a = some o) : B a = some o ∨ C a = some o := by
  unfold both at e
  cases q : B a with
  | none => rw [q] at e; exact .inr e
  | some _ => rw [q] at e; exact .inl e
/-- the base B grew to B2 while the heap grew from H to H2: all that is new in B2 is new in H2 -/
structure Gr (B H B2 H2 : Hp) : Prop where
  hh : Same H H2
  bb : Same B B2
  bh : Same B2 H2
  fr : ∀ a, H a ≠ none → B a = none → B2 a = none
theorem Gr.refl {B H : Hp} (s : Same B H) : Gr B H B H := ⟨Same.refl H, Same.refl B, s, fun _ _ h => h⟩
theorem Gr.trans {B H B2 H2 B3 H3 : Hp} (g : Gr B H B2 H2) (k : Gr B2 H2 B3 H3) : Gr B H B3 H3 :=
  ⟨g.hh.trans k.hh, g.bb.trans k.bb, k.bh, fun a h n => k.fr a (fun z => h (by
    cases q : H a with
    | none => rfl
    | some o => have := g.hh a o q; rw [z] at this; cases this)) (g.fr a h n)⟩
theorem Gr.new {B H : Hp} {p : Addr} {o : HO} (s : Same B H) (h : H p = none) : Gr B H (upd B p o) (upd H p o) := by
  have hb : B p = none := s.free h
  refine ⟨same_new h, same_new hb, fun a u e => ?_, fun a z n => ?_⟩
  · by_cases ha : a = p
    · subst ha; rw [upd_same] at e ⊢; exact e
    · rw [upd_ne ha] at e ⊢; exact s a u e
  · have ha : a ≠ p := fun q => z (by rw [q]; exact h)
    rw [upd_ne ha]; exact n
/-- from a greater base -/
theorem Gr.wide {B C H B2 H2 : Hp} (g : Gr B H B2 H2) (bc : Same B C) (c : Same C H) : Gr C H (both C B2) H2 :=
  ⟨g.hh, both_l, both_le (c.trans g.hh) g.bh, fun a h n => by
    cases q : both C B2 a with
    | none => rfl
    | some o =>
      rcases both_cases q with z | z
      · rw [n] at z; cases z
      · have := g.fr a h (bc.free n); rw [z] at this; cases this⟩
theorem Gr.wide_in {B C H B2 H2 : Hp} (g : Gr B H B2 H2) (c : Same C H) : Same B2 (both C B2) := both_r (c.trans g.hh) g.bh

/-! ### what is told of a value -/
structure Rp where
  p : V → Hp → Prop
  mo : ∀ v H H', Same H H' → p v H → p v H'
def rV (v : V) : Rp := ⟨fun u _ => u = v, fun _ _ _ _ h => h⟩
abbrev rI (i : Int) : Rp := rV (.int i)
abbrev rN (n : Nat) : Rp := rV (.int (n : Int))
abbrev rB (b : Bool) : Rp := rV (.bl b)
abbrev rS (s : Str) : Rp := rV (.str s)
abbrev rNon : Rp := rV .non
inductive All2 {α : Type} (r : α → V → Prop) : List α → List V → Prop where
  | nil : All2 r [] []
  | cons {x v xs vs} : r x v → All2 r xs vs → All2 r (x :: xs) (v :: vs)
section
variable {α β : Type} {r : α → V → Prop} {xs ys : List α} {vs ws : List V}
theorem All2.imp {q : α → V → Prop} (f : ∀ x v, r x v → q x v) : ∀ {xs : List α} {vs : List V}, All2 r xs vs → All2 q xs vs
  | _, _, .nil => .nil
  | _, _, .cons h t => .cons (f _ _ h) (All2.imp f t)
theorem All2.len : ∀ {xs : List α} {vs : List V}, All2 r xs vs → vs.length = xs.length
  | _, _, .nil => rfl
  | _, _, .cons _ t => congrArg (· + 1) t.len
theorem All2.at : ∀ {xs : List α} {vs : List V} {i : Nat} {x : α}, All2 r xs vs → xs[i]? = some x → ∃ v, vs[i]? = some v ∧ r x v
  | _, _, _, _, .nil, e => by simp at e
  | _, _, 0, _, .cons h _, e => by simp at e; subst e; exact ⟨_, rfl, h⟩
  | _, _, i + 1, x, .cons _ t, e => by
    obtain ⟨v, h1, h2⟩ := All2.at (i := i) (x := x) t (by simpa using e)
    exact ⟨v, by simpa using h1, h2⟩
theorem All2.back : ∀ {xs : List α} {vs : List V} {i : Nat} {v : V}, All2 r xs vs → vs[i]? = some v → ∃ x, xs[i]? = some x ∧ r x v
  | _, _, _, _, .nil, e => by simp at e
  | _, _, 0, _, .cons h _, e => by simp at e; subst e; exact ⟨_, rfl, h⟩
  | _, _, i + 1, v, .cons _ t, e => by
    obtain ⟨x, h1, h2⟩ := All2.back (i := i) (v := v) t (by simpa using e)
    exact ⟨x, by simpa using h1, h2⟩
theorem All2.app : ∀ {xs ys : List α} {vs ws : List V}, All2 r xs vs → All2 r ys ws → All2 r (xs ++ ys) (vs ++ ws)
  | _, _, _, _, .nil, s => s
  | _, _, _, _, .cons h t, s => .cons h (t.app s)
theorem All2.one {x : α} {v : V} (h : r x v) : All2 r [x] [v] := .cons h .nil
theorem All2.set {x : α} {v : V} (h : r x v) : ∀ {xs : List α} {vs : List V} (i : Nat), All2 r xs vs → All2 r (xs.set i x) (vs.set i v)
  | _, _, _, .nil => .nil
  | _, _, 0, .cons _ t => .cons h t
  | _, _, i + 1, .cons q t => .cons q (All2.set h i t)
theorem All2.take : ∀ {xs : List α} {vs : List V} (n : Nat), All2 r xs vs → All2 r (xs.take n) (vs.take n)
  | _, _, 0, _ => .nil
  | _, _, _ + 1, .nil => .nil
  | _, _, n + 1, .cons h t => .cons h (All2.take n t)
theorem All2.drop : ∀ {xs : List α} {vs : List V} (n : Nat), All2 r xs vs → All2 r (xs.drop n) (vs.drop n)
  | _, _, 0, h => h
  | _, _, _ + 1, .nil => .nil
  | _, _, n + 1, .cons _ t => All2.drop n t
theorem All2.map {f : β → α} : ∀ {xs : List β} {vs : List V}, All2 (fun x => r (f x)) xs vs → All2 r (xs.map f) vs
  | _, _, .nil => .nil
  | _, _, .cons h t => .cons h t.map
theorem All2.unmap {f : β → α} : ∀ {xs : List β} {vs : List V}, All2 r (xs.map f) vs → All2 (fun x => r (f x)) xs vs
  | [], _, h => by cases h; exact .nil
  | x :: xs, _, h => by cases h with | cons h t => exact .cons h t.unmap
theorem All2.eq_map {f : α → V} : ∀ {xs : List α} {vs : List V}, All2 (fun x v => v = f x) xs vs → vs = xs.map f
  | _, _, .nil => rfl
  | _, _, .cons h t => by rw [h, t.eq_map]; rfl
theorem All2.of_map (f : α → V) : ∀ (xs : List α), All2 (fun x v => v = f x) xs (xs.map f)
  | [] => .nil
  | _ :: xs => .cons rfl (All2.of_map f xs)
end
/-- the most items of a list that is told of here -/
def LB : Nat := 1000000
theorem LB_line : LB + LB ≤ sizeLine := by rw [sizeLine_eq]; decide
/-- a list of such -/
def rL {α : Type} (r : α → Rp) (xs : List α) : Rp := ⟨fun v H => ∃ p vs, v = .ref p ∧ H p = some (.lst vs) ∧ xs.length ≤ LB ∧ All2 (fun x v => (r x).p v H) xs vs,
  fun v H H' s ⟨p, vs, e, h, l, a⟩ => ⟨p, vs, e, s _ _ h, l, a.imp fun x v q => (r x).mo v H H' s q⟩⟩
/-- values, one told of each -/
def Vs : List Rp → List V → Hp → Prop
  | [], [], _ => True
  | r :: rs, v :: vs, H => r.p v H ∧ Vs rs vs H
  | _, _, _ => False
theorem Vs.mo : ∀ {rs : List Rp} {vs : List V} {H H' : Hp}, Same H H' → Vs rs vs H → Vs rs vs H'
  | [], [], _, _, _, _ => True.intro
  | r :: rs, v :: vs, _, _, s, h => ⟨r.mo _ _ _ s h.1, Vs.mo s h.2⟩
  | [], _ :: _, _, _, _, h => h
  | _ :: _, [], _, _, _, h => h
theorem Vs.len : ∀ {rs : List Rp} {vs : List V} {H : Hp}, Vs rs vs H → vs.length = rs.length
  | [], [], _, _ => rfl
  | r :: rs, v :: vs, _, h => congrArg (· + 1) (Vs.len h.2)
  | [], _ :: _, _, h => h.elim
  | _ :: _, [], _, h => h.elim
theorem Vs.one {r : Rp} {vs : List V} {H : Hp} (h : Vs [r] vs H) : ∃ v, vs = [v] ∧ r.p v H := by
  match vs, h with
  | [v], h => exact ⟨v, rfl, h.1⟩
  | _ :: _ :: _, h => exact h.2.elim
theorem Vs.two {r q : Rp} {vs : List V} {H : Hp} (h : Vs [r, q] vs H) : ∃ v u, vs = [v, u] ∧ r.p v H ∧ q.p u H := by
  match vs, h with
  | [v, u], h => exact ⟨v, u, rfl, h.1, h.2.1⟩
  | [_], h => exact h.2.elim
  | _ :: _ :: _ :: _, h => exact h.2.2.elim
/-- a tuple of such -/
def rT (rs : List Rp) : Rp := ⟨fun v H => ∃ p vs, v = .ref p ∧ H p = some (.tup vs) ∧ Vs rs vs H, fun _ _ _ s ⟨p, vs, e, h, a⟩ => ⟨p, vs, e, s _ _ h, a.mo s⟩⟩
/-- new behind B -/
def rF (B : Hp) (r : Rp) : Rp := ⟨fun v H => r.p v H ∧ ∃ p, v = .ref p ∧ B p = none, fun v H H' s ⟨h, q⟩ => ⟨r.mo v H H' s h, q⟩⟩
def rOr (r q : Rp) : Rp := ⟨fun v H => r.p v H ∨ q.p v H, fun v H H' s h => h.imp (r.mo v H H' s) (q.mo v H H' s)⟩

/-! ### the text itself as a reading -/
section
variable {X : Cx} {e : Expr} {σ : L2.St} {H : Hp}
def WE (X : Cx) (e : Expr) : TE := fun σ H Q => ∀ (pins : List (Addr × Obj)) (s : Shared), Inv X pins σ H s → wpAny (model X.prog X.w) X.A (eval e X.env) (EP X pins σ Q) X.xe s
def WT (X : Cx) (e : Expr) : TT := fun σ H Q => ∀ (pins : List (Addr × Obj)) (s : Shared), Inv X pins σ H s → wpAny (model X.prog X.w) X.A (isTrue e X.env (eval e X.env)) (TP X pins σ Q) X.xe s
def WA (X : Cx) (es : List Expr) : TA := fun σ H Q => ∀ (pos : Pos) (pins : List (Addr × Obj)) (s : Shared), Inv X pins σ H s → wpAny (model X.prog X.w) X.A (spliced (backTo pos (starEach es X.env))) (AP X pins σ Q) X.xe s
def WS (X : Cx) (st : Stmt) : TS := fun D σ H => ∀ (pins : List (Addr × Obj)) (s : Shared), Inv X pins σ H s → wpAny (model X.prog X.w) X.A (exec st X.env) (SP X pins D) X.xe s
def WB (X : Cx) (st : List Stmt) : TS := fun D σ H => ∀ (pins : List (Addr × Obj)) (s : Shared), Inv X pins σ H s → wpAny (model X.prog X.w) X.A (execs st X.env) (SP X pins D) X.xe s
theorem we_pe : PE X e (WE X e) := ⟨fun pins s σ H Q I h => h pins s I⟩
theorem wt_pt : PT X e (WT X e) := ⟨fun pins s σ H Q I h => h pins s I⟩
theorem wa_pa {es : List Expr} : PA X es (WA X es) := ⟨fun pos pins s σ H Q I h => h pos pins s I⟩
theorem ws_ps {st : Stmt} : PS X st (WS X st) := ⟨fun pins s σ H Q I h => h pins s I⟩
theorem wb_pss {st : List Stmt} : PSs X st (WB X st) := ⟨fun pins s σ H Q I h => h pins s I⟩
theorem we_of {t : TE} {Q : VK} (p : PE X e t) (h : t σ H Q) : WE X e σ H Q := fun pins s I => p.run pins s σ H Q I h
theorem wt_of {t : TT} {Q : Bool → Hp → Prop} (p : PT X e t) (h : t σ H Q) : WT X e σ H Q := fun pins s I => p.run pins s σ H Q I h
theorem wa_of {t : TA} {es : List Expr} {Q : List V → Hp → Prop} (p : PA X es t) (h : t σ H Q) : WA X es σ H Q := fun pos pins s I => p.run pos pins s σ H Q I h
theorem ws_of {st : Stmt} {t : TS} {D : Ends} (p : PS X st t) (h : t D σ H) : WS X st D σ H := fun pins s I => p.run pins s σ H D I h
theorem wb_of {st : List Stmt} {t : TS} {D : Ends} (p : PSs X st t) (h : t D σ H) : WB X st D σ H := fun pins s I => p.run pins s σ H D I h
end

/-! ### expressions -/
/-- from the base B: whatever stands besides, e gives a v of which R is told, from a base that grew -/
def Ev (X : Cx) (e : Expr) (σ : L2.St) (B : Hp) (R : Rp) : Prop := ∀ H, Same B H → ∀ Q : VK, (∀ v B2 H2, Gr B H B2 H2 → R.p v B2 → Q v H2) → WE X e σ H Q
/-- .. nothing is made on the way -/
def EvP (X : Cx) (e : Expr) (σ : L2.St) (B : Hp) (R : Rp) : Prop := ∃ v, R.p v B ∧ ∀ H, Same B H → ∀ Q : VK, Q v H → WE X e σ H Q
def EvT (X : Cx) (e : Expr) (σ : L2.St) (B : Hp) (b : Bool) : Prop := ∀ H, Same B H → ∀ Q : Bool → Hp → Prop, (∀ B2 H2, Gr B H B2 H2 → Q b H2) → WT X e σ H Q
def EvA (X : Cx) (es : List Expr) (σ : L2.St) (B : Hp) (Rs : List Rp) : Prop := ∀ H, Same B H → ∀ Q : List V → Hp → Prop, (∀ vs B2 H2, Gr B H B2 H2 → Vs Rs vs B2 → Q vs H2) → WA X es σ H Q
section
variable {X : Cx} {a b c e : Expr} {es : List Expr} {σ : L2.St} {B C : Hp} {R Ra Rb Rc : Rp} {Rs : List Rp} {pos : Pos} {α β : Type}
theorem EvP.ev (h : EvP X e σ B R) : Ev X e σ B R := fun H s Q k => by
  obtain ⟨v, r, f⟩ := h
  exact f H s Q (k v B H (Gr.refl s) r)
theorem Ev.imp (h : Ev X e σ B R) (f : ∀ v H, R.p v H → Ra.p v H) : Ev X e σ B Ra := fun H s Q k => h H s Q fun v B2 H2 g r => k v B2 H2 g (f v B2 r)
theorem EvP.imp (h : EvP X e σ B R) (f : ∀ v H, R.p v H → Ra.p v H) : EvP X e σ B Ra := by
  obtain ⟨v, r, k⟩ := h
  exact ⟨v, f v B r, k⟩
theorem Ev.mo (h : Ev X e σ B R) (bc : Same B C) : Ev X e σ C R := fun H s Q k => h H (bc.trans s) Q fun v B2 H2 g r =>
  k v _ H2 (g.wide bc s) (R.mo v _ _ (g.wide_in s) r)
theorem EvP.mo (h : EvP X e σ B R) (bc : Same B C) : EvP X e σ C R := by
  obtain ⟨v, r, k⟩ := h
  exact ⟨v, R.mo v _ _ bc r, fun H s => k H (bc.trans s)⟩
theorem EvT.mo {p : Bool} (h : EvT X e σ B p) (bc : Same B C) : EvT X e σ C p := fun H s Q k => h H (bc.trans s) Q fun B2 H2 g => k _ H2 (g.wide bc s)
theorem EvA.mo (h : EvA X es σ B Rs) (bc : Same B C) : EvA X es σ C Rs := fun H s Q k => h H (bc.trans s) Q fun vs B2 H2 g r =>
  k vs _ H2 (g.wide bc s) (r.mo (g.wide_in s))
theorem EvT.is {p q : Bool} (h : EvT X e σ B p) (z : p = q) : EvT X e σ B q := z ▸ h
theorem Ev.is {q : Rp} (h : Ev X e σ B R) (z : R = q) : Ev X e σ B q := z ▸ h
theorem EvP.is {q : Rp} (h : EvP X e σ B R) (z : R = q) : EvP X e σ B q := z ▸ h

/-! names, constants -/
theorem ep_var (i : Nat) {x : Str} {v : V} {pos : Pos} (hs : σ[i]? = some (some v)) (r : R.p v B) (hN : X.N[i]? = some x := by rfl) (hv : Vis X.env.scope x := by first | exact Or.inl rfl | exact Or.inr (Or.inl rfl) | exact Or.inr (Or.inr rfl))
    (hd : (x == ("__debug__" : Str)) = false := by decide) (hcd : (x == ("__classdict__" : Str)) = false := by decide) : EvP X (.Name x pos) σ B R :=
  ⟨v, r, fun H s Q q => we_of (pv i hN hv hd hcd) ⟨v, hs, q⟩⟩
theorem ep_int {i : Int} {j pos} : EvP X (.Constant (.int i) j pos) σ B (rI i) := ⟨_, rfl, fun H s Q q => we_of pe_int q⟩
theorem ep_bl {i : Bool} {j pos} : EvP X (.Constant (.bool i) j pos) σ B (rB i) := ⟨_, rfl, fun H s Q q => we_of pe_bl q⟩
theorem ep_str {i : Str} {j pos} : EvP X (.Constant (.str i) j pos) σ B (rS i) := ⟨_, rfl, fun H s Q q => we_of pe_str q⟩
theorem ep_glob {x : Str} {v : V} {u : Value} {pos : Pos} (hm : X.mg x = some u) (r : RelV v u) (hg : Gl X x := by rfl) (hd : (x == ("__debug__" : Str)) = false := by decide) : EvP X (.Name x pos) σ B (rV v) :=
  ⟨v, rfl, fun H s Q q => we_of (pe_glob hg hm r hd) q⟩
theorem ep_cI {x : Str} {i : Int} {pos : Pos} (hm : ∃ t, X.mg x = some (.int i t)) (hg : Gl X x := by rfl) (hd : (x == ("__debug__" : Str)) = false := by decide) : EvP X (.Name x pos) σ B (rI i) := by
  obtain ⟨t, hm⟩ := hm
  exact ep_glob hm ⟨t, rfl⟩ hg hd

/-! two in a row -/
theorem ev_two {r2 : R2} (ha : Ev X a σ B Ra) (hb : Ev X b σ B Rb) (hr : ∀ x y B2 H2, Same B B2 → Same B2 H2 → Ra.p x B2 → Rb.p y B2 → ∀ Q : VK, (∀ v B3 H3, Gr B2 H2 B3 H3 → R.p v B3 → Q v H3) → r2 x y H2 Q)
    {H : Hp} (s : Same B H) {Q : VK} (k : ∀ v B2 H2, Gr B H B2 H2 → R.p v B2 → Q v H2) : WE X a σ H fun x H1 => WE X b σ H1 fun y H2 => r2 x y H2 Q :=
  ha H s _ fun x B2 H2 g r => (hb.mo g.bb) H2 g.bh _ fun y B3 H3 g3 r3 => hr x y B3 H3 (g.bb.trans g3.bb) g3.bh (Ra.mo _ _ _ g3.bb r) r3 Q fun v B4 H4 g4 r4 => k v B4 H4 ((g.trans g3).trans g4) r4
theorem ev_bin {op : Operator} {r2 : R2} (ho : OpR X (binaryOp op) r2) (ha : Ev X a σ B Ra) (hb : Ev X b σ B Rb)
    (hr : ∀ x y B2 H2, Same B B2 → Same B2 H2 → Ra.p x B2 → Rb.p y B2 → ∀ Q : VK, (∀ v B3 H3, Gr B2 H2 B3 H3 → R.p v B3 → Q v H3) → r2 x y H2 Q) : Ev X (.BinOp a op b pos) σ B R :=
  fun H s Q k => we_of (pe_op ho we_pe we_pe) (ev_two ha hb hr s k)
theorem ev_int2 {op : Operator} {g : Int → Int → Int} {i j : Int} (ho : OpR X (binaryOp op) (rI0 fun i j => .int (g i j))) (ha : Ev X a σ B (rI i)) (hb : Ev X b σ B (rI j)) : Ev X (.BinOp a op b pos) σ B (rI (g i j)) :=
  ev_bin ho ha hb fun x y B2 H2 _ s e1 e2 Q k => ⟨i, j, e1, e2, k _ B2 H2 (Gr.refl s) rfl⟩
theorem ev_add {i j : Int} (ha : Ev X a σ B (rI i)) (hb : Ev X b σ B (rI j)) : Ev X (.BinOp a .Add b pos) σ B (rI (i + j)) := ev_int2 op_add ha hb
theorem ev_sub {i j : Int} (ha : Ev X a σ B (rI i)) (hb : Ev X b σ B (rI j)) : Ev X (.BinOp a .Sub b pos) σ B (rI (i - j)) := ev_int2 op_sub ha hb
theorem ev_bitand {i j : Int} (ha : Ev X a σ B (rI i)) (hb : Ev X b σ B (rI j)) : Ev X (.BinOp a .BitAnd b pos) σ B (rI (Builtin.bitAnd i j)) := ev_int2 op_and ha hb
theorem ev_intC {op : Operator} {g : Int → Int → Int} {Cn : Int → Int → Prop} {i j : Int} (ho : OpR X (binaryOp op) (L2.rI Cn fun i j => .int (g i j))) (ha : Ev X a σ B (Fb.rI i)) (hb : Ev X b σ B (Fb.rI j)) (hc : Cn i j) : Ev X (.BinOp a op b pos) σ B (Fb.rI (g i j)) :=
  ev_bin ho ha hb fun x y B2 H2 _ s e1 e2 Q k => ⟨i, j, e1, e2, hc, k _ B2 H2 (Gr.refl s) rfl⟩
theorem ev_mul {i j : Int} (ha : Ev X a σ B (rI i)) (hb : Ev X b σ B (rI j)) (hc : CMul i j) : Ev X (.BinOp a .Mult b pos) σ B (rI (i * j)) := ev_intC op_mul ha hb hc
theorem ev_mod {i j : Int} (ha : Ev X a σ B (rI i)) (hb : Ev X b σ B (rI j)) (hc : 0 < j) : Ev X (.BinOp a .Mod b pos) σ B (rI (i % j)) := ev_intC op_mod ha hb hc
theorem ev_shl {i j : Int} (ha : Ev X a σ B (rI i)) (hb : Ev X b σ B (rI j)) (hc : CPow i j) : Ev X (.BinOp a .LShift b pos) σ B (rI (i * 2 ^ j.toNat)) := ev_intC (g := fun i j => i * 2 ^ j.toNat) op_shl ha hb hc
theorem ev_shr {i j : Int} (ha : Ev X a σ B (rI i)) (hb : Ev X b σ B (rI j)) (hc : 0 ≤ j) : Ev X (.BinOp a .RShift b pos) σ B (rI (i / 2 ^ j.toNat)) := ev_intC (g := fun i j => i / 2 ^ j.toNat) op_shr ha hb hc
theorem ev_neg {i : Int} (ha : Ev X a σ B (rI i)) : Ev X (.UnaryOp .USub a pos) σ B (rI (-i)) := fun H s Q k =>
  we_of (pe_un un_neg we_pe) (ha H s _ fun x B2 H2 g e => ⟨i, e, k _ B2 H2 g rfl⟩)

/-! comparisons -/
theorem ev_cmp {op : CmpOp} {r2 : R2} {p : Bool} (ho : OpR X (compareOp op) r2) (hm : behindInMarks op b = false) (ha : Ev X a σ B Ra) (hb : Ev X b σ B Rb)
    (hr : ∀ x y B2 H2, Same B B2 → Same B2 H2 → Ra.p x B2 → Rb.p y B2 → ∀ Q : VK, Q (.bl p) H2 → r2 x y H2 Q) : Ev X (.Compare a [op] [b] pos) σ B (rB p) := fun H s Q k =>
  we_of (pe_cmpR ho we_pe we_pe hm) (ev_two (R := rB p) ha hb (fun x y B2 H2 s1 s2 r1 r2 Q k => hr x y B2 H2 s1 s2 r1 r2 Q (k _ B2 H2 (Gr.refl s2) rfl)) s k)
theorem et_cmp {op : CmpOp} {r2 : R2} {p : Bool} (ho : OpR X (compareOp op) r2) (hm : behindInMarks op b = false) (ha : Ev X a σ B Ra) (hb : Ev X b σ B Rb)
    (hr : ∀ x y B2 H2, Same B B2 → Same B2 H2 → Ra.p x B2 → Rb.p y B2 → ∀ Q : VK, Q (.bl p) H2 → r2 x y H2 Q) : EvT X (.Compare a [op] [b] pos) σ B p := fun H s Q k =>
  wt_of (pt_cmpR ho we_pe we_pe hm) (ev_two (R := rB p) ha hb (fun x y B2 H2 s1 s2 r1 r2 Q k => hr x y B2 H2 s1 s2 r1 r2 Q (k _ B2 H2 (Gr.refl s2) rfl)) s fun v B2 H2 g e => ⟨p, e, k B2 H2 g⟩)
theorem cmpI (g : Int → Int → Bool) {i j : Int} {B : Hp} : ∀ x y B2 H2, Same B B2 → Same B2 H2 → (rI i).p x B2 → (rI j).p y B2 → ∀ Q : VK, Q (.bl (g i j)) H2 → (rI0 fun i j => V.bl (g i j)) x y H2 Q :=
  fun _ _ _ _ _ _ e1 e2 _ q => ⟨i, j, e1, e2, q⟩
theorem ev_lt {i j : Int} (ha : Ev X a σ B (rI i)) (hb : Ev X b σ B (rI j)) : Ev X (.Compare a [.Lt] [b] pos) σ B (rB (decide (i < j))) := ev_cmp op_lt (nomark _) ha hb (cmpI fun i j => decide (i < j))
theorem ev_le {i j : Int} (ha : Ev X a σ B (rI i)) (hb : Ev X b σ B (rI j)) : Ev X (.Compare a [.LtE] [b] pos) σ B (rB (decide (i ≤ j))) := ev_cmp op_le (nomark _) ha hb (cmpI fun i j => decide (i ≤ j))
theorem ev_gt {i j : Int} (ha : Ev X a σ B (rI i)) (hb : Ev X b σ B (rI j)) : Ev X (.Compare a [.Gt] [b] pos) σ B (rB (decide (j < i))) := ev_cmp op_gt (nomark _) ha hb (cmpI (fun i j => decide (j < i)))
theorem ev_ge {i j : Int} (ha : Ev X a σ B (rI i)) (hb : Ev X b σ B (rI j)) : Ev X (.Compare a [.GtE] [b] pos) σ B (rB (decide (j ≤ i))) := ev_cmp op_ge (nomark _) ha hb (cmpI (fun i j => decide (j ≤ i)))
theorem et_lt {i j : Int} (ha : Ev X a σ B (rI i)) (hb : Ev X b σ B (rI j)) : EvT X (.Compare a [.Lt] [b] pos) σ B (decide (i < j)) := et_cmp op_lt (nomark _) ha hb (cmpI fun i j => decide (i < j))
theorem et_le {i j : Int} (ha : Ev X a σ B (rI i)) (hb : Ev X b σ B (rI j)) : EvT X (.Compare a [.LtE] [b] pos) σ B (decide (i ≤ j)) := et_cmp op_le (nomark _) ha hb (cmpI fun i j => decide (i ≤ j))
theorem et_gt {i j : Int} (ha : Ev X a σ B (rI i)) (hb : Ev X b σ B (rI j)) : EvT X (.Compare a [.Gt] [b] pos) σ B (decide (j < i)) := et_cmp op_gt (nomark _) ha hb (cmpI (fun i j => decide (j < i)))
theorem et_ge {i j : Int} (ha : Ev X a σ B (rI i)) (hb : Ev X b σ B (rI j)) : EvT X (.Compare a [.GtE] [b] pos) σ B (decide (j ≤ i)) := et_cmp op_ge (nomark _) ha hb (cmpI (fun i j => decide (j ≤ i)))
theorem dec_vi (i j : Int) : decide (V.int i = V.int j) = decide (i = j) := by
  by_cases h : i = j
  · subst h; simp
  · rw [decide_eq_false h, decide_eq_false fun z => h (V.int.inj z)]
theorem cmpE {i j : Int} {B : Hp} : ∀ x y B2 H2, Same B B2 → Same B2 H2 → (rI i).p x B2 → (rI j).p y B2 → ∀ Q : VK, Q (.bl (decide (i = j))) H2 → rEq x y H2 Q :=
  fun _ _ _ _ _ _ e1 e2 _ q => by cases e1; cases e2; exact ⟨rfl, by rw [dec_vi]; exact q⟩
theorem cmpN {i j : Int} {B : Hp} : ∀ x y B2 H2, Same B B2 → Same B2 H2 → (rI i).p x B2 → (rI j).p y B2 → ∀ Q : VK, Q (.bl (!decide (i = j))) H2 → rNe x y H2 Q :=
  fun _ _ _ _ _ _ e1 e2 _ q => by cases e1; cases e2; exact ⟨rfl, by rw [dec_vi]; exact q⟩
theorem ev_eq {i j : Int} (ha : Ev X a σ B (rI i)) (hb : Ev X b σ B (rI j)) : Ev X (.Compare a [.Eq] [b] pos) σ B (rB (decide (i = j))) := ev_cmp op_eq (nomark _) ha hb cmpE
theorem et_eq {i j : Int} (ha : Ev X a σ B (rI i)) (hb : Ev X b σ B (rI j)) : EvT X (.Compare a [.Eq] [b] pos) σ B (decide (i = j)) := et_cmp op_eq (nomark _) ha hb cmpE
theorem ev_ne {i j : Int} (ha : Ev X a σ B (rI i)) (hb : Ev X b σ B (rI j)) : Ev X (.Compare a [.NotEq] [b] pos) σ B (rB (!decide (i = j))) := ev_cmp op_ne (nomark _) ha hb cmpN
theorem et_ne {i j : Int} (ha : Ev X a σ B (rI i)) (hb : Ev X b σ B (rI j)) : EvT X (.Compare a [.NotEq] [b] pos) σ B (!decide (i = j)) := et_cmp op_ne (nomark _) ha hb cmpN

/-! truth -/
theorem et_val {p : Bool} (h : Ev X e σ B (rB p)) (he : ∀ whole, isTrue e X.env whole = (do let v ← whole; standAt e.pos; holding [v] (truthy v)) := by intro _; rfl) : EvT X e σ B p := fun H s Q k =>
  wt_of (pt_val we_pe he) (h H s _ fun v B2 H2 g e => ⟨p, e, k B2 H2 g⟩)
theorem et_not {p : Bool} (h : EvT X a σ B p) : EvT X (.UnaryOp .Not a pos) σ B (!p) := fun H s Q k => wt_of (pt_not wt_pt) (h H s _ fun B2 H2 g => k B2 H2 g)
theorem et_and {p q : Bool} (h1 : EvT X a σ B p) (h2 : p = true → EvT X b σ B q) : EvT X (.BoolOp .And [a, b] pos) σ B (p && q) := fun H s Q k =>
  wt_of (pw_and wt_pt (pw_and1 wt_pt)).pt (h1 H s _ fun B2 H2 g => by
    cases p with
    | true => exact iteT ((h2 rfl).mo g.bb H2 g.bh _ fun B3 H3 g3 => k B3 H3 (g.trans g3))
    | false => exact iteF (k B2 H2 g))
theorem et_or {p q : Bool} (h1 : EvT X a σ B p) (h2 : p = false → EvT X b σ B q) : EvT X (.BoolOp .Or [a, b] pos) σ B (p || q) := fun H s Q k =>
  wt_of (pw_or wt_pt (pw_or1 wt_pt)).pt (h1 H s _ fun B2 H2 g => by
    cases p with
    | true => exact iteT (k B2 H2 g)
    | false => exact iteF ((h2 rfl).mo g.bb H2 g.bh _ fun B3 H3 g3 => k B3 H3 (g.trans g3)))
theorem et_or3 {p q r : Bool} (h1 : EvT X a σ B p) (h2 : p = false → EvT X b σ B q) (h3 : p = false → q = false → EvT X c σ B r) : EvT X (.BoolOp .Or [a, b, c] pos) σ B (p || (q || r)) := fun H s Q k =>
  wt_of (pw_or wt_pt (pw_or wt_pt (pw_or1 wt_pt))).pt (h1 H s _ fun B2 H2 g => by
    cases p with
    | true => exact iteT (k B2 H2 g)
    | false => exact iteF ((h2 rfl).mo g.bb H2 g.bh _ fun B3 H3 g3 => by
        cases q with
        | true => exact iteT (k B3 H3 (g.trans g3))
        | false => exact iteF ((h3 rfl rfl).mo (g.trans g3).bb H3 g3.bh _ fun B4 H4 g4 => k B4 H4 ((g.trans g3).trans g4))))
theorem ev_not {p : Bool} (h : Ev X a σ B (rB p)) : Ev X (.UnaryOp .Not a pos) σ B (rB (!p)) := fun H s Q k => we_of (pe_not we_pe) (h H s _ fun v B2 H2 g e => ⟨p, e, k _ B2 H2 g rfl⟩)
theorem ev_and {p q : Bool} (h1 : Ev X a σ B (rB p)) (h2 : p = true → Ev X b σ B (rB q)) : Ev X (.BoolOp .And [a, b] pos) σ B (rB (p && q)) := fun H s Q k =>
  we_of (pe_and we_pe (pe_one we_pe)) (h1 H s _ fun v B2 H2 g e => ⟨p, e, by
    cases p with
    | true => exact iteT ((h2 rfl).mo g.bb H2 g.bh _ fun v B3 H3 g3 e3 => k v B3 H3 (g.trans g3) e3)
    | false => exact iteF (k _ B2 H2 g rfl)⟩)
theorem ev_or {p q : Bool} (h1 : Ev X a σ B (rB p)) (h2 : p = false → Ev X b σ B (rB q)) : Ev X (.BoolOp .Or [a, b] pos) σ B (rB (p || q)) := fun H s Q k =>
  we_of (pe_or we_pe (pe_one we_pe)) (h1 H s _ fun v B2 H2 g e => ⟨p, e, by
    cases p with
    | true => exact iteT (k _ B2 H2 g rfl)
    | false => exact iteF ((h2 rfl).mo g.bb H2 g.bh _ fun v B3 H3 g3 e3 => k v B3 H3 (g.trans g3) e3)⟩)
theorem ev_ite {p : Bool} (h : EvT X c σ B p) (h1 : p = true → Ev X a σ B R) (h2 : p = false → Ev X b σ B R) : Ev X (.IfExp c a b pos) σ B R := fun H s Q k =>
  we_of (pe_ifExp wt_pt we_pe we_pe) (h H s _ fun B2 H2 g => by
    cases p with
    | true => exact iteT ((h1 rfl).mo g.bb H2 g.bh _ fun v B3 H3 g3 e3 => k v B3 H3 (g.trans g3) e3)
    | false => exact iteF ((h2 rfl).mo g.bb H2 g.bh _ fun v B3 H3 g3 e3 => k v B3 H3 (g.trans g3) e3))
/-- 0 < n <= m -/
theorem ev_chain {i j l : Int} (ha : Ev X a σ B (rI i)) (hb : Ev X b σ B (rI j)) (hc : Ev X c σ B (rI l))
    (he : PE X (.Compare a [.Lt, .LtE] [b, c] pos) (tChain (rI0 fun i j => .bl (decide (i < j))) (rI0 fun i j => .bl (decide (i ≤ j))) (WE X a) (WE X b) (WE X c))) : Ev X (.Compare a [.Lt, .LtE] [b, c] pos) σ B (rB (decide (i < j) && decide (j ≤ l))) := fun H s Q k =>
  we_of he (ha H s _ fun x B2 H2 g r => (hb.mo g.bb) H2 g.bh _ fun y B3 H3 g3 r3 => ⟨i, j, r, r3, decide (i < j), rfl, by
    cases hd : decide (i < j) with
    | true => exact iteT (hc.mo (g.trans g3).bb H3 g3.bh _ fun z B4 H4 g4 r4 => ⟨j, l, r3, r4, k _ B4 H4 ((g.trans g3).trans g4) (by rw [hd]; rfl)⟩)
    | false => exact iteF (k _ B3 H3 (g.trans g3) (by rw [hd]; rfl))⟩)

/-! arguments -/
theorem ea_nil : EvA X [] σ B [] := fun H s Q k => wa_of pa_nil (k [] B H (Gr.refl s) True.intro)
theorem ea_cons (h : Ev X e σ B R) (t : EvA X es σ B Rs) (hs : starEach (e :: es) X.env = (false, eval e X.env) :: starEach es X.env := by rfl) : EvA X (e :: es) σ B (R :: Rs) := fun H s Q k =>
  wa_of (pa_cons we_pe wa_pa hs) (h H s _ fun v B2 H2 g r => (t.mo g.bb) H2 g.bh _ fun vs B3 H3 g3 r3 => k (v :: vs) B3 H3 (g.trans g3) ⟨R.mo _ _ _ g3.bb r, r3⟩)
theorem ea_one (h : Ev X e σ B R) (hs : starEach (e :: []) X.env = (false, eval e X.env) :: starEach [] X.env := by rfl) : EvA X [e] σ B [R] := ea_cons h ea_nil hs

/-! displays -/
theorem ev_tup {k1} (h : EvA X es σ B Rs) (hl : Rs.length ≤ LB := by decide) : Ev X (.Tuple es k1 pos) σ B (rT Rs) := fun H s Q k =>
  we_of (pe_tup wa_pa) (h H s _ fun vs B2 H2 g r => ⟨by rw [r.len]; exact Nat.le_trans hl (Nat.le_trans (Nat.le_add_right _ _) LB_line), fun p hp => by
    have g3 := Gr.new (o := .tup vs) g.bh hp
    exact k _ _ _ (g.trans g3) ⟨p, vs, rfl, upd_same, r.mo g3.bb⟩⟩)
theorem vs_map {r : α → Rp} : ∀ {xs : List α} {vs : List V} {H : Hp}, Vs (xs.map r) vs H → All2 (fun x v => (r x).p v H) xs vs
  | [], [], _, _ => .nil
  | x :: xs, v :: vs, _, h => .cons h.1 (vs_map h.2)
  | [], _ :: _, _, h => h.elim
  | _ :: _, [], _, h => h.elim
/-- a list that is new -/
def rLF (B : Hp) (r : α → Rp) (xs : List α) : Rp := rF B (rL r xs)
theorem mk_list {r : α → Rp} {xs : List α} {B H B2 H2 : Hp} {vs : List V} {p : Addr} (g : Gr B H B2 H2) (hp : H2 p = none) (hl : xs.length ≤ LB) (h : All2 (fun x v => (r x).p v B2) xs vs) :
    Gr B H (upd B2 p (.lst vs)) (upd H2 p (.lst vs)) ∧ (rLF B r xs).p (.ref p) (upd B2 p (.lst vs)) := by
  have g3 := Gr.new (o := .lst vs) g.bh hp
  exact ⟨g.trans g3, ⟨p, vs, rfl, upd_same, hl, h.imp fun x v q => (r x).mo v _ _ g3.bb q⟩, p, rfl, (g.bb.free (g.bh.free hp))⟩
theorem ef_list {r : α → Rp} {xs : List α} (h : EvA X es σ B (xs.map r)) (hl : xs.length ≤ LB := by decide) : Ev X (.List es pos) σ B (rLF B r xs) := fun H s Q k =>
  we_of (pe_lst wa_pa) (h H s _ fun vs B2 H2 g t => by
    have a2 := vs_map t
    refine ⟨by rw [a2.len]; exact Nat.le_trans hl (Nat.le_trans (Nat.le_add_right _ _) LB_line), fun p hp => ?_⟩
    obtain ⟨g4, r4⟩ := mk_list g hp hl a2
    exact k _ _ _ g4 r4)
theorem Ev.unF {r : Rp} (h : Ev X e σ B (rF C r)) : Ev X e σ B r := h.imp fun _ _ q => q.1
theorem ev_list {r : α → Rp} {xs : List α} (h : EvA X es σ B (xs.map r)) (hl : xs.length ≤ LB := by decide) : Ev X (.List es pos) σ B (rL r xs) := (ef_list h hl).unF
theorem sq_of {K : PySem.W.Frag} {B H : Hp} {p : Addr} {vs : List V} (s : Same B H) (h : B p = some (.lst vs)) : SqL K H p vs := SqL.of (s _ _ h)
theorem ef_cat {r : α → Rp} {xs ys : List α} (ha : Ev X a σ B (rL r xs)) (hb : Ev X b σ B (rL r ys)) (hl : xs.length + ys.length ≤ LB) : Ev X (.BinOp a .Add b pos) σ B (rLF B r (xs ++ ys)) :=
  ev_bin op_cat ha hb fun x y B2 H2 s0 s ⟨p, vs, e1, h1, l1, a1⟩ ⟨q, ws, e2, h2, l2, a2⟩ Q k => ⟨p, q, vs, ws, e1, e2, s _ _ h1, s _ _ h2, by rw [a1.len, a2.len]; exact Nat.le_trans hl (Nat.le_trans (Nat.le_add_right _ _) LB_line), fun z hz => by
    obtain ⟨g4, r4⟩ := mk_list (r := r) (xs := xs ++ ys) (Gr.refl s) hz (by rw [List.length_append]; exact hl) (a1.app a2)
    exact k _ _ _ g4 ⟨r4.1, z, rfl, s0.free (s.free hz)⟩⟩
theorem ev_cat {r : α → Rp} {xs ys : List α} (ha : Ev X a σ B (rL r xs)) (hb : Ev X b σ B (rL r ys)) (hl : xs.length + ys.length ≤ LB) : Ev X (.BinOp a .Add b pos) σ B (rL r (xs ++ ys)) := (ef_cat ha hb hl).unF
end
end Fb
/-! FbB: calls, walks, comprehensions, statements -/
namespace Fb
open PySem PySem.Spec PyProof.Rows L2

/-! ### what a def promises -/
def spP {α : Type} (pre : α → Prop) (args : α → List Rp) (ret : α → Rp) : Sp := fun vs H Q _ => ∃ a B, Same B H ∧ pre a ∧ Vs (args a) vs B ∧ ∀ v B2 H2, Gr B H B2 H2 → (ret a).p v B2 → Q v H2
/-- .. what it hands back is new -/
def spN {α : Type} (pre : α → Prop) (args : α → List Rp) (ret : α → Rp) : Sp := fun vs H Q _ => ∃ a B, Same B H ∧ pre a ∧ Vs (args a) vs B ∧ ∀ v B2 H2, Gr B H B2 H2 → (rF B (ret a)).p v B2 → Q v H2
/-- an own error: its class, its fields -/
abbrev XF := Addr × List (Str × V)
def Ends1 (E : XK) (H : Hp) (e : XF) : Prop := ∀ d H2, Same H H2 → H2 d = some (.xd e.2) → E (.ref e.1) (some d) H2
def spX {α : Type} (pre : α → Prop) (args : α → List Rp) (res : α → Except XF Rp) : Sp := fun vs H Q E => ∃ a B, Same B H ∧ pre a ∧ Vs (args a) vs B ∧
  (match res a with
  | .ok r => ∀ v B2 H2, Gr B H B2 H2 → r.p v B2 → Q v H2
  | .error e => Ends1 E H e)
/-- a def by its name -/
structure Fn (P : Program) (w : World) (K : PySem.W.Frag) (mg : Str → Option Value) (base : Heap) (CX : CXT) (x : Str) (k : Nat) (ps : List Str) (sp : Sp) : Prop where
  ex : ∃ f fd, mg x = some (.ref f) ∧ PySem.W.keepIn K (.ref f) = true ∧ Binds K fd ps [] ∧ FnOk P w K mg base CX k f fd ps sp
/-- a method -/
structure Mt (P : Program) (w : World) (K : PySem.W.Frag) (mg : Str → Option Value) (base : Heap) (CX : CXT) (C : Addr) (m : Str) (k : Nat) (ps : List Str) (sp : Sp) : Prop where
  ex : ∃ f fd, Meth K C m f ∧ Binds K fd ps [] ∧ FnOk P w K mg base CX k f fd ps sp
/-- a class, made -/
structure Ct (P : Program) (w : World) (K : PySem.W.Frag) (mg : Str → Option Value) (base : Heap) (x : Str) (C : Addr) (k : Nat) (ps : List Str) (sp : Sp) : Prop where
  ex : ∃ f fd, mg x = some (.ref C) ∧ Mk K C f ∧ Binds K fd ps [] ∧ FnOk P w K mg base CX0 k f fd ps sp
section
variable {X : Cx} {e o : Expr} {es : List Expr} {σ : L2.St} {B : Hp} {R : Rp} {Rs : List Rp} {p pos apos : Pos} {x : Str} {k : Nat} {ps : List Str} {α : Type} {pre : α → Prop} {args : α → List Rp} {ret : α → Rp} {res : α → Except XF Rp} {CX : CXT} {W : WX} {ef : XF}
theorem ev_call (F : Fn X.prog X.w X.K X.mg X.base CX0 x k ps (spP pre args ret)) (hr : Room k X.A) (a : α) (hp : pre a) (ha : EvA X (e :: es) σ B (args a)) (hg : Gl X x := by rfl) (hdb : (x == ("__debug__" : Str)) = false := by decide)
    (he : starEach (e :: es) X.env = (false, eval e X.env) :: starEach es X.env := by rfl) (hpl : (backTo pos (starEach es X.env)).any (·.1) = false := by rfl) : Ev X (.Call (.Name x p) (e :: es) [] pos) σ B (ret a) := fun H s Q kk => by
  obtain ⟨f, fd, hm, hk, hb, G⟩ := F.ex
  exact we_of (pe_call G hr hg hm hk hb .nil pass0 wa_pa hdb he hpl) (ha H s _ fun vs B2 H2 g r => ⟨a, B2, g.bh, hp, by rw [List.append_nil]; exact r, fun v B3 H3 g3 r3 => kk v B3 H3 (g.trans g3) r3⟩)
theorem ev_call0 (F : Fn X.prog X.w X.K X.mg X.base CX0 x k ps (spP pre args ret)) (hr : Room k X.A) (a : α) (hp : pre a) (ha : args a = []) (hg : Gl X x := by rfl) (hdb : (x == ("__debug__" : Str)) = false := by decide) : Ev X (.Call (.Name x p) [] [] pos) σ B (ret a) := fun H s Q kk => by
  obtain ⟨f, fd, hm, hk, hb, G⟩ := F.ex
  exact we_of (pe_call0 G hr hg hm hk hb .nil pass0 hdb) ⟨a, B, s, hp, by rw [ha]; exact True.intro, fun v B3 H3 g3 r3 => kk v B3 H3 g3 r3⟩
theorem ef_call (F : Fn X.prog X.w X.K X.mg X.base CX0 x k ps (spN pre args ret)) (hr : Room k X.A) (a : α) (hp : pre a) (ha : EvA X (e :: es) σ B (args a)) (hg : Gl X x := by rfl) (hdb : (x == ("__debug__" : Str)) = false := by decide)
    (he : starEach (e :: es) X.env = (false, eval e X.env) :: starEach es X.env := by rfl) (hpl : (backTo pos (starEach es X.env)).any (·.1) = false := by rfl) : Ev X (.Call (.Name x p) (e :: es) [] pos) σ B (rF B (ret a)) := fun H s Q kk => by
  obtain ⟨f, fd, hm, hk, hb, G⟩ := F.ex
  exact we_of (pe_call G hr hg hm hk hb .nil pass0 wa_pa hdb he hpl) (ha H s _ fun vs B2 H2 g r => ⟨a, B2, g.bh, hp, by rw [List.append_nil]; exact r, fun v B3 H3 g3 r3 => kk v B3 H3 (g.trans g3) (by
    obtain ⟨h1, q, h2, h3⟩ := r3
    exact ⟨h1, q, h2, g.bb.free h3⟩)⟩)
/-- a call that may raise -/
def EvR (X : Cx) (W : WX) (e : Expr) (σ : L2.St) (B : Hp) (ef : XF) : Prop := ∀ H, Same B H → ∀ Q : VK, (∀ d H2, Same H H2 → H2 d = some (.xd ef.2) → W (.ref ef.1) (some d) σ H2) → WE X e σ H Q
theorem EvR.mo {C : Hp} (h : EvR X W e σ B ef) (bc : Same B C) : EvR X W e σ C ef := fun H s Q k => h H (bc.trans s) Q k
theorem ev_callX (F : Fn X.prog X.w X.K X.mg X.base CX x k ps (spX pre args res)) (hr : Room k X.A) (hx : ∀ σ, PassesAt CX X σ (L2.WE W σ)) (a : α) (hp : pre a) (hres : res a = .ok R) (ha : EvA X (e :: es) σ B (args a)) (hg : Gl X x := by rfl) (hdb : (x == ("__debug__" : Str)) = false := by decide)
    (he : starEach (e :: es) X.env = (false, eval e X.env) :: starEach es X.env := by rfl) (hpl : (backTo pos (starEach es X.env)).any (·.1) = false := by rfl) : Ev X (.Call (.Name x p) (e :: es) [] pos) σ B R := fun H s Q kk => by
  obtain ⟨f, fd, hm, hk, hb, G⟩ := F.ex
  exact we_of (pe_callSD (E := L2.WE W) G hr hg hm hk hb .nil hx wa_pa hdb he hpl) (ha H s _ fun vs B2 H2 g r => ⟨a, B2, g.bh, hp, by rw [List.append_nil]; exact r, by rw [hres]; exact fun v B3 H3 g3 r3 => kk v B3 H3 (g.trans g3) r3⟩)
theorem er_callX (F : Fn X.prog X.w X.K X.mg X.base CX x k ps (spX pre args res)) (hr : Room k X.A) (hx : ∀ σ, PassesAt CX X σ (L2.WE W σ)) (a : α) (hp : pre a) (hres : res a = .error ef) (ha : EvA X (e :: es) σ B (args a)) (hg : Gl X x := by rfl) (hdb : (x == ("__debug__" : Str)) = false := by decide)
    (he : starEach (e :: es) X.env = (false, eval e X.env) :: starEach es X.env := by rfl) (hpl : (backTo pos (starEach es X.env)).any (·.1) = false := by rfl) : EvR X W (.Call (.Name x p) (e :: es) [] pos) σ B ef := fun H s Q kk => by
  obtain ⟨f, fd, hm, hk, hb, G⟩ := F.ex
  exact we_of (pe_callSD (E := L2.WE W) G hr hg hm hk hb .nil hx wa_pa hdb he hpl) (ha H s _ fun vs B2 H2 g r => ⟨a, B2, g.bh, hp, by rw [List.append_nil]; exact r, by rw [hres]; exact fun d H3 s3 h3 => kk d H3 (g.hh.trans s3) h3⟩)
/-! built-in functions -/
theorem ev_callB {id : String} {r : List V → Hp → VK → Prop} (hc : CallR X (.builtin id) r) (hm : X.mg x = none) (hv : bootBuiltins x = some (.builtin id)) (ha : EvA X (e :: es) σ B Rs)
    (hr : ∀ vs B2 H2, Same B B2 → Same B2 H2 → Vs Rs vs B2 → ∀ Q : VK, (∀ v B3 H3, Gr B2 H2 B3 H3 → R.p v B3 → Q v H3) → r vs H2 Q) (hg : Gl X x := by rfl) (hn : x ≠ "__name__" := by decide) (hdb : (x == ("__debug__" : Str)) = false := by decide)
    (he : starEach (e :: es) X.env = (false, eval e X.env) :: starEach es X.env := by rfl) (hpl : (backTo pos (starEach es X.env)).any (·.1) = false := by rfl) : Ev X (.Call (.Name x p) (e :: es) [] pos) σ B R := fun H s Q kk =>
  we_of (pe_callB hc hg hm hv wa_pa hn hdb he hpl) (ha H s _ fun vs B2 H2 g r => hr vs B2 H2 g.bb g.bh r Q fun v B3 H3 g3 r3 => kk v B3 H3 (g.trans g3) r3)
theorem ev_callTy {T : String} {r : List V → Hp → VK → Prop} (hc : CallR X (.type T) r) (hm : X.mg x = none) (hv : bootBuiltins x = some (.type T)) (ha : EvA X (e :: es) σ B Rs)
    (hr : ∀ vs B2 H2, Same B B2 → Same B2 H2 → Vs Rs vs B2 → ∀ Q : VK, (∀ v B3 H3, Gr B2 H2 B3 H3 → R.p v B3 → Q v H3) → r vs H2 Q) (hg : Gl X x := by rfl) (hn : x ≠ "__name__" := by decide) (hdb : (x == ("__debug__" : Str)) = false := by decide)
    (he : starEach (e :: es) X.env = (false, eval e X.env) :: starEach es X.env := by rfl) (hpl : (backTo pos (starEach es X.env)).any (·.1) = false := by rfl) : Ev X (.Call (.Name x p) (e :: es) [] pos) σ B R := fun H s Q kk =>
  we_of (pe_callTy hc hg hm hv wa_pa hn hdb he hpl) (ha H s _ fun vs B2 H2 g r => hr vs B2 H2 g.bb g.bh r Q fun v B3 H3 g3 r3 => kk v B3 H3 (g.trans g3) r3)
theorem ev_len {r : α → Rp} {xs : List α} (hm : X.mg "len" = none) (h : Ev X e σ B (rL r xs)) (hg : Gl X "len" := by rfl)
    (he : starEach (e :: []) X.env = (false, eval e X.env) :: starEach [] X.env := by rfl) : Ev X (.Call (.Name "len" p) [e] [] pos) σ B (rN xs.length) :=
  ev_callB call_len_seq hm PySem.boot_len (ea_one h he) (fun vs B2 H2 s1 s2 r1 Q kk => by
    obtain ⟨v, rfl, q, ws, e1, h1, l1, a1⟩ := r1.one
    exact ⟨q, ws, by rw [e1], .inl (sq_of s2 h1), kk _ B2 H2 (Gr.refl s2) (by rw [a1.len]; rfl)⟩) hg (by decide) (by decide) he (by rfl)
theorem vints {r : α → Int} {xs : List α} {ws : List V} {B : Hp} (a : All2 (fun x v => (rI (r x)).p v B) xs ws) : ws = (xs.map r).map V.int := by
  rw [List.map_map]
  exact All2.eq_map a
theorem ev_sum {xs : List Int} (hc : X.calm = true) (hm : X.mg "sum" = none) (h : Ev X e σ B (rL rI xs)) (hg : Gl X "sum" := by rfl)
    (he : starEach (e :: []) X.env = (false, eval e X.env) :: starEach [] X.env := by rfl) : Ev X (.Call (.Name "sum" p) [e] [] pos) σ B (rI xs.sum) :=
  ev_callB (cr_sum hc) hm (by decide +kernel) (ea_one h he) (fun vs B2 H2 s1 s2 r1 Q kk => by
    obtain ⟨v, rfl, q, ws, e1, h1, l1, a1⟩ := r1.one
    exact ⟨q, xs, by rw [e1], by have := vints (r := fun i => i) a1; rw [List.map_id'] at this; rw [← this]; exact sq_of s2 h1, kk _ B2 H2 (Gr.refl s2) rfl⟩) hg (by decide) (by decide) he (by rfl)
theorem vbls {xs : List Bool} {ws : List V} {B : Hp} (a : All2 (fun x v => (rB x).p v B) xs ws) : ws = xs.map V.bl := All2.eq_map a
theorem ev_all {xs : List Bool} (hc : X.calm = true) (hm : X.mg "all" = none) (h : Ev X e σ B (rL rB xs)) (hg : Gl X "all" := by rfl)
    (he : starEach (e :: []) X.env = (false, eval e X.env) :: starEach [] X.env := by rfl) : Ev X (.Call (.Name "all" p) [e] [] pos) σ B (rB (xs.all id)) :=
  ev_callB (cr_all hc) hm (by decide +kernel) (ea_one h he) (fun vs B2 H2 s1 s2 r1 Q kk => by
    obtain ⟨v, rfl, q, ws, e1, h1, l1, a1⟩ := r1.one
    exact ⟨q, xs, by rw [e1], by rw [← vbls a1]; exact sq_of s2 h1, kk _ B2 H2 (Gr.refl s2) rfl⟩) hg (by decide) (by decide) he (by rfl)
theorem ev_any {xs : List Bool} (hc : X.calm = true) (hm : X.mg "any" = none) (h : Ev X e σ B (rL rB xs)) (hg : Gl X "any" := by rfl)
    (he : starEach (e :: []) X.env = (false, eval e X.env) :: starEach [] X.env := by rfl) : Ev X (.Call (.Name "any" p) [e] [] pos) σ B (rB (xs.any id)) :=
  ev_callB (cr_any hc) hm (by decide +kernel) (ea_one h he) (fun vs B2 H2 s1 s2 r1 Q kk => by
    obtain ⟨v, rfl, q, ws, e1, h1, l1, a1⟩ := r1.one
    exact ⟨q, xs, by rw [e1], by rw [← vbls a1]; exact sq_of s2 h1, kk _ B2 H2 (Gr.refl s2) rfl⟩) hg (by decide) (by decide) he (by rfl)
theorem ev_min2 {a b : Expr} {i j : Int} (hc : X.calm = true) (hm : X.mg "min" = none) (ha : Ev X a σ B (rI i)) (hb : Ev X b σ B (rI j)) (hg : Gl X "min" := by rfl)
    (he : starEach (a :: [b]) X.env = (false, eval a X.env) :: starEach [b] X.env := by rfl) (he2 : starEach (b :: []) X.env = (false, eval b X.env) :: starEach [] X.env := by rfl) (hpl : (backTo pos (starEach [b] X.env)).any (·.1) = false := by rfl) :
    Ev X (.Call (.Name "min" p) [a, b] [] pos) σ B (rI (min i j)) :=
  ev_callB (call_min2 hc) hm (by decide +kernel) (ea_cons ha (ea_one hb he2) he) (fun vs B2 H2 s1 s2 r1 Q kk => by
    obtain ⟨v, u, rfl, e1, e2⟩ := r1.two
    refine ⟨i, j, by rw [e1, e2], kk _ B2 H2 (Gr.refl s2) ?_⟩
    show V.int (if j < i then j else i) = V.int (min i j)
    congr 1
    omega) hg (by decide) (by decide) he hpl
theorem ev_max2 {a b : Expr} {i j : Int} (hc : X.calm = true) (hm : X.mg "max" = none) (ha : Ev X a σ B (rI i)) (hb : Ev X b σ B (rI j)) (hg : Gl X "max" := by rfl)
    (he : starEach (a :: [b]) X.env = (false, eval a X.env) :: starEach [b] X.env := by rfl) (he2 : starEach (b :: []) X.env = (false, eval b X.env) :: starEach [] X.env := by rfl) (hpl : (backTo pos (starEach [b] X.env)).any (·.1) = false := by rfl) :
    Ev X (.Call (.Name "max" p) [a, b] [] pos) σ B (rI (max i j)) :=
  ev_callB (call_max2 hc) hm (by decide +kernel) (ea_cons ha (ea_one hb he2) he) (fun vs B2 H2 s1 s2 r1 Q kk => by
    obtain ⟨v, u, rfl, e1, e2⟩ := r1.two
    refine ⟨i, j, by rw [e1, e2], kk _ B2 H2 (Gr.refl s2) ?_⟩
    show V.int (if j > i then j else i) = V.int (max i j)
    congr 1
    omega) hg (by decide) (by decide) he hpl
theorem ev_ord {s : Str} {c : Nat} (hm : X.mg "ord" = none) (h : Ev X e σ B (rS s)) (hs : s = ⟨#[c]⟩) (hg : Gl X "ord" := by rfl)
    (he : starEach (e :: []) X.env = (false, eval e X.env) :: starEach [] X.env := by rfl) : Ev X (.Call (.Name "ord" p) [e] [] pos) σ B (rN c) :=
  ev_callB call_ord hm (by decide +kernel) (ea_one h he) (fun vs B2 H2 s1 s2 r1 Q kk => by
    obtain ⟨v, rfl, e1⟩ := r1.one
    subst hs
    exact ⟨⟨#[c]⟩, by rw [e1], rfl, kk _ B2 H2 (Gr.refl s2) rfl⟩) hg (by decide) (by decide) he (by rfl)
theorem ev_strI {i : Int} (hm : X.mg "str" = none) (h : Ev X e σ B (rI i)) (hi : i.natAbs.log2 < 1920) (hg : Gl X "str" := by rfl)
    (he : starEach (e :: []) X.env = (false, eval e X.env) :: starEach [] X.env := by rfl) : Ev X (.Call (.Name "str" p) [e] [] pos) σ B (rS (toString i)) :=
  ev_callTy call_str_int hm (by decide +kernel) (ea_one h he) (fun vs B2 H2 s1 s2 r1 Q kk => by
    obtain ⟨v, rfl, e1⟩ := r1.one
    exact ⟨i, by rw [e1], hi, kk _ B2 H2 (Gr.refl s2) rfl⟩) hg (by decide) (by decide) he (by rfl)
theorem ev_intB {b : Bool} (hm : X.mg "int" = none) (h : Ev X e σ B (rB b)) (hg : Gl X "int" := by rfl)
    (he : starEach (e :: []) X.env = (false, eval e X.env) :: starEach [] X.env := by rfl) : Ev X (.Call (.Name "int" p) [e] [] pos) σ B (rI (if b then 1 else 0)) :=
  ev_callTy call_int1 hm (by decide +kernel) (ea_one h he) (fun vs B2 H2 s1 s2 r1 Q kk => by
    obtain ⟨v, rfl, e1⟩ := r1.one
    exact .inr ⟨b, by rw [e1], kk _ B2 H2 (Gr.refl s2) rfl⟩) hg (by decide) (by decide) he (by rfl)
theorem ef_listL {r : α → Rp} {xs : List α} (hm : X.mg "list" = none) (h : Ev X e σ B (rL r xs)) (hg : Gl X "list" := by rfl)
    (he : starEach (e :: []) X.env = (false, eval e X.env) :: starEach [] X.env := by rfl) : Ev X (.Call (.Name "list" p) [e] [] pos) σ B (rLF B r xs) :=
  ev_callTy call_list_of hm (by decide +kernel) (ea_one h he) (fun vs B2 H2 s1 s2 r1 Q kk => by
    obtain ⟨v, rfl, q, ws, e1, h1, l1, a1⟩ := r1.one
    refine ⟨q, ws, by rw [e1], .inl (sq_of s2 h1), fun z hz => ?_⟩
    obtain ⟨g4, r4⟩ := mk_list (r := r) (xs := xs) (Gr.refl s2) hz l1 a1
    exact kk _ _ _ g4 ⟨r4.1, z, rfl, s1.free (s2.free hz)⟩) hg (by decide) (by decide) he (by rfl)
/-! items, slices -/
theorem ev_ix {a b : Expr} {r : α → Rp} {xs : List α} {n : Nat} {x : α} (ha : Ev X a σ B (rL r xs)) (hb : Ev X b σ B (rN n)) (hx : xs[n]? = some x) (hs : PlainIx b := by intro _ _; rfl) : Ev X (.Subscript a b pos) σ B (r x) := fun H s Q k =>
  we_of (pe_ix ix_list we_pe we_pe hs) (ev_two (R := r x) ha hb (fun u w B2 H2 s1 s2 ⟨q, ws, e1, h1, l1, a1⟩ e2 Q k => by
    obtain ⟨v, hv, rv⟩ := a1.at hx
    exact ⟨q, ws, n, v, e1, e2, sq_of s2 h1, atI_nat hv, k v B2 H2 (Gr.refl s2) rv⟩) s k)
end
end Fb
/-! FbC: slices, walks, comprehensions, statements -/
namespace Fb
open PySem PySem.Spec PyProof.Rows L2

/-! ### slices -/
def WO (X : Cx) (e : Option Expr) : TO := fun σ H Q => ∀ (pins : List (Addr × Obj)) (s : Shared), Inv X pins σ H s → wpAny (model X.prog X.w) X.A (evalPart e X.env) (fun u s' => ∃ o H', Inv X pins σ H' s' ∧ IsPart u o ∧ Q o H') X.xe s
theorem wo_po {X : Cx} {e : Option Expr} : PO X e (WO X e) := ⟨fun pins s σ H Q I h => h pins s I⟩
def EvO (X : Cx) (e : Option Expr) (σ : L2.St) (B : Hp) (o : Option Int) : Prop := ∀ H, Same B H → ∀ Q : Option Int → Hp → Prop, (∀ B2 H2, Gr B H B2 H2 → Q o H2) → WO X e σ H Q
section
variable {X : Cx} {a b e : Expr} {σ : L2.St} {B C : Hp} {pos p2 : Pos} {α : Type} {lo hi : Option Expr} {l h : Option Int}
theorem EvO.mo (h : EvO X lo σ B l) (bc : Same B C) : EvO X lo σ C l := fun H s Q k => h H (bc.trans s) Q fun B2 H2 g => k _ H2 (g.wide bc s)
theorem eo_none : EvO X none σ B none := fun H s Q k pins sh I => po_none.run pins sh σ H Q I (k B H (Gr.refl s))
theorem eo_some {i : Int} (h : Ev X e σ B (rI i)) : EvO X (some e) σ B (some i) := fun H s Q k pins sh I => (po_some we_pe).run pins sh σ H Q I (h H s _ fun v B2 H2 g r => ⟨i, r, k B2 H2 g⟩)
theorem ef_cut {r : α → Rp} {xs ys : List α} (ha : Ev X a σ B (rL r xs)) (hl : EvO X lo σ B l) (hh : EvO X hi σ B h)
    (hc : ∀ (C : Hp) (ws : List V), All2 (fun x v => (r x).p v C) xs ws → All2 (fun x v => (r x).p v C) ys (cutV ws l h)) (hy : ys.length ≤ xs.length) : Ev X (.Subscript a (.Slice lo hi none p2) pos) σ B (rLF B r ys) := fun H s Q k =>
  we_of (pe_slice sl_list we_pe wo_po wo_po) (ha H s _ fun v B2 H2 g ⟨q, ws, e1, h1, l1, a1⟩ => (hl.mo g.bb) H2 g.bh _ fun B3 H3 g3 => (hh.mo (g.bb.trans g3.bb)) H3 g3.bh _ fun B4 H4 g4 =>
    ⟨q, ws, e1, sq_of (g3.bh.trans g4.hh) (g3.bb _ _ h1), fun z hz => by
      have gg := (g.trans g3).trans g4
      obtain ⟨g5, r5⟩ := mk_list (r := r) (xs := ys) gg hz (Nat.le_trans hy l1) (hc B4 ws (a1.imp fun x v q => (r x).mo v _ _ (g3.bb.trans g4.bb) q))
      exact k _ _ _ g5 r5⟩)
theorem cut_to {ws : List V} {n : Nat} : cutV ws none (some (n : Int)) = ws.take n := by
  unfold cutV
  rw [HT.sIx_none, HT.sIx_nat, List.drop_zero, Nat.sub_zero, List.take_eq_take_iff]
  omega
theorem cut_from {ws : List V} {n : Nat} : cutV ws (some (n : Int)) none = ws.drop n := by
  unfold cutV
  rw [HT.sIx_none, HT.sIx_nat]
  by_cases h : n ≤ ws.length
  · rw [Nat.min_eq_left h, List.take_of_length_le (by rw [List.length_drop]; omega)]
  · rw [Nat.min_eq_right (by omega), Nat.sub_self, List.take_zero, List.drop_eq_nil_of_le (by omega)]
theorem ef_to {r : α → Rp} {xs : List α} {n : Nat} (ha : Ev X a σ B (rL r xs)) (hb : Ev X b σ B (rN n)) : Ev X (.Subscript a (.Slice none (some b) none p2) pos) σ B (rLF B r (xs.take n)) :=
  ef_cut ha eo_none (eo_some hb) (fun C ws h => by rw [cut_to]; exact h.take n) (by rw [List.length_take]; omega)
theorem ef_from {r : α → Rp} {xs : List α} {n : Nat} (ha : Ev X a σ B (rL r xs)) (hb : Ev X b σ B (rN n)) : Ev X (.Subscript a (.Slice (some b) none none p2) pos) σ B (rLF B r (xs.drop n)) :=
  ef_cut ha (eo_some hb) eo_none (fun C ws h => by rw [cut_from]; exact h.drop n) (by rw [List.length_drop]; omega)
/-- xs[:-1] -/
theorem cut_init {ws : List V} : cutV ws none (some (-1)) = ws.take (ws.length - 1) := by
  have e : HT.sIx ws.length ws.length (some (-1)) = ws.length - 1 := by
    have := HT.clip_eq (-1) ws.length ws.length
    rw [if_pos (by decide)] at this
    omega
  unfold cutV
  rw [HT.sIx_none, e, List.drop_zero, Nat.sub_zero]
/-- xs[-1:] -/
theorem cut_last {ws : List V} : cutV ws (some (-1)) none = ws.drop (ws.length - 1) := by
  have e : HT.sIx ws.length 0 (some (-1)) = ws.length - 1 := by
    have := HT.clip_eq (-1) ws.length 0
    rw [if_pos (by decide)] at this
    omega
  unfold cutV
  rw [HT.sIx_none, e, List.take_of_length_le (by rw [List.length_drop]; omega)]
theorem ef_init {r : α → Rp} {xs : List α} (ha : Ev X a σ B (rL r xs)) (hb : Ev X b σ B (rI (-1))) : Ev X (.Subscript a (.Slice none (some b) none p2) pos) σ B (rLF B r (xs.take (xs.length - 1))) :=
  ef_cut ha eo_none (eo_some hb) (fun C ws h => by rw [cut_init, h.len]; exact h.take _) (by rw [List.length_take]; omega)
theorem ef_last {r : α → Rp} {xs : List α} (ha : Ev X a σ B (rL r xs)) (hb : Ev X b σ B (rI (-1))) : Ev X (.Subscript a (.Slice (some b) none none p2) pos) σ B (rLF B r (xs.drop (xs.length - 1))) :=
  ef_cut ha (eo_some hb) eo_none (fun C ws h => by rw [cut_last, h.len]; exact h.drop _) (by rw [List.length_drop]; omega)
/-- [x] * n -/
theorem all2_rep {r : α → V → Prop} {x : α} {v : V} (h : r x v) : ∀ n, All2 r (List.replicate n x) (List.replicate n [v]).flatten
  | 0 => .nil
  | n + 1 => .cons h (all2_rep h n)
theorem ef_rep {r : α → Rp} {x : α} {n : Nat} (ha : Ev X a σ B (rL r [x])) (hb : Ev X b σ B (rN n)) (hn : n ≤ LB) : Ev X (.BinOp a .Mult b pos) σ B (rLF B r (List.replicate n x)) :=
  ev_bin op_rep ha hb fun u w B2 H2 s0 s ⟨p, vs, e1, h1, l1, a1⟩ e2 Q k => by
    cases a1 with
    | cons hv t =>
      cases t
      refine ⟨p, n, _, e1, e2, s _ _ h1, by omega, by have := LB_line; have := sizeLine_eq; unfold LB at hn; omega, by
        show 1 * (n : Int).toNat ≤ sizeLine
        rw [Nat.one_mul, Int.toNat_natCast]
        exact Nat.le_trans hn (Nat.le_trans (Nat.le_add_right _ _) LB_line), fun z hz => ?_⟩
      obtain ⟨g4, r4⟩ := mk_list (r := r) (xs := List.replicate n x) (Gr.refl s) hz (by rw [List.length_replicate]; exact hn) (all2_rep (r := fun x v => (r x).p v B2) hv n)
      rw [Int.toNat_natCast]
      exact k _ _ _ g4 ⟨r4.1, z, rfl, s0.free (s.free hz)⟩
end

/-! ### what is walked -/
def EvI (X : Cx) (tg iter : Expr) (σ : L2.St) (B : Hp) {α : Type} (xs : List α) (r : α → Rp) : Prop := xs.length ≤ LB ∧ (∀ x, foldedSetIterable iter X.env x = pure x) ∧ ∃ wi, PI X tg iter wi ∧ ∀ H, Same B H → ∀ R : It → Hp → Prop,
  (∀ J G Y B2 H2, Gr B H B2 H2 → Walk J xs.length G Y → (∀ H3, Same B2 H3 → G H3) → (∀ i H3 x H4, i < xs.length → Same B2 H3 → Y i H3 x H4 → ∃ a B4, xs[i]? = some a ∧ Gr B2 H3 B4 H4 ∧ (r a).p x B4) → R J H2) → wi σ H R
section
variable {X : Cx} {a b e tg iter : Expr} {es : List Expr} {σ : L2.St} {B C : Hp} {pos p p2 : Pos} {α β : Type} {r : α → Rp} {q : β → Rp} {xs : List α} {ys : List β}
theorem lt_at {xs : List α} {ws : List V} {P : α → V → Prop} {i : Nat} {x : V} (h : All2 P xs ws) (e : ws[i]? = some x) : ∃ a, xs[i]? = some a ∧ P a x := h.back e
theorem ei_list (h : Ev X e σ B (rL r xs)) (hl : xs.length ≤ LB) (hs : ∀ x, foldedSetIterable e X.env x = pure x := by intro _; rfl) : EvI X tg e σ B xs r :=
  ⟨hl, hs, _, pi_list we_pe, fun H s R k => h H s _ fun v B2 H2 g ⟨q, ws, e1, h1, l1, a1⟩ => ⟨q, e1, ⟨ws, sq_of g.bh h1⟩, k _ _ _ B2 H2 g (by rw [← a1.len]; exact walk_list) (fun H3 s3 => sq_of s3 h1) fun i H3 x H4 hi s3 y => by
    obtain ⟨rfl, hx⟩ := y
    obtain ⟨a, ha, ra⟩ := a1.back hx
    exact ⟨a, B2, ha, Gr.refl s3, ra⟩⟩⟩
theorem zi_at {xs : List α} {i : Nat} {a : α} (h : xs[i]? = some a) : xs.zipIdx[i]? = some (a, i) := by
  rw [List.getElem?_zipIdx, h]
  simp
/-- enumerate: (place, item) -/
theorem ei_enum {elts : List Expr} {kk : Nat} {tpos : Pos} (hm : X.mg "enumerate" = none) (h : Ev X e σ B (rL r xs)) (hl : xs.length ≤ LB) (hg : Gl X "enumerate" := by rfl)
    (he : starEach [e] X.env = [(false, eval e X.env)] := by rfl) (hs : ∀ x, foldedSetIterable (.Call (.Name "enumerate" p) [e] [] pos) X.env x = pure x := by intro _; rfl) :
    EvI X (.Tuple elts kk tpos) (.Call (.Name "enumerate" p) [e] [] pos) σ B xs.zipIdx (fun z => rT [rN z.2, r z.1]) :=
  ⟨by rw [List.length_zipIdx]; exact hl, hs, _, pi_enum hg hm wa_pa he, fun H s R k => (ea_one h he) H s _ fun vs B2 H2 g rv => by
    obtain ⟨v, rfl, q, ws, e1, h1, l1, a1⟩ := rv.one
    refine ⟨q, ws, by rw [e1], sq_of g.bh h1, k _ _ _ B2 H2 g (by rw [List.length_zipIdx, ← a1.len]; exact walk_enum) (fun H3 s3 => sq_of s3 h1) fun i H3 x H4 hi s3 y => ?_⟩
    obtain ⟨T, u, w, ev, hT, eH, eu, ew⟩ := y
    cases eu
    obtain ⟨a, ha, ra⟩ := a1.back ew
    have gn := Gr.new (o := .tup [.int (i : Nat), w]) s3 hT
    subst eH
    exact ⟨(a, i), _, zi_at ha, gn, T, _, ev, upd_same, rfl, (r a).mo _ _ _ gn.bb ra, True.intro⟩⟩
theorem zip_at {xs : List α} {ys : List β} {i : Nat} {a : α} {b : β} (h : xs[i]? = some a) (k : ys[i]? = some b) : (xs.zip ys)[i]? = some (a, b) := List.getElem?_zip_eq_some.mpr ⟨h, k⟩
theorem ei_zip {e2 : Expr} {elts : List Expr} {kk : Nat} {tpos : Pos} (hm : X.mg "zip" = none) (h : Ev X e σ B (rL r xs)) (h2 : Ev X e2 σ B (rL q ys)) (hl : xs.length ≤ LB) (hg : Gl X "zip" := by rfl)
    (he : starEach (e :: [e2]) X.env = (false, eval e X.env) :: starEach [e2] X.env := by rfl) (he2 : starEach (e2 :: []) X.env = (false, eval e2 X.env) :: starEach [] X.env := by rfl)
    (hpi : ∀ {ta : TA}, PA X [e, e2] ta → PI X (.Tuple elts kk tpos) (.Call (.Name "zip" p) [e, e2] [] pos) (iZip X.K ta)) (hs : ∀ x, foldedSetIterable (.Call (.Name "zip" p) [e, e2] [] pos) X.env x = pure x := by intro _; rfl) :
    EvI X (.Tuple elts kk tpos) (.Call (.Name "zip" p) [e, e2] [] pos) σ B (xs.zip ys) (fun z => rT [r z.1, q z.2]) :=
  ⟨by rw [List.length_zip]; omega, hs, _, hpi wa_pa, fun H s R k => (ea_cons h (ea_one h2 he2) he) H s _ fun vs B2 H2 g rv => by
    obtain ⟨v, u, rfl, ⟨p1, ws, e1, h1, l1, a1⟩, ⟨p3, zs, e3, h3, l3, a3⟩⟩ := rv.two
    refine ⟨p1, p3, ws, zs, by rw [e1, e3], sq_of g.bh h1, sq_of g.bh h3, k _ _ _ B2 H2 g (walk_zip (n := (xs.zip ys).length) (xs := ws) (ys := zs) (by rw [List.length_zip, a1.len, a3.len])) (fun H3 s3 => ⟨sq_of s3 h1, sq_of s3 h3⟩) fun i H3 x H4 hi s3 y => ?_⟩
    obtain ⟨T, u, w, ev, hT, eH, eu, ew⟩ := y
    obtain ⟨a, ha, ra⟩ := a1.back eu
    obtain ⟨b, hb, rb⟩ := a3.back ew
    have gn := Gr.new (o := .tup [u, w]) s3 hT
    subst eH
    exact ⟨(a, b), _, zip_at ha hb, gn, T, _, ev, upd_same, (r a).mo _ _ _ gn.bb ra, (q b).mo _ _ _ gn.bb rb, True.intro⟩⟩
theorem ei_range1 {n : Nat} (hm : X.mg "range" = none) (h : Ev X e σ B (rN n)) (hl : n ≤ LB) (hg : Gl X "range" := by rfl)
    (he : starEach [e] X.env = [(false, eval e X.env)] := by rfl) (hs : ∀ x, foldedSetIterable (.Call (.Name "range" p) [e] [] pos) X.env x = pure x := by intro _; rfl) :
    EvI X tg (.Call (.Name "range" p) [e] [] pos) σ B (List.range n) (fun i => rN i) :=
  ⟨by rw [List.length_range]; exact hl, hs, _, pi_range1 hg hm wa_pa he, fun H s R k => (ea_one h he) H s _ fun vs B2 H2 g rv => by
    obtain ⟨v, rfl, e1⟩ := rv.one
    refine ⟨n, by rw [e1], by omega, by unfold LB at hl; omega, ?_⟩
    rw [Int.toNat_natCast]
    refine k _ _ _ B2 H2 g (by rw [List.length_range]; exact walk_range) (fun H3 s3 => True.intro) fun i H3 x H4 hi s3 y => ?_
    obtain ⟨rfl, rfl⟩ := y
    rw [List.length_range] at hi
    exact ⟨i, B2, by rw [List.getElem?_range hi], Gr.refl s3, by show V.int (0 + (i : Int)) = V.int i; rw [Int.zero_add]⟩⟩
theorem ei_str {s : Str} (h : Ev X e σ B (rS s)) (hl : s.cps.toList.length ≤ LB) (hs : ∀ x, foldedSetIterable e X.env x = pure x := by intro _; rfl) : EvI X tg e σ B s.cps.toList (fun c => rS ⟨#[c]⟩) :=
  ⟨hl, hs, _, pi_str we_pe, fun H s1 R k => h H s1 _ fun v B2 H2 g e1 => ⟨s, e1, k _ _ _ B2 H2 g (by rw [Array.length_toList]; exact walk_str) (fun H3 s3 => True.intro) fun i H3 x H4 hi s3 y => by
    obtain ⟨rfl, c, hc, rfl⟩ := y
    exact ⟨c, B2, by rw [Array.getElem?_toList]; exact hc, Gr.refl s3, rfl⟩⟩⟩

/-! ### comprehensions -/
def WTs (X : Cx) (ifs : List Expr) : TT := fun σ H Q => ∀ (pins : List (Addr × Obj)) (s : Shared), Inv X pins σ H s →
    wpAny (model X.prog X.w) X.A (forIn ifs true fun c r => if r = true then do let ok ← isTrue c X.env (eval c X.env); pure (ForInStep.yield ok) else pure (ForInStep.yield r)) (TP X pins σ Q) X.xe s
theorem wts_pts {ifs : List Expr} : PTs X ifs (WTs X ifs) := ⟨fun pins s σ H Q I h => h pins s I⟩
def EvTs (X : Cx) (ifs : List Expr) (σ : L2.St) (B : Hp) (b : Bool) : Prop := ∀ H, Same B H → ∀ Q : Bool → Hp → Prop, (∀ B2 H2, Gr B H B2 H2 → Q b H2) → WTs X ifs σ H Q
theorem ets_nil : EvTs X [] σ B true := fun H s Q k pins sh I => pts_nil.run pins sh σ H Q I (k B H (Gr.refl s))
theorem ets_one {c : Expr} {b : Bool} (h : EvT X c σ B b) : EvTs X [c] σ B b := fun H s Q k pins sh I => (pts_one wt_pt).run pins sh σ H Q I (h H s Q k)
/-- the block of a comprehension -/
abbrev bk (X : Cx) (scope : Scope) (s0 : Shared) (H0 : Hp) (C : Addr) (cl : List (Str × Addr)) (fp : List Addr) : Cx := X.blk s0 H0 scope (compEnvC scope cl C X.env) fp
/-- what a turn of a comprehension does -/
def LcTurn (X : Cx) (scope : Scope) (tg elt : Expr) (ifs : List Expr) (σ : L2.St) (vs : List Nat) (B : Hp) (r : α → Rp) (q : β → Rp) (c : α → Bool) (f : α → β) (g : TG) (a : α) : Prop :=
  ∀ v B1 H1, Same B B1 → Same B1 H1 → (r a).p v B1 → ∃ slotsA, (∀ Q : L2.St → Hp → Prop, Q slotsA H1 → g v (wipe σ vs) H1 Q) ∧ wipe slotsA vs = wipe σ vs ∧
    ∀ s0 H0 C cl fp, EvTs (bk X scope s0 H0 C cl fp) ifs slotsA B1 (c a) ∧ (c a = true → Ev (bk X scope s0 H0 C cl fp) elt slotsA B1 (q (f a)))
theorem take_succ {xs : List α} {i : Nat} {a : α} (h : xs[i]? = some a) : xs.take (i + 1) = xs.take i ++ [a] := by
  rw [List.take_succ, h]; rfl
theorem fm_yes {xs : List α} {i : Nat} {a : α} {c : α → Bool} {f : α → β} (h : xs[i]? = some a) (y : c a = true) : ((xs.take (i + 1)).filter c).map f = ((xs.take i).filter c).map f ++ [f a] := by
  rw [take_succ h, List.filter_append, List.map_append, List.filter_cons, if_pos y]; rfl
theorem fm_no {xs : List α} {i : Nat} {a : α} {c : α → Bool} {f : α → β} (h : xs[i]? = some a) (y : c a = false) : ((xs.take (i + 1)).filter c).map f = ((xs.take i).filter c).map f := by
  rw [take_succ h, List.filter_append, List.map_append, List.filter_cons, if_neg (by rw [y]; decide)]
  show _ ++ [] = _
  rw [List.append_nil]
theorem fm_len {xs : List α} {c : α → Bool} {f : α → β} {i : Nat} : (((xs.take i).filter c).map f).length ≤ xs.length := by
  rw [List.length_map]
  exact Nat.le_trans (List.length_filter_le _ _) (by rw [List.length_take]; omega)
theorem lc_reads {elt : Expr} {ifs : List Expr} {scope : Scope} {g : TG} {vs : List Nat} {c : α → Bool} {f : α → β} (hi : EvI X tg iter σ B xs r) (turn : ∀ a ∈ xs, LcTurn X scope tg elt ifs σ vs B r q c f g a) {H : Hp} (s : Same B H) {Q : VK}
    (k : ∀ v B2 H2, Gr B H B2 H2 → (rLF B q ((xs.filter c).map f)).p v B2 → Q v H2) {wi : TI} (hw : ∀ H, Same B H → ∀ R : It → Hp → Prop,
  (∀ J G Y B2 H2, Gr B H B2 H2 → Walk J xs.length G Y → (∀ H3, Same B2 H3 → G H3) → (∀ i H3 x H4, i < xs.length → Same B2 H3 → Y i H3 x H4 → ∃ a B4, xs[i]? = some a ∧ Gr B2 H3 B4 H4 ∧ (r a).p x B4) → R J H2) → wi σ H R) :
    tLc wi g (fun σ H Q => ∀ s0 H0 C cl fp, WTs (bk X scope s0 H0 C cl fp) ifs σ H Q) (fun σ H Q => ∀ s0 H0 C cl fp, WE (bk X scope s0 H0 C cl fp) elt σ H Q) vs σ H Q := by
  obtain ⟨hl, _, _⟩ := hi
  refine hw H s _ fun J G Y B2 H2 g2 W hG hY Dl hD => ?_
  refine lc_it (g := g) (tt := fun σ H Q => ∀ s0 H0 C cl fp, WTs (bk X scope s0 H0 C cl fp) ifs σ H Q) (te := fun σ H Q => ∀ s0 H0 C cl fp, WE (bk X scope s0 H0 C cl fp) elt σ H Q) (vs := vs) (σ := σ) (Qd := fun H => Q (.ref Dl) H) W (fun i H' => ∃ Bk ws, Gr B2 H2 Bk H' ∧ Bk Dl = none ∧ H' Dl = some (.lst ws) ∧ All2 (fun b v => (q b).p v Bk) (((xs.take i).filter c).map f) ws)
    ⟨B2, [], ⟨same_new hD, Same.refl _, same_upd g2.bh (g2.bh.free hD), fun _ _ z => z⟩, g2.bh.free hD, upd_same, by rw [List.take_zero]; exact .nil⟩ (fun i H' _ ⟨Bk, ws, gk, _⟩ => hG H' (gk.bb.trans gk.bh)) ?_ ?_
  · rintro i x H' H4 hi ⟨Bk, ws, gk, nD, eD, aw⟩ y
    obtain ⟨a, B4, ha, g4, ra⟩ := hY i H' x H4 hi (gk.bb.trans gk.bh) y
    have g5 := g4.wide gk.bb gk.bh
    have r5 := (r a).mo _ _ _ (g4.wide_in gk.bh) ra
    obtain ⟨slotsA, hg, hwp, hb⟩ := turn a (List.mem_of_getElem? ha) x _ H4 ((g2.bb.trans gk.bb).trans g5.bb) g5.bh r5
    refine hg _ ⟨hwp, ?_⟩
    have nD5 : both Bk B4 Dl = none := g5.fr Dl (by rw [eD]; exact fun z => nomatch z) nD
    intro s0 H0 C cl fp
    obtain ⟨ht, he⟩ := hb s0 H0 C cl fp
    refine ht H4 g5.bh _ fun B6 H6 g6 => ?_
    have e6 : H6 Dl = some (.lst ws) := g6.hh _ _ (g5.hh _ _ eD)
    have nD6 : B6 Dl = none := g6.fr Dl (by rw [g5.hh _ _ eD]; exact fun z => nomatch z) nD5
    have gAll := (gk.trans g5).trans g6
    cases hc : c a with
    | false =>
      refine iteF ⟨B6, ws, gAll, nD6, e6, ?_⟩
      rw [fm_no ha hc]
      exact aw.imp fun b v z => (q b).mo _ _ _ (g5.bb.trans g6.bb) z
    | true =>
      refine iteT fun s1 H1 C1 cl1 fp1 => ?_
      obtain ⟨_, he1⟩ := hb s1 H1 C1 cl1 fp1
      refine ((he1 hc).mo g6.bb) H6 g6.bh _ fun v B7 H7 g7 r7 => ?_
      have e7 : H7 Dl = some (.lst ws) := g7.hh _ _ e6
      have nD7 : B7 Dl = none := g7.fr Dl (by rw [e6]; exact fun z => nomatch z) nD6
      have g8 := gAll.trans g7
      refine ⟨ws, e7, ?_, B7, ws ++ [v], ⟨fun b o z => by rw [upd_ne (ne_of_none z hD)]; exact g8.hh b o z, g8.bb, same_upd g8.bh nD7, g8.fr⟩, nD7, upd_same, ?_⟩
      · rw [aw.len]
        exact Nat.lt_of_le_of_lt fm_len (Nat.lt_of_le_of_lt hl (by rw [sizeLine_eq]; decide))
      · rw [fm_yes ha hc]
        exact (aw.imp fun b v z => (q b).mo _ _ _ ((g5.bb.trans g6.bb).trans g7.bb) z).app (.one r7)
  · rintro H' ⟨Bk, ws, gk, nD, eD, aw⟩
    rw [List.take_length] at aw
    refine k _ (upd Bk Dl (.lst ws)) H' (g2.trans ⟨gk.hh, gk.bb.trans (same_new nD), fun b o z => ?_, fun b z n => ?_⟩) ⟨⟨Dl, ws, rfl, upd_same, ?_, aw.imp fun b v z => (q b).mo _ _ _ (same_new nD) z⟩, Dl, rfl, g2.bb.free (g2.bh.free hD)⟩
    · by_cases hb : b = Dl
      · subst hb; rw [upd_same] at z; rw [eD]; exact z
      · rw [upd_ne hb] at z; exact gk.bh b o z
    · by_cases hb : b = Dl
      · subst hb; exact absurd hD z
      · rw [upd_ne hb]; exact gk.fr b z n
    · rw [List.length_map]
      exact Nat.le_trans (List.length_filter_le _ _) hl
theorem ef_lc {elt : Expr} {ifs : List Expr} {scope : Scope} {own : List (Str × Nat)} {g : TG} {c : α → Bool} {f : α → β} (hc : X.calm = true) (hN : X.N.Nodup) (hi : EvI X tg iter σ B xs r) (ok : BlkOk X.N X.env.scope scope own)
    (hg : ∀ (s : Shared) (H : Hp) (C : Addr) (cl : List (Str × Addr)) (fp : List Addr), PG (bk X scope s H C cl fp) tg g) (turn : ∀ a ∈ xs, LcTurn X scope tg elt ifs σ (own.map (·.2)) B r q c f g a) :
    Ev X (.ListComp elt [⟨tg, iter, ifs, 0⟩] scope pos) σ B (rLF B q ((xs.filter c).map f)) := fun H s Q k => by
  obtain ⟨hl, hs, wi, hp, hw⟩ := id hi
  exact we_of (pe_lc hc hN hp ok hg (fun s H C cl fp => ⟨fun pins s1 σ H Q I h => h s _ C cl fp pins s1 I⟩) (fun s H C cl fp => ⟨fun pins s1 σ H Q I h => h s _ C cl fp pins s1 I⟩) hs) (lc_reads hi turn s k hw)
end
end Fb
/-! FbD: statements, bodies, objects -/
namespace Fb
open PySem PySem.Spec PyProof.Rows L2

/-! ### statements: the first one, then the rest -/
section
variable {X : Cx} {a b c e o tg iter : Expr} {es : List Expr} {σ : L2.St} {B C H : Hp} {pos p p2 : Pos} {α β : Type} {R : Rp} {st : Stmt} {rest body els : List Stmt} {D : L2.Ends} {W : WX} {ef : XF} {x : Str}
theorem wb_nil (h : D.nx σ H) : WB X [] D σ H := wb_of pss_nil h
theorem wb_cons {t : TS} (h : PS X st t) (q : t { D with nx := WB X rest D } σ H) : WB X (st :: rest) D σ H := wb_of (pss_cons h wb_pss) q
theorem wb_expr (h : Ev X e σ B R) (s : Same B H) (k : ∀ v B2 H2, Gr B H B2 H2 → R.p v B2 → WB X rest D σ H2) (hs : swapsWith e none pos.line X.env = pure false := by rfl) : WB X (.Expr e pos :: rest) D σ H :=
  wb_cons (ps_expr we_pe hs) (h H s _ fun v B2 H2 g r => k v B2 H2 g r)
theorem wb_exprR (h : EvR X W e σ B ef) (s : Same B H) (k : ∀ d H2, Same H H2 → H2 d = some (.xd ef.2) → W (.ref ef.1) (some d) σ H2) (hs : swapsWith e none pos.line X.env = pure false := by rfl) : WB X (.Expr e pos :: rest) D σ H :=
  wb_cons (ps_expr we_pe hs) (h H s _ k)
theorem wb_set (i : Nat) (h : Ev X e σ B R) (s : Same B H) (k : ∀ v B2 H2, Gr B H B2 H2 → R.p v B2 → WB X rest D (σ.set i (some v)) H2) (hN : X.N.Nodup) (hi : X.N[i]? = some x := by rfl) (hx : Loc X.env.scope x := by first | exact Or.inl rfl | exact Or.inr rfl)
    (hf : X.fn x = true ∨ X.env.scope.names.lookup x = some .local := by first | exact .inl rfl | exact .inr rfl) (hs : swapsWithSole [.Name x p] e pos.line X.env = pure false := by rfl) (hw : swappedStores [.Name x p] e X.env = pure none := by rfl)
    (h1 : (assignEach [.Name x p] X.env).map (·.2) = [assign (.Name x p) X.env] := by rfl) : WB X (.Assign [.Name x p] e pos :: rest) D σ H :=
  wb_cons (ps_asg we_pe (pg_name hN hi hx hf) hs hw h1) (h H s _ fun v B2 H2 g r => k v B2 H2 g r)
theorem wb_setR (h : EvR X W e σ B ef) (s : Same B H) (k : ∀ d H2, Same H H2 → H2 d = some (.xd ef.2) → W (.ref ef.1) (some d) σ H2) {g : TG} (hg : PG X tg g) (hs : swapsWithSole [tg] e pos.line X.env = pure false := by rfl) (hw : swappedStores [tg] e X.env = pure none := by rfl)
    (h1 : (assignEach [tg] X.env).map (·.2) = [assign tg X.env] := by rfl) : WB X (.Assign [tg] e pos :: rest) D σ H :=
  wb_cons (ps_asg we_pe hg hs hw h1) (h H s _ k)
/-- a target of any form -/
theorem wb_asg {g : TG} (h : Ev X e σ B R) (s : Same B H) (hg : PG X tg g) (k : ∀ v B2 H2, Gr B H B2 H2 → R.p v B2 → g v σ H2 fun σ' H' => WB X rest D σ' H') (hs : swapsWithSole [tg] e pos.line X.env = pure false := by rfl) (hw : swappedStores [tg] e X.env = pure none := by rfl)
    (h1 : (assignEach [tg] X.env).map (·.2) = [assign tg X.env] := by rfl) : WB X (.Assign [tg] e pos :: rest) D σ H :=
  wb_cons (ps_asg we_pe hg hs hw h1) (h H s _ fun v B2 H2 g2 r => k v B2 H2 g2 r)
theorem wb_ret (h : Ev X e σ B R) (s : Same B H) (k : ∀ v B2 H2, Gr B H B2 H2 → R.p v B2 → D.rt v H2) : WB X (.Return (some e) pos :: rest) D σ H :=
  wb_cons (ps_ret we_pe) (h H s _ fun v B2 H2 g r => k v B2 H2 g r)
theorem wb_retR (h : EvR X W e σ B ef) (s : Same B H) (k : ∀ d H2, Same H H2 → H2 d = some (.xd ef.2) → W (.ref ef.1) (some d) σ H2) : WB X (.Return (some e) pos :: rest) D σ H :=
  wb_cons (ps_ret we_pe) (h H s _ k)
theorem wb_if {t : Bool} (h : EvT X c σ B t) (s : Same B H) (h1 : t = true → ∀ B2 H2, Gr B H B2 H2 → WB X body { D with nx := WB X rest D } σ H2) (h2 : t = false → ∀ B2 H2, Gr B H B2 H2 → WB X els { D with nx := WB X rest D } σ H2) : WB X (.If c body els pos :: rest) D σ H :=
  wb_cons (ps_if wt_pt wb_pss wb_pss) (h H s _ fun B2 H2 g => by
    cases t with
    | true => exact iteT (h1 rfl B2 H2 g)
    | false => exact iteF (h2 rfl B2 H2 g))
/-- an if without else -/
theorem wb_when {t : Bool} (h : EvT X c σ B t) (s : Same B H) (h1 : t = true → ∀ B2 H2, Gr B H B2 H2 → WB X body { D with nx := WB X rest D } σ H2) (h2 : t = false → ∀ B2 H2, Gr B H B2 H2 → WB X rest D σ H2) : WB X (.If c body [] pos :: rest) D σ H :=
  wb_if h s h1 fun e B2 H2 g => wb_nil (h2 e B2 H2 g)
theorem wb_lc {elt : Expr} {ifs : List Expr} {scope : Scope} {own : List (Str × Nat)} {r : α → Rp} {q : β → Rp} {xs : List α} {g : TG} {cc : α → Bool} {f : α → β} (i : Nat) (hc : X.calm = true) (hN : X.N.Nodup) (hi : EvI X tg iter σ B xs r) (ok : BlkOk X.N X.env.scope scope own)
    (hg : ∀ (s : Shared) (H : Hp) (C : Addr) (cl : List (Str × Addr)) (fp : List Addr), PG (bk X scope s H C cl fp) tg g) (turn : ∀ a ∈ xs, LcTurn X scope tg elt ifs σ (own.map (·.2)) B r q cc f g a) (s : Same B H)
    (k : ∀ v B2 H2, Gr B H B2 H2 → (rLF B q ((xs.filter cc).map f)).p v B2 → WB X rest D (σ.set i (some v)) H2) {py : Pos} (hy : X.N[i]? = some x := by rfl) (hyl : X.env.scope.names.lookup x = some .local := by rfl)
    (hsw : swapsWith (.ListComp elt [⟨tg, iter, ifs, 0⟩] scope p) (some (.Name x py)) pos.line X.env = pure true := by exact sw_true rfl rfl rfl (by decide +kernel)) : WB X (.Assign [.Name x py] (.ListComp elt [⟨tg, iter, ifs, 0⟩] scope p) pos :: rest) D σ H := by
  obtain ⟨hl, hs, wi, hp, hw⟩ := id hi
  refine wb_cons (ps_setLc (tt := fun σ H Q => ∀ s0 H0 C cl fp, WTs (bk X scope s0 H0 C cl fp) ifs σ H Q) (te := fun σ H Q => ∀ s0 H0 C cl fp, WE (bk X scope s0 H0 C cl fp) elt σ H Q) hc hN hy hyl hsw hp ok hg (fun s H C cl fp => ⟨fun pins s1 σ H Q I h => h s _ C cl fp pins s1 I⟩) (fun s H C cl fp => ⟨fun pins s1 σ H Q I h => h s _ C cl fp pins s1 I⟩) hs) ?_
  exact lc_reads hi turn s k hw
theorem wb_for {r : α → Rp} {xs : List α} {g : TG} (hp : PassesOwn (model X.prog X.w) X.A X.env X.xe) (hc : X.calm = true) (hi : EvI X tg iter σ B xs r) (hg : PG X tg g) (s : Same B H) (Pv : Hp → Nat → L2.St → Hp → Prop)
    (h0 : ∀ B2 H2, Gr B H B2 H2 → Pv B2 0 σ H2) (hG : ∀ B2 k σ' H', Pv B2 k σ' H' → Same B2 H')
    (hs : ∀ B2 k a v σ' H' B4 H4, Same B B2 → xs[k]? = some a → Pv B2 k σ' H' → Gr B2 H' B4 H4 → (r a).p v B4 → ∃ slotsA, (∀ Q : L2.St → Hp → Prop, Q slotsA H4 → g v σ' H4 Q) ∧ WB X body { nx := Pv B2 (k + 1), ct := Pv B2 (k + 1), bk := WB X rest D, rt := D.rt } slotsA H4)
    (hd : ∀ B2 σ' H', Pv B2 xs.length σ' H' → WB X rest D σ' H') : WB X (.For tg iter body [] pos :: rest) D σ H := by
  obtain ⟨hl, hf, wi, hpi, hw⟩ := hi
  refine wb_cons (ps_for hp hc hpi hg wb_pss hf) ?_
  refine hw H s _ fun J G Y B2 H2 g2 W hGG hY => ?_
  refine for_it (D := { D with nx := WB X rest D }) W (fun k σ' H' => Pv B2 k σ' H') (h0 B2 H2 g2) (fun k σ' H' _ z => hGG H' (hG B2 k σ' H' z)) ?_ (fun σ' H' z => hd B2 σ' H' z)
  intro k v σ' H' H4 hk z y
  obtain ⟨a, B4, ha, g4, ra⟩ := hY k H' v H4 hk (hG B2 k σ' H' z) y
  obtain ⟨slotsA, q1, q2⟩ := hs B2 k a v σ' H' B4 H4 g2.bb ha z g4 ra
  exact q1 _ q2

/-! ### targets -/
theorem gn_name {v : V} {i : Nat} {σ : L2.St} {H : Hp} : ∀ Q : L2.St → Hp → Prop, Q (σ.set i (some v)) H → gName i v σ H Q := fun _ q => q
theorem gn_pair {K : PySem.W.Frag} {v u w : V} {i j : Nat} {σ : L2.St} {B H : Hp} {t : Addr} (hv : v = .ref t) (ht : B t = some (.tup [u, w])) (s : Same B H) : ∀ Q : L2.St → Hp → Prop, Q ((σ.set i (some u)).set j (some w)) H → gTup K 2 (gCons (gName i) (gCons (gName j) gNil)) v σ H Q := fun _ q =>
  ⟨t, [u, w], hv, SqT.of (s _ _ ht), rfl, u, [w], rfl, w, [], rfl, rfl, q⟩

/-! ### bodies -/
/-- a def's body: X the context of its run -/
theorem ok_body {P : Program} {w : World} {K : PySem.W.Frag} {mg : Str → Option Value} {base : Heap} {x qual : Str} {st : Stmt} {f : Addr} {fd : FuncData} {N ps : List Str} {k : Nat} {sp : Sp} (F : Fun K x qual st f fd) (S : FnScope N ps (defScope st)) (len : ∀ vs H Q E, sp vs H Q E → vs.length = ps.length)
    (h : ∀ (cdv : Value) (A : Around) (outer : List Env) (s : Shared) (H : Hp) (vs : List V) (Q : VK) (E : XK), Room k (A.deeper (envOfC qual (defScope st) s.heap.objs.size f cdv)) → sp vs H Q E →
      WB (cxOf CX0 P w K mg base N qual (defScope st) f cdv A outer s H E).nox (defBody st) { nx := fun _ H' => Q .non H', rt := Q } (start N vs) H) : FnOk P w K mg base CX0 (k + 1) f fd ps sp :=
  F.ok S len fun cdv A outer s H vs Q E hr q => ⟨_, wb_pss, h cdv A outer s H vs Q E hr q⟩
theorem ok_bodyX {P : Program} {w : World} {K : PySem.W.Frag} {mg : Str → Option Value} {base : Heap} {x qual : Str} {st : Stmt} {f : Addr} {fd : FuncData} {N ps : List Str} {k : Nat} {sp : Sp} (F : Fun K x qual st f fd) (S : FnScope N ps (defScope st)) (len : ∀ vs H Q E, sp vs H Q E → vs.length = ps.length)
    (h : ∀ (cdv : Value) (A : Around) (outer : List Env) (s : Shared) (H : Hp) (vs : List V) (Q : VK) (E : XK), Room k (A.deeper (envOfC qual (defScope st) s.heap.objs.size f cdv)) → sp vs H Q E →
      WB (cxOf (L2.CX P w) P w K mg base N qual (defScope st) f cdv A outer s H E) (defBody st) { nx := fun _ H' => Q .non H', rt := Q } (start N vs) H) : FnOk P w K mg base (L2.CX P w) (k + 1) f fd ps sp :=
  F.okX S len fun cdv A outer s H vs Q E hr q => ⟨_, wb_pss, h cdv A outer s H vs Q E hr q⟩
theorem len_P {pre : α → Prop} {args : α → List Rp} {ret : α → Rp} {n : Nat} (h : ∀ a, (args a).length = n) : ∀ vs H Q E, spP pre args ret vs H Q E → vs.length = n := fun vs H Q E ⟨a, B, _, _, v, _⟩ => by rw [v.len, h a]
theorem len_N {pre : α → Prop} {args : α → List Rp} {ret : α → Rp} {n : Nat} (h : ∀ a, (args a).length = n) : ∀ vs H Q E, spN pre args ret vs H Q E → vs.length = n := fun vs H Q E ⟨a, B, _, _, v, _⟩ => by rw [v.len, h a]
theorem len_X {pre : α → Prop} {args : α → List Rp} {res : α → Except XF Rp} {n : Nat} (h : ∀ a, (args a).length = n) : ∀ vs H Q E, spX pre args res vs H Q E → vs.length = n := fun vs H Q E ⟨a, B, _, _, v, _⟩ => by rw [v.len, h a]
theorem vs1 {r : Rp} {vs : List V} {H : Hp} (h : Vs [r] vs H) : ∃ v, vs = [v] ∧ r.p v H := h.one
theorem vs2 {r q : Rp} {vs : List V} {H : Hp} (h : Vs [r, q] vs H) : ∃ v u, vs = [v, u] ∧ r.p v H ∧ q.p u H := h.two
theorem vs3 {r q t : Rp} {vs : List V} {H : Hp} (h : Vs [r, q, t] vs H) : ∃ v u w, vs = [v, u, w] ∧ r.p v H ∧ q.p u H ∧ t.p w H := by
  match vs, h with
  | [v, u, w], h => exact ⟨v, u, w, rfl, h.1, h.2.1, h.2.2.1⟩
  | [_], h => exact h.2.elim
  | [_, _], h => exact h.2.2.elim
  | _ :: _ :: _ :: _ :: _, h => exact h.2.2.2.elim
theorem vs4 {r q t z : Rp} {vs : List V} {H : Hp} (h : Vs [r, q, t, z] vs H) : ∃ v u w y, vs = [v, u, w, y] ∧ r.p v H ∧ q.p u H ∧ t.p w H ∧ z.p y H := by
  match vs, h with
  | [v, u, w, y], h => exact ⟨v, u, w, y, rfl, h.1, h.2.1, h.2.2.1, h.2.2.2.1⟩
  | [_], h => exact h.2.elim
  | [_, _], h => exact h.2.2.elim
  | [_, _, _], h => exact h.2.2.2.elim
  | _ :: _ :: _ :: _ :: _ :: _, h => exact h.2.2.2.2.elim
theorem vs5 {r q t z y : Rp} {vs : List V} {H : Hp} (h : Vs [r, q, t, z, y] vs H) : ∃ v u w a b, vs = [v, u, w, a, b] ∧ r.p v H ∧ q.p u H ∧ t.p w H ∧ z.p a H ∧ y.p b H := by
  match vs, h with
  | [v, u, w, a, b], h => exact ⟨v, u, w, a, b, rfl, h.1, h.2.1, h.2.2.1, h.2.2.2.1, h.2.2.2.2.1⟩
  | [_], h => exact h.2.elim
  | [_, _], h => exact h.2.2.elim
  | [_, _, _], h => exact h.2.2.2.elim
  | [_, _, _, _], h => exact h.2.2.2.2.elim
  | _ :: _ :: _ :: _ :: _ :: _ :: _, h => exact h.2.2.2.2.2.elim

/-! ### instances -/
/-- fields and what is told of each -/
def Fs : List (Str × Rp) → List (Str × V) → Hp → Prop
  | [], [], _ => True
  | (f, r) :: rs, (g, v) :: vs, H => f = g ∧ r.p v H ∧ Fs rs vs H
  | _, _, _ => False
theorem Fs.mo : ∀ {rs : List (Str × Rp)} {vs : List (Str × V)} {H H' : Hp}, Same H H' → Fs rs vs H → Fs rs vs H'
  | [], [], _, _, _, _ => True.intro
  | (_, r) :: rs, (_, v) :: vs, _, _, s, h => ⟨h.1, r.mo _ _ _ s h.2.1, Fs.mo s h.2.2⟩
  | [], _ :: _, _, _, _, h => h.elim
  | _ :: _, [], _, _, _, h => h.elim
theorem Fs.at : ∀ {rs : List (Str × Rp)} {vs : List (Str × V)} {H : Hp} {f : Str} {r : Rp}, Fs rs vs H → rs.lookup f = some r → ∃ v, vs.lookup f = some v ∧ r.p v H
  | [], [], _, _, _, _, e => nomatch e
  | (f0, r0) :: rs, (g0, v0) :: vs, H, f, r, h, e => by
    obtain ⟨rfl, h1, h2⟩ := h
    rw [List.lookup_cons] at e ⊢
    cases q : f == f0 with
    | true => rw [q] at e; cases e; exact ⟨v0, rfl, h1⟩
    | false => rw [q] at e; exact h2.at e
  | [], _ :: _, _, _, _, h, _ => h.elim
  | _ :: _, [], _, _, _, h, _ => h.elim
/-- an instance of the class at C with these fields -/
def rO (C : Addr) (rs : List (Str × Rp)) : Rp := ⟨fun v H => ∃ q dx fs, v = .ref q ∧ H q = some (.ins C dx fs) ∧ Fs rs fs H, fun _ _ _ s ⟨q, dx, fs, e, h, z⟩ => ⟨q, dx, fs, e, s _ _ h, z.mo s⟩⟩
theorem ev_fld {C : Addr} {rs : List (Str × Rp)} {f : Str} (cl : Cls X.K C) (na : NoAttr X.K C f) (h : Ev X e σ B (rO C rs)) (hf : rs.lookup f = some R) (hb : attributeBase e f X.env (eval e X.env) = eval e X.env := by rfl) : Ev X (.Attribute e f pos) σ B R := fun H s Q k =>
  we_of (pe_fld we_pe hb) (h H s _ fun v B2 H2 g ⟨q, dx, fs, e1, h1, z⟩ => by
    obtain ⟨u, hu, ru⟩ := z.at hf
    exact ⟨q, C, dx, fs, u, e1, g.bh _ _ h1, cl, na, hu, k u B2 H2 g ru⟩)
theorem ep_fld {C : Addr} {rs : List (Str × Rp)} {f : Str} (cl : Cls X.K C) (na : NoAttr X.K C f) (h : EvP X e σ B (rO C rs)) (hf : rs.lookup f = some R) (hb : attributeBase e f X.env (eval e X.env) = eval e X.env := by rfl) : EvP X (.Attribute e f pos) σ B R := by
  obtain ⟨v, ⟨q, dx, fs, e1, h1, z⟩, k⟩ := h
  obtain ⟨u, hu, ru⟩ := z.at hf
  exact ⟨u, ru, fun H s Q qq => we_of (pe_fld we_pe hb) (k H s _ ⟨q, C, dx, fs, u, e1, s _ _ h1, cl, na, hu, qq⟩)⟩
/-- C(..): what __init__ promises: from the arguments told, the fields told -/
def spI {α : Type} (C : Addr) (pre : α → Prop) (args : α → List Rp) (fs : α → List (Str × Rp)) : Sp := fun vs H Q _ => ∃ a q dx ws B, vs = .ref q :: ws ∧ H q = some (.ins C dx []) ∧ B q = none ∧ Same B H ∧ pre a ∧ Vs (args a) ws B ∧
  ∀ B2 H2 fv, Same B B2 → Same B2 H2 → (∀ z o, H z = some o → z ≠ q → H2 z = some o) → (∀ z, H z ≠ none → B z = none → B2 z = none) → H2 q = some (.ins C dx fv) → Fs (fs a) fv B2 → Q .non H2
theorem ev_make {C : Addr} {k : Nat} {ps : List Str} {pre : α → Prop} {args : α → List Rp} {fs : α → List (Str × Rp)} (M : Ct X.prog X.w X.K X.mg X.base x C k ps (spI C pre args fs)) (hr : Room (k + 1) X.A) (a : α) (hp : pre a) (ha : EvA X (e :: es) σ B (args a)) (hg : Gl X x := by rfl)
    (hdb : (x == ("__debug__" : Str)) = false := by decide) (he : starEach (e :: es) X.env = (false, eval e X.env) :: starEach es X.env := by rfl) (hpl : (backTo pos (starEach es X.env)).any (·.1) = false := by rfl) :
    Ev X (.Call (.Name x p) (e :: es) [] pos) σ B (rO C (fs a)) := fun H s Q kk => by
  obtain ⟨f, fd, hm, hk, hb, G⟩ := M.ex
  refine we_of (pe_make hk G hr hg hm hb .nil pass0 wa_pa hdb he hpl) (ha H s _ fun vs B2 H2 g r => ?_)
  intro z dx nz nd ne
  have nzB : B2 z = none := g.bh.free nz
  have ndB : B2 dx = none := g.bh.free nd
  refine ⟨a, z, dx, vs, B2, by rw [List.append_nil], upd_same, nzB, same_upd (same_upd g.bh ndB) nzB, hp, r, fun B3 H3 fv b23 s3 keep fr h3 hf => ⟨rfl, ?_⟩⟩
  have sH : Same H2 H3 := fun b o q => keep b o (by rw [upd_ne (ne_of_none q nz), upd_ne (ne_of_none q nd)]; exact q) (ne_of_none q nz)
  have nB3z : B3 z = none := fr z (by rw [upd_same]; exact fun y => nomatch y) nzB
  have sB : Same B3 (upd B3 z (.ins C dx fv)) := same_new nB3z
  refine kk _ (upd B3 z (.ins C dx fv)) H3 (g.trans ⟨sH, b23.trans sB, fun b o q => ?_, fun b y n => ?_⟩) ⟨z, dx, fv, rfl, upd_same, hf.mo sB⟩
  · by_cases hbz : b = z
    · subst hbz; rw [upd_same] at q; rw [h3]; exact q
    · rw [upd_ne hbz] at q; exact s3 b o q
  · have hbz : b ≠ z := fun q => y (by rw [q]; exact nz)
    have hbd : b ≠ dx := fun q => y (by rw [q]; exact nd)
    rw [upd_ne hbz]
    exact fr b (by rw [upd_ne hbz, upd_ne hbd]; exact y) n
/-- self.f = e, in an __init__ -/
theorem wb_sf {C q dx : Addr} {fv : List (Str × V)} {f : Str} (cl : Cls X.K C) (na : NoAttr X.K C f) (h : Ev X e σ B R) (ho : EvP X o σ B (rV (.ref q))) (hq : H q = some (.ins C dx fv)) (nq : B q = none) (s : Same B H) (hl : fv.length < 1000)
    (k : ∀ v B2 H2, Gr B H B2 H2 → R.p v B2 → WB X rest D σ (upd H2 q (.ins C dx (putF f v fv)))) (hs : swapsWith e (some (.Attribute o f p2)) pos.line X.env = pure false := by rfl) : WB X (.Assign [.Attribute o f p2] e pos :: rest) D σ H := by
  refine wb_cons (ps_fld we_pe we_pe hs) (h H s _ fun v B2 H2 g r => ?_)
  obtain ⟨u, hu, hk⟩ := ho.mo g.bb
  exact hk H2 g.bh _ ⟨q, C, dx, fv, hu, g.hh _ _ hq, cl, na, hl, k v B2 H2 g r⟩
end

/-! ### comprehensions in short -/
theorem up {R : Rp} {v : V} {B C : Hp} (s : Same B C) (h : R.p v B) : R.p v C := R.mo _ _ _ s h
theorem filter_all {α : Type} (l : List α) : l.filter (fun _ => true) = l := List.filter_eq_self.mpr fun _ _ => rfl
section
variable {X : Cx} {iter elt cnd : Expr} {σ : L2.St} {B : Hp} {pos : Pos} {α β : Type} {r : α → Rp} {q : β → Rp} {xs : List α} {scope : Scope} {x y : Str} {px py : Pos} {kk : Nat}
/-- the slots in a turn: one name, two names -/
abbrev slotsA (σ : L2.St) (i : Nat) (v : V) : L2.St := (wipe σ [i]).set i (some v)
abbrev slotsB (σ : L2.St) (i j : Nat) (v u : V) : L2.St := ((wipe σ [i, j]).set i (some v)).set j (some u)
abbrev Ctxs (X : Cx) (scope : Scope) (p : Cx → Prop) : Prop := ∀ s0 H0 C cl fp, p (bk X scope s0 H0 C cl fp)
theorem wipe1 (σ : L2.St) (i : Nat) (v : V) : wipe (slotsA σ i v) [i] = wipe σ [i] := by
  show ((σ.set i none).set i (some v)).set i none = σ.set i none
  rw [List.set_set, List.set_set]
theorem wipe2 (σ : L2.St) (i j : Nat) (v u : V) (h : i ≠ j) : wipe (slotsB σ i j v u) [i, j] = wipe σ [i, j] := by
  show (((((σ.set j none).set i none).set i (some v)).set j (some u)).set j none).set i none = (σ.set j none).set i none
  rw [List.set_set, List.set_set, List.set_comm _ _ (Ne.symm h), List.set_set, List.set_comm _ _ h, List.set_set]
/-- [f(x) for x in ..] -/
theorem ef_map (i : Nat) {f : α → β} (hc : X.calm = true) (hN : X.N.Nodup) (hi : EvI X (.Name x px) iter σ B xs r) (ok : BlkOk X.N X.env.scope scope [(x, i)])
    (hg : ∀ (s : Shared) (H : Hp) (C : Addr) (cl : List (Str × Addr)) (fp : List Addr), PG (bk X scope s H C cl fp) (.Name x px) (gName i))
    (t : ∀ a ∈ xs, ∀ v B1, Same B B1 → (r a).p v B1 → Ctxs X scope fun Z => Ev Z elt (slotsA σ i v) B1 (q (f a))) : Ev X (.ListComp elt [⟨.Name x px, iter, [], 0⟩] scope pos) σ B (rLF B q (xs.map f)) := by
  have h := ef_lc (pos := pos) (c := fun _ => true) (f := f) (q := q) hc hN hi ok hg fun a ha v B1 H1 s1 s2 r1 => ⟨_, gn_name, wipe1 σ i v, fun s0 H0 C cl fp => ⟨ets_nil, fun _ => t a ha v B1 s1 r1 s0 H0 C cl fp⟩⟩
  rw [filter_all] at h
  exact h
/-- [f(x) for x in .. if c(x)] -/
theorem ef_fmap (i : Nat) {c : α → Bool} {f : α → β} (hc : X.calm = true) (hN : X.N.Nodup) (hi : EvI X (.Name x px) iter σ B xs r) (ok : BlkOk X.N X.env.scope scope [(x, i)])
    (hg : ∀ (s : Shared) (H : Hp) (C : Addr) (cl : List (Str × Addr)) (fp : List Addr), PG (bk X scope s H C cl fp) (.Name x px) (gName i))
    (t : ∀ a ∈ xs, ∀ v B1, Same B B1 → (r a).p v B1 → Ctxs X scope fun Z => EvT Z cnd (slotsA σ i v) B1 (c a) ∧ (c a = true → Ev Z elt (slotsA σ i v) B1 (q (f a)))) :
    Ev X (.ListComp elt [⟨.Name x px, iter, [cnd], 0⟩] scope pos) σ B (rLF B q ((xs.filter c).map f)) :=
  ef_lc hc hN hi ok hg fun a ha v B1 H1 s1 s2 r1 => ⟨_, gn_name, wipe1 σ i v, fun s0 H0 C cl fp => ⟨ets_one (t a ha v B1 s1 r1 s0 H0 C cl fp).1, (t a ha v B1 s1 r1 s0 H0 C cl fp).2⟩⟩
variable {ρ τ : α → Rp}
/-- [f(x, y) for x, y in ..] -/
theorem ef_map2 (i j : Nat) (hij : i ≠ j) {f : α → β} (hc : X.calm = true) (hN : X.N.Nodup) (hi : EvI X (.Tuple [.Name x px, .Name y py] kk pos) iter σ B xs (fun a => rT [ρ a, τ a])) (ok : BlkOk X.N X.env.scope scope [(x, i), (y, j)])
    (hg : ∀ (s : Shared) (H : Hp) (C : Addr) (cl : List (Str × Addr)) (fp : List Addr), PG (bk X scope s H C cl fp) (.Tuple [.Name x px, .Name y py] kk pos) (gTup X.K 2 (gCons (gName i) (gCons (gName j) gNil))))
    (t : ∀ a ∈ xs, ∀ v u B1, Same B B1 → (ρ a).p v B1 → (τ a).p u B1 → Ctxs X scope fun Z => Ev Z elt (slotsB σ i j v u) B1 (q (f a))) {p2 : Pos} : Ev X (.ListComp elt [⟨.Tuple [.Name x px, .Name y py] kk pos, iter, [], 0⟩] scope p2) σ B (rLF B q (xs.map f)) := by
  have h := ef_lc (pos := p2) (c := fun _ => true) (f := f) (q := q) hc hN hi ok hg fun a ha v B1 H1 s1 s2 r1 => by
    obtain ⟨T, ws, e1, hT, hv⟩ := r1
    obtain ⟨v1, v2, rfl, h1, h2⟩ := vs2 hv
    exact ⟨_, gn_pair e1 hT s2, wipe2 σ i j v1 v2 hij, fun s0 H0 C cl fp => ⟨ets_nil, fun _ => t a ha v1 v2 B1 s1 h1 h2 s0 H0 C cl fp⟩⟩
  rw [filter_all] at h
  exact h
theorem ef_fmap2 (i j : Nat) (hij : i ≠ j) {c : α → Bool} {f : α → β} (hc : X.calm = true) (hN : X.N.Nodup) (hi : EvI X (.Tuple [.Name x px, .Name y py] kk pos) iter σ B xs (fun a => rT [ρ a, τ a])) (ok : BlkOk X.N X.env.scope scope [(x, i), (y, j)])
    (hg : ∀ (s : Shared) (H : Hp) (C : Addr) (cl : List (Str × Addr)) (fp : List Addr), PG (bk X scope s H C cl fp) (.Tuple [.Name x px, .Name y py] kk pos) (gTup X.K 2 (gCons (gName i) (gCons (gName j) gNil))))
    (t : ∀ a ∈ xs, ∀ v u B1, Same B B1 → (ρ a).p v B1 → (τ a).p u B1 → Ctxs X scope fun Z => EvT Z cnd (slotsB σ i j v u) B1 (c a) ∧ (c a = true → Ev Z elt (slotsB σ i j v u) B1 (q (f a)))) {p2 : Pos} :
    Ev X (.ListComp elt [⟨.Tuple [.Name x px, .Name y py] kk pos, iter, [cnd], 0⟩] scope p2) σ B (rLF B q ((xs.filter c).map f)) :=
  ef_lc hc hN hi ok hg fun a ha v B1 H1 s1 s2 r1 => by
    obtain ⟨T, ws, e1, hT, hv⟩ := r1
    obtain ⟨v1, v2, rfl, h1, h2⟩ := vs2 hv
    exact ⟨_, gn_pair e1 hT s2, wipe2 σ i j v1 v2 hij, fun s0 H0 C cl fp => ⟨ets_one (t a ha v1 v2 B1 s1 h1 h2 s0 H0 C cl fp).1, (t a ha v1 v2 B1 s1 h1 h2 s0 H0 C cl fp).2⟩⟩
end
theorem ll {α : Type} {r : α → Rp} {xs : List α} {v : V} {B : Hp} (h : (rL r xs).p v B) : xs.length ≤ LB := by
  obtain ⟨_, _, _, _, l, _⟩ := h
  exact l
theorem getD_at {ns : List Int} {p : Nat} (h : p < ns.length) : ns[p]? = some (ns.getD p 0) := by
  rw [List.getD_eq_getElem?_getD, List.getElem?_eq_getElem h]; rfl
end Fb
/-! FbD2: lists that change, attributes as targets, methods -/
namespace Fb
open PySem PySem.Spec PyProof.Rows L2
section
variable {X : Cx} {a b c e o tg iter : Expr} {es : List Expr} {σ : L2.St} {B C H : Hp} {pos apos p p2 : Pos} {α β : Type} {R : Rp} {st : Stmt} {rest body els : List Stmt} {D : L2.Ends} {x : Str}
/-- what stands in a slot, at this very heap -/
theorem at_var (i : Nat) {v : V} (hs : σ[i]? = some (some v)) (hN : X.N[i]? = some x := by rfl) (hv : Vis X.env.scope x := by first | exact Or.inl rfl | exact Or.inr (Or.inl rfl) | exact Or.inr (Or.inr rfl))
    (hd : (x == ("__debug__" : Str)) = false := by decide) (hcd : (x == ("__classdict__" : Str)) = false := by decide) : ∀ Q : VK, Q v H → WE X (.Name x pos) σ H Q := fun Q q => we_of (pv i hN hv hd hcd) ⟨v, hs, q⟩
theorem wv (i : Nat) {v : V} {Q : VK} (hs : σ[i]? = some (some v)) (q : Q v H) (hN : X.N[i]? = some x := by rfl) (hv : Vis X.env.scope x := by first | exact Or.inl rfl | exact Or.inr (Or.inl rfl) | exact Or.inr (Or.inr rfl))
    (hd : (x == ("__debug__" : Str)) = false := by decide) (hcd : (x == ("__classdict__" : Str)) = false := by decide) : WE X (.Name x pos) σ H Q := we_of (pv i hN hv hd hcd) ⟨v, hs, q⟩
theorem lt_line {n : Nat} (h : n ≤ LB + LB) : n ≤ sizeLine := Nat.le_trans h LB_line
theorem wb_append {l : Addr} {xs : List V} (ho : ∀ Q : VK, Q (.ref l) H → WE X o σ H Q) (hl : H l = some (.lst xs)) (nl : B l = none) (hz : xs.length < sizeLine) (h : Ev X e σ B R) (s : Same B H)
    (k : ∀ v B2 H2, Gr B H B2 H2 → R.p v B2 → B2 l = none → WB X rest D σ (upd H2 l (.lst (xs ++ [v])))) (hbase : attributeBase o "append" X.env (eval o X.env) = eval o X.env := by rfl)
    (hfew : ((backTo pos (starEach (e :: []) X.env)).all (fun x => !x.1) && (backToKw pos (keywordEach [] X.env)).all (fun x => x.1.isSome) && decide ((e :: []).length + ([] : List Keyword).length + (if ([] : List Keyword).isEmpty then 0 else 1) < 30)) = true := by rfl)
    (hline : (apos.endLine == pos.line) = true := by rfl) (hs : starEach (e :: []) X.env = (false, eval e X.env) :: starEach [] X.env := by rfl) (hplain : (backTo pos (starEach [] X.env)).any (·.1) = false := by rfl)
    (hsw : swapsWith (.Call (.Attribute o "append" apos) [e] [] pos) none p2.line X.env = pure false := by rfl) : WB X (.Expr (.Call (.Attribute o "append" apos) [e] [] pos) p2 :: rest) D σ H :=
  wb_cons (ps_expr (pe_bm PySem.F.plainAttrs_list PySem.F.slot_list_append PySem.F.type_list_append mt_append we_pe wa_pa hbase hfew hline hs hplain) hsw) (ho _ ⟨.inl ⟨rfl, _, SqL.of hl⟩, (ea_one h hs) H s _ fun vs B2 H2 g r => by
    obtain ⟨v, rfl, r1⟩ := r.one
    exact ⟨l, xs, v, rfl, rfl, g.hh _ _ hl, hz, k v B2 H2 g r1 (g.fr l (by rw [hl]; exact fun z => nomatch z) nl)⟩⟩)
theorem wb_extend {l : Addr} {xs : List V} {r : α → Rp} {ys : List α} (ho : ∀ Q : VK, Q (.ref l) H → WE X o σ H Q) (hl : H l = some (.lst xs)) (nl : B l = none) (hz : xs.length + ys.length ≤ sizeLine) (h : Ev X e σ B (rL r ys)) (s : Same B H)
    (k : ∀ vs B2 H2, Gr B H B2 H2 → All2 (fun x v => (r x).p v B2) ys vs → B2 l = none → WB X rest D σ (upd H2 l (.lst (xs ++ vs)))) (hbase : attributeBase o "extend" X.env (eval o X.env) = eval o X.env := by rfl)
    (hfew : ((backTo pos (starEach (e :: []) X.env)).all (fun x => !x.1) && (backToKw pos (keywordEach [] X.env)).all (fun x => x.1.isSome) && decide ((e :: []).length + ([] : List Keyword).length + (if ([] : List Keyword).isEmpty then 0 else 1) < 30)) = true := by rfl)
    (hline : (apos.endLine == pos.line) = true := by rfl) (hs : starEach (e :: []) X.env = (false, eval e X.env) :: starEach [] X.env := by rfl) (hplain : (backTo pos (starEach [] X.env)).any (·.1) = false := by rfl)
    (hsw : swapsWith (.Call (.Attribute o "extend" apos) [e] [] pos) none p2.line X.env = pure false := by rfl) : WB X (.Expr (.Call (.Attribute o "extend" apos) [e] [] pos) p2 :: rest) D σ H :=
  wb_cons (ps_expr (pe_bm PySem.F.plainAttrs_list PySem.F.slot_list_extend PySem.F.type_list_extend mt_extend we_pe wa_pa hbase hfew hline hs hplain) hsw) (ho _ ⟨.inl ⟨rfl, _, SqL.of hl⟩, (ea_one h hs) H s _ fun vs B2 H2 g r1 => by
    obtain ⟨v, rfl, ⟨q, ws, e1, h1, l1, a1⟩⟩ := r1.one
    exact ⟨l, q, xs, ws, rfl, by rw [e1], g.hh _ _ hl, g.bh _ _ h1, by rw [a1.len]; exact hz, k ws B2 H2 g a1 (g.fr l (by rw [hl]; exact fun z => nomatch z) nl)⟩⟩)
/-- xs[i] = e -/
theorem wb_setix {l : Addr} {xs : List V} {n : Nat} {i : Expr} (h : Ev X e σ B R) (s : Same B H) (hl : H l = some (.lst xs)) (nl : B l = none) (hn : n < xs.length) (ho : ∀ H', Same B H' → ∀ Q : VK, Q (.ref l) H' → WE X o σ H' Q) (hi : EvP X i σ B (rN n))
    (k : ∀ v B2 H2, Gr B H B2 H2 → R.p v B2 → B2 l = none → WB X rest D σ (upd H2 l (.lst (xs.set n v))))
    (ha : ∀ v, assign (.Subscript o i p) X.env v = (do
      let ov ← holding [v] (eval o X.env)
      let iv ← holding [v, ov] (eval i X.env)
      standAt p
      holding [v, ov, iv] (setItem ov iv v)
      release [v, ov, iv] []) := by intro _; rfl)
    (hs : swapsWithSole [.Subscript o i p] e pos.line X.env = pure false := by rfl) (hw : swappedStores [.Subscript o i p] e X.env = pure none := by rfl)
    (h1 : (assignEach [.Subscript o i p] X.env).map (·.2) = [assign (.Subscript o i p) X.env] := by rfl) : WB X (.Assign [.Subscript o i p] e pos :: rest) D σ H :=
  wb_cons (ps_asg we_pe (pg_sub we_pe we_pe set_list ha) hs hw h1) (h H s _ fun v B2 H2 g r => ho H2 (g.bb.trans g.bh) _ (by
    obtain ⟨u, hu, hk⟩ := hi
    refine hk H2 (g.bb.trans g.bh) _ ⟨l, xs, n, n, rfl, hu, g.hh _ _ hl, ?_, k v B2 H2 g r (g.fr l (by rw [hl]; exact fun z => nomatch z) nl)⟩
    unfold ixN
    rw [if_pos (by omega), if_pos (by omega), Int.toNat_natCast]))
/-- o.f as a target -/
theorem pg_attr {f : Str} : PG X (.Attribute o f p) (fun v σ H Q => WE X o σ H fun x H1 => ∃ q C dx fs, x = .ref q ∧ H1 q = some (.ins C dx fs) ∧ Cls X.K C ∧ NoAttr X.K C f ∧ fs.length < 1000 ∧ Q σ (upd H1 q (.ins C dx (putF f v fs)))) := by
  refine ⟨fun pins s σ H v u Q I r h => ?_⟩
  show wpAny _ _ (do
    let ov ← holding [u] (eval o X.env)
    standAt p.atName
    holding [u, ov] (setAttr ov f u)
    release [u, ov] []) _ _ _
  refine wpAny_bind (wpAny_holding (thn (h pins s I) fun ov s1 ⟨x, H1, I1, r1, q, C, dx, fs, e1, h1, cl, na, hl, q1⟩ => ?_))
  subst e1
  obtain rfl : ov = Value.ref q := r1
  exact wpAny_bind (wpAny_standAt (wpAny_bind (wpAny_holding (setattr_ok I1 h1 cl na hl r fun s2 I2 => wpAny_release ⟨σ, _, I2, q1⟩))))
theorem Fs.no : ∀ {rs : List (Str × Rp)} {vs : List (Str × V)} {H : Hp} {f : Str}, Fs rs vs H → rs.lookup f = none → vs.lookup f = none
  | [], [], _, _, _, _ => rfl
  | (f0, r0) :: rs, (g0, v0) :: vs, H, f, h, e => by
    obtain ⟨rfl, h1, h2⟩ := h
    rw [List.lookup_cons] at e ⊢
    cases q : f == f0 with
    | true => rw [q] at e; cases e
    | false => rw [q] at e; exact h2.no e
  | [], _ :: _, _, _, h, _ => h.elim
  | _ :: _, [], _, _, h, _ => h.elim
/-- o.m(..), of an instance -/
abbrev Dispatch (X : Cx) (o : Expr) (m : Str) (apos : Pos) (es : List Expr) (pos : Pos) (pl : Sem Bool) : Prop := eval (.Call (.Attribute o m apos) es [] pos) X.env = (do
      let ov ← eval o X.env
      standAt apos.atName
      let (f, first) ← holding [ov] (getMethod ov m pl)
      callWith pos f first (backTo pos (starEach es X.env)) (backToKw pos (keywordEach [] X.env)))
variable {C0 : Addr} {rs : List (Str × Rp)} {m : Str} {k : Nat} {ps : List Str} {pre : α → Prop} {args : α → List Rp} {ret : α → Rp} {res : α → Except XF Rp} {pl : Sem Bool} {W : WX} {ef : XF} {CX : CXT} {Rs : List Rp}
theorem ev_meth0 (cl : Cls X.K C0) (F : Mt X.prog X.w X.K X.mg X.base CX0 C0 m k ps (spP pre args ret)) (hr : Room k X.A) (z : α) (hp : pre z) (h : Ev X o σ B (rO C0 rs)) (hz : args z = [rO C0 rs]) (hm : rs.lookup m = none) (ht : Dispatch X o m apos [] pos pl := by rfl) :
    Ev X (.Call (.Attribute o m apos) [] [] pos) σ B (ret z) := fun H s Q kk => by
  obtain ⟨f, fd, hM, hb, G⟩ := F.ex
  refine we_of (pe_meth0 we_pe cl hM G hr hb .nil pass0 ht) (h H s _ fun v B2 H2 g rv => ?_)
  obtain ⟨q, dx, fs, e1, h1, z1⟩ := id rv
  exact ⟨q, dx, fs, e1, g.bh _ _ h1, z1.no hm, z, B2, g.bh, hp, by rw [hz]; exact ⟨rv, True.intro⟩, fun v B3 H3 g3 r3 => kk v B3 H3 (g.trans g3) r3⟩
theorem ef_meth0 (cl : Cls X.K C0) (F : Mt X.prog X.w X.K X.mg X.base CX0 C0 m k ps (spN pre args ret)) (hr : Room k X.A) (z : α) (hp : pre z) (h : Ev X o σ B (rO C0 rs)) (hz : args z = [rO C0 rs]) (hm : rs.lookup m = none) (ht : Dispatch X o m apos [] pos pl := by rfl) :
    Ev X (.Call (.Attribute o m apos) [] [] pos) σ B (rF B (ret z)) := fun H s Q kk => by
  obtain ⟨f, fd, hM, hb, G⟩ := F.ex
  refine we_of (pe_meth0 we_pe cl hM G hr hb .nil pass0 ht) (h H s _ fun v B2 H2 g rv => ?_)
  obtain ⟨q, dx, fs, e1, h1, z1⟩ := id rv
  exact ⟨q, dx, fs, e1, g.bh _ _ h1, z1.no hm, z, B2, g.bh, hp, by rw [hz]; exact ⟨rv, True.intro⟩, fun v B3 H3 g3 r3 => kk v B3 H3 (g.trans g3) (by
    obtain ⟨a1, a2, a3, a4⟩ := r3
    exact ⟨a1, a2, a3, g.bb.free a4⟩)⟩
theorem ev_meth (cl : Cls X.K C0) (F : Mt X.prog X.w X.K X.mg X.base CX0 C0 m k ps (spP pre args ret)) (hr : Room k X.A) (z : α) (hp : pre z) (h : Ev X o σ B (rO C0 rs)) (ha : EvA X (e :: es) σ B Rs) (hz : args z = rO C0 rs :: Rs) (hm : rs.lookup m = none)
    (ht : Dispatch X o m apos (e :: es) pos pl := by rfl) (hst : starEach (e :: es) X.env = (false, eval e X.env) :: starEach es X.env := by rfl) (hpl : (backTo pos (starEach es X.env)).any (·.1) = false := by rfl) :
    Ev X (.Call (.Attribute o m apos) (e :: es) [] pos) σ B (ret z) := fun H s Q kk => by
  obtain ⟨f, fd, hM, hb, G⟩ := F.ex
  refine we_of (pe_meth we_pe cl hM G hr hb .nil pass0 wa_pa hst hpl ht) (h H s _ fun v B2 H2 g rv => ?_)
  obtain ⟨q, dx, fs, e1, h1, z1⟩ := id rv
  exact ⟨q, dx, fs, e1, g.bh _ _ h1, z1.no hm, (ha.mo g.bb) H2 g.bh _ fun vs B3 H3 g3 r3 => ⟨z, B3, g3.bh, hp, by rw [hz, List.append_nil]; exact ⟨(rO C0 rs).mo _ _ _ g3.bb rv, r3⟩, fun v B4 H4 g4 r4 => kk v B4 H4 ((g.trans g3).trans g4) r4⟩⟩
/-- a method that may raise: what is raised is wished for at the caller's slots -/
def tMX (C : Addr) (m : Str) (sp : Sp) (E : L2.St → XK) (ta : TE) (t : TA) : TE := fun σ H Q => ta σ H fun x H1 => ∃ a dx fs, x = .ref a ∧ H1 a = some (.ins C dx fs) ∧ fs.lookup m = none ∧ t σ H1 fun vs H2 => sp (x :: vs) H2 Q (E σ)
theorem pe_mX {sp : Sp} {f : Addr} {fd : FuncData} {E : L2.St → XK} {ta : TE} {t : TA} (he : PE X o ta) (cl : Cls X.K C0) (hm : Meth X.K C0 m f) (F : FnOk X.prog X.w X.K X.mg X.base CX k f fd ps sp) (hr : Room k X.A) (hb : Binds X.K fd ps []) (hx : ∀ σ, PassesAt CX X σ (E σ)) (ha : PA X (e :: es) t)
    (ht : Dispatch X o m apos (e :: es) pos pl) (hst : starEach (e :: es) X.env = (false, eval e X.env) :: starEach es X.env) (hpl : (backTo pos (starEach es X.env)).any (·.1) = false) : PE X (.Call (.Attribute o m apos) (e :: es) [] pos) (tMX C0 m sp E ta t) :=
  ⟨fun pins s σ H Q I h => PySem.W.methodCall_KW (pl := pl) (thn (he.run pins s σ H _ I h) fun u s1 ⟨x, H1, I1, rx, a, dx, fs, ex, ea, l, q⟩ => by
    subst ex
    cases (show u = Value.ref a from rx)
    exact getmeth_ok I1 ea cl hm l (PySem.W.callWith_K (first := [.ref a]) (h₀ := X.base) I1.ok.mod.kin hm.kp (thn (ha.run pos pins s1 σ H1 _ I1 q) fun us s2 ⟨vs, H2, I2, r, q2⟩ => ⟨I2.kIn, run_fnS (us := .ref a :: us) (vs := .ref a :: vs) F hr hb (hx σ) I2 (.cons rfl r) q2⟩) hst hpl)) ht⟩
theorem ev_methX (cl : Cls X.K C0) (F : Mt X.prog X.w X.K X.mg X.base CX C0 m k ps (spX pre args res)) (hr : Room k X.A) (hx : ∀ σ, PassesAt CX X σ (L2.WE W σ)) (z : α) (hp : pre z) (hres : res z = .ok R) (h : Ev X o σ B (rO C0 rs)) (ha : EvA X (e :: es) σ B Rs) (hz : args z = rO C0 rs :: Rs) (hm : rs.lookup m = none)
    (ht : Dispatch X o m apos (e :: es) pos pl := by rfl) (hst : starEach (e :: es) X.env = (false, eval e X.env) :: starEach es X.env := by rfl) (hpl : (backTo pos (starEach es X.env)).any (·.1) = false := by rfl) :
    Ev X (.Call (.Attribute o m apos) (e :: es) [] pos) σ B R := fun H s Q kk => by
  obtain ⟨f, fd, hM, hb, G⟩ := F.ex
  refine we_of (pe_mX (E := L2.WE W) we_pe cl hM G hr hb hx wa_pa ht hst hpl) (h H s _ fun v B2 H2 g rv => ?_)
  obtain ⟨q, dx, fs, e1, h1, z1⟩ := id rv
  exact ⟨q, dx, fs, e1, g.bh _ _ h1, z1.no hm, (ha.mo g.bb) H2 g.bh _ fun vs B3 H3 g3 r3 => ⟨z, B3, g3.bh, hp, by rw [hz]; exact ⟨(rO C0 rs).mo _ _ _ g3.bb rv, r3⟩, by rw [hres]; exact fun v B4 H4 g4 r4 => kk v B4 H4 ((g.trans g3).trans g4) r4⟩⟩
theorem er_methX (cl : Cls X.K C0) (F : Mt X.prog X.w X.K X.mg X.base CX C0 m k ps (spX pre args res)) (hr : Room k X.A) (hx : ∀ σ, PassesAt CX X σ (L2.WE W σ)) (z : α) (hp : pre z) (hres : res z = .error ef) (h : Ev X o σ B (rO C0 rs)) (ha : EvA X (e :: es) σ B Rs) (hz : args z = rO C0 rs :: Rs) (hm : rs.lookup m = none)
    (ht : Dispatch X o m apos (e :: es) pos pl := by rfl) (hst : starEach (e :: es) X.env = (false, eval e X.env) :: starEach es X.env := by rfl) (hpl : (backTo pos (starEach es X.env)).any (·.1) = false := by rfl) :
    EvR X W (.Call (.Attribute o m apos) (e :: es) [] pos) σ B ef := fun H s Q kk => by
  obtain ⟨f, fd, hM, hb, G⟩ := F.ex
  refine we_of (pe_mX (E := L2.WE W) we_pe cl hM G hr hb hx wa_pa ht hst hpl) (h H s _ fun v B2 H2 g rv => ?_)
  obtain ⟨q, dx, fs, e1, h1, z1⟩ := id rv
  exact ⟨q, dx, fs, e1, g.bh _ _ h1, z1.no hm, (ha.mo g.bb) H2 g.bh _ fun vs B3 H3 g3 r3 => ⟨z, B3, g3.bh, hp, by rw [hz]; exact ⟨(rO C0 rs).mo _ _ _ g3.bb rv, r3⟩, by rw [hres]; exact fun d H4 s4 h4 => kk d H4 ((g.hh.trans g3.hh).trans s4) h4⟩⟩
end
end Fb
/-! FbE: the text by places, scopes, what is asked of the written part. Printed by gen_text.py -/
namespace Fb
open PySem PySem.Spec PyProof.Rows L2
def top (i : Nat) : Stmt := PySem.Challenge.pw_freshbags_s01_answers.main.body.getD i (.Pass ⟨0, 0, 0, 0⟩)
abbrev s_parts_of : Stmt := top 11
/-- slots: 0 some, 1 between, 2 found, 3 byte -/
abbrev N_parts_of : List Str := ["some", "between", "found", "byte"]
theorem sc_parts_of : FnScope N_parts_of ["some", "between"] (defScope s_parts_of) := ⟨rfl, rfl, rfl, by decide +kernel, rfl, by decide +kernel, by decide +kernel⟩
abbrev s_words_of : Stmt := top 12
/-- slots: 0 line, 1 part -/
abbrev N_words_of : List Str := ["line", "part"]
theorem sc_words_of : FnScope N_words_of ["line"] (defScope s_words_of) := ⟨rfl, rfl, rfl, by decide +kernel, rfl, by decide +kernel, by decide +kernel⟩
abbrev s_bytes_of : Stmt := top 13
/-- slots: 0 text, 1 sign -/
abbrev N_bytes_of : List Str := ["text", "sign"]
theorem sc_bytes_of : FnScope N_bytes_of ["text"] (defScope s_bytes_of) := ⟨rfl, rfl, rfl, by decide +kernel, rfl, by decide +kernel, by decide +kernel⟩
abbrev s_are_all : Stmt := top 14
/-- slots: 0 some, 1 least, 2 greatest, 3 byte -/
abbrev N_are_all : List Str := ["some", "least", "greatest", "byte"]
theorem sc_are_all : FnScope N_are_all ["some", "least", "greatest"] (defScope s_are_all) := ⟨rfl, rfl, rfl, by decide +kernel, rfl, by decide +kernel, by decide +kernel⟩
abbrev s_number_of : Stmt := top 15
/-- slots: 0 word, 1 found, 2 byte -/
abbrev N_number_of : List Str := ["word", "found", "byte"]
theorem sc_number_of : FnScope N_number_of ["word"] (defScope s_number_of) := ⟨rfl, rfl, rfl, by decide +kernel, rfl, by decide +kernel, by decide +kernel⟩
abbrev s_is_kind : Stmt := top 16
/-- slots: 0 word -/
abbrev N_is_kind : List Str := ["word"]
theorem sc_is_kind : FnScope N_is_kind ["word"] (defScope s_is_kind) := ⟨rfl, rfl, rfl, by decide +kernel, rfl, by decide +kernel, by decide +kernel⟩
abbrev s_is_name : Stmt := top 17
/-- slots: 0 word -/
abbrev N_is_name : List Str := ["word"]
theorem sc_is_name : FnScope N_is_name ["word"] (defScope s_is_name) := ⟨rfl, rfl, rfl, by decide +kernel, rfl, by decide +kernel, by decide +kernel⟩
abbrev s_line_of : Stmt := top 18
/-- slots: 0 words, 1 found, 2 word -/
abbrev N_line_of : List Str := ["words", "found", "word"]
theorem sc_line_of : FnScope N_line_of ["words"] (defScope s_line_of) := ⟨rfl, rfl, rfl, by decide +kernel, rfl, by decide +kernel, by decide +kernel⟩
abbrev s_Stock_init : Stmt := inClass (top 21) 0
/-- slots: 0 self, 1 kind, 2 size, 3 day, 4 bags -/
abbrev N_Stock_init : List Str := ["self", "kind", "size", "day", "bags"]
theorem sc_Stock_init : FnScope N_Stock_init ["self", "kind", "size", "day", "bags"] (defScope s_Stock_init) := ⟨rfl, rfl, rfl, by decide +kernel, rfl, by decide +kernel, by decide +kernel⟩
abbrev s_Stock_with_bags : Stmt := inClass (top 21) 1
/-- slots: 0 self, 1 bags -/
abbrev N_Stock_with_bags : List Str := ["self", "bags"]
theorem sc_Stock_with_bags : FnScope N_Stock_with_bags ["self", "bags"] (defScope s_Stock_with_bags) := ⟨rfl, rfl, rfl, by decide +kernel, rfl, by decide +kernel, by decide +kernel⟩
abbrev s_Order_init : Stmt := inClass (top 22) 0
/-- slots: 0 self, 1 name, 2 kind, 3 numbers, 4 is_ground, 5 is_whole -/
abbrev N_Order_init : List Str := ["self", "name", "kind", "numbers", "is_ground", "is_whole"]
theorem sc_Order_init : FnScope N_Order_init ["self", "name", "kind", "numbers", "is_ground", "is_whole"] (defScope s_Order_init) := ⟨rfl, rfl, rfl, by decide +kernel, rfl, by decide +kernel, by decide +kernel⟩
abbrev s_Order_numbers : Stmt := inClass (top 22) 1
/-- slots: 0 self -/
abbrev N_Order_numbers : List Str := ["self"]
theorem sc_Order_numbers : FnScope N_Order_numbers ["self"] (defScope s_Order_numbers) := ⟨rfl, rfl, rfl, by decide +kernel, rfl, by decide +kernel, by decide +kernel⟩
abbrev s_Order_with_due : Stmt := inClass (top 22) 2
/-- slots: 0 self, 1 due, 2 numbers -/
abbrev N_Order_with_due : List Str := ["self", "due", "numbers"]
theorem sc_Order_with_due : FnScope N_Order_with_due ["self", "due"] (defScope s_Order_with_due) := ⟨rfl, rfl, rfl, by decide +kernel, rfl, by decide +kernel, by decide +kernel⟩
abbrev s_Book_init : Stmt := inClass (top 23) 0
/-- slots: 0 self, 1 stocks, 2 orders, 3 grind, 4 send -/
abbrev N_Book_init : List Str := ["self", "stocks", "orders", "grind", "send"]
theorem sc_Book_init : FnScope N_Book_init ["self", "stocks", "orders", "grind", "send"] (defScope s_Book_init) := ⟨rfl, rfl, rfl, by decide +kernel, rfl, by decide +kernel, by decide +kernel⟩
abbrev s_Book_wants : Stmt := inClass (top 23) 1
/-- slots: 0 self, 1 order -/
abbrev N_Book_wants : List Str := ["self", "order"]
theorem sc_Book_wants : FnScope N_Book_wants ["self"] (defScope s_Book_wants) := ⟨rfl, rfl, rfl, by decide +kernel, rfl, by decide +kernel, by decide +kernel⟩
abbrev s_Book_days : Stmt := inClass (top 23) 2
/-- slots: 0 self, 1 order -/
abbrev N_Book_days : List Str := ["self", "order"]
theorem sc_Book_days : FnScope N_Book_days ["self"] (defScope s_Book_days) := ⟨rfl, rfl, rfl, by decide +kernel, rfl, by decide +kernel, by decide +kernel⟩
abbrev s_Book_name_place : Stmt := inClass (top 23) 3
/-- slots: 0 self, 1 name, 2 place, 3 order -/
abbrev N_Book_name_place : List Str := ["self", "name", "place", "order"]
theorem sc_Book_name_place : FnScope N_Book_name_place ["self", "name"] (defScope s_Book_name_place) := ⟨rfl, rfl, rfl, by decide +kernel, rfl, by decide +kernel, by decide +kernel⟩
abbrev s_new_book : Stmt := top 24
/-- slots:  -/
abbrev N_new_book : List Str := []
theorem sc_new_book : FnScope N_new_book [] (defScope s_new_book) := ⟨rfl, rfl, rfl, by decide +kernel, rfl, by decide +kernel, by decide +kernel⟩
abbrev s_is_right : Stmt := top 25
/-- slots: 0 stock, 1 order -/
abbrev N_is_right : List Str := ["stock", "order"]
theorem sc_is_right : FnScope N_is_right ["stock", "order"] (defScope s_is_right) := ⟨rfl, rfl, rfl, by decide +kernel, rfl, by decide +kernel, by decide +kernel⟩
abbrev s_stock_line : Stmt := top 26
/-- slots: 0 stock, 1 words -/
abbrev N_stock_line : List Str := ["stock", "words"]
theorem sc_stock_line : FnScope N_stock_line ["stock"] (defScope s_stock_line) := ⟨rfl, rfl, rfl, by decide +kernel, rfl, by decide +kernel, by decide +kernel⟩
abbrev s_order_line : Stmt := top 27
/-- slots: 0 order, 1 words, 2 how -/
abbrev N_order_line : List Str := ["order", "words", "how"]
theorem sc_order_line : FnScope N_order_line ["order"] (defScope s_order_line) := ⟨rfl, rfl, rfl, by decide +kernel, rfl, by decide +kernel, by decide +kernel⟩
abbrev s_shown : Stmt := top 28
/-- slots: 0 book, 1 found, 2 stock, 3 order -/
abbrev N_shown : List Str := ["book", "found", "stock", "order"]
theorem sc_shown : FnScope N_shown ["book"] (defScope s_shown) := ⟨rfl, rfl, rfl, by decide +kernel, rfl, by decide +kernel, by decide +kernel⟩
abbrev s_WrongLine_init : Stmt := inClass (top 49) 0
/-- slots: 0 self, 1 kind -/
abbrev N_WrongLine_init : List Str := ["self", "kind"]
theorem sc_WrongLine_init : FnScope N_WrongLine_init ["self", "kind"] (defScope s_WrongLine_init) := ⟨rfl, rfl, rfl, by decide +kernel, rfl, by decide +kernel, by decide +kernel⟩
abbrev s_Fault_init : Stmt := inClass (top 50) 0
/-- slots: 0 self, 1 kind, 2 line -/
abbrev N_Fault_init : List Str := ["self", "kind", "line"]
theorem sc_Fault_init : FnScope N_Fault_init ["self", "kind", "line"] (defScope s_Fault_init) := ⟨rfl, rfl, rfl, by decide +kernel, rfl, by decide +kernel, by decide +kernel⟩
abbrev s_need : Stmt := top 51
/-- slots: 0 is_so, 1 kind -/
abbrev N_need : List Str := ["is_so", "kind"]
theorem sc_need : FnScope N_need ["is_so", "kind"] (defScope s_need) := ⟨rfl, rfl, rfl, by decide +kernel, rfl, by decide +kernel, by decide +kernel⟩
abbrev s_need_words : Stmt := top 52
/-- slots: 0 words, 1 told, 2 place, 3 text -/
abbrev N_need_words : List Str := ["words", "told", "place", "text"]
theorem sc_need_words : FnScope N_need_words ["words", "told"] (defScope s_need_words) := ⟨rfl, rfl, rfl, by decide +kernel, rfl, by decide +kernel, by decide +kernel⟩
abbrev s_numbers_at : Stmt := top 53
/-- slots: 0 words, 1 places, 2 found, 3 place -/
abbrev N_numbers_at : List Str := ["words", "places", "found", "place"]
theorem sc_numbers_at : FnScope N_numbers_at ["words", "places"] (defScope s_numbers_at) := ⟨rfl, rfl, rfl, by decide +kernel, rfl, by decide +kernel, by decide +kernel⟩
abbrev s_need_range : Stmt := top 54
/-- slots: 0 number, 1 least, 2 greatest -/
abbrev N_need_range : List Str := ["number", "least", "greatest"]
theorem sc_need_range : FnScope N_need_range ["number", "least", "greatest"] (defScope s_need_range) := ⟨rfl, rfl, rfl, by decide +kernel, rfl, by decide +kernel, by decide +kernel⟩
abbrev s_with_stock : Stmt := top 55
/-- slots: 0 book, 1 words, 2 size, 3 day, 4 bags -/
abbrev N_with_stock : List Str := ["book", "words", "size", "day", "bags"]
theorem sc_with_stock : FnScope N_with_stock ["book", "words"] (defScope s_with_stock) := ⟨rfl, rfl, rfl, by decide +kernel, rfl, by decide +kernel, by decide +kernel⟩
abbrev s_either : Stmt := top 56
/-- slots: 0 word, 1 one, 2 other -/
abbrev N_either : List Str := ["word", "one", "other"]
theorem sc_either : FnScope N_either ["word", "one", "other"] (defScope s_either) := ⟨rfl, rfl, rfl, by decide +kernel, rfl, by decide +kernel, by decide +kernel⟩
abbrev s_repeats : Stmt := top 57
/-- slots: 0 words -/
abbrev N_repeats : List Str := ["words"]
theorem sc_repeats : FnScope N_repeats ["words"] (defScope s_repeats) := ⟨rfl, rfl, rfl, by decide +kernel, rfl, by decide +kernel, by decide +kernel⟩
abbrev s_names_of : Stmt := top 58
/-- slots: 0 words, 1 many, 2 k -/
abbrev N_names_of : List Str := ["words", "many", "k"]
theorem sc_names_of : FnScope N_names_of ["words", "many"] (defScope s_names_of) := ⟨rfl, rfl, rfl, by decide +kernel, rfl, by decide +kernel, by decide +kernel⟩
abbrev s_need_order_ranges : Stmt := top 59
/-- slots: 0 numbers, 1 step, 2 many, 3 is_every, 4 size, 5 bags, 6 due, 7 least, 8 most -/
abbrev N_need_order_ranges : List Str := ["numbers", "step", "many", "is_every", "size", "bags", "due", "least", "most"]
theorem sc_need_order_ranges : FnScope N_need_order_ranges ["numbers", "step", "many", "is_every"] (defScope s_need_order_ranges) := ⟨rfl, rfl, rfl, by decide +kernel, rfl, by decide +kernel, by decide +kernel⟩
abbrev s_with_orders : Stmt := top 60
/-- slots: 0 book, 1 words, 2 is_every, 3 numbers, 4 is_ground, 5 is_whole, 6 step, 7 many, 8 names, 9 orders, 10 more, 11 name, 12 k, 13 order -/
abbrev N_with_orders : List Str := ["book", "words", "is_every", "numbers", "is_ground", "is_whole", "step", "many", "names", "orders", "more", "name", "k", "order"]
theorem sc_with_orders : FnScope N_with_orders ["book", "words"] (defScope s_with_orders) := ⟨rfl, rfl, rfl, by decide +kernel, rfl, by decide +kernel, by decide +kernel⟩
abbrev s_with_limits : Stmt := top 62
/-- slots: 0 book, 1 words, 2 grind, 3 send -/
abbrev N_with_limits : List Str := ["book", "words", "grind", "send"]
theorem sc_with_limits : FnScope N_with_limits ["book", "words"] (defScope s_with_limits) := ⟨rfl, rfl, rfl, by decide +kernel, rfl, by decide +kernel, by decide +kernel⟩
abbrev s_with_line : Stmt := top 63
/-- slots: 0 book, 1 line, 2 words -/
abbrev N_with_line : List Str := ["book", "line", "words"]
theorem sc_with_line : FnScope N_with_line ["book", "line"] (defScope s_with_line) := ⟨rfl, rfl, rfl, by decide +kernel, rfl, by decide +kernel, by decide +kernel⟩
abbrev s_with_text : Stmt := top 64
/-- slots: 0 book, 1 text, 2 at, 3 line, 4 e -/
abbrev N_with_text : List Str := ["book", "text", "at", "line", "e"]
theorem sc_with_text : FnScope N_with_text ["book", "text"] (defScope s_with_text) := ⟨rfl, rfl, rfl, by decide +kernel, rfl, by decide +kernel, by decide +kernel⟩
abbrev s_all_sets : Stmt := top 69
/-- slots: 0 many, 1 found, 2 bits, 3 row, 4 size, 5 place -/
abbrev N_all_sets : List Str := ["many", "found", "bits", "row", "size", "place"]
theorem sc_all_sets : FnScope N_all_sets ["many"] (defScope s_all_sets) := ⟨rfl, rfl, rfl, by decide +kernel, rfl, by decide +kernel, by decide +kernel⟩
abbrev s_stocks_for : Stmt := top 70
/-- slots: 0 book, 1 some, 2 orders, 3 place, 4 stock, 5 order -/
abbrev N_stocks_for : List Str := ["book", "some", "orders", "place", "stock", "order"]
theorem sc_stocks_for : FnScope N_stocks_for ["book", "some"] (defScope s_stocks_for) := ⟨rfl, rfl, rfl, by decide +kernel, rfl, by decide +kernel, by decide +kernel⟩
abbrev s_orders_on : Stmt := top 71
/-- slots: 0 book, 1 day, 2 some, 3 ground, 4 place, 5 order -/
abbrev N_orders_on : List Str := ["book", "day", "some", "ground", "place", "order"]
theorem sc_orders_on : FnScope N_orders_on ["book", "day"] (defScope s_orders_on) := ⟨rfl, rfl, rfl, by decide +kernel, rfl, by decide +kernel, by decide +kernel⟩
abbrev s_Ways_init : Stmt := inClass (top 72) 0
/-- slots: 0 self, 1 book, 2 some, 3 day -/
abbrev N_Ways_init : List Str := ["self", "book", "some", "day"]
theorem sc_Ways_init : FnScope N_Ways_init ["self", "book"] (defScope s_Ways_init) := ⟨rfl, rfl, rfl, by decide +kernel, rfl, by decide +kernel, by decide +kernel⟩
abbrev s_sum_of : Stmt := top 73
/-- slots: 0 numbers, 1 places, 2 place -/
abbrev N_sum_of : List Str := ["numbers", "places", "place"]
theorem sc_sum_of : FnScope N_sum_of ["numbers", "places"] (defScope s_sum_of) := ⟨rfl, rfl, rfl, by decide +kernel, rfl, by decide +kernel, by decide +kernel⟩
abbrev s_others : Stmt := top 74
/-- slots: 0 places, 1 some, 2 place -/
abbrev N_others : List Str := ["places", "some", "place"]
theorem sc_others : FnScope N_others ["places", "some"] (defScope s_others) := ⟨rfl, rfl, rfl, by decide +kernel, rfl, by decide +kernel, by decide +kernel⟩
abbrev s_put_up : Stmt := top 75
/-- slots: 0 ways, 1 wants, 2 some, 3 due_ones, 4 ground, 5 beans -/
abbrev N_put_up : List Str := ["ways", "wants", "some", "due_ones", "ground", "beans"]
theorem sc_put_up : FnScope N_put_up ["ways", "wants", "some", "due_ones"] (defScope s_put_up) := ⟨rfl, rfl, rfl, by decide +kernel, rfl, by decide +kernel, by decide +kernel⟩
abbrev s_days_bound : Stmt := top 76
/-- slots: 0 ways, 1 wants, 2 some, 3 due_ones -/
abbrev N_days_bound : List Str := ["ways", "wants", "some", "due_ones"]
theorem sc_days_bound : FnScope N_days_bound ["ways", "wants", "some"] (defScope s_days_bound) := ⟨rfl, rfl, rfl, by decide +kernel, rfl, by decide +kernel, by decide +kernel⟩
abbrev s_bound : Stmt := top 77
/-- slots: 0 ways, 1 wants, 2 number, 3 bags, 4 stock -/
abbrev N_bound : List Str := ["ways", "wants", "number", "bags", "stock"]
theorem sc_bound : FnScope N_bound ["ways", "wants", "number"] (defScope s_bound) := ⟨rfl, rfl, rfl, by decide +kernel, rfl, by decide +kernel, by decide +kernel⟩
abbrev s_told_bound : Stmt := top 78
/-- slots: 0 ways, 1 wants, 2 least, 3 told, 4 number, 5 some, 6 here -/
abbrev N_told_bound : List Str := ["ways", "wants", "least", "told", "number", "some", "here"]
theorem sc_told_bound : FnScope N_told_bound ["ways", "wants"] (defScope s_told_bound) := ⟨rfl, rfl, rfl, by decide +kernel, rfl, by decide +kernel, by decide +kernel⟩
abbrev s_most : Stmt := top 79
/-- slots: 0 ways, 1 wants -/
abbrev N_most : List Str := ["ways", "wants"]
theorem sc_most : FnScope N_most ["ways", "wants"] (defScope s_most) := ⟨rfl, rfl, rfl, by decide +kernel, rfl, by decide +kernel, by decide +kernel⟩
abbrev s_can_have : Stmt := top 80
/-- slots: 0 ways, 1 wants -/
abbrev N_can_have : List Str := ["ways", "wants"]
theorem sc_can_have : FnScope N_can_have ["ways", "wants"] (defScope s_can_have) := ⟨rfl, rfl, rfl, by decide +kernel, rfl, by decide +kernel, by decide +kernel⟩
abbrev s_held_on : Stmt := top 81
/-- slots: 0 ways, 1 wants, 2 some, 3 due_ones -/
abbrev N_held_on : List Str := ["ways", "wants", "some", "due_ones"]
theorem sc_held_on : FnScope N_held_on ["ways", "wants", "some", "due_ones"] (defScope s_held_on) := ⟨rfl, rfl, rfl, by decide +kernel, rfl, by decide +kernel, by decide +kernel⟩
abbrev s_bound_told : Stmt := top 82
/-- slots: 0 ways, 1 wants, 2 least, 3 some, 4 due_ones -/
abbrev N_bound_told : List Str := ["ways", "wants", "least", "some", "due_ones"]
theorem sc_bound_told : FnScope N_bound_told ["ways", "wants"] (defScope s_bound_told) := ⟨rfl, rfl, rfl, by decide +kernel, rfl, by decide +kernel, by decide +kernel⟩
abbrev s_Take_init : Stmt := inClass (top 84) 0
/-- slots: 0 self, 1 order, 2 stock, 3 bags -/
abbrev N_Take_init : List Str := ["self", "order", "stock", "bags"]
theorem sc_Take_init : FnScope N_Take_init ["self", "order", "stock", "bags"] (defScope s_Take_init) := ⟨rfl, rfl, rfl, by decide +kernel, rfl, by decide +kernel, by decide +kernel⟩
abbrev s_with_one : Stmt := top 85
/-- slots: 0 row, 1 place, 2 number -/
abbrev N_with_one : List Str := ["row", "place", "number"]
theorem sc_with_one : FnScope N_with_one ["row", "place", "number"] (defScope s_with_one) := ⟨rfl, rfl, rfl, by decide +kernel, rfl, by decide +kernel, by decide +kernel⟩
abbrev s_served : Stmt := top 86
/-- slots: 0 ways, 1 found, 2 place, 3 order, 4 here -/
abbrev N_served : List Str := ["ways", "found", "place", "order", "here"]
theorem sc_served : FnScope N_served ["ways"] (defScope s_served) := ⟨rfl, rfl, rfl, by decide +kernel, rfl, by decide +kernel, by decide +kernel⟩
abbrev s_fullest : Stmt := top 87
/-- slots: 0 ways, 1 found, 2 all_in_all, 3 place -/
abbrev N_fullest : List Str := ["ways", "found", "all_in_all", "place"]
theorem sc_fullest : FnScope N_fullest ["ways"] (defScope s_fullest) := ⟨rfl, rfl, rfl, by decide +kernel, rfl, by decide +kernel, by decide +kernel⟩
abbrev s_stocks_in_turn : Stmt := top 88
/-- slots: 0 book, 1 order, 2 some, 3 place, 4 stock, 5 day -/
abbrev N_stocks_in_turn : List Str := ["book", "order", "some", "place", "stock", "day"]
theorem sc_stocks_in_turn : FnScope N_stocks_in_turn ["book", "order"] (defScope s_stocks_in_turn) := ⟨rfl, rfl, rfl, by decide +kernel, rfl, by decide +kernel, by decide +kernel⟩
abbrev s_spare : Stmt := top 89
/-- slots: 0 ways, 1 lefts, 2 wants, 3 place, 4 stock, 5 found, 6 some, 7 right_ones -/
abbrev N_spare : List Str := ["ways", "lefts", "wants", "place", "stock", "found", "some", "right_ones"]
theorem sc_spare : FnScope N_spare ["ways", "lefts", "wants", "place", "stock"] (defScope s_spare) := ⟨rfl, rfl, rfl, by decide +kernel, rfl, by decide +kernel, by decide +kernel⟩
abbrev s_plan : Stmt := top 90
/-- slots: 0 ways, 1 had, 2 found, 3 lefts, 4 wants, 5 place, 6 order, 7 stock, 8 bags -/
abbrev N_plan : List Str := ["ways", "had", "found", "lefts", "wants", "place", "order", "stock", "bags"]
theorem sc_plan : FnScope N_plan ["ways", "had"] (defScope s_plan) := ⟨rfl, rfl, rfl, by decide +kernel, rfl, by decide +kernel, by decide +kernel⟩
abbrev s_bags_had : Stmt := top 91
/-- slots: 0 takes, 1 many, 2 place, 3 take -/
abbrev N_bags_had : List Str := ["takes", "many", "place", "take"]
theorem sc_bags_had : FnScope N_bags_had ["takes", "many"] (defScope s_bags_had) := ⟨rfl, rfl, rfl, by decide +kernel, rfl, by decide +kernel, by decide +kernel⟩
abbrev s_bags_given : Stmt := top 92
/-- slots: 0 takes, 1 many, 2 place, 3 take -/
abbrev N_bags_given : List Str := ["takes", "many", "place", "take"]
theorem sc_bags_given : FnScope N_bags_given ["takes", "many"] (defScope s_bags_given) := ⟨rfl, rfl, rfl, by decide +kernel, rfl, by decide +kernel, by decide +kernel⟩
abbrev s_is_take_right : Stmt := top 93
/-- slots: 0 book, 1 take -/
abbrev N_is_take_right : List Str := ["book", "take"]
theorem sc_is_take_right : FnScope N_is_take_right ["book", "take"] (defScope s_is_take_right) := ⟨rfl, rfl, rfl, by decide +kernel, rfl, by decide +kernel, by decide +kernel⟩
abbrev s_are_days_kept : Stmt := top 94
/-- slots: 0 book, 1 had, 2 day, 3 some, 4 ground, 5 order, 6 bags -/
abbrev N_are_days_kept : List Str := ["book", "had", "day", "some", "ground", "order", "bags"]
theorem sc_are_days_kept : FnScope N_are_days_kept ["book", "had"] (defScope s_are_days_kept) := ⟨rfl, rfl, rfl, by decide +kernel, rfl, by decide +kernel, by decide +kernel⟩
abbrev s_keep_all : Stmt := top 95
/-- slots: 0 book, 1 takes, 2 given, 3 had, 4 bags, 5 stock, 6 take, 7 order -/
abbrev N_keep_all : List Str := ["book", "takes", "given", "had", "bags", "stock", "take", "order"]
theorem sc_keep_all : FnScope N_keep_all ["book", "takes"] (defScope s_keep_all) := ⟨rfl, rfl, rfl, by decide +kernel, rfl, by decide +kernel, by decide +kernel⟩
abbrev s_keep_whole : Stmt := top 96
/-- slots: 0 book, 1 takes, 2 had, 3 bags, 4 order -/
abbrev N_keep_whole : List Str := ["book", "takes", "had", "bags", "order"]
theorem sc_keep_whole : FnScope N_keep_whole ["book", "takes"] (defScope s_keep_whole) := ⟨rfl, rfl, rfl, by decide +kernel, rfl, by decide +kernel, by decide +kernel⟩
abbrev s_wants_of : Stmt := top 97
/-- slots: 0 book, 1 some, 2 place, 3 order -/
abbrev N_wants_of : List Str := ["book", "some", "place", "order"]
theorem sc_wants_of : FnScope N_wants_of ["book", "some"] (defScope s_wants_of) := ⟨rfl, rfl, rfl, by decide +kernel, rfl, by decide +kernel, by decide +kernel⟩
abbrev s_most_whole : Stmt := top 98
/-- slots: 0 ways, 1 found, 2 some -/
abbrev N_most_whole : List Str := ["ways", "found", "some"]
theorem sc_most_whole : FnScope N_most_whole ["ways"] (defScope s_most_whole) := ⟨rfl, rfl, rfl, by decide +kernel, rfl, by decide +kernel, by decide +kernel⟩
abbrev s_fewest_more : Stmt := top 99
/-- slots: 0 ways, 1 stock, 2 wants, 3 found, 4 number, 5 some, 6 lack, 7 place -/
abbrev N_fewest_more : List Str := ["ways", "stock", "wants", "found", "number", "some", "lack", "place"]
theorem sc_fewest_more : FnScope N_fewest_more ["ways", "stock"] (defScope s_fewest_more) := ⟨rfl, rfl, rfl, by decide +kernel, rfl, by decide +kernel, by decide +kernel⟩
abbrev s_without_stocks : Stmt := top 100
/-- slots: 0 book, 1 gone, 2 stocks, 3 place, 4 stock -/
abbrev N_without_stocks : List Str := ["book", "gone", "stocks", "place", "stock"]
theorem sc_without_stocks : FnScope N_without_stocks ["book", "gone"] (defScope s_without_stocks) := ⟨rfl, rfl, rfl, by decide +kernel, rfl, by decide +kernel, by decide +kernel⟩
abbrev s_Refused_init : Stmt := inClass (top 116) 0
/-- slots: 0 self, 1 number -/
abbrev N_Refused_init : List Str := ["self", "number"]
theorem sc_Refused_init : FnScope N_Refused_init ["self", "number"] (defScope s_Refused_init) := ⟨rfl, rfl, rfl, by decide +kernel, rfl, by decide +kernel, by decide +kernel⟩
abbrev s_want : Stmt := top 117
/-- slots: 0 is_so, 1 number -/
abbrev N_want : List Str := ["is_so", "number"]
theorem sc_want : FnScope N_want ["is_so", "number"] (defScope s_want) := ⟨rfl, rfl, rfl, by decide +kernel, rfl, by decide +kernel, by decide +kernel⟩
abbrev s_want_range : Stmt := top 118
/-- slots: 0 number, 1 least, 2 greatest -/
abbrev N_want_range : List Str := ["number", "least", "greatest"]
theorem sc_want_range : FnScope N_want_range ["number", "least", "greatest"] (defScope s_want_range) := ⟨rfl, rfl, rfl, by decide +kernel, rfl, by decide +kernel, by decide +kernel⟩
abbrev s_want_list : Stmt := top 119
/-- slots: 0 row, 1 longest, 2 greatest, 3 number -/
abbrev N_want_list : List Str := ["row", "longest", "greatest", "number"]
theorem sc_want_list : FnScope N_want_list ["row", "longest", "greatest"] (defScope s_want_list) := ⟨rfl, rfl, rfl, by decide +kernel, rfl, by decide +kernel, by decide +kernel⟩
abbrev s_Desk_init : Stmt := inClass (top 120) 0
/-- slots: 0 self -/
abbrev N_Desk_init : List Str := ["self"]
theorem sc_Desk_init : FnScope N_Desk_init ["self"] (defScope s_Desk_init) := ⟨rfl, rfl, rfl, by decide +kernel, rfl, by decide +kernel, by decide +kernel⟩
abbrev s_Desk_want_stock : Stmt := inClass (top 120) 1
/-- slots: 0 self, 1 i -/
abbrev N_Desk_want_stock : List Str := ["self", "i"]
theorem sc_Desk_want_stock : FnScope N_Desk_want_stock ["self", "i"] (defScope s_Desk_want_stock) := ⟨rfl, rfl, rfl, by decide +kernel, rfl, by decide +kernel, by decide +kernel⟩
abbrev s_Desk_want_order : Stmt := inClass (top 120) 2
/-- slots: 0 self, 1 j -/
abbrev N_Desk_want_order : List Str := ["self", "j"]
theorem sc_Desk_want_order : FnScope N_Desk_want_order ["self", "j"] (defScope s_Desk_want_order) := ⟨rfl, rfl, rfl, by decide +kernel, rfl, by decide +kernel, by decide +kernel⟩
abbrev s_Desk_set_of : Stmt := inClass (top 120) 3
/-- slots: 0 self, 1 row, 2 place -/
abbrev N_Desk_set_of : List Str := ["self", "row", "place"]
theorem sc_Desk_set_of : FnScope N_Desk_set_of ["self", "row"] (defScope s_Desk_set_of) := ⟨rfl, rfl, rfl, by decide +kernel, rfl, by decide +kernel, by decide +kernel⟩
abbrev s_listed : Stmt := top 121
/-- slots: 0 row -/
abbrev N_listed : List Str := ["row"]
theorem sc_listed : FnScope N_listed ["row"] (defScope s_listed) := ⟨rfl, rfl, rfl, by decide +kernel, rfl, by decide +kernel, by decide +kernel⟩
abbrev s_read_behind : Stmt := top 122
/-- slots: 0 desk, 1 book, 2 row, 3 e -/
abbrev N_read_behind : List Str := ["desk", "book", "row", "e"]
theorem sc_read_behind : FnScope N_read_behind ["desk", "book", "row"] (defScope s_read_behind) := ⟨rfl, rfl, rfl, by decide +kernel, rfl, by decide +kernel, by decide +kernel⟩
abbrev s_ask_book : Stmt := top 123
/-- slots: 0 desk, 1 numbers, 2 row -/
abbrev N_ask_book : List Str := ["desk", "numbers", "row"]
theorem sc_ask_book : FnScope N_ask_book ["desk", "numbers", "row"] (defScope s_ask_book) := ⟨rfl, rfl, rfl, by decide +kernel, rfl, by decide +kernel, by decide +kernel⟩
abbrev s_ask_more : Stmt := top 124
/-- slots: 0 desk, 1 numbers, 2 row -/
abbrev N_ask_more : List Str := ["desk", "numbers", "row"]
theorem sc_ask_more : FnScope N_ask_more ["desk", "numbers", "row"] (defScope s_ask_more) := ⟨rfl, rfl, rfl, by decide +kernel, rfl, by decide +kernel, by decide +kernel⟩
abbrev s_ask_shown : Stmt := top 125
/-- slots: 0 desk, 1 numbers, 2 row -/
abbrev N_ask_shown : List Str := ["desk", "numbers", "row"]
theorem sc_ask_shown : FnScope N_ask_shown ["desk", "numbers", "row"] (defScope s_ask_shown) := ⟨rfl, rfl, rfl, by decide +kernel, rfl, by decide +kernel, by decide +kernel⟩
abbrev s_ask_limits : Stmt := top 126
/-- slots: 0 desk, 1 numbers, 2 row -/
abbrev N_ask_limits : List Str := ["desk", "numbers", "row"]
theorem sc_ask_limits : FnScope N_ask_limits ["desk", "numbers", "row"] (defScope s_ask_limits) := ⟨rfl, rfl, rfl, by decide +kernel, rfl, by decide +kernel, by decide +kernel⟩
abbrev s_ask_stock : Stmt := top 127
/-- slots: 0 desk, 1 numbers, 2 row, 3 stock -/
abbrev N_ask_stock : List Str := ["desk", "numbers", "row", "stock"]
theorem sc_ask_stock : FnScope N_ask_stock ["desk", "numbers", "row"] (defScope s_ask_stock) := ⟨rfl, rfl, rfl, by decide +kernel, rfl, by decide +kernel, by decide +kernel⟩
abbrev s_ask_order : Stmt := top 128
/-- slots: 0 desk, 1 numbers, 2 row, 3 order, 4 found -/
abbrev N_ask_order : List Str := ["desk", "numbers", "row", "order", "found"]
theorem sc_ask_order : FnScope N_ask_order ["desk", "numbers", "row"] (defScope s_ask_order) := ⟨rfl, rfl, rfl, by decide +kernel, rfl, by decide +kernel, by decide +kernel⟩
abbrev s_ask_most : Stmt := top 129
/-- slots: 0 desk, 1 numbers, 2 row, 3 wants, 4 least, 5 told -/
abbrev N_ask_most : List Str := ["desk", "numbers", "row", "wants", "least", "told"]
theorem sc_ask_most : FnScope N_ask_most ["desk", "numbers", "row"] (defScope s_ask_most) := ⟨rfl, rfl, rfl, by decide +kernel, rfl, by decide +kernel, by decide +kernel⟩
abbrev s_ask_check : Stmt := top 130
/-- slots: 0 desk, 1 numbers, 2 row, 3 some, 4 ways, 5 here -/
abbrev N_ask_check : List Str := ["desk", "numbers", "row", "some", "ways", "here"]
theorem sc_ask_check : FnScope N_ask_check ["desk", "numbers", "row"] (defScope s_ask_check) := ⟨rfl, rfl, rfl, by decide +kernel, rfl, by decide +kernel, by decide +kernel⟩
abbrev s_ask_gone : Stmt := top 131
/-- slots: 0 desk, 1 numbers, 2 row, 3 place -/
abbrev N_ask_gone : List Str := ["desk", "numbers", "row", "place"]
theorem sc_ask_gone : FnScope N_ask_gone ["desk", "numbers", "row"] (defScope s_ask_gone) := ⟨rfl, rfl, rfl, by decide +kernel, rfl, by decide +kernel, by decide +kernel⟩
abbrev s_ask_served : Stmt := top 132
/-- slots: 0 desk, 1 numbers, 2 row -/
abbrev N_ask_served : List Str := ["desk", "numbers", "row"]
theorem sc_ask_served : FnScope N_ask_served ["desk", "numbers", "row"] (defScope s_ask_served) := ⟨rfl, rfl, rfl, by decide +kernel, rfl, by decide +kernel, by decide +kernel⟩
abbrev s_plan_told : Stmt := top 133
/-- slots: 0 ways, 1 had, 2 found, 3 take -/
abbrev N_plan_told : List Str := ["ways", "had", "found", "take"]
theorem sc_plan_told : FnScope N_plan_told ["ways", "had"] (defScope s_plan_told) := ⟨rfl, rfl, rfl, by decide +kernel, rfl, by decide +kernel, by decide +kernel⟩
abbrev s_ask_plan : Stmt := top 134
/-- slots: 0 desk, 1 numbers, 2 row, 3 ways -/
abbrev N_ask_plan : List Str := ["desk", "numbers", "row", "ways"]
theorem sc_ask_plan : FnScope N_ask_plan ["desk", "numbers", "row"] (defScope s_ask_plan) := ⟨rfl, rfl, rfl, by decide +kernel, rfl, by decide +kernel, by decide +kernel⟩
abbrev s_ask_keeps : Stmt := top 135
/-- slots: 0 desk, 1 numbers, 2 row, 3 takes, 4 is_kept, 5 at, 6 take -/
abbrev N_ask_keeps : List Str := ["desk", "numbers", "row", "takes", "is_kept", "at", "take"]
theorem sc_ask_keeps : FnScope N_ask_keeps ["desk", "numbers", "row"] (defScope s_ask_keeps) := ⟨rfl, rfl, rfl, by decide +kernel, rfl, by decide +kernel, by decide +kernel⟩
abbrev s_ask_why : Stmt := top 136
/-- slots: 0 desk, 1 numbers, 2 row, 3 place, 4 ways, 5 had, 6 wanted, 7 wants, 8 least, 9 told -/
abbrev N_ask_why : List Str := ["desk", "numbers", "row", "place", "ways", "had", "wanted", "wants", "least", "told"]
theorem sc_ask_why : FnScope N_ask_why ["desk", "numbers", "row"] (defScope s_ask_why) := ⟨rfl, rfl, rfl, by decide +kernel, rfl, by decide +kernel, by decide +kernel⟩
abbrev s_ask_together : Stmt := top 137
/-- slots: 0 desk, 1 numbers, 2 row, 3 wants, 4 here -/
abbrev N_ask_together : List Str := ["desk", "numbers", "row", "wants", "here"]
theorem sc_ask_together : FnScope N_ask_together ["desk", "numbers", "row"] (defScope s_ask_together) := ⟨rfl, rfl, rfl, by decide +kernel, rfl, by decide +kernel, by decide +kernel⟩
abbrev s_ask_whole : Stmt := top 138
/-- slots: 0 desk, 1 numbers, 2 row -/
abbrev N_ask_whole : List Str := ["desk", "numbers", "row"]
theorem sc_ask_whole : FnScope N_ask_whole ["desk", "numbers", "row"] (defScope s_ask_whole) := ⟨rfl, rfl, rfl, by decide +kernel, rfl, by decide +kernel, by decide +kernel⟩
abbrev s_ask_extra : Stmt := top 139
/-- slots: 0 desk, 1 numbers, 2 row, 3 size, 4 day, 5 found -/
abbrev N_ask_extra : List Str := ["desk", "numbers", "row", "size", "day", "found"]
theorem sc_ask_extra : FnScope N_ask_extra ["desk", "numbers", "row"] (defScope s_ask_extra) := ⟨rfl, rfl, rfl, by decide +kernel, rfl, by decide +kernel, by decide +kernel⟩
abbrev s_ask_idle : Stmt := top 140
/-- slots: 0 desk, 1 numbers, 2 row, 3 book, 4 found, 5 place, 6 stock, 7 order -/
abbrev N_ask_idle : List Str := ["desk", "numbers", "row", "book", "found", "place", "stock", "order"]
theorem sc_ask_idle : FnScope N_ask_idle ["desk", "numbers", "row"] (defScope s_ask_idle) := ⟨rfl, rfl, rfl, by decide +kernel, rfl, by decide +kernel, by decide +kernel⟩
abbrev s_ask_suits : Stmt := top 141
/-- slots: 0 desk, 1 numbers, 2 row, 3 stock, 4 order -/
abbrev N_ask_suits : List Str := ["desk", "numbers", "row", "stock", "order"]
theorem sc_ask_suits : FnScope N_ask_suits ["desk", "numbers", "row"] (defScope s_ask_suits) := ⟨rfl, rfl, rfl, by decide +kernel, rfl, by decide +kernel, by decide +kernel⟩
abbrev s_with_orders_2 : Stmt := top 142
/-- slots: 0 book, 1 orders -/
abbrev N_with_orders_2 : List Str := ["book", "orders"]
theorem sc_with_orders_2 : FnScope N_with_orders_2 ["book", "orders"] (defScope s_with_orders_2) := ⟨rfl, rfl, rfl, by decide +kernel, rfl, by decide +kernel, by decide +kernel⟩
abbrev s_ask_cancel : Stmt := top 144
/-- slots: 0 desk, 1 numbers, 2 row, 3 orders -/
abbrev N_ask_cancel : List Str := ["desk", "numbers", "row", "orders"]
theorem sc_ask_cancel : FnScope N_ask_cancel ["desk", "numbers", "row"] (defScope s_ask_cancel) := ⟨rfl, rfl, rfl, by decide +kernel, rfl, by decide +kernel, by decide +kernel⟩
abbrev s_ask_first : Stmt := top 145
/-- slots: 0 desk, 1 numbers, 2 row, 3 j, 4 k, 5 rest -/
abbrev N_ask_first : List Str := ["desk", "numbers", "row", "j", "k", "rest"]
theorem sc_ask_first : FnScope N_ask_first ["desk", "numbers", "row"] (defScope s_ask_first) := ⟨rfl, rfl, rfl, by decide +kernel, rfl, by decide +kernel, by decide +kernel⟩
abbrev s_ask_bags : Stmt := top 146
/-- slots: 0 desk, 1 numbers, 2 row, 3 i, 4 bags, 5 book, 6 old -/
abbrev N_ask_bags : List Str := ["desk", "numbers", "row", "i", "bags", "book", "old"]
theorem sc_ask_bags : FnScope N_ask_bags ["desk", "numbers", "row"] (defScope s_ask_bags) := ⟨rfl, rfl, rfl, by decide +kernel, rfl, by decide +kernel, by decide +kernel⟩
abbrev s_ask_due : Stmt := top 147
/-- slots: 0 desk, 1 numbers, 2 row, 3 j, 4 day, 5 old -/
abbrev N_ask_due : List Str := ["desk", "numbers", "row", "j", "day", "old"]
theorem sc_ask_due : FnScope N_ask_due ["desk", "numbers", "row"] (defScope s_ask_due) := ⟨rfl, rfl, rfl, by decide +kernel, rfl, by decide +kernel, by decide +kernel⟩
abbrev s_ask_alone : Stmt := top 148
/-- slots: 0 desk, 1 numbers, 2 row -/
abbrev N_ask_alone : List Str := ["desk", "numbers", "row"]
theorem sc_ask_alone : FnScope N_ask_alone ["desk", "numbers", "row"] (defScope s_ask_alone) := ⟨rfl, rfl, rfl, by decide +kernel, rfl, by decide +kernel, by decide +kernel⟩
abbrev s_ask_met : Stmt := top 149
/-- slots: 0 desk, 1 numbers, 2 row, 3 ways, 4 had, 5 met, 6 order, 7 bags -/
abbrev N_ask_met : List Str := ["desk", "numbers", "row", "ways", "had", "met", "order", "bags"]
theorem sc_ask_met : FnScope N_ask_met ["desk", "numbers", "row"] (defScope s_ask_met) := ⟨rfl, rfl, rfl, by decide +kernel, rfl, by decide +kernel, by decide +kernel⟩
abbrev s_ask_days : Stmt := top 150
/-- slots: 0 desk, 1 numbers, 2 row, 3 found, 4 day, 5 some, 6 ground, 7 order -/
abbrev N_ask_days : List Str := ["desk", "numbers", "row", "found", "day", "some", "ground", "order"]
theorem sc_ask_days : FnScope N_ask_days ["desk", "numbers", "row"] (defScope s_ask_days) := ⟨rfl, rfl, rfl, by decide +kernel, rfl, by decide +kernel, by decide +kernel⟩
abbrev s_ask_find : Stmt := top 151
/-- slots: 0 desk, 1 numbers, 2 row, 3 place -/
abbrev N_ask_find : List Str := ["desk", "numbers", "row", "place"]
theorem sc_ask_find : FnScope N_ask_find ["desk", "numbers", "row"] (defScope s_ask_find) := ⟨rfl, rfl, rfl, by decide +kernel, rfl, by decide +kernel, by decide +kernel⟩
abbrev s_ask_sizes : Stmt := top 152
/-- slots: 0 desk, 1 numbers, 2 row, 3 book, 4 stock -/
abbrev N_ask_sizes : List Str := ["desk", "numbers", "row", "book", "stock"]
theorem sc_ask_sizes : FnScope N_ask_sizes ["desk", "numbers", "row"] (defScope s_ask_sizes) := ⟨rfl, rfl, rfl, by decide +kernel, rfl, by decide +kernel, by decide +kernel⟩
abbrev s_ask_fullest : Stmt := top 153
/-- slots: 0 desk, 1 numbers, 2 row -/
abbrev N_ask_fullest : List Str := ["desk", "numbers", "row"]
theorem sc_ask_fullest : FnScope N_ask_fullest ["desk", "numbers", "row"] (defScope s_ask_fullest) := ⟨rfl, rfl, rfl, by decide +kernel, rfl, by decide +kernel, by decide +kernel⟩
abbrev s_ask_fullplan : Stmt := top 154
/-- slots: 0 desk, 1 numbers, 2 row, 3 ways -/
abbrev N_ask_fullplan : List Str := ["desk", "numbers", "row", "ways"]
theorem sc_ask_fullplan : FnScope N_ask_fullplan ["desk", "numbers", "row"] (defScope s_ask_fullplan) := ⟨rfl, rfl, rfl, by decide +kernel, rfl, by decide +kernel, by decide +kernel⟩
abbrev s_answer : Stmt := top 156
/-- slots: 0 desk, 1 call, 2 numbers, 3 row, 4 deed, 5 found, 6 e -/
abbrev N_answer : List Str := ["desk", "call", "numbers", "row", "deed", "found", "e"]
theorem sc_answer : FnScope N_answer ["desk", "call", "numbers", "row"] (defScope s_answer) := ⟨rfl, rfl, rfl, by decide +kernel, rfl, by decide +kernel, by decide +kernel⟩
abbrev s_answers : Stmt := top 157
/-- slots: 0 calls, 1 desk, 2 found, 3 at, 4 call, 5 many, 6 lists, 7 numbers, 8 row, 9 made -/
abbrev N_answers : List Str := ["calls", "desk", "found", "at", "call", "many", "lists", "numbers", "row", "made"]
theorem sc_answers : FnScope N_answers ["calls"] (defScope s_answers) := ⟨rfl, rfl, rfl, by decide +kernel, rfl, by decide +kernel, by decide +kernel⟩
/-- a def as the written part has it -/
structure Dd where
  at_ : Str × Option Str
  name : Str
  qual : Str
  st : Stmt
def FunAt (K : PySem.W.Frag) (d : Dd) : Prop := ∃ fd, Fun K d.name d.qual d.st (He.fAd K d.at_) fd
def zFree0 : List (Str) := ["len", "sum", "all", "any", "min", "max", "ord", "str", "int", "list", "sorted", "set", "enumerate", "zip", "range", "isinstance", "ValueError"]
def zFree : List (Str) := zFree0
def zInt0 : List (Str × Int) := [("LINE_END", 10), ("BLANK", 32), ("NOUGHT", 48), ("FIRST_FIGURE", 49), ("LAST_FIGURE", 57), ("SMALL_A", 97), ("SMALL_Z", 122), ("MOST_FIGURES", 4), ("LONGEST", 8), ("NO_NUMBER", -1), ("AT_FIRST", 500), ("NO_FORM", 1), ("OUT_OF_RANGE_reading", 2), ("THERE_ALREADY", 3), ("TOO_MANY", 4), ("TOO_LATE", 5), ("MOST_STOCKS", 8), ("MOST_ORDERS", 8), ("LAST_DAY", 400), ("MOST_BAGS", 60)]
def zInt1 : List (Str × Int) := [("MOST_AGE", 200), ("MOST_LIMIT", 500), ("MOST_SIZE", 9999), ("MOST_STEP", 60), ("FEWEST_TIMES", 2), ("MOST_TIMES", 9), ("STOCK_WORDS", 7), ("ORDER_WORDS", 14), ("EVERY_WORDS", 18), ("LIMIT_WORDS", 5), ("FREE", 0), ("BY_MILL", 1), ("BY_CART", 2), ("OUT_OF_RANGE_orders", -1), ("NO_STOCK", -3), ("NO_ORDER", -4), ("NO_KIND", -7), ("TOO_MANY_ORDERS", -9), ("LAST_NUMBER", 7), ("MOST_TOLD", 8)]
def zInt2 : List (Str × Int) := [("MOST_BYTES", 1500), ("GREATEST_BYTE", 255), ("MOST_TAKES", 300), ("MOST_IN_TAKES", 999), ("LONGEST_NAME", 9), ("MOST_TRIED", 7)]
def zInt : List (Str × Int) := zInt0 ++ (zInt1 ++ (zInt2))
def zGlo0 : List (Str) := ["Stock", "Order", "Book", "WrongLine", "Fault", "Ways", "Take", "Refused", "Desk", "parts_of", "words_of", "bytes_of", "are_all", "number_of", "is_kind", "is_name", "line_of", "new_book", "is_right", "stock_line"]
def zGlo1 : List (Str) := ["order_line", "shown", "need", "need_words", "numbers_at", "need_range", "with_stock", "either", "repeats", "names_of", "need_order_ranges", "with_orders_reading", "with_limits", "with_line", "with_text", "all_sets", "stocks_for", "orders_on", "sum_of", "others"]
def zGlo2 : List (Str) := ["put_up", "days_bound", "bound", "told_bound", "most", "can_have", "held_on", "bound_told", "with_one", "served", "fullest", "stocks_in_turn", "spare", "plan", "bags_had", "bags_given", "is_take_right", "are_days_kept", "keep_all", "keep_whole"]
def zGlo3 : List (Str) := ["wants_of", "most_whole", "fewest_more", "without_stocks", "want", "want_range", "want_list", "listed", "read_behind", "ask_book", "ask_more", "ask_shown", "ask_limits", "ask_stock", "ask_order", "ask_most", "ask_check", "ask_gone", "ask_served", "plan_told"]
def zGlo4 : List (Str) := ["ask_plan", "ask_keeps", "ask_why", "ask_together", "ask_whole", "ask_extra", "ask_idle", "ask_suits", "with_orders_orders", "ask_cancel", "ask_first", "ask_bags", "ask_due", "ask_alone", "ask_met", "ask_days", "ask_find", "ask_sizes", "ask_fullest", "ask_fullplan"]
def zGlo5 : List (Str) := ["answer", "answers"]
def zGlo : List (Str) := zGlo0 ++ (zGlo1 ++ (zGlo2 ++ (zGlo3 ++ (zGlo4 ++ (zGlo5)))))
def zFn0 : List (Dd) := [⟨("parts_of", none), "parts_of", "parts_of", s_parts_of⟩, ⟨("words_of", none), "words_of", "words_of", s_words_of⟩, ⟨("bytes_of", none), "bytes_of", "bytes_of", s_bytes_of⟩, ⟨("are_all", none), "are_all", "are_all", s_are_all⟩, ⟨("number_of", none), "number_of", "number_of", s_number_of⟩, ⟨("is_kind", none), "is_kind", "is_kind", s_is_kind⟩, ⟨("is_name", none), "is_name", "is_name", s_is_name⟩, ⟨("line_of", none), "line_of", "line_of", s_line_of⟩, ⟨("Stock", some "__init__"), "__init__", "Stock.__init__", s_Stock_init⟩, ⟨("Stock", some "with_bags"), "with_bags", "Stock.with_bags", s_Stock_with_bags⟩, ⟨("Order", some "__init__"), "__init__", "Order.__init__", s_Order_init⟩, ⟨("Order", some "numbers"), "numbers", "Order.numbers", s_Order_numbers⟩, ⟨("Order", some "with_due"), "with_due", "Order.with_due", s_Order_with_due⟩, ⟨("Book", some "__init__"), "__init__", "Book.__init__", s_Book_init⟩, ⟨("Book", some "wants"), "wants", "Book.wants", s_Book_wants⟩, ⟨("Book", some "days"), "days", "Book.days", s_Book_days⟩, ⟨("Book", some "name_place"), "name_place", "Book.name_place", s_Book_name_place⟩, ⟨("new_book", none), "new_book", "new_book", s_new_book⟩, ⟨("is_right", none), "is_right", "is_right", s_is_right⟩, ⟨("stock_line", none), "stock_line", "stock_line", s_stock_line⟩]
def zFn1 : List (Dd) := [⟨("order_line", none), "order_line", "order_line", s_order_line⟩, ⟨("shown", none), "shown", "shown", s_shown⟩, ⟨("WrongLine", some "__init__"), "__init__", "WrongLine.__init__", s_WrongLine_init⟩, ⟨("Fault", some "__init__"), "__init__", "Fault.__init__", s_Fault_init⟩, ⟨("need", none), "need", "need", s_need⟩, ⟨("need_words", none), "need_words", "need_words", s_need_words⟩, ⟨("numbers_at", none), "numbers_at", "numbers_at", s_numbers_at⟩, ⟨("need_range", none), "need_range", "need_range", s_need_range⟩, ⟨("with_stock", none), "with_stock", "with_stock", s_with_stock⟩, ⟨("either", none), "either", "either", s_either⟩, ⟨("repeats", none), "repeats", "repeats", s_repeats⟩, ⟨("names_of", none), "names_of", "names_of", s_names_of⟩, ⟨("need_order_ranges", none), "need_order_ranges", "need_order_ranges", s_need_order_ranges⟩, ⟨("with_orders_reading", none), "with_orders", "with_orders", s_with_orders⟩, ⟨("with_limits", none), "with_limits", "with_limits", s_with_limits⟩, ⟨("with_line", none), "with_line", "with_line", s_with_line⟩, ⟨("with_text", none), "with_text", "with_text", s_with_text⟩, ⟨("all_sets", none), "all_sets", "all_sets", s_all_sets⟩, ⟨("stocks_for", none), "stocks_for", "stocks_for", s_stocks_for⟩, ⟨("orders_on", none), "orders_on", "orders_on", s_orders_on⟩]
def zFn2 : List (Dd) := [⟨("Ways", some "__init__"), "__init__", "Ways.__init__", s_Ways_init⟩, ⟨("sum_of", none), "sum_of", "sum_of", s_sum_of⟩, ⟨("others", none), "others", "others", s_others⟩, ⟨("put_up", none), "put_up", "put_up", s_put_up⟩, ⟨("days_bound", none), "days_bound", "days_bound", s_days_bound⟩, ⟨("bound", none), "bound", "bound", s_bound⟩, ⟨("told_bound", none), "told_bound", "told_bound", s_told_bound⟩, ⟨("most", none), "most", "most", s_most⟩, ⟨("can_have", none), "can_have", "can_have", s_can_have⟩, ⟨("held_on", none), "held_on", "held_on", s_held_on⟩, ⟨("bound_told", none), "bound_told", "bound_told", s_bound_told⟩, ⟨("Take", some "__init__"), "__init__", "Take.__init__", s_Take_init⟩, ⟨("with_one", none), "with_one", "with_one", s_with_one⟩, ⟨("served", none), "served", "served", s_served⟩, ⟨("fullest", none), "fullest", "fullest", s_fullest⟩, ⟨("stocks_in_turn", none), "stocks_in_turn", "stocks_in_turn", s_stocks_in_turn⟩, ⟨("spare", none), "spare", "spare", s_spare⟩, ⟨("plan", none), "plan", "plan", s_plan⟩, ⟨("bags_had", none), "bags_had", "bags_had", s_bags_had⟩, ⟨("bags_given", none), "bags_given", "bags_given", s_bags_given⟩]
def zFn3 : List (Dd) := [⟨("is_take_right", none), "is_take_right", "is_take_right", s_is_take_right⟩, ⟨("are_days_kept", none), "are_days_kept", "are_days_kept", s_are_days_kept⟩, ⟨("keep_all", none), "keep_all", "keep_all", s_keep_all⟩, ⟨("keep_whole", none), "keep_whole", "keep_whole", s_keep_whole⟩, ⟨("wants_of", none), "wants_of", "wants_of", s_wants_of⟩, ⟨("most_whole", none), "most_whole", "most_whole", s_most_whole⟩, ⟨("fewest_more", none), "fewest_more", "fewest_more", s_fewest_more⟩, ⟨("without_stocks", none), "without_stocks", "without_stocks", s_without_stocks⟩, ⟨("Refused", some "__init__"), "__init__", "Refused.__init__", s_Refused_init⟩, ⟨("want", none), "want", "want", s_want⟩, ⟨("want_range", none), "want_range", "want_range", s_want_range⟩, ⟨("want_list", none), "want_list", "want_list", s_want_list⟩, ⟨("Desk", some "__init__"), "__init__", "Desk.__init__", s_Desk_init⟩, ⟨("Desk", some "want_stock"), "want_stock", "Desk.want_stock", s_Desk_want_stock⟩, ⟨("Desk", some "want_order"), "want_order", "Desk.want_order", s_Desk_want_order⟩, ⟨("Desk", some "set_of"), "set_of", "Desk.set_of", s_Desk_set_of⟩, ⟨("listed", none), "listed", "listed", s_listed⟩, ⟨("read_behind", none), "read_behind", "read_behind", s_read_behind⟩, ⟨("ask_book", none), "ask_book", "ask_book", s_ask_book⟩, ⟨("ask_more", none), "ask_more", "ask_more", s_ask_more⟩]
def zFn4 : List (Dd) := [⟨("ask_shown", none), "ask_shown", "ask_shown", s_ask_shown⟩, ⟨("ask_limits", none), "ask_limits", "ask_limits", s_ask_limits⟩, ⟨("ask_stock", none), "ask_stock", "ask_stock", s_ask_stock⟩, ⟨("ask_order", none), "ask_order", "ask_order", s_ask_order⟩, ⟨("ask_most", none), "ask_most", "ask_most", s_ask_most⟩, ⟨("ask_check", none), "ask_check", "ask_check", s_ask_check⟩, ⟨("ask_gone", none), "ask_gone", "ask_gone", s_ask_gone⟩, ⟨("ask_served", none), "ask_served", "ask_served", s_ask_served⟩, ⟨("plan_told", none), "plan_told", "plan_told", s_plan_told⟩, ⟨("ask_plan", none), "ask_plan", "ask_plan", s_ask_plan⟩, ⟨("ask_keeps", none), "ask_keeps", "ask_keeps", s_ask_keeps⟩, ⟨("ask_why", none), "ask_why", "ask_why", s_ask_why⟩, ⟨("ask_together", none), "ask_together", "ask_together", s_ask_together⟩, ⟨("ask_whole", none), "ask_whole", "ask_whole", s_ask_whole⟩, ⟨("ask_extra", none), "ask_extra", "ask_extra", s_ask_extra⟩, ⟨("ask_idle", none), "ask_idle", "ask_idle", s_ask_idle⟩, ⟨("ask_suits", none), "ask_suits", "ask_suits", s_ask_suits⟩, ⟨("with_orders_orders", none), "with_orders", "with_orders", s_with_orders_2⟩, ⟨("ask_cancel", none), "ask_cancel", "ask_cancel", s_ask_cancel⟩, ⟨("ask_first", none), "ask_first", "ask_first", s_ask_first⟩]
def zFn5 : List (Dd) := [⟨("ask_bags", none), "ask_bags", "ask_bags", s_ask_bags⟩, ⟨("ask_due", none), "ask_due", "ask_due", s_ask_due⟩, ⟨("ask_alone", none), "ask_alone", "ask_alone", s_ask_alone⟩, ⟨("ask_met", none), "ask_met", "ask_met", s_ask_met⟩, ⟨("ask_days", none), "ask_days", "ask_days", s_ask_days⟩, ⟨("ask_find", none), "ask_find", "ask_find", s_ask_find⟩, ⟨("ask_sizes", none), "ask_sizes", "ask_sizes", s_ask_sizes⟩, ⟨("ask_fullest", none), "ask_fullest", "ask_fullest", s_ask_fullest⟩, ⟨("ask_fullplan", none), "ask_fullplan", "ask_fullplan", s_ask_fullplan⟩, ⟨("answer", none), "answer", "answer", s_answer⟩, ⟨("answers", none), "answers", "answers", s_answers⟩]
def zFn : List (Dd) := zFn0 ++ (zFn1 ++ (zFn2 ++ (zFn3 ++ (zFn4 ++ (zFn5)))))
def zCls0 : List (Str) := ["Stock", "Order", "Book", "Ways", "Take", "Desk"]
def zCls : List (Str) := zCls0
def zNo0 : List (Str × Str) := [("Stock", "kind"), ("Stock", "size"), ("Stock", "day"), ("Stock", "bags"), ("Order", "name"), ("Order", "kind"), ("Order", "size"), ("Order", "bags"), ("Order", "due"), ("Order", "least"), ("Order", "most"), ("Order", "is_ground"), ("Order", "is_whole"), ("Book", "stocks"), ("Book", "orders"), ("Book", "grind"), ("Book", "send"), ("WrongLine", "kind"), ("Fault", "kind"), ("Fault", "line")]
def zNo1 : List (Str × Str) := [("Ways", "book"), ("Ways", "sets"), ("Ways", "right_ones"), ("Ways", "due_ones"), ("Take", "order"), ("Take", "stock"), ("Take", "bags"), ("Refused", "number"), ("Desk", "book")]
def zNo : List (Str × Str) := zNo0 ++ (zNo1)
def zMe0 : List (Str × Str) := [("Stock", "with_bags"), ("Order", "numbers"), ("Order", "with_due"), ("Book", "wants"), ("Book", "days"), ("Book", "name_place"), ("Desk", "want_stock"), ("Desk", "want_order"), ("Desk", "set_of")]
def zMe : List (Str × Str) := zMe0
def zEx0 : List (Str) := ["WrongLine", "Fault", "Refused"]
def zEx : List (Str) := zEx0
abbrev ga := He.ga
abbrev ma := He.ma
/-- what an own error class must have -/
structure XcT (K : PySem.W.Frag) (x : Str) : Prop where
  o : OexC K (ga K x)
  f : XfC K (ga K x)
  ini : PySem.W.findIn K (.ref (ga K x)) "__init__" = some (some (.ref (ma K (ga K x) "__init__")))
  tI : PySem.W.typeIn K (.ref (ma K (ga K x) "__init__")) = some (.type "function")
  me : PySem.W.exmOne K (.ref (ga K x)) (.ref (ga K x)) = some true
/-- what the top leaves -/
structure Txt (K : PySem.W.Frag) (mg : Str → Option Value) : Prop where
  free : ∀ (i : Nat) x, zFree[i]? = some x → mg x = none
  int : ∀ (i : Nat) p, zInt[i]? = some p → ∃ t, mg p.1 = some (.int p.2 t)
  glo : ∀ (i : Nat) x, zGlo[i]? = some x → mg x = some (.ref (ga K x))
  fn : ∀ (i : Nat) d, zFn[i]? = some d → FunAt K d
  cls : ∀ (i : Nat) x, zCls[i]? = some x → Cls K (ga K x)
  noat : ∀ (i : Nat) p, zNo[i]? = some p → NoAttr K (ga K p.1) p.2
  mth : ∀ (i : Nat) p, zMe[i]? = some p → Meth K (ga K p.1) p.2 (ma K (ga K p.1) p.2)
  mkr : ∀ (i : Nat) x, zCls[i]? = some x → Mk K (ga K x) (ma K (ga K x) "__init__")
  exc : ∀ (i : Nat) x, zEx[i]? = some x → XcT K x
  veI : PySem.W.findCls K (.type "ValueError") (.type "type") "__init__" = some (.val (.builtin "ValueError.__init__"))
section
variable {P : Program} {w : World} {K : PySem.W.Frag} {mg : Str → Option Value} {base : Heap}
theorem Txt.f_len (T : Txt K mg) : mg "len" = none := T.free 0 _ rfl
theorem Txt.f_sum (T : Txt K mg) : mg "sum" = none := T.free 1 _ rfl
theorem Txt.f_all (T : Txt K mg) : mg "all" = none := T.free 2 _ rfl
theorem Txt.f_any (T : Txt K mg) : mg "any" = none := T.free 3 _ rfl
theorem Txt.f_min (T : Txt K mg) : mg "min" = none := T.free 4 _ rfl
theorem Txt.f_max (T : Txt K mg) : mg "max" = none := T.free 5 _ rfl
theorem Txt.f_ord (T : Txt K mg) : mg "ord" = none := T.free 6 _ rfl
theorem Txt.f_str (T : Txt K mg) : mg "str" = none := T.free 7 _ rfl
theorem Txt.f_int (T : Txt K mg) : mg "int" = none := T.free 8 _ rfl
theorem Txt.f_list (T : Txt K mg) : mg "list" = none := T.free 9 _ rfl
theorem Txt.f_sorted (T : Txt K mg) : mg "sorted" = none := T.free 10 _ rfl
theorem Txt.f_set (T : Txt K mg) : mg "set" = none := T.free 11 _ rfl
theorem Txt.f_enumerate (T : Txt K mg) : mg "enumerate" = none := T.free 12 _ rfl
theorem Txt.f_zip (T : Txt K mg) : mg "zip" = none := T.free 13 _ rfl
theorem Txt.f_range (T : Txt K mg) : mg "range" = none := T.free 14 _ rfl
theorem Txt.f_isinstance (T : Txt K mg) : mg "isinstance" = none := T.free 15 _ rfl
theorem Txt.f_ValueError (T : Txt K mg) : mg "ValueError" = none := T.free 16 _ rfl
theorem Txt.i_LINE_END (T : Txt K mg) : ∃ t, mg "LINE_END" = some (.int (10) t) := T.int 0 _ rfl
theorem Txt.i_BLANK (T : Txt K mg) : ∃ t, mg "BLANK" = some (.int (32) t) := T.int 1 _ rfl
theorem Txt.i_NOUGHT (T : Txt K mg) : ∃ t, mg "NOUGHT" = some (.int (48) t) := T.int 2 _ rfl
theorem Txt.i_FIRST_FIGURE (T : Txt K mg) : ∃ t, mg "FIRST_FIGURE" = some (.int (49) t) := T.int 3 _ rfl
theorem Txt.i_LAST_FIGURE (T : Txt K mg) : ∃ t, mg "LAST_FIGURE" = some (.int (57) t) := T.int 4 _ rfl
theorem Txt.i_SMALL_A (T : Txt K mg) : ∃ t, mg "SMALL_A" = some (.int (97) t) := T.int 5 _ rfl
theorem Txt.i_SMALL_Z (T : Txt K mg) : ∃ t, mg "SMALL_Z" = some (.int (122) t) := T.int 6 _ rfl
theorem Txt.i_MOST_FIGURES (T : Txt K mg) : ∃ t, mg "MOST_FIGURES" = some (.int (4) t) := T.int 7 _ rfl
theorem Txt.i_LONGEST (T : Txt K mg) : ∃ t, mg "LONGEST" = some (.int (8) t) := T.int 8 _ rfl
theorem Txt.i_NO_NUMBER (T : Txt K mg) : ∃ t, mg "NO_NUMBER" = some (.int (-1) t) := T.int 9 _ rfl
theorem Txt.i_AT_FIRST (T : Txt K mg) : ∃ t, mg "AT_FIRST" = some (.int (500) t) := T.int 10 _ rfl
theorem Txt.i_NO_FORM (T : Txt K mg) : ∃ t, mg "NO_FORM" = some (.int (1) t) := T.int 11 _ rfl
theorem Txt.i_OUT_OF_RANGE_reading (T : Txt K mg) : ∃ t, mg "OUT_OF_RANGE_reading" = some (.int (2) t) := T.int 12 _ rfl
theorem Txt.i_THERE_ALREADY (T : Txt K mg) : ∃ t, mg "THERE_ALREADY" = some (.int (3) t) := T.int 13 _ rfl
theorem Txt.i_TOO_MANY (T : Txt K mg) : ∃ t, mg "TOO_MANY" = some (.int (4) t) := T.int 14 _ rfl
theorem Txt.i_TOO_LATE (T : Txt K mg) : ∃ t, mg "TOO_LATE" = some (.int (5) t) := T.int 15 _ rfl
theorem Txt.i_MOST_STOCKS (T : Txt K mg) : ∃ t, mg "MOST_STOCKS" = some (.int (8) t) := T.int 16 _ rfl
theorem Txt.i_MOST_ORDERS (T : Txt K mg) : ∃ t, mg "MOST_ORDERS" = some (.int (8) t) := T.int 17 _ rfl
theorem Txt.i_LAST_DAY (T : Txt K mg) : ∃ t, mg "LAST_DAY" = some (.int (400) t) := T.int 18 _ rfl
theorem Txt.i_MOST_BAGS (T : Txt K mg) : ∃ t, mg "MOST_BAGS" = some (.int (60) t) := T.int 19 _ rfl
theorem Txt.i_MOST_AGE (T : Txt K mg) : ∃ t, mg "MOST_AGE" = some (.int (200) t) := T.int 20 _ rfl
theorem Txt.i_MOST_LIMIT (T : Txt K mg) : ∃ t, mg "MOST_LIMIT" = some (.int (500) t) := T.int 21 _ rfl
theorem Txt.i_MOST_SIZE (T : Txt K mg) : ∃ t, mg "MOST_SIZE" = some (.int (9999) t) := T.int 22 _ rfl
theorem Txt.i_MOST_STEP (T : Txt K mg) : ∃ t, mg "MOST_STEP" = some (.int (60) t) := T.int 23 _ rfl
theorem Txt.i_FEWEST_TIMES (T : Txt K mg) : ∃ t, mg "FEWEST_TIMES" = some (.int (2) t) := T.int 24 _ rfl
theorem Txt.i_MOST_TIMES (T : Txt K mg) : ∃ t, mg "MOST_TIMES" = some (.int (9) t) := T.int 25 _ rfl
theorem Txt.i_STOCK_WORDS (T : Txt K mg) : ∃ t, mg "STOCK_WORDS" = some (.int (7) t) := T.int 26 _ rfl
theorem Txt.i_ORDER_WORDS (T : Txt K mg) : ∃ t, mg "ORDER_WORDS" = some (.int (14) t) := T.int 27 _ rfl
theorem Txt.i_EVERY_WORDS (T : Txt K mg) : ∃ t, mg "EVERY_WORDS" = some (.int (18) t) := T.int 28 _ rfl
theorem Txt.i_LIMIT_WORDS (T : Txt K mg) : ∃ t, mg "LIMIT_WORDS" = some (.int (5) t) := T.int 29 _ rfl
theorem Txt.i_FREE (T : Txt K mg) : ∃ t, mg "FREE" = some (.int (0) t) := T.int 30 _ rfl
theorem Txt.i_BY_MILL (T : Txt K mg) : ∃ t, mg "BY_MILL" = some (.int (1) t) := T.int 31 _ rfl
theorem Txt.i_BY_CART (T : Txt K mg) : ∃ t, mg "BY_CART" = some (.int (2) t) := T.int 32 _ rfl
theorem Txt.i_OUT_OF_RANGE_orders (T : Txt K mg) : ∃ t, mg "OUT_OF_RANGE_orders" = some (.int (-1) t) := T.int 33 _ rfl
theorem Txt.i_NO_STOCK (T : Txt K mg) : ∃ t, mg "NO_STOCK" = some (.int (-3) t) := T.int 34 _ rfl
theorem Txt.i_NO_ORDER (T : Txt K mg) : ∃ t, mg "NO_ORDER" = some (.int (-4) t) := T.int 35 _ rfl
theorem Txt.i_NO_KIND (T : Txt K mg) : ∃ t, mg "NO_KIND" = some (.int (-7) t) := T.int 36 _ rfl
theorem Txt.i_TOO_MANY_ORDERS (T : Txt K mg) : ∃ t, mg "TOO_MANY_ORDERS" = some (.int (-9) t) := T.int 37 _ rfl
theorem Txt.i_LAST_NUMBER (T : Txt K mg) : ∃ t, mg "LAST_NUMBER" = some (.int (7) t) := T.int 38 _ rfl
theorem Txt.i_MOST_TOLD (T : Txt K mg) : ∃ t, mg "MOST_TOLD" = some (.int (8) t) := T.int 39 _ rfl
theorem Txt.i_MOST_BYTES (T : Txt K mg) : ∃ t, mg "MOST_BYTES" = some (.int (1500) t) := T.int 40 _ rfl
theorem Txt.i_GREATEST_BYTE (T : Txt K mg) : ∃ t, mg "GREATEST_BYTE" = some (.int (255) t) := T.int 41 _ rfl
theorem Txt.i_MOST_TAKES (T : Txt K mg) : ∃ t, mg "MOST_TAKES" = some (.int (300) t) := T.int 42 _ rfl
theorem Txt.i_MOST_IN_TAKES (T : Txt K mg) : ∃ t, mg "MOST_IN_TAKES" = some (.int (999) t) := T.int 43 _ rfl
theorem Txt.i_LONGEST_NAME (T : Txt K mg) : ∃ t, mg "LONGEST_NAME" = some (.int (9) t) := T.int 44 _ rfl
theorem Txt.i_MOST_TRIED (T : Txt K mg) : ∃ t, mg "MOST_TRIED" = some (.int (7) t) := T.int 45 _ rfl
theorem Txt.g_Stock (T : Txt K mg) : mg "Stock" = some (.ref (ga K "Stock")) := T.glo 0 _ rfl
theorem Txt.g_Order (T : Txt K mg) : mg "Order" = some (.ref (ga K "Order")) := T.glo 1 _ rfl
theorem Txt.g_Book (T : Txt K mg) : mg "Book" = some (.ref (ga K "Book")) := T.glo 2 _ rfl
theorem Txt.g_WrongLine (T : Txt K mg) : mg "WrongLine" = some (.ref (ga K "WrongLine")) := T.glo 3 _ rfl
theorem Txt.g_Fault (T : Txt K mg) : mg "Fault" = some (.ref (ga K "Fault")) := T.glo 4 _ rfl
theorem Txt.g_Ways (T : Txt K mg) : mg "Ways" = some (.ref (ga K "Ways")) := T.glo 5 _ rfl
theorem Txt.g_Take (T : Txt K mg) : mg "Take" = some (.ref (ga K "Take")) := T.glo 6 _ rfl
theorem Txt.g_Refused (T : Txt K mg) : mg "Refused" = some (.ref (ga K "Refused")) := T.glo 7 _ rfl
theorem Txt.g_Desk (T : Txt K mg) : mg "Desk" = some (.ref (ga K "Desk")) := T.glo 8 _ rfl
theorem Txt.g_parts_of (T : Txt K mg) : mg "parts_of" = some (.ref (ga K "parts_of")) := T.glo 9 _ rfl
theorem Txt.g_words_of (T : Txt K mg) : mg "words_of" = some (.ref (ga K "words_of")) := T.glo 10 _ rfl
theorem Txt.g_bytes_of (T : Txt K mg) : mg "bytes_of" = some (.ref (ga K "bytes_of")) := T.glo 11 _ rfl
theorem Txt.g_are_all (T : Txt K mg) : mg "are_all" = some (.ref (ga K "are_all")) := T.glo 12 _ rfl
theorem Txt.g_number_of (T : Txt K mg) : mg "number_of" = some (.ref (ga K "number_of")) := T.glo 13 _ rfl
theorem Txt.g_is_kind (T : Txt K mg) : mg "is_kind" = some (.ref (ga K "is_kind")) := T.glo 14 _ rfl
theorem Txt.g_is_name (T : Txt K mg) : mg "is_name" = some (.ref (ga K "is_name")) := T.glo 15 _ rfl
theorem Txt.g_line_of (T : Txt K mg) : mg "line_of" = some (.ref (ga K "line_of")) := T.glo 16 _ rfl
theorem Txt.g_new_book (T : Txt K mg) : mg "new_book" = some (.ref (ga K "new_book")) := T.glo 17 _ rfl
theorem Txt.g_is_right (T : Txt K mg) : mg "is_right" = some (.ref (ga K "is_right")) := T.glo 18 _ rfl
theorem Txt.g_stock_line (T : Txt K mg) : mg "stock_line" = some (.ref (ga K "stock_line")) := T.glo 19 _ rfl
theorem Txt.g_order_line (T : Txt K mg) : mg "order_line" = some (.ref (ga K "order_line")) := T.glo 20 _ rfl
theorem Txt.g_shown (T : Txt K mg) : mg "shown" = some (.ref (ga K "shown")) := T.glo 21 _ rfl
theorem Txt.g_need (T : Txt K mg) : mg "need" = some (.ref (ga K "need")) := T.glo 22 _ rfl
theorem Txt.g_need_words (T : Txt K mg) : mg "need_words" = some (.ref (ga K "need_words")) := T.glo 23 _ rfl
theorem Txt.g_numbers_at (T : Txt K mg) : mg "numbers_at" = some (.ref (ga K "numbers_at")) := T.glo 24 _ rfl
theorem Txt.g_need_range (T : Txt K mg) : mg "need_range" = some (.ref (ga K "need_range")) := T.glo 25 _ rfl
theorem Txt.g_with_stock (T : Txt K mg) : mg "with_stock" = some (.ref (ga K "with_stock")) := T.glo 26 _ rfl
theorem Txt.g_either (T : Txt K mg) : mg "either" = some (.ref (ga K "either")) := T.glo 27 _ rfl
theorem Txt.g_repeats (T : Txt K mg) : mg "repeats" = some (.ref (ga K "repeats")) := T.glo 28 _ rfl
theorem Txt.g_names_of (T : Txt K mg) : mg "names_of" = some (.ref (ga K "names_of")) := T.glo 29 _ rfl
theorem Txt.g_need_order_ranges (T : Txt K mg) : mg "need_order_ranges" = some (.ref (ga K "need_order_ranges")) := T.glo 30 _ rfl
theorem Txt.g_with_orders_reading (T : Txt K mg) : mg "with_orders_reading" = some (.ref (ga K "with_orders_reading")) := T.glo 31 _ rfl
theorem Txt.g_with_limits (T : Txt K mg) : mg "with_limits" = some (.ref (ga K "with_limits")) := T.glo 32 _ rfl
theorem Txt.g_with_line (T : Txt K mg) : mg "with_line" = some (.ref (ga K "with_line")) := T.glo 33 _ rfl
theorem Txt.g_with_text (T : Txt K mg) : mg "with_text" = some (.ref (ga K "with_text")) := T.glo 34 _ rfl
theorem Txt.g_all_sets (T : Txt K mg) : mg "all_sets" = some (.ref (ga K "all_sets")) := T.glo 35 _ rfl
theorem Txt.g_stocks_for (T : Txt K mg) : mg "stocks_for" = some (.ref (ga K "stocks_for")) := T.glo 36 _ rfl
theorem Txt.g_orders_on (T : Txt K mg) : mg "orders_on" = some (.ref (ga K "orders_on")) := T.glo 37 _ rfl
theorem Txt.g_sum_of (T : Txt K mg) : mg "sum_of" = some (.ref (ga K "sum_of")) := T.glo 38 _ rfl
theorem Txt.g_others (T : Txt K mg) : mg "others" = some (.ref (ga K "others")) := T.glo 39 _ rfl
theorem Txt.g_put_up (T : Txt K mg) : mg "put_up" = some (.ref (ga K "put_up")) := T.glo 40 _ rfl
theorem Txt.g_days_bound (T : Txt K mg) : mg "days_bound" = some (.ref (ga K "days_bound")) := T.glo 41 _ rfl
theorem Txt.g_bound (T : Txt K mg) : mg "bound" = some (.ref (ga K "bound")) := T.glo 42 _ rfl
theorem Txt.g_told_bound (T : Txt K mg) : mg "told_bound" = some (.ref (ga K "told_bound")) := T.glo 43 _ rfl
theorem Txt.g_most (T : Txt K mg) : mg "most" = some (.ref (ga K "most")) := T.glo 44 _ rfl
theorem Txt.g_can_have (T : Txt K mg) : mg "can_have" = some (.ref (ga K "can_have")) := T.glo 45 _ rfl
theorem Txt.g_held_on (T : Txt K mg) : mg "held_on" = some (.ref (ga K "held_on")) := T.glo 46 _ rfl
theorem Txt.g_bound_told (T : Txt K mg) : mg "bound_told" = some (.ref (ga K "bound_told")) := T.glo 47 _ rfl
theorem Txt.g_with_one (T : Txt K mg) : mg "with_one" = some (.ref (ga K "with_one")) := T.glo 48 _ rfl
theorem Txt.g_served (T : Txt K mg) : mg "served" = some (.ref (ga K "served")) := T.glo 49 _ rfl
theorem Txt.g_fullest (T : Txt K mg) : mg "fullest" = some (.ref (ga K "fullest")) := T.glo 50 _ rfl
theorem Txt.g_stocks_in_turn (T : Txt K mg) : mg "stocks_in_turn" = some (.ref (ga K "stocks_in_turn")) := T.glo 51 _ rfl
theorem Txt.g_spare (T : Txt K mg) : mg "spare" = some (.ref (ga K "spare")) := T.glo 52 _ rfl
theorem Txt.g_plan (T : Txt K mg) : mg "plan" = some (.ref (ga K "plan")) := T.glo 53 _ rfl
theorem Txt.g_bags_had (T : Txt K mg) : mg "bags_had" = some (.ref (ga K "bags_had")) := T.glo 54 _ rfl
theorem Txt.g_bags_given (T : Txt K mg) : mg "bags_given" = some (.ref (ga K "bags_given")) := T.glo 55 _ rfl
theorem Txt.g_is_take_right (T : Txt K mg) : mg "is_take_right" = some (.ref (ga K "is_take_right")) := T.glo 56 _ rfl
theorem Txt.g_are_days_kept (T : Txt K mg) : mg "are_days_kept" = some (.ref (ga K "are_days_kept")) := T.glo 57 _ rfl
theorem Txt.g_keep_all (T : Txt K mg) : mg "keep_all" = some (.ref (ga K "keep_all")) := T.glo 58 _ rfl
theorem Txt.g_keep_whole (T : Txt K mg) : mg "keep_whole" = some (.ref (ga K "keep_whole")) := T.glo 59 _ rfl
theorem Txt.g_wants_of (T : Txt K mg) : mg "wants_of" = some (.ref (ga K "wants_of")) := T.glo 60 _ rfl
theorem Txt.g_most_whole (T : Txt K mg) : mg "most_whole" = some (.ref (ga K "most_whole")) := T.glo 61 _ rfl
theorem Txt.g_fewest_more (T : Txt K mg) : mg "fewest_more" = some (.ref (ga K "fewest_more")) := T.glo 62 _ rfl
theorem Txt.g_without_stocks (T : Txt K mg) : mg "without_stocks" = some (.ref (ga K "without_stocks")) := T.glo 63 _ rfl
theorem Txt.g_want (T : Txt K mg) : mg "want" = some (.ref (ga K "want")) := T.glo 64 _ rfl
theorem Txt.g_want_range (T : Txt K mg) : mg "want_range" = some (.ref (ga K "want_range")) := T.glo 65 _ rfl
theorem Txt.g_want_list (T : Txt K mg) : mg "want_list" = some (.ref (ga K "want_list")) := T.glo 66 _ rfl
theorem Txt.g_listed (T : Txt K mg) : mg "listed" = some (.ref (ga K "listed")) := T.glo 67 _ rfl
theorem Txt.g_read_behind (T : Txt K mg) : mg "read_behind" = some (.ref (ga K "read_behind")) := T.glo 68 _ rfl
theorem Txt.g_ask_book (T : Txt K mg) : mg "ask_book" = some (.ref (ga K "ask_book")) := T.glo 69 _ rfl
theorem Txt.g_ask_more (T : Txt K mg) : mg "ask_more" = some (.ref (ga K "ask_more")) := T.glo 70 _ rfl
theorem Txt.g_ask_shown (T : Txt K mg) : mg "ask_shown" = some (.ref (ga K "ask_shown")) := T.glo 71 _ rfl
theorem Txt.g_ask_limits (T : Txt K mg) : mg "ask_limits" = some (.ref (ga K "ask_limits")) := T.glo 72 _ rfl
theorem Txt.g_ask_stock (T : Txt K mg) : mg "ask_stock" = some (.ref (ga K "ask_stock")) := T.glo 73 _ rfl
theorem Txt.g_ask_order (T : Txt K mg) : mg "ask_order" = some (.ref (ga K "ask_order")) := T.glo 74 _ rfl
theorem Txt.g_ask_most (T : Txt K mg) : mg "ask_most" = some (.ref (ga K "ask_most")) := T.glo 75 _ rfl
theorem Txt.g_ask_check (T : Txt K mg) : mg "ask_check" = some (.ref (ga K "ask_check")) := T.glo 76 _ rfl
theorem Txt.g_ask_gone (T : Txt K mg) : mg "ask_gone" = some (.ref (ga K "ask_gone")) := T.glo 77 _ rfl
theorem Txt.g_ask_served (T : Txt K mg) : mg "ask_served" = some (.ref (ga K "ask_served")) := T.glo 78 _ rfl
theorem Txt.g_plan_told (T : Txt K mg) : mg "plan_told" = some (.ref (ga K "plan_told")) := T.glo 79 _ rfl
theorem Txt.g_ask_plan (T : Txt K mg) : mg "ask_plan" = some (.ref (ga K "ask_plan")) := T.glo 80 _ rfl
theorem Txt.g_ask_keeps (T : Txt K mg) : mg "ask_keeps" = some (.ref (ga K "ask_keeps")) := T.glo 81 _ rfl
theorem Txt.g_ask_why (T : Txt K mg) : mg "ask_why" = some (.ref (ga K "ask_why")) := T.glo 82 _ rfl
theorem Txt.g_ask_together (T : Txt K mg) : mg "ask_together" = some (.ref (ga K "ask_together")) := T.glo 83 _ rfl
theorem Txt.g_ask_whole (T : Txt K mg) : mg "ask_whole" = some (.ref (ga K "ask_whole")) := T.glo 84 _ rfl
theorem Txt.g_ask_extra (T : Txt K mg) : mg "ask_extra" = some (.ref (ga K "ask_extra")) := T.glo 85 _ rfl
theorem Txt.g_ask_idle (T : Txt K mg) : mg "ask_idle" = some (.ref (ga K "ask_idle")) := T.glo 86 _ rfl
theorem Txt.g_ask_suits (T : Txt K mg) : mg "ask_suits" = some (.ref (ga K "ask_suits")) := T.glo 87 _ rfl
theorem Txt.g_with_orders_orders (T : Txt K mg) : mg "with_orders_orders" = some (.ref (ga K "with_orders_orders")) := T.glo 88 _ rfl
theorem Txt.g_ask_cancel (T : Txt K mg) : mg "ask_cancel" = some (.ref (ga K "ask_cancel")) := T.glo 89 _ rfl
theorem Txt.g_ask_first (T : Txt K mg) : mg "ask_first" = some (.ref (ga K "ask_first")) := T.glo 90 _ rfl
theorem Txt.g_ask_bags (T : Txt K mg) : mg "ask_bags" = some (.ref (ga K "ask_bags")) := T.glo 91 _ rfl
theorem Txt.g_ask_due (T : Txt K mg) : mg "ask_due" = some (.ref (ga K "ask_due")) := T.glo 92 _ rfl
theorem Txt.g_ask_alone (T : Txt K mg) : mg "ask_alone" = some (.ref (ga K "ask_alone")) := T.glo 93 _ rfl
theorem Txt.g_ask_met (T : Txt K mg) : mg "ask_met" = some (.ref (ga K "ask_met")) := T.glo 94 _ rfl
theorem Txt.g_ask_days (T : Txt K mg) : mg "ask_days" = some (.ref (ga K "ask_days")) := T.glo 95 _ rfl
theorem Txt.g_ask_find (T : Txt K mg) : mg "ask_find" = some (.ref (ga K "ask_find")) := T.glo 96 _ rfl
theorem Txt.g_ask_sizes (T : Txt K mg) : mg "ask_sizes" = some (.ref (ga K "ask_sizes")) := T.glo 97 _ rfl
theorem Txt.g_ask_fullest (T : Txt K mg) : mg "ask_fullest" = some (.ref (ga K "ask_fullest")) := T.glo 98 _ rfl
theorem Txt.g_ask_fullplan (T : Txt K mg) : mg "ask_fullplan" = some (.ref (ga K "ask_fullplan")) := T.glo 99 _ rfl
theorem Txt.g_answer (T : Txt K mg) : mg "answer" = some (.ref (ga K "answer")) := T.glo 100 _ rfl
theorem Txt.g_answers (T : Txt K mg) : mg "answers" = some (.ref (ga K "answers")) := T.glo 101 _ rfl
theorem Txt.c_Stock (T : Txt K mg) : Cls K (ga K "Stock") := T.cls 0 _ rfl
theorem Txt.k_Stock (T : Txt K mg) : Mk K (ga K "Stock") (ma K (ga K "Stock") "__init__") := T.mkr 0 _ rfl
theorem Txt.c_Order (T : Txt K mg) : Cls K (ga K "Order") := T.cls 1 _ rfl
theorem Txt.k_Order (T : Txt K mg) : Mk K (ga K "Order") (ma K (ga K "Order") "__init__") := T.mkr 1 _ rfl
theorem Txt.c_Book (T : Txt K mg) : Cls K (ga K "Book") := T.cls 2 _ rfl
theorem Txt.k_Book (T : Txt K mg) : Mk K (ga K "Book") (ma K (ga K "Book") "__init__") := T.mkr 2 _ rfl
theorem Txt.c_Ways (T : Txt K mg) : Cls K (ga K "Ways") := T.cls 3 _ rfl
theorem Txt.k_Ways (T : Txt K mg) : Mk K (ga K "Ways") (ma K (ga K "Ways") "__init__") := T.mkr 3 _ rfl
theorem Txt.c_Take (T : Txt K mg) : Cls K (ga K "Take") := T.cls 4 _ rfl
theorem Txt.k_Take (T : Txt K mg) : Mk K (ga K "Take") (ma K (ga K "Take") "__init__") := T.mkr 4 _ rfl
theorem Txt.c_Desk (T : Txt K mg) : Cls K (ga K "Desk") := T.cls 5 _ rfl
theorem Txt.k_Desk (T : Txt K mg) : Mk K (ga K "Desk") (ma K (ga K "Desk") "__init__") := T.mkr 5 _ rfl
theorem Txt.n_Stock_kind (T : Txt K mg) : NoAttr K (ga K "Stock") "kind" := T.noat 0 _ rfl
theorem Txt.n_Stock_size (T : Txt K mg) : NoAttr K (ga K "Stock") "size" := T.noat 1 _ rfl
theorem Txt.n_Stock_day (T : Txt K mg) : NoAttr K (ga K "Stock") "day" := T.noat 2 _ rfl
theorem Txt.n_Stock_bags (T : Txt K mg) : NoAttr K (ga K "Stock") "bags" := T.noat 3 _ rfl
theorem Txt.n_Order_name (T : Txt K mg) : NoAttr K (ga K "Order") "name" := T.noat 4 _ rfl
theorem Txt.n_Order_kind (T : Txt K mg) : NoAttr K (ga K "Order") "kind" := T.noat 5 _ rfl
theorem Txt.n_Order_size (T : Txt K mg) : NoAttr K (ga K "Order") "size" := T.noat 6 _ rfl
theorem Txt.n_Order_bags (T : Txt K mg) : NoAttr K (ga K "Order") "bags" := T.noat 7 _ rfl
theorem Txt.n_Order_due (T : Txt K mg) : NoAttr K (ga K "Order") "due" := T.noat 8 _ rfl
theorem Txt.n_Order_least (T : Txt K mg) : NoAttr K (ga K "Order") "least" := T.noat 9 _ rfl
theorem Txt.n_Order_most (T : Txt K mg) : NoAttr K (ga K "Order") "most" := T.noat 10 _ rfl
theorem Txt.n_Order_is_ground (T : Txt K mg) : NoAttr K (ga K "Order") "is_ground" := T.noat 11 _ rfl
theorem Txt.n_Order_is_whole (T : Txt K mg) : NoAttr K (ga K "Order") "is_whole" := T.noat 12 _ rfl
theorem Txt.n_Book_stocks (T : Txt K mg) : NoAttr K (ga K "Book") "stocks" := T.noat 13 _ rfl
theorem Txt.n_Book_orders (T : Txt K mg) : NoAttr K (ga K "Book") "orders" := T.noat 14 _ rfl
theorem Txt.n_Book_grind (T : Txt K mg) : NoAttr K (ga K "Book") "grind" := T.noat 15 _ rfl
theorem Txt.n_Book_send (T : Txt K mg) : NoAttr K (ga K "Book") "send" := T.noat 16 _ rfl
theorem Txt.n_WrongLine_kind (T : Txt K mg) : NoAttr K (ga K "WrongLine") "kind" := T.noat 17 _ rfl
theorem Txt.n_Fault_kind (T : Txt K mg) : NoAttr K (ga K "Fault") "kind" := T.noat 18 _ rfl
theorem Txt.n_Fault_line (T : Txt K mg) : NoAttr K (ga K "Fault") "line" := T.noat 19 _ rfl
theorem Txt.n_Ways_book (T : Txt K mg) : NoAttr K (ga K "Ways") "book" := T.noat 20 _ rfl
theorem Txt.n_Ways_sets (T : Txt K mg) : NoAttr K (ga K "Ways") "sets" := T.noat 21 _ rfl
theorem Txt.n_Ways_right_ones (T : Txt K mg) : NoAttr K (ga K "Ways") "right_ones" := T.noat 22 _ rfl
theorem Txt.n_Ways_due_ones (T : Txt K mg) : NoAttr K (ga K "Ways") "due_ones" := T.noat 23 _ rfl
theorem Txt.n_Take_order (T : Txt K mg) : NoAttr K (ga K "Take") "order" := T.noat 24 _ rfl
theorem Txt.n_Take_stock (T : Txt K mg) : NoAttr K (ga K "Take") "stock" := T.noat 25 _ rfl
theorem Txt.n_Take_bags (T : Txt K mg) : NoAttr K (ga K "Take") "bags" := T.noat 26 _ rfl
theorem Txt.n_Refused_number (T : Txt K mg) : NoAttr K (ga K "Refused") "number" := T.noat 27 _ rfl
theorem Txt.n_Desk_book (T : Txt K mg) : NoAttr K (ga K "Desk") "book" := T.noat 28 _ rfl
theorem Txt.m_Stock_with_bags (T : Txt K mg) : Meth K (ga K "Stock") "with_bags" (ma K (ga K "Stock") "with_bags") := T.mth 0 _ rfl
theorem Txt.m_Order_numbers (T : Txt K mg) : Meth K (ga K "Order") "numbers" (ma K (ga K "Order") "numbers") := T.mth 1 _ rfl
theorem Txt.m_Order_with_due (T : Txt K mg) : Meth K (ga K "Order") "with_due" (ma K (ga K "Order") "with_due") := T.mth 2 _ rfl
theorem Txt.m_Book_wants (T : Txt K mg) : Meth K (ga K "Book") "wants" (ma K (ga K "Book") "wants") := T.mth 3 _ rfl
theorem Txt.m_Book_days (T : Txt K mg) : Meth K (ga K "Book") "days" (ma K (ga K "Book") "days") := T.mth 4 _ rfl
theorem Txt.m_Book_name_place (T : Txt K mg) : Meth K (ga K "Book") "name_place" (ma K (ga K "Book") "name_place") := T.mth 5 _ rfl
theorem Txt.m_Desk_want_stock (T : Txt K mg) : Meth K (ga K "Desk") "want_stock" (ma K (ga K "Desk") "want_stock") := T.mth 6 _ rfl
theorem Txt.m_Desk_want_order (T : Txt K mg) : Meth K (ga K "Desk") "want_order" (ma K (ga K "Desk") "want_order") := T.mth 7 _ rfl
theorem Txt.m_Desk_set_of (T : Txt K mg) : Meth K (ga K "Desk") "set_of" (ma K (ga K "Desk") "set_of") := T.mth 8 _ rfl
theorem Txt.x_WrongLine (T : Txt K mg) : XcT K "WrongLine" := T.exc 0 _ rfl
theorem Txt.x_Fault (T : Txt K mg) : XcT K "Fault" := T.exc 1 _ rfl
theorem Txt.x_Refused (T : Txt K mg) : XcT K "Refused" := T.exc 2 _ rfl
theorem Txt.d_parts_of (T : Txt K mg) : ∃ fd, Fun K "parts_of" "parts_of" s_parts_of (He.fAd K ("parts_of", none)) fd := T.fn 0 ⟨("parts_of", none), "parts_of", "parts_of", s_parts_of⟩ rfl
theorem b_parts_of {f : Addr} {fd : FuncData} (F : Fun K "parts_of" "parts_of" s_parts_of f fd) : Binds K fd ["some", "between"] [] := F.binds fun _ _ _ _ _ _ us hl => match us, hl with | [_, _], _ => rfl
theorem Txt.d_words_of (T : Txt K mg) : ∃ fd, Fun K "words_of" "words_of" s_words_of (He.fAd K ("words_of", none)) fd := T.fn 1 ⟨("words_of", none), "words_of", "words_of", s_words_of⟩ rfl
theorem b_words_of {f : Addr} {fd : FuncData} (F : Fun K "words_of" "words_of" s_words_of f fd) : Binds K fd ["line"] [] := F.binds fun _ _ _ _ _ _ us hl => match us, hl with | [_], _ => rfl
theorem Txt.d_bytes_of (T : Txt K mg) : ∃ fd, Fun K "bytes_of" "bytes_of" s_bytes_of (He.fAd K ("bytes_of", none)) fd := T.fn 2 ⟨("bytes_of", none), "bytes_of", "bytes_of", s_bytes_of⟩ rfl
theorem b_bytes_of {f : Addr} {fd : FuncData} (F : Fun K "bytes_of" "bytes_of" s_bytes_of f fd) : Binds K fd ["text"] [] := F.binds fun _ _ _ _ _ _ us hl => match us, hl with | [_], _ => rfl
theorem Txt.d_are_all (T : Txt K mg) : ∃ fd, Fun K "are_all" "are_all" s_are_all (He.fAd K ("are_all", none)) fd := T.fn 3 ⟨("are_all", none), "are_all", "are_all", s_are_all⟩ rfl
theorem b_are_all {f : Addr} {fd : FuncData} (F : Fun K "are_all" "are_all" s_are_all f fd) : Binds K fd ["some", "least", "greatest"] [] := F.binds fun _ _ _ _ _ _ us hl => match us, hl with | [_, _, _], _ => rfl
theorem Txt.d_number_of (T : Txt K mg) : ∃ fd, Fun K "number_of" "number_of" s_number_of (He.fAd K ("number_of", none)) fd := T.fn 4 ⟨("number_of", none), "number_of", "number_of", s_number_of⟩ rfl
theorem b_number_of {f : Addr} {fd : FuncData} (F : Fun K "number_of" "number_of" s_number_of f fd) : Binds K fd ["word"] [] := F.binds fun _ _ _ _ _ _ us hl => match us, hl with | [_], _ => rfl
theorem Txt.d_is_kind (T : Txt K mg) : ∃ fd, Fun K "is_kind" "is_kind" s_is_kind (He.fAd K ("is_kind", none)) fd := T.fn 5 ⟨("is_kind", none), "is_kind", "is_kind", s_is_kind⟩ rfl
theorem b_is_kind {f : Addr} {fd : FuncData} (F : Fun K "is_kind" "is_kind" s_is_kind f fd) : Binds K fd ["word"] [] := F.binds fun _ _ _ _ _ _ us hl => match us, hl with | [_], _ => rfl
theorem Txt.d_is_name (T : Txt K mg) : ∃ fd, Fun K "is_name" "is_name" s_is_name (He.fAd K ("is_name", none)) fd := T.fn 6 ⟨("is_name", none), "is_name", "is_name", s_is_name⟩ rfl
theorem b_is_name {f : Addr} {fd : FuncData} (F : Fun K "is_name" "is_name" s_is_name f fd) : Binds K fd ["word"] [] := F.binds fun _ _ _ _ _ _ us hl => match us, hl with | [_], _ => rfl
theorem Txt.d_line_of (T : Txt K mg) : ∃ fd, Fun K "line_of" "line_of" s_line_of (He.fAd K ("line_of", none)) fd := T.fn 7 ⟨("line_of", none), "line_of", "line_of", s_line_of⟩ rfl
theorem b_line_of {f : Addr} {fd : FuncData} (F : Fun K "line_of" "line_of" s_line_of f fd) : Binds K fd ["words"] [] := F.binds fun _ _ _ _ _ _ us hl => match us, hl with | [_], _ => rfl
theorem Txt.d_Stock_init (T : Txt K mg) : ∃ fd, Fun K "__init__" "Stock.__init__" s_Stock_init (He.fAd K ("Stock", some "__init__")) fd := T.fn 8 ⟨("Stock", some "__init__"), "__init__", "Stock.__init__", s_Stock_init⟩ rfl
theorem b_Stock_init {f : Addr} {fd : FuncData} (F : Fun K "__init__" "Stock.__init__" s_Stock_init f fd) : Binds K fd ["self", "kind", "size", "day", "bags"] [] := F.binds fun _ _ _ _ _ _ us hl => match us, hl with | [_, _, _, _, _], _ => rfl
theorem Txt.d_Stock_with_bags (T : Txt K mg) : ∃ fd, Fun K "with_bags" "Stock.with_bags" s_Stock_with_bags (He.fAd K ("Stock", some "with_bags")) fd := T.fn 9 ⟨("Stock", some "with_bags"), "with_bags", "Stock.with_bags", s_Stock_with_bags⟩ rfl
theorem b_Stock_with_bags {f : Addr} {fd : FuncData} (F : Fun K "with_bags" "Stock.with_bags" s_Stock_with_bags f fd) : Binds K fd ["self", "bags"] [] := F.binds fun _ _ _ _ _ _ us hl => match us, hl with | [_, _], _ => rfl
theorem Txt.d_Order_init (T : Txt K mg) : ∃ fd, Fun K "__init__" "Order.__init__" s_Order_init (He.fAd K ("Order", some "__init__")) fd := T.fn 10 ⟨("Order", some "__init__"), "__init__", "Order.__init__", s_Order_init⟩ rfl
theorem b_Order_init {f : Addr} {fd : FuncData} (F : Fun K "__init__" "Order.__init__" s_Order_init f fd) : Binds K fd ["self", "name", "kind", "numbers", "is_ground", "is_whole"] [] := F.binds fun _ _ _ _ _ _ us hl => match us, hl with | [_, _, _, _, _, _], _ => rfl
theorem Txt.d_Order_numbers (T : Txt K mg) : ∃ fd, Fun K "numbers" "Order.numbers" s_Order_numbers (He.fAd K ("Order", some "numbers")) fd := T.fn 11 ⟨("Order", some "numbers"), "numbers", "Order.numbers", s_Order_numbers⟩ rfl
theorem b_Order_numbers {f : Addr} {fd : FuncData} (F : Fun K "numbers" "Order.numbers" s_Order_numbers f fd) : Binds K fd ["self"] [] := F.binds fun _ _ _ _ _ _ us hl => match us, hl with | [_], _ => rfl
theorem Txt.d_Order_with_due (T : Txt K mg) : ∃ fd, Fun K "with_due" "Order.with_due" s_Order_with_due (He.fAd K ("Order", some "with_due")) fd := T.fn 12 ⟨("Order", some "with_due"), "with_due", "Order.with_due", s_Order_with_due⟩ rfl
theorem b_Order_with_due {f : Addr} {fd : FuncData} (F : Fun K "with_due" "Order.with_due" s_Order_with_due f fd) : Binds K fd ["self", "due"] [] := F.binds fun _ _ _ _ _ _ us hl => match us, hl with | [_, _], _ => rfl
theorem Txt.d_Book_init (T : Txt K mg) : ∃ fd, Fun K "__init__" "Book.__init__" s_Book_init (He.fAd K ("Book", some "__init__")) fd := T.fn 13 ⟨("Book", some "__init__"), "__init__", "Book.__init__", s_Book_init⟩ rfl
theorem b_Book_init {f : Addr} {fd : FuncData} (F : Fun K "__init__" "Book.__init__" s_Book_init f fd) : Binds K fd ["self", "stocks", "orders", "grind", "send"] [] := F.binds fun _ _ _ _ _ _ us hl => match us, hl with | [_, _, _, _, _], _ => rfl
theorem Txt.d_Book_wants (T : Txt K mg) : ∃ fd, Fun K "wants" "Book.wants" s_Book_wants (He.fAd K ("Book", some "wants")) fd := T.fn 14 ⟨("Book", some "wants"), "wants", "Book.wants", s_Book_wants⟩ rfl
theorem b_Book_wants {f : Addr} {fd : FuncData} (F : Fun K "wants" "Book.wants" s_Book_wants f fd) : Binds K fd ["self"] [] := F.binds fun _ _ _ _ _ _ us hl => match us, hl with | [_], _ => rfl
theorem Txt.d_Book_days (T : Txt K mg) : ∃ fd, Fun K "days" "Book.days" s_Book_days (He.fAd K ("Book", some "days")) fd := T.fn 15 ⟨("Book", some "days"), "days", "Book.days", s_Book_days⟩ rfl
theorem b_Book_days {f : Addr} {fd : FuncData} (F : Fun K "days" "Book.days" s_Book_days f fd) : Binds K fd ["self"] [] := F.binds fun _ _ _ _ _ _ us hl => match us, hl with | [_], _ => rfl
theorem Txt.d_Book_name_place (T : Txt K mg) : ∃ fd, Fun K "name_place" "Book.name_place" s_Book_name_place (He.fAd K ("Book", some "name_place")) fd := T.fn 16 ⟨("Book", some "name_place"), "name_place", "Book.name_place", s_Book_name_place⟩ rfl
theorem b_Book_name_place {f : Addr} {fd : FuncData} (F : Fun K "name_place" "Book.name_place" s_Book_name_place f fd) : Binds K fd ["self", "name"] [] := F.binds fun _ _ _ _ _ _ us hl => match us, hl with | [_, _], _ => rfl
theorem Txt.d_new_book (T : Txt K mg) : ∃ fd, Fun K "new_book" "new_book" s_new_book (He.fAd K ("new_book", none)) fd := T.fn 17 ⟨("new_book", none), "new_book", "new_book", s_new_book⟩ rfl
theorem b_new_book {f : Addr} {fd : FuncData} (F : Fun K "new_book" "new_book" s_new_book f fd) : Binds K fd [] [] := F.binds fun _ _ _ _ _ _ us hl => match us, hl with | [], _ => rfl
theorem Txt.d_is_right (T : Txt K mg) : ∃ fd, Fun K "is_right" "is_right" s_is_right (He.fAd K ("is_right", none)) fd := T.fn 18 ⟨("is_right", none), "is_right", "is_right", s_is_right⟩ rfl
theorem b_is_right {f : Addr} {fd : FuncData} (F : Fun K "is_right" "is_right" s_is_right f fd) : Binds K fd ["stock", "order"] [] := F.binds fun _ _ _ _ _ _ us hl => match us, hl with | [_, _], _ => rfl
theorem Txt.d_stock_line (T : Txt K mg) : ∃ fd, Fun K "stock_line" "stock_line" s_stock_line (He.fAd K ("stock_line", none)) fd := T.fn 19 ⟨("stock_line", none), "stock_line", "stock_line", s_stock_line⟩ rfl
theorem b_stock_line {f : Addr} {fd : FuncData} (F : Fun K "stock_line" "stock_line" s_stock_line f fd) : Binds K fd ["stock"] [] := F.binds fun _ _ _ _ _ _ us hl => match us, hl with | [_], _ => rfl
theorem Txt.d_order_line (T : Txt K mg) : ∃ fd, Fun K "order_line" "order_line" s_order_line (He.fAd K ("order_line", none)) fd := T.fn 20 ⟨("order_line", none), "order_line", "order_line", s_order_line⟩ rfl
theorem b_order_line {f : Addr} {fd : FuncData} (F : Fun K "order_line" "order_line" s_order_line f fd) : Binds K fd ["order"] [] := F.binds fun _ _ _ _ _ _ us hl => match us, hl with | [_], _ => rfl
theorem Txt.d_shown (T : Txt K mg) : ∃ fd, Fun K "shown" "shown" s_shown (He.fAd K ("shown", none)) fd := T.fn 21 ⟨("shown", none), "shown", "shown", s_shown⟩ rfl
theorem b_shown {f : Addr} {fd : FuncData} (F : Fun K "shown" "shown" s_shown f fd) : Binds K fd ["book"] [] := F.binds fun _ _ _ _ _ _ us hl => match us, hl with | [_], _ => rfl
theorem Txt.d_WrongLine_init (T : Txt K mg) : ∃ fd, Fun K "__init__" "WrongLine.__init__" s_WrongLine_init (He.fAd K ("WrongLine", some "__init__")) fd := T.fn 22 ⟨("WrongLine", some "__init__"), "__init__", "WrongLine.__init__", s_WrongLine_init⟩ rfl
theorem b_WrongLine_init {f : Addr} {fd : FuncData} (F : Fun K "__init__" "WrongLine.__init__" s_WrongLine_init f fd) : Binds K fd ["self", "kind"] [] := F.binds fun _ _ _ _ _ _ us hl => match us, hl with | [_, _], _ => rfl
theorem Txt.d_Fault_init (T : Txt K mg) : ∃ fd, Fun K "__init__" "Fault.__init__" s_Fault_init (He.fAd K ("Fault", some "__init__")) fd := T.fn 23 ⟨("Fault", some "__init__"), "__init__", "Fault.__init__", s_Fault_init⟩ rfl
theorem b_Fault_init {f : Addr} {fd : FuncData} (F : Fun K "__init__" "Fault.__init__" s_Fault_init f fd) : Binds K fd ["self", "kind", "line"] [] := F.binds fun _ _ _ _ _ _ us hl => match us, hl with | [_, _, _], _ => rfl
theorem Txt.d_need (T : Txt K mg) : ∃ fd, Fun K "need" "need" s_need (He.fAd K ("need", none)) fd := T.fn 24 ⟨("need", none), "need", "need", s_need⟩ rfl
theorem b_need {f : Addr} {fd : FuncData} (F : Fun K "need" "need" s_need f fd) : Binds K fd ["is_so", "kind"] [] := F.binds fun _ _ _ _ _ _ us hl => match us, hl with | [_, _], _ => rfl
theorem Txt.d_need_words (T : Txt K mg) : ∃ fd, Fun K "need_words" "need_words" s_need_words (He.fAd K ("need_words", none)) fd := T.fn 25 ⟨("need_words", none), "need_words", "need_words", s_need_words⟩ rfl
theorem b_need_words {f : Addr} {fd : FuncData} (F : Fun K "need_words" "need_words" s_need_words f fd) : Binds K fd ["words", "told"] [] := F.binds fun _ _ _ _ _ _ us hl => match us, hl with | [_, _], _ => rfl
theorem Txt.d_numbers_at (T : Txt K mg) : ∃ fd, Fun K "numbers_at" "numbers_at" s_numbers_at (He.fAd K ("numbers_at", none)) fd := T.fn 26 ⟨("numbers_at", none), "numbers_at", "numbers_at", s_numbers_at⟩ rfl
theorem b_numbers_at {f : Addr} {fd : FuncData} (F : Fun K "numbers_at" "numbers_at" s_numbers_at f fd) : Binds K fd ["words", "places"] [] := F.binds fun _ _ _ _ _ _ us hl => match us, hl with | [_, _], _ => rfl
theorem Txt.d_need_range (T : Txt K mg) : ∃ fd, Fun K "need_range" "need_range" s_need_range (He.fAd K ("need_range", none)) fd := T.fn 27 ⟨("need_range", none), "need_range", "need_range", s_need_range⟩ rfl
theorem b_need_range {f : Addr} {fd : FuncData} (F : Fun K "need_range" "need_range" s_need_range f fd) : Binds K fd ["number", "least", "greatest"] [] := F.binds fun _ _ _ _ _ _ us hl => match us, hl with | [_, _, _], _ => rfl
theorem Txt.d_with_stock (T : Txt K mg) : ∃ fd, Fun K "with_stock" "with_stock" s_with_stock (He.fAd K ("with_stock", none)) fd := T.fn 28 ⟨("with_stock", none), "with_stock", "with_stock", s_with_stock⟩ rfl
theorem b_with_stock {f : Addr} {fd : FuncData} (F : Fun K "with_stock" "with_stock" s_with_stock f fd) : Binds K fd ["book", "words"] [] := F.binds fun _ _ _ _ _ _ us hl => match us, hl with | [_, _], _ => rfl
theorem Txt.d_either (T : Txt K mg) : ∃ fd, Fun K "either" "either" s_either (He.fAd K ("either", none)) fd := T.fn 29 ⟨("either", none), "either", "either", s_either⟩ rfl
theorem b_either {f : Addr} {fd : FuncData} (F : Fun K "either" "either" s_either f fd) : Binds K fd ["word", "one", "other"] [] := F.binds fun _ _ _ _ _ _ us hl => match us, hl with | [_, _, _], _ => rfl
theorem Txt.d_repeats (T : Txt K mg) : ∃ fd, Fun K "repeats" "repeats" s_repeats (He.fAd K ("repeats", none)) fd := T.fn 30 ⟨("repeats", none), "repeats", "repeats", s_repeats⟩ rfl
theorem b_repeats {f : Addr} {fd : FuncData} (F : Fun K "repeats" "repeats" s_repeats f fd) : Binds K fd ["words"] [] := F.binds fun _ _ _ _ _ _ us hl => match us, hl with | [_], _ => rfl
theorem Txt.d_names_of (T : Txt K mg) : ∃ fd, Fun K "names_of" "names_of" s_names_of (He.fAd K ("names_of", none)) fd := T.fn 31 ⟨("names_of", none), "names_of", "names_of", s_names_of⟩ rfl
theorem b_names_of {f : Addr} {fd : FuncData} (F : Fun K "names_of" "names_of" s_names_of f fd) : Binds K fd ["words", "many"] [] := F.binds fun _ _ _ _ _ _ us hl => match us, hl with | [_, _], _ => rfl
theorem Txt.d_need_order_ranges (T : Txt K mg) : ∃ fd, Fun K "need_order_ranges" "need_order_ranges" s_need_order_ranges (He.fAd K ("need_order_ranges", none)) fd := T.fn 32 ⟨("need_order_ranges", none), "need_order_ranges", "need_order_ranges", s_need_order_ranges⟩ rfl
theorem b_need_order_ranges {f : Addr} {fd : FuncData} (F : Fun K "need_order_ranges" "need_order_ranges" s_need_order_ranges f fd) : Binds K fd ["numbers", "step", "many", "is_every"] [] := F.binds fun _ _ _ _ _ _ us hl => match us, hl with | [_, _, _, _], _ => rfl
theorem Txt.d_with_orders (T : Txt K mg) : ∃ fd, Fun K "with_orders" "with_orders" s_with_orders (He.fAd K ("with_orders_reading", none)) fd := T.fn 33 ⟨("with_orders_reading", none), "with_orders", "with_orders", s_with_orders⟩ rfl
theorem b_with_orders {f : Addr} {fd : FuncData} (F : Fun K "with_orders" "with_orders" s_with_orders f fd) : Binds K fd ["book", "words"] [] := F.binds fun _ _ _ _ _ _ us hl => match us, hl with | [_, _], _ => rfl
theorem Txt.d_with_limits (T : Txt K mg) : ∃ fd, Fun K "with_limits" "with_limits" s_with_limits (He.fAd K ("with_limits", none)) fd := T.fn 34 ⟨("with_limits", none), "with_limits", "with_limits", s_with_limits⟩ rfl
theorem b_with_limits {f : Addr} {fd : FuncData} (F : Fun K "with_limits" "with_limits" s_with_limits f fd) : Binds K fd ["book", "words"] [] := F.binds fun _ _ _ _ _ _ us hl => match us, hl with | [_, _], _ => rfl
theorem Txt.d_with_line (T : Txt K mg) : ∃ fd, Fun K "with_line" "with_line" s_with_line (He.fAd K ("with_line", none)) fd := T.fn 35 ⟨("with_line", none), "with_line", "with_line", s_with_line⟩ rfl
theorem b_with_line {f : Addr} {fd : FuncData} (F : Fun K "with_line" "with_line" s_with_line f fd) : Binds K fd ["book", "line"] [] := F.binds fun _ _ _ _ _ _ us hl => match us, hl with | [_, _], _ => rfl
theorem Txt.d_with_text (T : Txt K mg) : ∃ fd, Fun K "with_text" "with_text" s_with_text (He.fAd K ("with_text", none)) fd := T.fn 36 ⟨("with_text", none), "with_text", "with_text", s_with_text⟩ rfl
theorem b_with_text {f : Addr} {fd : FuncData} (F : Fun K "with_text" "with_text" s_with_text f fd) : Binds K fd ["book", "text"] [] := F.binds fun _ _ _ _ _ _ us hl => match us, hl with | [_, _], _ => rfl
theorem Txt.d_all_sets (T : Txt K mg) : ∃ fd, Fun K "all_sets" "all_sets" s_all_sets (He.fAd K ("all_sets", none)) fd := T.fn 37 ⟨("all_sets", none), "all_sets", "all_sets", s_all_sets⟩ rfl
theorem b_all_sets {f : Addr} {fd : FuncData} (F : Fun K "all_sets" "all_sets" s_all_sets f fd) : Binds K fd ["many"] [] := F.binds fun _ _ _ _ _ _ us hl => match us, hl with | [_], _ => rfl
theorem Txt.d_stocks_for (T : Txt K mg) : ∃ fd, Fun K "stocks_for" "stocks_for" s_stocks_for (He.fAd K ("stocks_for", none)) fd := T.fn 38 ⟨("stocks_for", none), "stocks_for", "stocks_for", s_stocks_for⟩ rfl
theorem b_stocks_for {f : Addr} {fd : FuncData} (F : Fun K "stocks_for" "stocks_for" s_stocks_for f fd) : Binds K fd ["book", "some"] [] := F.binds fun _ _ _ _ _ _ us hl => match us, hl with | [_, _], _ => rfl
theorem Txt.d_orders_on (T : Txt K mg) : ∃ fd, Fun K "orders_on" "orders_on" s_orders_on (He.fAd K ("orders_on", none)) fd := T.fn 39 ⟨("orders_on", none), "orders_on", "orders_on", s_orders_on⟩ rfl
theorem b_orders_on {f : Addr} {fd : FuncData} (F : Fun K "orders_on" "orders_on" s_orders_on f fd) : Binds K fd ["book", "day"] [] := F.binds fun _ _ _ _ _ _ us hl => match us, hl with | [_, _], _ => rfl
theorem Txt.d_Ways_init (T : Txt K mg) : ∃ fd, Fun K "__init__" "Ways.__init__" s_Ways_init (He.fAd K ("Ways", some "__init__")) fd := T.fn 40 ⟨("Ways", some "__init__"), "__init__", "Ways.__init__", s_Ways_init⟩ rfl
theorem b_Ways_init {f : Addr} {fd : FuncData} (F : Fun K "__init__" "Ways.__init__" s_Ways_init f fd) : Binds K fd ["self", "book"] [] := F.binds fun _ _ _ _ _ _ us hl => match us, hl with | [_, _], _ => rfl
theorem Txt.d_sum_of (T : Txt K mg) : ∃ fd, Fun K "sum_of" "sum_of" s_sum_of (He.fAd K ("sum_of", none)) fd := T.fn 41 ⟨("sum_of", none), "sum_of", "sum_of", s_sum_of⟩ rfl
theorem b_sum_of {f : Addr} {fd : FuncData} (F : Fun K "sum_of" "sum_of" s_sum_of f fd) : Binds K fd ["numbers", "places"] [] := F.binds fun _ _ _ _ _ _ us hl => match us, hl with | [_, _], _ => rfl
theorem Txt.d_others (T : Txt K mg) : ∃ fd, Fun K "others" "others" s_others (He.fAd K ("others", none)) fd := T.fn 42 ⟨("others", none), "others", "others", s_others⟩ rfl
theorem b_others {f : Addr} {fd : FuncData} (F : Fun K "others" "others" s_others f fd) : Binds K fd ["places", "some"] [] := F.binds fun _ _ _ _ _ _ us hl => match us, hl with | [_, _], _ => rfl
theorem Txt.d_put_up (T : Txt K mg) : ∃ fd, Fun K "put_up" "put_up" s_put_up (He.fAd K ("put_up", none)) fd := T.fn 43 ⟨("put_up", none), "put_up", "put_up", s_put_up⟩ rfl
theorem b_put_up {f : Addr} {fd : FuncData} (F : Fun K "put_up" "put_up" s_put_up f fd) : Binds K fd ["ways", "wants", "some", "due_ones"] [] := F.binds fun _ _ _ _ _ _ us hl => match us, hl with | [_, _, _, _], _ => rfl
theorem Txt.d_days_bound (T : Txt K mg) : ∃ fd, Fun K "days_bound" "days_bound" s_days_bound (He.fAd K ("days_bound", none)) fd := T.fn 44 ⟨("days_bound", none), "days_bound", "days_bound", s_days_bound⟩ rfl
theorem b_days_bound {f : Addr} {fd : FuncData} (F : Fun K "days_bound" "days_bound" s_days_bound f fd) : Binds K fd ["ways", "wants", "some"] [] := F.binds fun _ _ _ _ _ _ us hl => match us, hl with | [_, _, _], _ => rfl
theorem Txt.d_bound (T : Txt K mg) : ∃ fd, Fun K "bound" "bound" s_bound (He.fAd K ("bound", none)) fd := T.fn 45 ⟨("bound", none), "bound", "bound", s_bound⟩ rfl
theorem b_bound {f : Addr} {fd : FuncData} (F : Fun K "bound" "bound" s_bound f fd) : Binds K fd ["ways", "wants", "number"] [] := F.binds fun _ _ _ _ _ _ us hl => match us, hl with | [_, _, _], _ => rfl
theorem Txt.d_told_bound (T : Txt K mg) : ∃ fd, Fun K "told_bound" "told_bound" s_told_bound (He.fAd K ("told_bound", none)) fd := T.fn 46 ⟨("told_bound", none), "told_bound", "told_bound", s_told_bound⟩ rfl
theorem b_told_bound {f : Addr} {fd : FuncData} (F : Fun K "told_bound" "told_bound" s_told_bound f fd) : Binds K fd ["ways", "wants"] [] := F.binds fun _ _ _ _ _ _ us hl => match us, hl with | [_, _], _ => rfl
theorem Txt.d_most (T : Txt K mg) : ∃ fd, Fun K "most" "most" s_most (He.fAd K ("most", none)) fd := T.fn 47 ⟨("most", none), "most", "most", s_most⟩ rfl
theorem b_most {f : Addr} {fd : FuncData} (F : Fun K "most" "most" s_most f fd) : Binds K fd ["ways", "wants"] [] := F.binds fun _ _ _ _ _ _ us hl => match us, hl with | [_, _], _ => rfl
theorem Txt.d_can_have (T : Txt K mg) : ∃ fd, Fun K "can_have" "can_have" s_can_have (He.fAd K ("can_have", none)) fd := T.fn 48 ⟨("can_have", none), "can_have", "can_have", s_can_have⟩ rfl
theorem b_can_have {f : Addr} {fd : FuncData} (F : Fun K "can_have" "can_have" s_can_have f fd) : Binds K fd ["ways", "wants"] [] := F.binds fun _ _ _ _ _ _ us hl => match us, hl with | [_, _], _ => rfl
theorem Txt.d_held_on (T : Txt K mg) : ∃ fd, Fun K "held_on" "held_on" s_held_on (He.fAd K ("held_on", none)) fd := T.fn 49 ⟨("held_on", none), "held_on", "held_on", s_held_on⟩ rfl
theorem b_held_on {f : Addr} {fd : FuncData} (F : Fun K "held_on" "held_on" s_held_on f fd) : Binds K fd ["ways", "wants", "some", "due_ones"] [] := F.binds fun _ _ _ _ _ _ us hl => match us, hl with | [_, _, _, _], _ => rfl
theorem Txt.d_bound_told (T : Txt K mg) : ∃ fd, Fun K "bound_told" "bound_told" s_bound_told (He.fAd K ("bound_told", none)) fd := T.fn 50 ⟨("bound_told", none), "bound_told", "bound_told", s_bound_told⟩ rfl
theorem b_bound_told {f : Addr} {fd : FuncData} (F : Fun K "bound_told" "bound_told" s_bound_told f fd) : Binds K fd ["ways", "wants"] [] := F.binds fun _ _ _ _ _ _ us hl => match us, hl with | [_, _], _ => rfl
theorem Txt.d_Take_init (T : Txt K mg) : ∃ fd, Fun K "__init__" "Take.__init__" s_Take_init (He.fAd K ("Take", some "__init__")) fd := T.fn 51 ⟨("Take", some "__init__"), "__init__", "Take.__init__", s_Take_init⟩ rfl
theorem b_Take_init {f : Addr} {fd : FuncData} (F : Fun K "__init__" "Take.__init__" s_Take_init f fd) : Binds K fd ["self", "order", "stock", "bags"] [] := F.binds fun _ _ _ _ _ _ us hl => match us, hl with | [_, _, _, _], _ => rfl
theorem Txt.d_with_one (T : Txt K mg) : ∃ fd, Fun K "with_one" "with_one" s_with_one (He.fAd K ("with_one", none)) fd := T.fn 52 ⟨("with_one", none), "with_one", "with_one", s_with_one⟩ rfl
theorem b_with_one {f : Addr} {fd : FuncData} (F : Fun K "with_one" "with_one" s_with_one f fd) : Binds K fd ["row", "place", "number"] [] := F.binds fun _ _ _ _ _ _ us hl => match us, hl with | [_, _, _], _ => rfl
theorem Txt.d_served (T : Txt K mg) : ∃ fd, Fun K "served" "served" s_served (He.fAd K ("served", none)) fd := T.fn 53 ⟨("served", none), "served", "served", s_served⟩ rfl
theorem b_served {f : Addr} {fd : FuncData} (F : Fun K "served" "served" s_served f fd) : Binds K fd ["ways"] [] := F.binds fun _ _ _ _ _ _ us hl => match us, hl with | [_], _ => rfl
theorem Txt.d_fullest (T : Txt K mg) : ∃ fd, Fun K "fullest" "fullest" s_fullest (He.fAd K ("fullest", none)) fd := T.fn 54 ⟨("fullest", none), "fullest", "fullest", s_fullest⟩ rfl
theorem b_fullest {f : Addr} {fd : FuncData} (F : Fun K "fullest" "fullest" s_fullest f fd) : Binds K fd ["ways"] [] := F.binds fun _ _ _ _ _ _ us hl => match us, hl with | [_], _ => rfl
theorem Txt.d_stocks_in_turn (T : Txt K mg) : ∃ fd, Fun K "stocks_in_turn" "stocks_in_turn" s_stocks_in_turn (He.fAd K ("stocks_in_turn", none)) fd := T.fn 55 ⟨("stocks_in_turn", none), "stocks_in_turn", "stocks_in_turn", s_stocks_in_turn⟩ rfl
theorem b_stocks_in_turn {f : Addr} {fd : FuncData} (F : Fun K "stocks_in_turn" "stocks_in_turn" s_stocks_in_turn f fd) : Binds K fd ["book", "order"] [] := F.binds fun _ _ _ _ _ _ us hl => match us, hl with | [_, _], _ => rfl
theorem Txt.d_spare (T : Txt K mg) : ∃ fd, Fun K "spare" "spare" s_spare (He.fAd K ("spare", none)) fd := T.fn 56 ⟨("spare", none), "spare", "spare", s_spare⟩ rfl
theorem b_spare {f : Addr} {fd : FuncData} (F : Fun K "spare" "spare" s_spare f fd) : Binds K fd ["ways", "lefts", "wants", "place", "stock"] [] := F.binds fun _ _ _ _ _ _ us hl => match us, hl with | [_, _, _, _, _], _ => rfl
theorem Txt.d_plan (T : Txt K mg) : ∃ fd, Fun K "plan" "plan" s_plan (He.fAd K ("plan", none)) fd := T.fn 57 ⟨("plan", none), "plan", "plan", s_plan⟩ rfl
theorem b_plan {f : Addr} {fd : FuncData} (F : Fun K "plan" "plan" s_plan f fd) : Binds K fd ["ways", "had"] [] := F.binds fun _ _ _ _ _ _ us hl => match us, hl with | [_, _], _ => rfl
theorem Txt.d_bags_had (T : Txt K mg) : ∃ fd, Fun K "bags_had" "bags_had" s_bags_had (He.fAd K ("bags_had", none)) fd := T.fn 58 ⟨("bags_had", none), "bags_had", "bags_had", s_bags_had⟩ rfl
theorem b_bags_had {f : Addr} {fd : FuncData} (F : Fun K "bags_had" "bags_had" s_bags_had f fd) : Binds K fd ["takes", "many"] [] := F.binds fun _ _ _ _ _ _ us hl => match us, hl with | [_, _], _ => rfl
theorem Txt.d_bags_given (T : Txt K mg) : ∃ fd, Fun K "bags_given" "bags_given" s_bags_given (He.fAd K ("bags_given", none)) fd := T.fn 59 ⟨("bags_given", none), "bags_given", "bags_given", s_bags_given⟩ rfl
theorem b_bags_given {f : Addr} {fd : FuncData} (F : Fun K "bags_given" "bags_given" s_bags_given f fd) : Binds K fd ["takes", "many"] [] := F.binds fun _ _ _ _ _ _ us hl => match us, hl with | [_, _], _ => rfl
theorem Txt.d_is_take_right (T : Txt K mg) : ∃ fd, Fun K "is_take_right" "is_take_right" s_is_take_right (He.fAd K ("is_take_right", none)) fd := T.fn 60 ⟨("is_take_right", none), "is_take_right", "is_take_right", s_is_take_right⟩ rfl
theorem b_is_take_right {f : Addr} {fd : FuncData} (F : Fun K "is_take_right" "is_take_right" s_is_take_right f fd) : Binds K fd ["book", "take"] [] := F.binds fun _ _ _ _ _ _ us hl => match us, hl with | [_, _], _ => rfl
theorem Txt.d_are_days_kept (T : Txt K mg) : ∃ fd, Fun K "are_days_kept" "are_days_kept" s_are_days_kept (He.fAd K ("are_days_kept", none)) fd := T.fn 61 ⟨("are_days_kept", none), "are_days_kept", "are_days_kept", s_are_days_kept⟩ rfl
theorem b_are_days_kept {f : Addr} {fd : FuncData} (F : Fun K "are_days_kept" "are_days_kept" s_are_days_kept f fd) : Binds K fd ["book", "had"] [] := F.binds fun _ _ _ _ _ _ us hl => match us, hl with | [_, _], _ => rfl
theorem Txt.d_keep_all (T : Txt K mg) : ∃ fd, Fun K "keep_all" "keep_all" s_keep_all (He.fAd K ("keep_all", none)) fd := T.fn 62 ⟨("keep_all", none), "keep_all", "keep_all", s_keep_all⟩ rfl
theorem b_keep_all {f : Addr} {fd : FuncData} (F : Fun K "keep_all" "keep_all" s_keep_all f fd) : Binds K fd ["book", "takes"] [] := F.binds fun _ _ _ _ _ _ us hl => match us, hl with | [_, _], _ => rfl
theorem Txt.d_keep_whole (T : Txt K mg) : ∃ fd, Fun K "keep_whole" "keep_whole" s_keep_whole (He.fAd K ("keep_whole", none)) fd := T.fn 63 ⟨("keep_whole", none), "keep_whole", "keep_whole", s_keep_whole⟩ rfl
theorem b_keep_whole {f : Addr} {fd : FuncData} (F : Fun K "keep_whole" "keep_whole" s_keep_whole f fd) : Binds K fd ["book", "takes"] [] := F.binds fun _ _ _ _ _ _ us hl => match us, hl with | [_, _], _ => rfl
theorem Txt.d_wants_of (T : Txt K mg) : ∃ fd, Fun K "wants_of" "wants_of" s_wants_of (He.fAd K ("wants_of", none)) fd := T.fn 64 ⟨("wants_of", none), "wants_of", "wants_of", s_wants_of⟩ rfl
theorem b_wants_of {f : Addr} {fd : FuncData} (F : Fun K "wants_of" "wants_of" s_wants_of f fd) : Binds K fd ["book", "some"] [] := F.binds fun _ _ _ _ _ _ us hl => match us, hl with | [_, _], _ => rfl
theorem Txt.d_most_whole (T : Txt K mg) : ∃ fd, Fun K "most_whole" "most_whole" s_most_whole (He.fAd K ("most_whole", none)) fd := T.fn 65 ⟨("most_whole", none), "most_whole", "most_whole", s_most_whole⟩ rfl
theorem b_most_whole {f : Addr} {fd : FuncData} (F : Fun K "most_whole" "most_whole" s_most_whole f fd) : Binds K fd ["ways"] [] := F.binds fun _ _ _ _ _ _ us hl => match us, hl with | [_], _ => rfl
theorem Txt.d_fewest_more (T : Txt K mg) : ∃ fd, Fun K "fewest_more" "fewest_more" s_fewest_more (He.fAd K ("fewest_more", none)) fd := T.fn 66 ⟨("fewest_more", none), "fewest_more", "fewest_more", s_fewest_more⟩ rfl
theorem b_fewest_more {f : Addr} {fd : FuncData} (F : Fun K "fewest_more" "fewest_more" s_fewest_more f fd) : Binds K fd ["ways", "stock"] [] := F.binds fun _ _ _ _ _ _ us hl => match us, hl with | [_, _], _ => rfl
theorem Txt.d_without_stocks (T : Txt K mg) : ∃ fd, Fun K "without_stocks" "without_stocks" s_without_stocks (He.fAd K ("without_stocks", none)) fd := T.fn 67 ⟨("without_stocks", none), "without_stocks", "without_stocks", s_without_stocks⟩ rfl
theorem b_without_stocks {f : Addr} {fd : FuncData} (F : Fun K "without_stocks" "without_stocks" s_without_stocks f fd) : Binds K fd ["book", "gone"] [] := F.binds fun _ _ _ _ _ _ us hl => match us, hl with | [_, _], _ => rfl
theorem Txt.d_Refused_init (T : Txt K mg) : ∃ fd, Fun K "__init__" "Refused.__init__" s_Refused_init (He.fAd K ("Refused", some "__init__")) fd := T.fn 68 ⟨("Refused", some "__init__"), "__init__", "Refused.__init__", s_Refused_init⟩ rfl
theorem b_Refused_init {f : Addr} {fd : FuncData} (F : Fun K "__init__" "Refused.__init__" s_Refused_init f fd) : Binds K fd ["self", "number"] [] := F.binds fun _ _ _ _ _ _ us hl => match us, hl with | [_, _], _ => rfl
theorem Txt.d_want (T : Txt K mg) : ∃ fd, Fun K "want" "want" s_want (He.fAd K ("want", none)) fd := T.fn 69 ⟨("want", none), "want", "want", s_want⟩ rfl
theorem b_want {f : Addr} {fd : FuncData} (F : Fun K "want" "want" s_want f fd) : Binds K fd ["is_so", "number"] [] := F.binds fun _ _ _ _ _ _ us hl => match us, hl with | [_, _], _ => rfl
theorem Txt.d_want_range (T : Txt K mg) : ∃ fd, Fun K "want_range" "want_range" s_want_range (He.fAd K ("want_range", none)) fd := T.fn 70 ⟨("want_range", none), "want_range", "want_range", s_want_range⟩ rfl
theorem b_want_range {f : Addr} {fd : FuncData} (F : Fun K "want_range" "want_range" s_want_range f fd) : Binds K fd ["number", "least", "greatest"] [] := F.binds fun _ _ _ _ _ _ us hl => match us, hl with | [_, _, _], _ => rfl
theorem Txt.d_want_list (T : Txt K mg) : ∃ fd, Fun K "want_list" "want_list" s_want_list (He.fAd K ("want_list", none)) fd := T.fn 71 ⟨("want_list", none), "want_list", "want_list", s_want_list⟩ rfl
theorem b_want_list {f : Addr} {fd : FuncData} (F : Fun K "want_list" "want_list" s_want_list f fd) : Binds K fd ["row", "longest", "greatest"] [] := F.binds fun _ _ _ _ _ _ us hl => match us, hl with | [_, _, _], _ => rfl
theorem Txt.d_Desk_init (T : Txt K mg) : ∃ fd, Fun K "__init__" "Desk.__init__" s_Desk_init (He.fAd K ("Desk", some "__init__")) fd := T.fn 72 ⟨("Desk", some "__init__"), "__init__", "Desk.__init__", s_Desk_init⟩ rfl
theorem b_Desk_init {f : Addr} {fd : FuncData} (F : Fun K "__init__" "Desk.__init__" s_Desk_init f fd) : Binds K fd ["self"] [] := F.binds fun _ _ _ _ _ _ us hl => match us, hl with | [_], _ => rfl
theorem Txt.d_Desk_want_stock (T : Txt K mg) : ∃ fd, Fun K "want_stock" "Desk.want_stock" s_Desk_want_stock (He.fAd K ("Desk", some "want_stock")) fd := T.fn 73 ⟨("Desk", some "want_stock"), "want_stock", "Desk.want_stock", s_Desk_want_stock⟩ rfl
theorem b_Desk_want_stock {f : Addr} {fd : FuncData} (F : Fun K "want_stock" "Desk.want_stock" s_Desk_want_stock f fd) : Binds K fd ["self", "i"] [] := F.binds fun _ _ _ _ _ _ us hl => match us, hl with | [_, _], _ => rfl
theorem Txt.d_Desk_want_order (T : Txt K mg) : ∃ fd, Fun K "want_order" "Desk.want_order" s_Desk_want_order (He.fAd K ("Desk", some "want_order")) fd := T.fn 74 ⟨("Desk", some "want_order"), "want_order", "Desk.want_order", s_Desk_want_order⟩ rfl
theorem b_Desk_want_order {f : Addr} {fd : FuncData} (F : Fun K "want_order" "Desk.want_order" s_Desk_want_order f fd) : Binds K fd ["self", "j"] [] := F.binds fun _ _ _ _ _ _ us hl => match us, hl with | [_, _], _ => rfl
theorem Txt.d_Desk_set_of (T : Txt K mg) : ∃ fd, Fun K "set_of" "Desk.set_of" s_Desk_set_of (He.fAd K ("Desk", some "set_of")) fd := T.fn 75 ⟨("Desk", some "set_of"), "set_of", "Desk.set_of", s_Desk_set_of⟩ rfl
theorem b_Desk_set_of {f : Addr} {fd : FuncData} (F : Fun K "set_of" "Desk.set_of" s_Desk_set_of f fd) : Binds K fd ["self", "row"] [] := F.binds fun _ _ _ _ _ _ us hl => match us, hl with | [_, _], _ => rfl
theorem Txt.d_listed (T : Txt K mg) : ∃ fd, Fun K "listed" "listed" s_listed (He.fAd K ("listed", none)) fd := T.fn 76 ⟨("listed", none), "listed", "listed", s_listed⟩ rfl
theorem b_listed {f : Addr} {fd : FuncData} (F : Fun K "listed" "listed" s_listed f fd) : Binds K fd ["row"] [] := F.binds fun _ _ _ _ _ _ us hl => match us, hl with | [_], _ => rfl
theorem Txt.d_read_behind (T : Txt K mg) : ∃ fd, Fun K "read_behind" "read_behind" s_read_behind (He.fAd K ("read_behind", none)) fd := T.fn 77 ⟨("read_behind", none), "read_behind", "read_behind", s_read_behind⟩ rfl
theorem b_read_behind {f : Addr} {fd : FuncData} (F : Fun K "read_behind" "read_behind" s_read_behind f fd) : Binds K fd ["desk", "book", "row"] [] := F.binds fun _ _ _ _ _ _ us hl => match us, hl with | [_, _, _], _ => rfl
theorem Txt.d_ask_book (T : Txt K mg) : ∃ fd, Fun K "ask_book" "ask_book" s_ask_book (He.fAd K ("ask_book", none)) fd := T.fn 78 ⟨("ask_book", none), "ask_book", "ask_book", s_ask_book⟩ rfl
theorem b_ask_book {f : Addr} {fd : FuncData} (F : Fun K "ask_book" "ask_book" s_ask_book f fd) : Binds K fd ["desk", "numbers", "row"] [] := F.binds fun _ _ _ _ _ _ us hl => match us, hl with | [_, _, _], _ => rfl
theorem Txt.d_ask_more (T : Txt K mg) : ∃ fd, Fun K "ask_more" "ask_more" s_ask_more (He.fAd K ("ask_more", none)) fd := T.fn 79 ⟨("ask_more", none), "ask_more", "ask_more", s_ask_more⟩ rfl
theorem b_ask_more {f : Addr} {fd : FuncData} (F : Fun K "ask_more" "ask_more" s_ask_more f fd) : Binds K fd ["desk", "numbers", "row"] [] := F.binds fun _ _ _ _ _ _ us hl => match us, hl with | [_, _, _], _ => rfl
theorem Txt.d_ask_shown (T : Txt K mg) : ∃ fd, Fun K "ask_shown" "ask_shown" s_ask_shown (He.fAd K ("ask_shown", none)) fd := T.fn 80 ⟨("ask_shown", none), "ask_shown", "ask_shown", s_ask_shown⟩ rfl
theorem b_ask_shown {f : Addr} {fd : FuncData} (F : Fun K "ask_shown" "ask_shown" s_ask_shown f fd) : Binds K fd ["desk", "numbers", "row"] [] := F.binds fun _ _ _ _ _ _ us hl => match us, hl with | [_, _, _], _ => rfl
theorem Txt.d_ask_limits (T : Txt K mg) : ∃ fd, Fun K "ask_limits" "ask_limits" s_ask_limits (He.fAd K ("ask_limits", none)) fd := T.fn 81 ⟨("ask_limits", none), "ask_limits", "ask_limits", s_ask_limits⟩ rfl
theorem b_ask_limits {f : Addr} {fd : FuncData} (F : Fun K "ask_limits" "ask_limits" s_ask_limits f fd) : Binds K fd ["desk", "numbers", "row"] [] := F.binds fun _ _ _ _ _ _ us hl => match us, hl with | [_, _, _], _ => rfl
theorem Txt.d_ask_stock (T : Txt K mg) : ∃ fd, Fun K "ask_stock" "ask_stock" s_ask_stock (He.fAd K ("ask_stock", none)) fd := T.fn 82 ⟨("ask_stock", none), "ask_stock", "ask_stock", s_ask_stock⟩ rfl
theorem b_ask_stock {f : Addr} {fd : FuncData} (F : Fun K "ask_stock" "ask_stock" s_ask_stock f fd) : Binds K fd ["desk", "numbers", "row"] [] := F.binds fun _ _ _ _ _ _ us hl => match us, hl with | [_, _, _], _ => rfl
theorem Txt.d_ask_order (T : Txt K mg) : ∃ fd, Fun K "ask_order" "ask_order" s_ask_order (He.fAd K ("ask_order", none)) fd := T.fn 83 ⟨("ask_order", none), "ask_order", "ask_order", s_ask_order⟩ rfl
theorem b_ask_order {f : Addr} {fd : FuncData} (F : Fun K "ask_order" "ask_order" s_ask_order f fd) : Binds K fd ["desk", "numbers", "row"] [] := F.binds fun _ _ _ _ _ _ us hl => match us, hl with | [_, _, _], _ => rfl
theorem Txt.d_ask_most (T : Txt K mg) : ∃ fd, Fun K "ask_most" "ask_most" s_ask_most (He.fAd K ("ask_most", none)) fd := T.fn 84 ⟨("ask_most", none), "ask_most", "ask_most", s_ask_most⟩ rfl
theorem b_ask_most {f : Addr} {fd : FuncData} (F : Fun K "ask_most" "ask_most" s_ask_most f fd) : Binds K fd ["desk", "numbers", "row"] [] := F.binds fun _ _ _ _ _ _ us hl => match us, hl with | [_, _, _], _ => rfl
theorem Txt.d_ask_check (T : Txt K mg) : ∃ fd, Fun K "ask_check" "ask_check" s_ask_check (He.fAd K ("ask_check", none)) fd := T.fn 85 ⟨("ask_check", none), "ask_check", "ask_check", s_ask_check⟩ rfl
theorem b_ask_check {f : Addr} {fd : FuncData} (F : Fun K "ask_check" "ask_check" s_ask_check f fd) : Binds K fd ["desk", "numbers", "row"] [] := F.binds fun _ _ _ _ _ _ us hl => match us, hl with | [_, _, _], _ => rfl
theorem Txt.d_ask_gone (T : Txt K mg) : ∃ fd, Fun K "ask_gone" "ask_gone" s_ask_gone (He.fAd K ("ask_gone", none)) fd := T.fn 86 ⟨("ask_gone", none), "ask_gone", "ask_gone", s_ask_gone⟩ rfl
theorem b_ask_gone {f : Addr} {fd : FuncData} (F : Fun K "ask_gone" "ask_gone" s_ask_gone f fd) : Binds K fd ["desk", "numbers", "row"] [] := F.binds fun _ _ _ _ _ _ us hl => match us, hl with | [_, _, _], _ => rfl
theorem Txt.d_ask_served (T : Txt K mg) : ∃ fd, Fun K "ask_served" "ask_served" s_ask_served (He.fAd K ("ask_served", none)) fd := T.fn 87 ⟨("ask_served", none), "ask_served", "ask_served", s_ask_served⟩ rfl
theorem b_ask_served {f : Addr} {fd : FuncData} (F : Fun K "ask_served" "ask_served" s_ask_served f fd) : Binds K fd ["desk", "numbers", "row"] [] := F.binds fun _ _ _ _ _ _ us hl => match us, hl with | [_, _, _], _ => rfl
theorem Txt.d_plan_told (T : Txt K mg) : ∃ fd, Fun K "plan_told" "plan_told" s_plan_told (He.fAd K ("plan_told", none)) fd := T.fn 88 ⟨("plan_told", none), "plan_told", "plan_told", s_plan_told⟩ rfl
theorem b_plan_told {f : Addr} {fd : FuncData} (F : Fun K "plan_told" "plan_told" s_plan_told f fd) : Binds K fd ["ways", "had"] [] := F.binds fun _ _ _ _ _ _ us hl => match us, hl with | [_, _], _ => rfl
theorem Txt.d_ask_plan (T : Txt K mg) : ∃ fd, Fun K "ask_plan" "ask_plan" s_ask_plan (He.fAd K ("ask_plan", none)) fd := T.fn 89 ⟨("ask_plan", none), "ask_plan", "ask_plan", s_ask_plan⟩ rfl
theorem b_ask_plan {f : Addr} {fd : FuncData} (F : Fun K "ask_plan" "ask_plan" s_ask_plan f fd) : Binds K fd ["desk", "numbers", "row"] [] := F.binds fun _ _ _ _ _ _ us hl => match us, hl with | [_, _, _], _ => rfl
theorem Txt.d_ask_keeps (T : Txt K mg) : ∃ fd, Fun K "ask_keeps" "ask_keeps" s_ask_keeps (He.fAd K ("ask_keeps", none)) fd := T.fn 90 ⟨("ask_keeps", none), "ask_keeps", "ask_keeps", s_ask_keeps⟩ rfl
theorem b_ask_keeps {f : Addr} {fd : FuncData} (F : Fun K "ask_keeps" "ask_keeps" s_ask_keeps f fd) : Binds K fd ["desk", "numbers", "row"] [] := F.binds fun _ _ _ _ _ _ us hl => match us, hl with | [_, _, _], _ => rfl
theorem Txt.d_ask_why (T : Txt K mg) : ∃ fd, Fun K "ask_why" "ask_why" s_ask_why (He.fAd K ("ask_why", none)) fd := T.fn 91 ⟨("ask_why", none), "ask_why", "ask_why", s_ask_why⟩ rfl
theorem b_ask_why {f : Addr} {fd : FuncData} (F : Fun K "ask_why" "ask_why" s_ask_why f fd) : Binds K fd ["desk", "numbers", "row"] [] := F.binds fun _ _ _ _ _ _ us hl => match us, hl with | [_, _, _], _ => rfl
theorem Txt.d_ask_together (T : Txt K mg) : ∃ fd, Fun K "ask_together" "ask_together" s_ask_together (He.fAd K ("ask_together", none)) fd := T.fn 92 ⟨("ask_together", none), "ask_together", "ask_together", s_ask_together⟩ rfl
theorem b_ask_together {f : Addr} {fd : FuncData} (F : Fun K "ask_together" "ask_together" s_ask_together f fd) : Binds K fd ["desk", "numbers", "row"] [] := F.binds fun _ _ _ _ _ _ us hl => match us, hl with | [_, _, _], _ => rfl
theorem Txt.d_ask_whole (T : Txt K mg) : ∃ fd, Fun K "ask_whole" "ask_whole" s_ask_whole (He.fAd K ("ask_whole", none)) fd := T.fn 93 ⟨("ask_whole", none), "ask_whole", "ask_whole", s_ask_whole⟩ rfl
theorem b_ask_whole {f : Addr} {fd : FuncData} (F : Fun K "ask_whole" "ask_whole" s_ask_whole f fd) : Binds K fd ["desk", "numbers", "row"] [] := F.binds fun _ _ _ _ _ _ us hl => match us, hl with | [_, _, _], _ => rfl
theorem Txt.d_ask_extra (T : Txt K mg) : ∃ fd, Fun K "ask_extra" "ask_extra" s_ask_extra (He.fAd K ("ask_extra", none)) fd := T.fn 94 ⟨("ask_extra", none), "ask_extra", "ask_extra", s_ask_extra⟩ rfl
theorem b_ask_extra {f : Addr} {fd : FuncData} (F : Fun K "ask_extra" "ask_extra" s_ask_extra f fd) : Binds K fd ["desk", "numbers", "row"] [] := F.binds fun _ _ _ _ _ _ us hl => match us, hl with | [_, _, _], _ => rfl
theorem Txt.d_ask_idle (T : Txt K mg) : ∃ fd, Fun K "ask_idle" "ask_idle" s_ask_idle (He.fAd K ("ask_idle", none)) fd := T.fn 95 ⟨("ask_idle", none), "ask_idle", "ask_idle", s_ask_idle⟩ rfl
theorem b_ask_idle {f : Addr} {fd : FuncData} (F : Fun K "ask_idle" "ask_idle" s_ask_idle f fd) : Binds K fd ["desk", "numbers", "row"] [] := F.binds fun _ _ _ _ _ _ us hl => match us, hl with | [_, _, _], _ => rfl
theorem Txt.d_ask_suits (T : Txt K mg) : ∃ fd, Fun K "ask_suits" "ask_suits" s_ask_suits (He.fAd K ("ask_suits", none)) fd := T.fn 96 ⟨("ask_suits", none), "ask_suits", "ask_suits", s_ask_suits⟩ rfl
theorem b_ask_suits {f : Addr} {fd : FuncData} (F : Fun K "ask_suits" "ask_suits" s_ask_suits f fd) : Binds K fd ["desk", "numbers", "row"] [] := F.binds fun _ _ _ _ _ _ us hl => match us, hl with | [_, _, _], _ => rfl
theorem Txt.d_with_orders_2 (T : Txt K mg) : ∃ fd, Fun K "with_orders" "with_orders" s_with_orders_2 (He.fAd K ("with_orders_orders", none)) fd := T.fn 97 ⟨("with_orders_orders", none), "with_orders", "with_orders", s_with_orders_2⟩ rfl
theorem b_with_orders_2 {f : Addr} {fd : FuncData} (F : Fun K "with_orders" "with_orders" s_with_orders_2 f fd) : Binds K fd ["book", "orders"] [] := F.binds fun _ _ _ _ _ _ us hl => match us, hl with | [_, _], _ => rfl
theorem Txt.d_ask_cancel (T : Txt K mg) : ∃ fd, Fun K "ask_cancel" "ask_cancel" s_ask_cancel (He.fAd K ("ask_cancel", none)) fd := T.fn 98 ⟨("ask_cancel", none), "ask_cancel", "ask_cancel", s_ask_cancel⟩ rfl
theorem b_ask_cancel {f : Addr} {fd : FuncData} (F : Fun K "ask_cancel" "ask_cancel" s_ask_cancel f fd) : Binds K fd ["desk", "numbers", "row"] [] := F.binds fun _ _ _ _ _ _ us hl => match us, hl with | [_, _, _], _ => rfl
theorem Txt.d_ask_first (T : Txt K mg) : ∃ fd, Fun K "ask_first" "ask_first" s_ask_first (He.fAd K ("ask_first", none)) fd := T.fn 99 ⟨("ask_first", none), "ask_first", "ask_first", s_ask_first⟩ rfl
theorem b_ask_first {f : Addr} {fd : FuncData} (F : Fun K "ask_first" "ask_first" s_ask_first f fd) : Binds K fd ["desk", "numbers", "row"] [] := F.binds fun _ _ _ _ _ _ us hl => match us, hl with | [_, _, _], _ => rfl
theorem Txt.d_ask_bags (T : Txt K mg) : ∃ fd, Fun K "ask_bags" "ask_bags" s_ask_bags (He.fAd K ("ask_bags", none)) fd := T.fn 100 ⟨("ask_bags", none), "ask_bags", "ask_bags", s_ask_bags⟩ rfl
theorem b_ask_bags {f : Addr} {fd : FuncData} (F : Fun K "ask_bags" "ask_bags" s_ask_bags f fd) : Binds K fd ["desk", "numbers", "row"] [] := F.binds fun _ _ _ _ _ _ us hl => match us, hl with | [_, _, _], _ => rfl
theorem Txt.d_ask_due (T : Txt K mg) : ∃ fd, Fun K "ask_due" "ask_due" s_ask_due (He.fAd K ("ask_due", none)) fd := T.fn 101 ⟨("ask_due", none), "ask_due", "ask_due", s_ask_due⟩ rfl
theorem b_ask_due {f : Addr} {fd : FuncData} (F : Fun K "ask_due" "ask_due" s_ask_due f fd) : Binds K fd ["desk", "numbers", "row"] [] := F.binds fun _ _ _ _ _ _ us hl => match us, hl with | [_, _, _], _ => rfl
theorem Txt.d_ask_alone (T : Txt K mg) : ∃ fd, Fun K "ask_alone" "ask_alone" s_ask_alone (He.fAd K ("ask_alone", none)) fd := T.fn 102 ⟨("ask_alone", none), "ask_alone", "ask_alone", s_ask_alone⟩ rfl
theorem b_ask_alone {f : Addr} {fd : FuncData} (F : Fun K "ask_alone" "ask_alone" s_ask_alone f fd) : Binds K fd ["desk", "numbers", "row"] [] := F.binds fun _ _ _ _ _ _ us hl => match us, hl with | [_, _, _], _ => rfl
theorem Txt.d_ask_met (T : Txt K mg) : ∃ fd, Fun K "ask_met" "ask_met" s_ask_met (He.fAd K ("ask_met", none)) fd := T.fn 103 ⟨("ask_met", none), "ask_met", "ask_met", s_ask_met⟩ rfl
theorem b_ask_met {f : Addr} {fd : FuncData} (F : Fun K "ask_met" "ask_met" s_ask_met f fd) : Binds K fd ["desk", "numbers", "row"] [] := F.binds fun _ _ _ _ _ _ us hl => match us, hl with | [_, _, _], _ => rfl
theorem Txt.d_ask_days (T : Txt K mg) : ∃ fd, Fun K "ask_days" "ask_days" s_ask_days (He.fAd K ("ask_days", none)) fd := T.fn 104 ⟨("ask_days", none), "ask_days", "ask_days", s_ask_days⟩ rfl
theorem b_ask_days {f : Addr} {fd : FuncData} (F : Fun K "ask_days" "ask_days" s_ask_days f fd) : Binds K fd ["desk", "numbers", "row"] [] := F.binds fun _ _ _ _ _ _ us hl => match us, hl with | [_, _, _], _ => rfl
theorem Txt.d_ask_find (T : Txt K mg) : ∃ fd, Fun K "ask_find" "ask_find" s_ask_find (He.fAd K ("ask_find", none)) fd := T.fn 105 ⟨("ask_find", none), "ask_find", "ask_find", s_ask_find⟩ rfl
theorem b_ask_find {f : Addr} {fd : FuncData} (F : Fun K "ask_find" "ask_find" s_ask_find f fd) : Binds K fd ["desk", "numbers", "row"] [] := F.binds fun _ _ _ _ _ _ us hl => match us, hl with | [_, _, _], _ => rfl
theorem Txt.d_ask_sizes (T : Txt K mg) : ∃ fd, Fun K "ask_sizes" "ask_sizes" s_ask_sizes (He.fAd K ("ask_sizes", none)) fd := T.fn 106 ⟨("ask_sizes", none), "ask_sizes", "ask_sizes", s_ask_sizes⟩ rfl
theorem b_ask_sizes {f : Addr} {fd : FuncData} (F : Fun K "ask_sizes" "ask_sizes" s_ask_sizes f fd) : Binds K fd ["desk", "numbers", "row"] [] := F.binds fun _ _ _ _ _ _ us hl => match us, hl with | [_, _, _], _ => rfl
theorem Txt.d_ask_fullest (T : Txt K mg) : ∃ fd, Fun K "ask_fullest" "ask_fullest" s_ask_fullest (He.fAd K ("ask_fullest", none)) fd := T.fn 107 ⟨("ask_fullest", none), "ask_fullest", "ask_fullest", s_ask_fullest⟩ rfl
theorem b_ask_fullest {f : Addr} {fd : FuncData} (F : Fun K "ask_fullest" "ask_fullest" s_ask_fullest f fd) : Binds K fd ["desk", "numbers", "row"] [] := F.binds fun _ _ _ _ _ _ us hl => match us, hl with | [_, _, _], _ => rfl
theorem Txt.d_ask_fullplan (T : Txt K mg) : ∃ fd, Fun K "ask_fullplan" "ask_fullplan" s_ask_fullplan (He.fAd K ("ask_fullplan", none)) fd := T.fn 108 ⟨("ask_fullplan", none), "ask_fullplan", "ask_fullplan", s_ask_fullplan⟩ rfl
theorem b_ask_fullplan {f : Addr} {fd : FuncData} (F : Fun K "ask_fullplan" "ask_fullplan" s_ask_fullplan f fd) : Binds K fd ["desk", "numbers", "row"] [] := F.binds fun _ _ _ _ _ _ us hl => match us, hl with | [_, _, _], _ => rfl
theorem Txt.d_answer (T : Txt K mg) : ∃ fd, Fun K "answer" "answer" s_answer (He.fAd K ("answer", none)) fd := T.fn 109 ⟨("answer", none), "answer", "answer", s_answer⟩ rfl
theorem b_answer {f : Addr} {fd : FuncData} (F : Fun K "answer" "answer" s_answer f fd) : Binds K fd ["desk", "call", "numbers", "row"] [] := F.binds fun _ _ _ _ _ _ us hl => match us, hl with | [_, _, _, _], _ => rfl
theorem Txt.d_answers (T : Txt K mg) : ∃ fd, Fun K "answers" "answers" s_answers (He.fAd K ("answers", none)) fd := T.fn 110 ⟨("answers", none), "answers", "answers", s_answers⟩ rfl
theorem b_answers {f : Addr} {fd : FuncData} (F : Fun K "answers" "answers" s_answers f fd) : Binds K fd ["calls"] [] := F.binds fun _ _ _ _ _ _ us hl => match us, hl with | [_], _ => rfl
theorem mkFn {CX : CXT} {x : Str} {k : Nat} {ps : List Str} {sp : Sp} {f : Addr} {fd : FuncData} {nm qual : Str} {st : Stmt} (g : mg x = some (.ref f)) (F : Fun K nm qual st f fd) (b : Binds K fd ps []) (o : FnOk P w K mg base CX k f fd ps sp) : Fn P w K mg base CX x k ps sp := ⟨f, fd, g, F.kp, b, o⟩
theorem mkMt {CX : CXT} {C : Addr} {m : Str} {k : Nat} {ps : List Str} {sp : Sp} {f : Addr} {fd : FuncData} (g : Meth K C m f) (b : Binds K fd ps []) (o : FnOk P w K mg base CX k f fd ps sp) : Mt P w K mg base CX C m k ps sp := ⟨f, fd, g, b, o⟩
theorem mkCt {C : Addr} {x : Str} {k : Nat} {ps : List Str} {sp : Sp} {f : Addr} {fd : FuncData} (g : mg x = some (.ref C)) (m : Mk K C f) (b : Binds K fd ps []) (o : FnOk P w K mg base CX0 k f fd ps sp) : Ct P w K mg base x C k ps sp := ⟨f, fd, g, m, b, o⟩
end
end Fb
/-! FbV0: what the top leaves, as one look at a part of the heap: the looks -/
namespace Fb
open PySem PySem.Spec PyProof.Rows L2
/-! ### a part of the heap, in layers -/
def lyG (g : Addr → Option Obj) (as : List Addr) : List Addr := as.flatMap fun a => match g a with
  | some o => He.refsO o
  | none => []
def asL (g : Addr → Option Obj) : Nat → List Addr → List Addr
  | 0, as => as
  | n + 1, as => as ++ asL g n (lyG g as)
def oexB (K : PySem.W.Frag) (C : Addr) : Bool := match K.lookup C with
  | some ⟨.type "type", _, .cls cd, sl⟩ => (match cd.mro, sl.toList with
    | .ref C' :: bm, [_, _, _, _, some (.builtin n), _] => C' == C && n == "ValueError.__new__" && !cd.hasDel && cd.hasDict && PySem.HandSPX.refsVE bm
    | _, _ => false)
  | _ => false
def xcB (K : PySem.W.Frag) (x : Str) : Bool := oexB K (ga K x) && (He.eqO (PySem.W.findIn K (.ref (ga K x)) "__setattr__") (some (some (.builtin "object.__setattr__"))) && (decide (PySem.W.subIn K (.ref (ga K x)) (.type "BaseException") = some true) &&
  (decide (PySem.W.typeIn K (.ref (ga K x)) = some (.type "type")) && (PySem.W.keepIn K (.ref (ga K x)) && (xfB K (ga K x) && (He.eqO (PySem.W.findIn K (.ref (ga K x)) "__init__") (some (some (.ref (ma K (ga K x) "__init__")))) &&
  (decide (PySem.W.typeIn K (.ref (ma K (ga K x) "__init__")) = some (.type "function")) && decide (PySem.W.exmOne K (.ref (ga K x)) (.ref (ga K x)) = some true))))))))
/-- each call's def, how many numbers, how many lists -/
def deedN0 : List (Str × Nat × Nat) := [("ask_book", 0, 1), ("ask_more", 0, 1), ("ask_shown", 0, 0), ("ask_limits", 2, 0), ("ask_stock", 1, 0), ("ask_order", 1, 0), ("ask_most", 0, 0), ("ask_check", 0, 1), ("ask_gone", 0, 1), ("ask_served", 0, 0), ("ask_plan", 0, 0), ("ask_keeps", 0, 1), ("ask_why", 1, 0), ("ask_together", 0, 1), ("ask_whole", 0, 0)]
def deedN1 : List (Str × Nat × Nat) := [("ask_extra", 2, 1), ("ask_idle", 0, 0), ("ask_suits", 2, 0), ("ask_cancel", 1, 0), ("ask_first", 2, 0), ("ask_bags", 2, 0), ("ask_due", 2, 0), ("ask_alone", 1, 0), ("ask_met", 0, 0), ("ask_days", 0, 0), ("ask_find", 0, 1), ("ask_sizes", 0, 0), ("ask_fullest", 0, 0), ("ask_fullplan", 0, 0)]
def deedN : List (Str × Nat × Nat) := deedN0 ++ deedN1
def tupAt (K : PySem.W.Frag) (a : Addr) : Option (List Value) := match K.lookup a with
  | some ⟨.type c, _, .seq its _, _⟩ => (match decide (c = "tuple") && Nat.ble its.toList.length sizeLine with
    | true => some its.toList
    | false => none)
  | _ => none
def refsB : List Value → List Addr → Bool
  | [], [] => true
  | .ref a :: vs, b :: bs => Nat.beq a b && refsB vs bs
  | _, _ => false
def deedsB (K : PySem.W.Frag) : Bool := match tupAt K (ga K "DEEDS") with
  | some vs => refsB vs (deedN.map fun z => ga K z.1)
  | none => false
def refsOf : List Value → List Addr
  | [] => []
  | .ref a :: vs => a :: refsOf vs
  | _ :: vs => 0 :: refsOf vs
def shB (K : PySem.W.Frag) (a : Addr) (m l : Nat) : Bool := match tupAt K a with
  | some [.int i _, .int j _] => decide (i = (m : Int)) && decide (j = (l : Int))
  | _ => false
def shAll (K : PySem.W.Frag) : List Addr → List (Str × Nat × Nat) → Bool
  | [], [] => true
  | a :: as, z :: zs => shB K a z.2.1 z.2.2 && shAll K as zs
  | _, _ => false
def shapesB (K : PySem.W.Frag) : Bool := match tupAt K (ga K "SHAPES") with
  | some vs => refsB vs (refsOf vs) && shAll K (refsOf vs) deedN
  | none => false
def veB (K : PySem.W.Frag) : Bool := match PySem.W.findCls K (.type "ValueError") (.type "type") "__init__" with
  | some (.val (.builtin n)) => decide (n = "ValueError.__init__")
  | _ => false
def fnd (d : Dd) : He.FnD := ⟨d.at_, d.name, d.qual, defArgs d.st, defBody d.st, defScope d.st⟩
def okA (K : PySem.W.Frag) : Bool := (zFree.all fun x => (He.Fa.free x).ok K) && ((zInt.all fun p => (He.Fa.int p.1 p.2).ok K) && ((zGlo.all fun x => (He.Fa.glo x).ok K) &&
  ((zCls.all fun x => (He.Fa.cls x).ok K && (He.Fa.mkr x).ok K) && ((zNo.all fun p => (He.Fa.noat p.1 p.2).ok K) && ((zMe.all fun p => (He.Fa.meth p.1 p.2).ok K) && ((zEx.all fun x => xcB K x) &&
  (veB K && ((He.Fa.glo "DEEDS").ok K && ((He.Fa.glo "SHAPES").ok K && (deedsB K && shapesB K))))))))))
def okB (K : PySem.W.Frag) : Bool := zFn.all fun d => PySem.W.keepIn K (.ref (He.fAd K d.at_)) && (He.Fa.code d.at_ d.qual).ok K
def obsB (K : PySem.W.Frag) : He.Al := (okB K, zFn.map fun d => He.fnObs K d.at_)
def obsK (K : PySem.W.Frag) : He.Al := (okA K && (obsB K).1, (obsB K).2)
def valK : He.Al := (true, zFn.map fun d => (fnd d).val)
/-! ### the Hook -/
def frL (g : Addr → Option Obj) : PySem.W.Frag := He.frG g (asL g 4 [mainGlobals])
def hkS : PySem.W.Hook where
  α := He.Al
  obs := fun s => obsK (frL s.heap.get?)
  val := fun _ => valK
  says := fun _ h => ∃ K : PySem.W.Frag, K.In h ∧ obsK K = valK
  of := fun _ _ e => ⟨_, He.frG_in, e⟩
  keeps := fun _ _ _ ⟨K, hK, c⟩ k => ⟨K, PySem.W.Frag.In.keeps hK k, c⟩
def obS (s : PySem.W.SharedT) : He.Al := obsK (frL (HeadRun.getT s))
theorem obS_eq (s : PySem.W.SharedT) : obS s = hkS.obs s.abs := by
  have e : HeadRun.getT s = s.abs.heap.get? := funext (HeadRun.getT_eq s)
  show obsK (frL (HeadRun.getT s)) = obsK (frL s.abs.heap.get?)
  rw [e]
end Fb
section
set_option maxHeartbeats 0
/-! FbV2: the top's run -/
namespace Fb
open PySem PySem.Spec PyProof.Rows L2
open PySem.W PySem.Calls
abbrev rowS : PySem.W.OpenSpec := PySem.Challenge.rw_freshbags_s01_answers
abbrev rowQ : Program := PySem.W.view rowS.prog [157]
def tops0 : List Str := ["LINE_END", "BLANK", "NOUGHT", "FIRST_FIGURE", "LAST_FIGURE", "SMALL_A", "SMALL_Z", "MOST_FIGURES", "LONGEST", "NO_NUMBER", "parts_of", "words_of", "bytes_of", "are_all", "number_of", "is_kind", "is_name", "line_of", "AT_FIRST", "Stock"]
def tops1 : List Str := ["Order", "Book", "new_book", "is_right", "stock_line", "order_line", "shown", "NO_FORM", "OUT_OF_RANGE_reading", "THERE_ALREADY", "TOO_MANY", "TOO_LATE", "MOST_STOCKS", "MOST_ORDERS", "LAST_DAY", "MOST_BAGS", "MOST_AGE", "MOST_LIMIT", "MOST_SIZE", "MOST_STEP"]
def tops2 : List Str := ["FEWEST_TIMES", "MOST_TIMES", "STOCK_WORDS", "ORDER_WORDS", "EVERY_WORDS", "LIMIT_WORDS", "WrongLine", "Fault", "need", "need_words", "numbers_at", "need_range", "with_stock", "either", "repeats", "names_of", "need_order_ranges", "with_orders", "with_orders_reading", "with_limits"]
def tops3 : List Str := ["with_line", "with_text", "FREE", "BY_MILL", "BY_CART", "all_sets", "stocks_for", "orders_on", "Ways", "sum_of", "others", "put_up", "days_bound", "bound", "told_bound", "most", "can_have", "held_on", "bound_told", "Take"]
def tops4 : List Str := ["with_one", "served", "fullest", "stocks_in_turn", "spare", "plan", "bags_had", "bags_given", "is_take_right", "are_days_kept", "keep_all", "keep_whole", "wants_of", "most_whole", "fewest_more", "without_stocks", "OUT_OF_RANGE_orders", "NO_STOCK", "NO_ORDER", "NO_KIND"]
def tops5 : List Str := ["TOO_MANY_ORDERS", "LAST_NUMBER", "MOST_TOLD", "MOST_BYTES", "GREATEST_BYTE", "MOST_TAKES", "MOST_IN_TAKES", "LONGEST_NAME", "MOST_TRIED", "SHAPES", "Refused", "want", "want_range", "want_list", "Desk", "listed", "read_behind", "ask_book", "ask_more", "ask_shown"]
def tops6 : List Str := ["ask_limits", "ask_stock", "ask_order", "ask_most", "ask_check", "ask_gone", "ask_served", "plan_told", "ask_plan", "ask_keeps", "ask_why", "ask_together", "ask_whole", "ask_extra", "ask_idle", "ask_suits", "with_orders_orders", "ask_cancel", "ask_first", "ask_bags"]
def tops7 : List Str := ["ask_due", "ask_alone", "ask_met", "ask_days", "ask_find", "ask_sizes", "ask_fullest", "ask_fullplan", "DEEDS", "answer"]
def tops : List Str := tops0 ++ (tops1 ++ (tops2 ++ (tops3 ++ (tops4 ++ (tops5 ++ (tops6 ++ (tops7)))))))
theorem run_seen (w : World) (os : OsState) : (HeadRun.endF (HeadRun.stepQ (HeadRun.denQ HeadRun.tabQ) rowS.prog w) 20000 rowS.prog w os).map (fun s => (HeadRun.looksF rowS.prog (boot_heap w.params) s.abs, HeadRun.seenQ rowQ tops (importedModules rowS.prog.main.body) (fun s => PySem.W.xlAt rowQ [] s && PySem.W.recOk [] s) s.abs)) = some (true, PySem.W.openGood rowQ tops) := by
  kernel_rfl
theorem run_okA (w : World) (os : OsState) : (HeadRun.endF (HeadRun.stepQ (HeadRun.denQ HeadRun.tabQ) rowS.prog w) 20000 rowS.prog w os).map (fun s => okA (frL (HeadRun.getT s))) = some true := by
  kernel_rfl
theorem run_okB (w : World) (os : OsState) : (HeadRun.endF (HeadRun.stepQ (HeadRun.denQ HeadRun.tabQ) rowS.prog w) 20000 rowS.prog w os).map (fun s => obsB (frL (HeadRun.getT s))) = some valK := by
  kernel_rfl
theorem row_looks : looksOpen rowS.prog = true := by k_qdec
theorem row_well : rowS.wellSaid = true :=
  look_both (look_both (look_both (look_both (look_both row_looks (by decide +kernel)) (by decide +kernel)) (by decide +kernel)) (by decide +kernel)) (by decide +kernel)
theorem row_bare : rowS.prog.bare := ⟨rfl, rfl, rfl, rfl, rfl, by decide +kernel⟩
theorem join3 {S A B L : Type} {e : Option S} {f : S → A × B} {g : S → Bool} {h : S → Bool × L} {a : A} {b : B} {l : L} (ha : e.map f = some (a, b)) (hg : e.map g = some true) (hh : e.map h = some (true, l)) :
    e.map (fun s => ((f s).1, (f s).2, (g s && (h s).1, (h s).2))) = some (a, b, (true, l)) := by
  cases e with
  | none => cases ha
  | some s =>
    have ha := Option.some.inj ha
    have hg := Option.some.inj hg
    have hh := Option.some.inj hh
    show some ((f s).1, (f s).2, (g s && (h s).1, (h s).2)) = some (a, b, (true, l))
    rw [ha, hg, hh] <;> rfl
theorem run_all (w : World) : HeadRun.RunEqS rowS rowQ hkS obS 20000 tops w := by
  intro os
  have a := run_seen w os
  have b := run_okA w os
  have c := run_okB w os
  revert a b c
  generalize (HeadRun.endF (HeadRun.stepQ (HeadRun.denQ HeadRun.tabQ) rowS.prog w) 20000 rowS.prog w os) = e
  intro a b c
  exact join3 a b c
end Fb
end
/-! FbF: lists compared, membership -/
namespace Fb
open PySem PySem.Spec PyProof.Rows L2
def dB (l : List Nat) : PyData := .list (l.map fun n : Nat => .int (n : Int))
theorem lay_ints : ∀ l : List Nat, PyData.canLayAll0 (l.map fun n : Nat => .int (n : Int)) = true
  | [] => by simp [PyData.canLayAll0]
  | n :: l => by
    show PyData.canLayAll0 (.int (n : Int) :: l.map fun n : Nat => .int (n : Int)) = true
    simp [PyData.canLayAll0, PyData.canLay0, lay_ints l]
theorem depth_ints : ∀ l : List Nat, PyData.depthAll (l.map fun n : Nat => .int (n : Int)) = 0
  | [] => by simp [PyData.depthAll]
  | n :: l => by
    show PyData.depthAll (.int (n : Int) :: l.map fun n : Nat => .int (n : Int)) = 0
    simp [PyData.depthAll, PyData.depth, depth_ints l]
theorem shaped_dB (l : List Nat) : SeqAt.shaped (dB l) = true := by
  unfold SeqAt.shaped dB
  rw [Bool.and_eq_true]
  refine ⟨by rw [PyData.canLay0]; exact lay_ints l, ?_⟩
  rw [PyData.depth, depth_ints]
  rfl
theorem eqv_ints : ∀ l m : List Nat, PyData.eqvAll (l.map fun n : Nat => .int (n : Int)) (m.map fun n : Nat => .int (n : Int)) = decide (l = m)
  | [], [] => by simp [PyData.eqvAll]
  | [], _ :: _ => by simp [PyData.eqvAll]
  | _ :: _, [] => by simp [PyData.eqvAll]
  | a :: l, b :: m => by
    show PyData.eqvAll (.int (a : Int) :: l.map fun n : Nat => .int (n : Int)) (.int (b : Int) :: m.map fun n : Nat => .int (n : Int)) = _
    rw [PyData.eqvAll, eqv_ints l m, PyData.eqv]
    by_cases h : a = b
    · subst h
      by_cases k : l = m
      · subst k; simp
      · simp [k]
    · have e : ((a : Int) == (b : Int)) = false := by
        rw [beq_eq_false_iff_ne]; omega
      rw [e]
      simp [h]
theorem eqv_dB (l m : List Nat) : PyData.eqv (dB l) (dB m) = decide (l = m) := by
  unfold dB
  rw [PyData.eqv]
  exact eqv_ints l m
theorem dp_ints {K : PySem.W.Frag} {H B : Hp} : ∀ {l : List Nat} {vs : List V}, All2 (fun n v => (rN n).p v B) l vs → DpAll K H vs (l.map fun n : Nat => .int (n : Int))
  | _, _, .nil => .nil
  | _, _, .cons h t => by
    rw [h]
    exact .cons (.int _) (dp_ints t)
theorem dp_dB {K : PySem.W.Frag} {B H : Hp} {l : List Nat} {v : V} (s : Same B H) (h : (rL rN l).p v B) : Dp K H v (dB l) := by
  obtain ⟨p, vs, rfl, h1, _, a⟩ := h
  exact .lst (sq_of s h1) (dp_ints a)
section
variable {X : Cx} {a b : Expr} {σ : L2.St} {B : Hp} {pos : Pos} {l m : List Nat}
theorem ev_eqL (hu : X.A.units + 64 < cLine) (ha : Ev X a σ B (rL rN l)) (hb : Ev X b σ B (rL rN m)) : Ev X (.Compare a [.Eq] [b] pos) σ B (rB (decide (l = m))) :=
  ev_cmp (op_eqD hu) (nomark _) ha hb fun x y B2 H2 _ s r1 r2 Q q => ⟨dB l, dB m, dp_dB s r1, dp_dB s r2, shaped_dB _, shaped_dB _, by rw [eqv_dB]; exact q⟩
theorem et_eqL (hu : X.A.units + 64 < cLine) (ha : Ev X a σ B (rL rN l)) (hb : Ev X b σ B (rL rN m)) : EvT X (.Compare a [.Eq] [b] pos) σ B (decide (l = m)) :=
  et_cmp (op_eqD hu) (nomark _) ha hb fun x y B2 H2 _ s r1 r2 Q q => ⟨dB l, dB m, dp_dB s r1, dp_dB s r2, shaped_dB _, shaped_dB _, by rw [eqv_dB]; exact q⟩
theorem et_neL (hu : X.A.units + 64 < cLine) (ha : Ev X a σ B (rL rN l)) (hb : Ev X b σ B (rL rN m)) : EvT X (.Compare a [.NotEq] [b] pos) σ B (!decide (l = m)) :=
  et_cmp (op_neD hu) (nomark _) ha hb fun x y B2 H2 _ s r1 r2 Q q => ⟨dB l, dB m, dp_dB s r1, dp_dB s r2, shaped_dB _, shaped_dB _, by rw [eqv_dB]; exact q⟩
/-! in, not in, of whole numbers -/
theorem flat_ints {B : Hp} : ∀ {l : List Int} {vs : List V}, All2 (fun n v => (rI n).p v B) l vs → vs.all flatV = true
  | _, _, .nil => rfl
  | _, _, .cons h t => by
    rw [h, List.all_cons, flat_ints t]
    rfl
theorem inV_ints {B : Hp} {x : Int} : ∀ {l : List Int} {vs : List V}, All2 (fun n v => (rI n).p v B) l vs → inV (.int x) vs = l.contains x
  | _, _, .nil => rfl
  | _, _, .cons (x := n) (xs := l) h t => by
    rw [h]
    show (eqV (.int n) (.int x) || inV (.int x) _) = (n :: l).contains x
    rw [inV_ints t, List.contains_cons]
    congr 1
    show (n == x) = (x == n)
    by_cases e : n = x
    · subst e; rfl
    · rw [beq_eq_false_iff_ne.mpr e, beq_eq_false_iff_ne.mpr (Ne.symm e)]
theorem nat_int {l : List Nat} {vs : List V} {B : Hp} (h : All2 (fun n v => (rN n).p v B) l vs) : All2 (fun n v => (rI n).p v B) (l.map fun n : Nat => (n : Int)) vs := All2.map (f := fun n : Nat => (n : Int)) h
theorem int_nat {l : List Nat} {vs : List V} {B : Hp} (h : All2 (fun n v => (rI n).p v B) (l.map fun n : Nat => (n : Int)) vs) : All2 (fun n v => (rN n).p v B) l vs := All2.unmap (f := fun n : Nat => (n : Int)) h
theorem rL_nat {l : List Nat} {v : V} {B : Hp} : (rL rN l).p v B ↔ (rL rI (l.map fun n : Nat => (n : Int))).p v B :=
  ⟨fun ⟨p, vs, e, h, z, a⟩ => ⟨p, vs, e, h, by rw [List.length_map]; exact z, nat_int a⟩, fun ⟨p, vs, e, h, z, a⟩ => ⟨p, vs, e, h, by rw [List.length_map] at z; exact z, int_nat a⟩⟩
theorem has_nat (l : List Nat) (n : Nat) : (l.map fun n : Nat => (n : Int)).contains (n : Int) = l.contains n := by
  induction l with
  | nil => rfl
  | cons a l ih =>
    rw [List.map_cons, List.contains_cons, List.contains_cons, ih]
    congr 1
    by_cases e : n = a
    · subst e; simp
    · rw [beq_eq_false_iff_ne.mpr e, beq_eq_false_iff_ne.mpr (by omega)]
theorem et_in {n : Nat} (ha : Ev X a σ B (rN n)) (hb : Ev X b σ B (rL rN l)) (hm : behindInMarks .In b = false := by rfl) : EvT X (.Compare a [.In] [b] pos) σ B (l.contains n) :=
  et_cmp op_in_seq hm ha hb fun x y B2 H2 _ s r1 ⟨p, vs, e1, h1, _, z⟩ Q q => ⟨p, vs, e1, .inl (sq_of s h1), by rw [show x = V.int n from r1]; rfl, flat_ints (nat_int z), by rw [show x = V.int n from r1, inV_ints (nat_int z), has_nat]; exact q⟩
theorem et_nin {n : Nat} (ha : Ev X a σ B (rN n)) (hb : Ev X b σ B (rL rN l)) (hm : behindInMarks .NotIn b = false := by rfl) : EvT X (.Compare a [.NotIn] [b] pos) σ B (!l.contains n) :=
  et_cmp op_notIn_seq hm ha hb fun x y B2 H2 _ s r1 ⟨p, vs, e1, h1, _, z⟩ Q q => ⟨p, vs, e1, .inl (sq_of s h1), by rw [show x = V.int n from r1]; rfl, flat_ints (nat_int z), by rw [show x = V.int n from r1, inV_ints (nat_int z), has_nat]; exact q⟩
theorem ev_ninI {n : Int} {l : List Int} (ha : Ev X a σ B (rI n)) (hb : Ev X b σ B (rL rI l)) (hm : behindInMarks .NotIn b = false := by rfl) : Ev X (.Compare a [.NotIn] [b] pos) σ B (rB (!l.contains n)) :=
  ev_cmp op_notIn_seq hm ha hb fun x y B2 H2 _ s r1 ⟨p, vs, e1, h1, _, z⟩ Q q => ⟨p, vs, e1, .inl (sq_of s h1), by rw [show x = V.int n from r1]; rfl, flat_ints z, by rw [show x = V.int n from r1, inV_ints z]; exact q⟩
end
end Fb
/-! FbT1: small defs, texts -/
namespace Fb
open PySem PySem.Spec PyProof.Rows L2
section
variable {X : Cx} {a b c : Expr} {σ : L2.St} {B : Hp} {pos : Pos}
theorem et_chain {i j l : Int} (ha : Ev X a σ B (rI i)) (hb : Ev X b σ B (rI j)) (hc : Ev X c σ B (rI l))
    (he : PT X (.Compare a [.Lt, .LtE] [b, c] pos) (tTest (tChain (rI0 fun i j => .bl (decide (i < j))) (rI0 fun i j => .bl (decide (i ≤ j))) (WE X a) (WE X b) (WE X c))) := by exact pt_chain op_lt op_le we_pe we_pe we_pe) : EvT X (.Compare a [.Lt, .LtE] [b, c] pos) σ B (decide (i < j) && decide (j ≤ l)) := fun H s Q k =>
  wt_of he (ha H s _ fun x B2 H2 g r => (hb.mo g.bb) H2 g.bh _ fun y B3 H3 g3 r3 => ⟨i, j, r, r3, decide (i < j), rfl, by
    cases hd : decide (i < j) with
    | true => exact iteT (hc.mo (g.trans g3).bb H3 g3.bh _ fun z B4 H4 g4 r4 => ⟨j, l, r3, r4, _, rfl, by have := k _ H4 ((g.trans g3).trans g4); rw [hd] at this; exact this⟩)
    | false => exact iteF ⟨_, rfl, by have := k _ H3 (g.trans g3); rw [hd] at this; exact this⟩⟩)
end
theorem dec_le (a b : Nat) : decide ((a : Int) ≤ (b : Int)) = decide (a ≤ b) := by
  by_cases h : a ≤ b
  · rw [decide_eq_true h, decide_eq_true (Int.ofNat_le.mpr h)]
  · rw [decide_eq_false h, decide_eq_false fun z => h (Int.ofNat_le.mp z)]
theorem dec_lt (a b : Nat) : decide ((a : Int) < (b : Int)) = decide (a < b) := by
  by_cases h : a < b
  · rw [decide_eq_true h, decide_eq_true (Int.ofNat_lt.mpr h)]
  · rw [decide_eq_false h, decide_eq_false fun z => h (Int.ofNat_lt.mp z)]
theorem dec_eq (a b : Nat) : decide ((a : Int) = (b : Int)) = decide (a = b) := by
  by_cases h : a = b
  · rw [decide_eq_true h, decide_eq_true (Int.ofNat_inj.mpr h)]
  · rw [decide_eq_false h, decide_eq_false fun z => h (Int.ofNat_inj.mp z)]
theorem cv {R R' : Rp} {v : V} {B : Hp} (e : R = R') (h : R.p v B) : R'.p v B := e ▸ h
abbrev rBy (l : List Nat) : Rp := rL rN l
section
variable {P : Program} {w : World} {K : PySem.W.Frag} {mg : Str → Option Value} {base : Heap}
/-! sum_of, others -/
def sumOf (ns : List Int) (ps : List Nat) : Int := (ps.map fun p => ns.getD p 0).sum
abbrev spSumOf : Sp := spP (fun a : List Int × List Nat => ∀ p ∈ a.2, p < a.1.length) (fun a => [rL rI a.1, rBy a.2]) (fun a => rI (sumOf a.1 a.2))
theorem fn_sum_of (T : Txt K mg) : Fn P w K mg base CX0 "sum_of" 1 ["numbers", "places"] spSumOf := by
  obtain ⟨fd, F⟩ := T.d_sum_of
  refine mkFn T.g_sum_of F (b_sum_of F) (ok_body F sc_sum_of (len_P fun _ => rfl) fun cdv A outer s H vs Q E hr q => ?_)
  obtain ⟨⟨ns, ps⟩, B, hs, hp, hv, k⟩ := q
  obtain ⟨v1, v2, rfl, h1, h2⟩ := vs2 hv
  refine wb_ret (ev_sum rfl T.f_sum (Ev.unF (ef_map 2 (f := fun p => ns.getD p 0) rfl sc_sum_of.nd (ei_list (ep_var 1 rfl h2).ev (ll h2)) (blkOk_by (N := N_sum_of) (sc := defScope s_sum_of) (by decide +kernel)) (fun _ _ _ _ _ => pg_name sc_sum_of.nd rfl (Or.inl rfl)) ?_))) hs fun v B2 H2 g r => k v B2 H2 g r
  intro p hpm v B1 s1 r1 _ _ _ _ _
  exact ev_ix (ep_var 0 rfl (up s1 h1)).ev (ep_var 2 rfl r1).ev (getD_at (hp p hpm))
def othersOf (ps some_ : List Nat) : List Nat := ps.filter fun p => !some_.contains p
abbrev spOthers : Sp := spP (fun _ : List Nat × List Nat => True) (fun a => [rBy a.1, rBy a.2]) (fun a => rBy (othersOf a.1 a.2))
theorem fn_others (T : Txt K mg) : Fn P w K mg base CX0 "others" 1 ["places", "some"] spOthers := by
  obtain ⟨fd, F⟩ := T.d_others
  refine mkFn T.g_others F (b_others F) (ok_body F sc_others (len_P fun _ => rfl) fun cdv A outer s H vs Q E hr q => ?_)
  obtain ⟨⟨ps, so⟩, B, hs, hp, hv, k⟩ := q
  obtain ⟨v1, v2, rfl, h1, h2⟩ := vs2 hv
  refine wb_ret (Ev.unF (ef_fmap 2 (q := rN) (f := fun p => p) (c := fun p => !so.contains p) rfl sc_others.nd (ei_list (ep_var 0 rfl h1).ev (ll h1)) (blkOk_by (N := N_others) (sc := defScope s_others) (by decide +kernel)) (fun _ _ _ _ _ => pg_name sc_others.nd rfl (Or.inl rfl)) ?_)) hs fun v B2 H2 g r => k v B2 H2 g (by rw [List.map_id'] at r; exact r)
  intro p hpm v B1 s1 r1 _ _ _ _ _
  exact ⟨et_nin (ep_var 2 rfl r1).ev (ep_var 1 rfl (up s1 h2)).ev, fun _ => (ep_var 2 rfl r1).ev⟩
/-! are_all, kinds, names -/
abbrev spAreAll : Sp := spP (fun _ : List Nat × Nat × Nat => True) (fun a => [rBy a.1, rN a.2.1, rN a.2.2]) (fun a => rB (a.1.all fun x => decide (a.2.1 ≤ x) && decide (x ≤ a.2.2)))
theorem fn_are_all (T : Txt K mg) : Fn P w K mg base CX0 "are_all" 1 ["some", "least", "greatest"] spAreAll := by
  obtain ⟨fd, F⟩ := T.d_are_all
  refine mkFn T.g_are_all F (b_are_all F) (ok_body F sc_are_all (len_P fun _ => rfl) fun cdv A outer s H vs Q E hr q => ?_)
  obtain ⟨⟨xs, a, b⟩, B, hs, hp, hv, k⟩ := q
  obtain ⟨v1, v2, v3, rfl, h1, h2, h3⟩ := vs3 hv
  refine wb_ret (ev_all rfl T.f_all (Ev.unF (ef_map 3 (f := fun x => decide (a ≤ x) && decide (x ≤ b)) rfl sc_are_all.nd (ei_list (ep_var 0 rfl h1).ev (ll h1)) (blkOk_by (N := N_are_all) (sc := defScope s_are_all) (by decide +kernel)) (fun _ _ _ _ _ => pg_name sc_are_all.nd rfl (Or.inl rfl)) ?_))) hs fun v B2 H2 g r => k v B2 H2 g (by rw [List.all_map] at r; exact r)
  intro p hpm v B1 s1 r1 _ _ _ _ _
  rw [← dec_le, ← dec_le]
  exact ev_and (ev_le (ep_var 1 rfl (up s1 h2)).ev (ep_var 3 rfl r1).ev) fun _ => ev_le (ep_var 3 rfl r1).ev (ep_var 2 rfl (up s1 h3)).ev
theorem kind_eq (l : List Nat) : Vbcrah.isName l = ((decide ((0 : Int) < (l.length : Int)) && decide ((l.length : Int) ≤ 8)) && l.all fun x => decide (97 ≤ x) && decide (x ≤ 122)) := by
  unfold Vbcrah.isName
  congr 1
  rw [← Bool.decide_and]
  exact decide_eq_decide.mpr (by omega)
abbrev spKind : Sp := spP (fun _ : List Nat => True) (fun a => [rBy a]) (fun a => rB (Vbcrah.isName a))
theorem fn_is_kind (T : Txt K mg) : Fn P w K mg base CX0 "is_kind" 2 ["word"] spKind := by
  obtain ⟨fd, F⟩ := T.d_is_kind
  refine mkFn T.g_is_kind F (b_is_kind F) (ok_body F sc_is_kind (len_P fun _ => rfl) fun cdv A outer s H vs Q E hr q => ?_)
  obtain ⟨l, B, hs, hp, hv, k⟩ := q
  obtain ⟨v1, rfl, h1⟩ := vs1 hv
  exact wb_ret (ev_and (ev_chain ep_int.ev (ev_len T.f_len (ep_var 0 rfl h1).ev) (ep_cI T.i_LONGEST).ev (pe_chain op_lt op_le we_pe we_pe we_pe)) fun _ => ev_call (fn_are_all T) hr (l, 97, 122) True.intro (ea_cons (ep_var 0 rfl h1).ev (ea_cons (ep_cI T.i_SMALL_A).ev (ea_one (ep_cI T.i_SMALL_Z).ev)))) hs fun v B2 H2 g r => k v B2 H2 g (cv (congrArg rB (kind_eq l).symm) r)
theorem name_eq (l : List Nat) : Vbcrah.isOrderName l = (Vbcrah.isName l || (Vbcrah.isName (l.take (l.length - 1)) && (l.drop (l.length - 1)).all fun x => decide (49 ≤ x) && decide (x ≤ 57))) := by
  unfold Vbcrah.isOrderName
  congr 1
  rw [← List.dropLast_eq_take]
  by_cases h : l = []
  · subst h; rfl
  · congr 1
    obtain ⟨m, z, rfl⟩ : ∃ m z, l = m ++ [z] := ⟨l.dropLast, l.getLast h, (List.dropLast_concat_getLast h).symm⟩
    rw [List.getLast?_append]
    have e : (m ++ [z]).drop ((m ++ [z]).length - 1) = [z] := by simp
    rw [e]
    simp
abbrev spName : Sp := spP (fun _ : List Nat => True) (fun a => [rBy a]) (fun a => rB (Vbcrah.isOrderName a))
theorem fn_is_name (T : Txt K mg) : Fn P w K mg base CX0 "is_name" 3 ["word"] spName := by
  obtain ⟨fd, F⟩ := T.d_is_name
  refine mkFn T.g_is_name F (b_is_name F) (ok_body F sc_is_name (len_P fun _ => rfl) fun cdv A outer s H vs Q E hr q => ?_)
  obtain ⟨l, B, hs, hp, hv, k⟩ := q
  obtain ⟨v1, rfl, h1⟩ := vs1 hv
  exact wb_ret (ev_or (ev_call (fn_is_kind T) hr l True.intro (ea_one (ep_var 0 rfl h1).ev)) fun _ =>
    ev_and (ev_call (fn_is_kind T) hr _ True.intro (ea_one (ef_init (ep_var 0 rfl h1).ev (ev_neg ep_int.ev)).unF)) fun _ =>
    ev_call (fn_are_all T) (hr.mono (by decide)) (_, 49, 57) True.intro (ea_cons (ef_last (ep_var 0 rfl h1).ev (ev_neg ep_int.ev)).unF (ea_cons (ep_cI T.i_FIRST_FIGURE).ev (ea_one (ep_cI T.i_LAST_FIGURE).ev)))) hs fun v B2 H2 g r => k v B2 H2 g (cv (congrArg rB (name_eq l).symm) r)
/-! number_of -/
def numI (l : List Nat) : Int := match Vbcrah.numOf l with
  | some n => n
  | none => -1
abbrev figs (l : List Nat) : Nat := l.foldl (fun n c => 10 * n + (c - 48)) 0
theorem num_bad {l : List Nat} (h : (!(decide ((0 : Int) < (l.length : Int)) && decide ((l.length : Int) ≤ 4)) || !(l.all fun x => decide (48 ≤ x) && decide (x ≤ 57))) = true) : numI l = -1 := by
  have e : Vbcrah.numOf l = none := by
    unfold Vbcrah.numOf
    refine if_pos ?_
    rw [Bool.or_eq_true] at h
    rcases h with h | h
    · rw [Bool.not_eq_true', ← Bool.decide_and, decide_eq_false_iff_not] at h
      by_cases q : l = []
      · subst q; rfl
      · have : 0 < l.length := List.length_pos_iff.mpr q
        have h4 : decide (4 < l.length) = true := decide_eq_true (by omega)
        rw [h4]; simp
    · have e2 : (l.all Vbcrah.isDigit) = (l.all fun x => decide (48 ≤ x) && decide (x ≤ 57)) := rfl
      rw [e2, h]; simp
  unfold numI
  rw [e]
theorem num_nought {l : List Nat} (h : (decide ((1 : Int) < (l.length : Int)) && decide (((l.getD 0 0 : Nat) : Int) = 48)) = true) : numI l = -1 := by
  have e : Vbcrah.numOf l = none := by
    unfold Vbcrah.numOf
    refine if_pos ?_
    rw [Bool.and_eq_true] at h
    obtain ⟨h1, h2⟩ := h
    have h1 := of_decide_eq_true h1
    have h2 := of_decide_eq_true h2
    cases l with
    | nil => simp at h1
    | cons a l =>
      have e : a = 48 := by
        have : ((a : Nat) : Int) = 48 := h2
        omega
      subst e
      have h3 : decide (1 < (48 :: l).length) = true := decide_eq_true (by omega)
      rw [h3]; simp
  unfold numI
  rw [e]
theorem num_good {l : List Nat} (h : (!(decide ((0 : Int) < (l.length : Int)) && decide ((l.length : Int) ≤ 4)) || !(l.all fun x => decide (48 ≤ x) && decide (x ≤ 57))) = false) (h2 : (decide ((1 : Int) < (l.length : Int)) && decide (((l.getD 0 0 : Nat) : Int) = 48)) = false) : numI l = figs l := by
  have e : Vbcrah.numOf l = some (figs l) := by
    unfold Vbcrah.numOf
    refine if_neg fun z => ?_
    rw [Bool.or_eq_false_iff] at h
    obtain ⟨h0, h1⟩ := h
    rw [Bool.not_eq_false', ← Bool.decide_and] at h0
    have h0 := of_decide_eq_true h0
    rw [Bool.not_eq_false'] at h1
    have e2 : (l.all Vbcrah.isDigit) = true := h1
    rw [e2] at z
    simp only [Bool.or_eq_true, Bool.and_eq_true, decide_eq_true_eq, Bool.not_true, Bool.false_eq_true, false_or] at z
    rcases z with z | z | ⟨z1, z2⟩
    · rw [List.isEmpty_iff] at z; subst z; simp at h0
    · omega
    · cases l with
      | nil => simp at h0
      | cons a l =>
        have e3 : a = 48 := by simpa using z1
        subst e3
        have q1 : decide ((1 : Int) < ((48 :: l).length : Int)) = true := decide_eq_true (by omega)
        rw [q1] at h2
        exact absurd h2 (by simp)
  unfold numI
  rw [e]
theorem getD_nat {l : List Nat} {p : Nat} (h : p < l.length) : l[p]? = some (l.getD p 0) := by
  rw [List.getD_eq_getElem?_getD, List.getElem?_eq_getElem h]; rfl
abbrev spNum : Sp := spP (fun _ : List Nat => True) (fun a => [rBy a]) (fun a => rI (numI a))
theorem fn_number_of (T : Txt K mg) : Fn P w K mg base CX0 "number_of" 2 ["word"] spNum := by
  obtain ⟨fd, F⟩ := T.d_number_of
  refine mkFn T.g_number_of F (b_number_of F) (ok_body F sc_number_of (len_P fun _ => rfl) fun cdv A outer s H vs Q E hr q => ?_)
  obtain ⟨l, B, hs, hp, hv, k⟩ := q
  obtain ⟨v1, rfl, h1⟩ := vs1 hv
  refine wb_when (et_or (et_not (et_chain ep_int.ev (ev_len T.f_len (ep_var 0 rfl h1).ev) (ep_cI T.i_MOST_FIGURES).ev)) fun _ => et_not (et_val (ev_call (fn_are_all T) hr (l, 48, 57) True.intro (ea_cons (ep_var 0 rfl h1).ev (ea_cons (ep_cI T.i_NOUGHT).ev (ea_one (ep_cI T.i_LAST_FIGURE).ev)))))) hs (fun hc B2 H2 g => ?_) fun hc B2 H2 g => ?_
  · exact wb_ret (ep_cI T.i_NO_NUMBER).ev g.bh fun v B3 H3 g3 r => k v B3 H3 (g.trans g3) (cv (congrArg rI (num_bad hc).symm) r)
  refine wb_when (et_and (et_gt (ev_len T.f_len (ep_var 0 rfl (up g.bb h1)).ev) ep_int.ev) fun hl => et_eq (ev_ix (r := rN) (n := 0) (ep_var 0 rfl (up g.bb h1)).ev ep_int.ev (getD_nat (by have := of_decide_eq_true hl; omega))) (ep_cI T.i_NOUGHT).ev) g.bh (fun hc2 B3 H3 g3 => ?_) fun hc2 B3 H3 g3 => ?_
  · exact wb_ret (ep_cI T.i_NO_NUMBER).ev g3.bh fun v B4 H4 g4 r => k v B4 H4 ((g.trans g3).trans g4) (cv (congrArg rI (num_nought hc2).symm) r)
  have g' := g.trans g3
  refine wb_set 1 ep_int.ev g'.bh (fun v B4 H4 g4 r => ?_) sc_number_of.nd
  cases (show v = V.int 0 from r)
  have g5 := g'.trans g4
  have all : ∀ x ∈ l, 48 ≤ x := fun x hx => by
    rw [Bool.or_eq_false_iff] at hc
    have := hc.2
    rw [Bool.not_eq_false'] at this
    have := List.all_eq_true.mp this x hx
    simp at this
    omega
  refine wb_for PassesOwn.never rfl (ei_list (ep_var 0 rfl (up g5.bb h1)).ev (ll h1)) (pg_name (i := 2) sc_number_of.nd rfl (Or.inl rfl)) g5.bh (fun B2 k σ' H' => Gr B H B2 H' ∧ ∃ vb, σ' = [some v1, some (.int (figs (l.take k) : Nat)), vb]) (fun B2 H2 g => ⟨g5.trans g, none, rfl⟩) (fun B2 k σ' H' z => z.1.bh) ?_ ?_
  · rintro B6 j a v σ' H' B7 H7 s6 ha ⟨g6, vb, rfl⟩ g7 r7
    refine ⟨_, gn_name, ?_⟩
    refine wb_set 1 (ev_sub (ev_add (ev_mul (ep_var 1 rfl rfl).ev ep_int.ev (.inr (by decide))) (ep_var 2 rfl r7).ev) (ep_cI T.i_NOUGHT).ev) g7.bh (fun u B8 H8 g8 r8 => ?_) sc_number_of.nd
    refine wb_nil ⟨⟨(g6.hh.trans g7.hh).trans g8.hh, g6.bb, g6.bh.trans (g7.hh.trans g8.hh), g6.fr⟩, some v, ?_⟩
    cases (show u = _ from r8)
    have ea : figs (l.take (j + 1)) = 10 * figs (l.take j) + (a - 48) := by
      unfold figs
      rw [take_succ ha, List.foldl_append]; rfl
    rw [ea]
    have := all a (List.mem_of_getElem? ha)
    have e2 : ((figs (l.take j) : Nat) : Int) * 10 + (a : Int) - 48 = ((10 * figs (l.take j) + (a - 48) : Nat) : Int) := by omega
    rw [e2]
    rfl
  · rintro B6 σ' H' ⟨g6, vb, rfl⟩
    rw [List.take_length]
    exact wb_ret (ep_var 1 rfl (R := rI _) rfl).ev g6.bh fun v B7 H7 g7 r => k v B7 H7 (g6.trans g7) (cv (congrArg rI (num_good hc hc2).symm) r)
end
end Fb
/-! FbG: stocks, orders, books as told values; their classes -/
namespace Fb
open PySem PySem.Spec PyProof.Rows L2
def rSt (K : PySem.W.Frag) (s : Vbcrah.Stock) : Rp := rO (ga K "Stock") [("kind", rBy s.kind), ("size", rN s.size), ("day", rN s.day), ("bags", rN s.bags)]
def rOd (K : PySem.W.Frag) (o : Vbcrah.Order) : Rp := rO (ga K "Order") [("name", rBy o.name), ("kind", rBy o.kind), ("size", rN o.size), ("bags", rN o.bags), ("due", rN o.due), ("least", rN o.lo), ("most", rN o.hi), ("is_ground", rB o.ground), ("is_whole", rB o.whole)]
def rBk (K : PySem.W.Frag) (b : Vbcrah.Book) : Rp := rO (ga K "Book") [("stocks", rL (rSt K) b.stocks), ("orders", rL (rOd K) b.orders), ("grind", rN b.grind), ("send", rN b.send)]
def rTk (K : PySem.W.Frag) (t : Vbcrah.Take) : Rp := rO (ga K "Take") [("order", rN t.order), ("stock", rN t.stock), ("bags", rN t.bags)]
section
variable {P : Program} {w : World} {K : PySem.W.Frag} {mg : Str → Option Value} {base : Heap}
/-! fields -/
section
variable {X : Cx} {e : Expr} {σ : L2.St} {B : Hp} {pos : Pos} {s : Vbcrah.Stock} {o : Vbcrah.Order} {b : Vbcrah.Book} {t : Vbcrah.Take}
theorem ep_st_kind (T : Txt K mg) (h : EvP X e σ B (rSt K s)) (hb : attributeBase e "kind" X.env (eval e X.env) = eval e X.env := by rfl) (hK : X.K = K := by rfl) : EvP X (.Attribute e "kind" pos) σ B (rBy s.kind) := by subst hK; exact ep_fld T.c_Stock T.n_Stock_kind h rfl hb
theorem ep_st_size (T : Txt K mg) (h : EvP X e σ B (rSt K s)) (hb : attributeBase e "size" X.env (eval e X.env) = eval e X.env := by rfl) (hK : X.K = K := by rfl) : EvP X (.Attribute e "size" pos) σ B (rN s.size) := by subst hK; exact ep_fld T.c_Stock T.n_Stock_size h rfl hb
theorem ep_st_day (T : Txt K mg) (h : EvP X e σ B (rSt K s)) (hb : attributeBase e "day" X.env (eval e X.env) = eval e X.env := by rfl) (hK : X.K = K := by rfl) : EvP X (.Attribute e "day" pos) σ B (rN s.day) := by subst hK; exact ep_fld T.c_Stock T.n_Stock_day h rfl hb
theorem ep_st_bags (T : Txt K mg) (h : EvP X e σ B (rSt K s)) (hb : attributeBase e "bags" X.env (eval e X.env) = eval e X.env := by rfl) (hK : X.K = K := by rfl) : EvP X (.Attribute e "bags" pos) σ B (rN s.bags) := by subst hK; exact ep_fld T.c_Stock T.n_Stock_bags h rfl hb
theorem ep_od_name (T : Txt K mg) (h : EvP X e σ B (rOd K o)) (hb : attributeBase e "name" X.env (eval e X.env) = eval e X.env := by rfl) (hK : X.K = K := by rfl) : EvP X (.Attribute e "name" pos) σ B (rBy o.name) := by subst hK; exact ep_fld T.c_Order T.n_Order_name h rfl hb
theorem ep_od_kind (T : Txt K mg) (h : EvP X e σ B (rOd K o)) (hb : attributeBase e "kind" X.env (eval e X.env) = eval e X.env := by rfl) (hK : X.K = K := by rfl) : EvP X (.Attribute e "kind" pos) σ B (rBy o.kind) := by subst hK; exact ep_fld T.c_Order T.n_Order_kind h rfl hb
theorem ep_od_size (T : Txt K mg) (h : EvP X e σ B (rOd K o)) (hb : attributeBase e "size" X.env (eval e X.env) = eval e X.env := by rfl) (hK : X.K = K := by rfl) : EvP X (.Attribute e "size" pos) σ B (rN o.size) := by subst hK; exact ep_fld T.c_Order T.n_Order_size h rfl hb
theorem ep_od_bags (T : Txt K mg) (h : EvP X e σ B (rOd K o)) (hb : attributeBase e "bags" X.env (eval e X.env) = eval e X.env := by rfl) (hK : X.K = K := by rfl) : EvP X (.Attribute e "bags" pos) σ B (rN o.bags) := by subst hK; exact ep_fld T.c_Order T.n_Order_bags h rfl hb
theorem ep_od_due (T : Txt K mg) (h : EvP X e σ B (rOd K o)) (hb : attributeBase e "due" X.env (eval e X.env) = eval e X.env := by rfl) (hK : X.K = K := by rfl) : EvP X (.Attribute e "due" pos) σ B (rN o.due) := by subst hK; exact ep_fld T.c_Order T.n_Order_due h rfl hb
theorem ep_od_least (T : Txt K mg) (h : EvP X e σ B (rOd K o)) (hb : attributeBase e "least" X.env (eval e X.env) = eval e X.env := by rfl) (hK : X.K = K := by rfl) : EvP X (.Attribute e "least" pos) σ B (rN o.lo) := by subst hK; exact ep_fld T.c_Order T.n_Order_least h rfl hb
theorem ep_od_most (T : Txt K mg) (h : EvP X e σ B (rOd K o)) (hb : attributeBase e "most" X.env (eval e X.env) = eval e X.env := by rfl) (hK : X.K = K := by rfl) : EvP X (.Attribute e "most" pos) σ B (rN o.hi) := by subst hK; exact ep_fld T.c_Order T.n_Order_most h rfl hb
theorem ep_od_ground (T : Txt K mg) (h : EvP X e σ B (rOd K o)) (hb : attributeBase e "is_ground" X.env (eval e X.env) = eval e X.env := by rfl) (hK : X.K = K := by rfl) : EvP X (.Attribute e "is_ground" pos) σ B (rB o.ground) := by subst hK; exact ep_fld T.c_Order T.n_Order_is_ground h rfl hb
theorem ep_od_whole (T : Txt K mg) (h : EvP X e σ B (rOd K o)) (hb : attributeBase e "is_whole" X.env (eval e X.env) = eval e X.env := by rfl) (hK : X.K = K := by rfl) : EvP X (.Attribute e "is_whole" pos) σ B (rB o.whole) := by subst hK; exact ep_fld T.c_Order T.n_Order_is_whole h rfl hb
theorem ep_bk_stocks (T : Txt K mg) (h : EvP X e σ B (rBk K b)) (hb : attributeBase e "stocks" X.env (eval e X.env) = eval e X.env := by rfl) (hK : X.K = K := by rfl) : EvP X (.Attribute e "stocks" pos) σ B (rL (rSt K) b.stocks) := by subst hK; exact ep_fld T.c_Book T.n_Book_stocks h rfl hb
theorem ep_bk_orders (T : Txt K mg) (h : EvP X e σ B (rBk K b)) (hb : attributeBase e "orders" X.env (eval e X.env) = eval e X.env := by rfl) (hK : X.K = K := by rfl) : EvP X (.Attribute e "orders" pos) σ B (rL (rOd K) b.orders) := by subst hK; exact ep_fld T.c_Book T.n_Book_orders h rfl hb
theorem ep_bk_grind (T : Txt K mg) (h : EvP X e σ B (rBk K b)) (hb : attributeBase e "grind" X.env (eval e X.env) = eval e X.env := by rfl) (hK : X.K = K := by rfl) : EvP X (.Attribute e "grind" pos) σ B (rN b.grind) := by subst hK; exact ep_fld T.c_Book T.n_Book_grind h rfl hb
theorem ep_bk_send (T : Txt K mg) (h : EvP X e σ B (rBk K b)) (hb : attributeBase e "send" X.env (eval e X.env) = eval e X.env := by rfl) (hK : X.K = K := by rfl) : EvP X (.Attribute e "send" pos) σ B (rN b.send) := by subst hK; exact ep_fld T.c_Book T.n_Book_send h rfl hb
theorem ep_tk_order (T : Txt K mg) (h : EvP X e σ B (rTk K t)) (hb : attributeBase e "order" X.env (eval e X.env) = eval e X.env := by rfl) (hK : X.K = K := by rfl) : EvP X (.Attribute e "order" pos) σ B (rN t.order) := by subst hK; exact ep_fld T.c_Take T.n_Take_order h rfl hb
theorem ep_tk_stock (T : Txt K mg) (h : EvP X e σ B (rTk K t)) (hb : attributeBase e "stock" X.env (eval e X.env) = eval e X.env := by rfl) (hK : X.K = K := by rfl) : EvP X (.Attribute e "stock" pos) σ B (rN t.stock) := by subst hK; exact ep_fld T.c_Take T.n_Take_stock h rfl hb
theorem ep_tk_bags (T : Txt K mg) (h : EvP X e σ B (rTk K t)) (hb : attributeBase e "bags" X.env (eval e X.env) = eval e X.env := by rfl) (hK : X.K = K := by rfl) : EvP X (.Attribute e "bags" pos) σ B (rN t.bags) := by subst hK; exact ep_fld T.c_Take T.n_Take_bags h rfl hb
end
/-! __init__ of four names -/
theorem len_I {α : Type} {C : Addr} {pre : α → Prop} {args : α → List Rp} {fs : α → List (Str × Rp)} {n : Nat} (h : ∀ a, (args a).length = n) : ∀ vs H Q E, spI C pre args fs vs H Q E → vs.length = n + 1 := fun vs H Q E ⟨a, q, dx, ws, B, e, _, _, _, _, v, _⟩ => by rw [e, List.length_cons, v.len, h a]
theorem fs4 {f1 f2 f3 f4 : Str} {r1 r2 r3 r4 : Rp} {v1 v2 v3 v4 : V} {B : Hp} (h1 : r1.p v1 B) (h2 : r2.p v2 B) (h3 : r3.p v3 B) (h4 : r4.p v4 B) : Fs [(f1, r1), (f2, r2), (f3, r3), (f4, r4)] [(f1, v1), (f2, v2), (f3, v3), (f4, v4)] B := ⟨rfl, h1, rfl, h2, rfl, h3, rfl, h4, True.intro⟩
theorem wb_sfP {X : Cx} {e o : Expr} {σ : L2.St} {B H : Hp} {pos p2 : Pos} {rest : List Stmt} {D : L2.Ends} {C q dx : Addr} {fv : List (Str × V)} {f : Str} {v : V} (cl : Cls X.K C) (na : NoAttr X.K C f) (h : EvP X e σ B (rV v)) (ho : EvP X o σ B (rV (.ref q))) (s : Same B H) (hq : H q = some (.ins C dx fv)) (hl : fv.length < 1000)
    (k : WB X rest D σ (upd H q (.ins C dx (putF f v fv)))) (hs : swapsWith e (some (.Attribute o f p2)) pos.line X.env = pure false := by rfl) : WB X (.Assign [.Attribute o f p2] e pos :: rest) D σ H := by
  obtain ⟨u, e1, k1⟩ := h
  obtain ⟨w, e2, k2⟩ := ho
  cases (show u = v from e1)
  exact wb_cons (ps_fld we_pe we_pe hs) (k1 H s _ (k2 H s _ ⟨q, C, dx, fv, e2, hq, cl, na, hl, k⟩))
theorem same_at {B H : Hp} {z : Addr} {o : HO} (s : Same B H) (n : B z = none) : Same B (upd H z o) := same_upd s n
/-- the end of an __init__ that makes nothing -/
theorem ini_end {H : Hp} {C z dx : Addr} {B : Hp} {fv : List (Str × V)} {rs : List (Str × Rp)} {Q : VK} (k : ∀ B2 H2 fv, Same B B2 → Same B2 H2 → (∀ y o, H y = some o → y ≠ z → H2 y = some o) → (∀ y, H y ≠ none → B y = none → B2 y = none) → H2 z = some (.ins C dx fv) → Fs rs fv B2 → Q .non H2)
    (s : Same B H) (n : B z = none) (hf : Fs rs fv B) : Q .non (upd H z (.ins C dx fv)) :=
  k B _ fv (Same.refl B) (same_upd s n) (fun y o e ne => by rw [upd_ne ne]; exact e) (fun _ _ h => h) upd_same hf
theorem upd4 {H : Hp} {q : Addr} {o1 o2 o3 o4 : HO} : upd (upd (upd (upd H q o1) q o2) q o3) q o4 = upd H q o4 := by rw [upd_upd, upd_upd, upd_upd]
abbrev spStI (K : PySem.W.Frag) : Sp := spI (ga K "Stock") (fun _ : Vbcrah.Stock => True) (fun s => [rBy s.kind, rN s.size, rN s.day, rN s.bags]) (fun s => [("kind", rBy s.kind), ("size", rN s.size), ("day", rN s.day), ("bags", rN s.bags)])
theorem pf_Stock (v1 v2 v3 v4 : V) : putF "bags" v4 (putF "day" v3 (putF "size" v2 (putF "kind" v1 []))) = ([("kind", v1), ("size", v2), ("day", v3), ("bags", v4)] : List (Str × V)) := by kernel_rfl
theorem ct_Stock (T : Txt K mg) : Ct P w K mg base "Stock" (ga K "Stock") 1 ["self", "kind", "size", "day", "bags"] (spStI K) := by
  obtain ⟨fd, F⟩ := T.d_Stock_init
  refine mkCt T.g_Stock T.k_Stock (b_Stock_init F) (ok_body F sc_Stock_init (len_I fun _ => rfl) fun cdv A outer s H vs Q E hr q => ?_)
  obtain ⟨st, z, dx, ws, B, rfl, hz, nz, hs, _, hv, k⟩ := q
  obtain ⟨v1, v2, v3, v4, rfl, h1, h2, h3, h4⟩ := vs4 hv
  refine wb_sfP T.c_Stock T.n_Stock_kind (ep_var 1 rfl rfl) (ep_var 0 rfl rfl) hs hz (by decide) ?_
  refine wb_sfP T.c_Stock T.n_Stock_size (ep_var 2 rfl rfl) (ep_var 0 rfl rfl) (same_at hs nz) upd_same (by show 1 < 1000; decide) ?_
  refine wb_sfP T.c_Stock T.n_Stock_day (ep_var 3 rfl rfl) (ep_var 0 rfl rfl) (same_at (same_at hs nz) nz) upd_same (by show 2 < 1000; decide) ?_
  refine wb_sfP T.c_Stock T.n_Stock_bags (ep_var 4 rfl rfl) (ep_var 0 rfl rfl) (same_at (same_at (same_at hs nz) nz) nz) upd_same (by show 3 < 1000; decide) (wb_nil ?_)
  rw [upd4, pf_Stock]
  exact ini_end k hs nz (fs4 h1 h2 h3 h4)

/-! Book, Take -/
abbrev spBkI (K : PySem.W.Frag) : Sp := spI (ga K "Book") (fun _ : Vbcrah.Book => True) (fun b => [rL (rSt K) b.stocks, rL (rOd K) b.orders, rN b.grind, rN b.send]) (fun b => [("stocks", rL (rSt K) b.stocks), ("orders", rL (rOd K) b.orders), ("grind", rN b.grind), ("send", rN b.send)])
theorem pf_Book (v1 v2 v3 v4 : V) : putF "send" v4 (putF "grind" v3 (putF "orders" v2 (putF "stocks" v1 []))) = ([("stocks", v1), ("orders", v2), ("grind", v3), ("send", v4)] : List (Str × V)) := by kernel_rfl
theorem ct_Book (T : Txt K mg) : Ct P w K mg base "Book" (ga K "Book") 1 ["self", "stocks", "orders", "grind", "send"] (spBkI K) := by
  obtain ⟨fd, F⟩ := T.d_Book_init
  refine mkCt T.g_Book T.k_Book (b_Book_init F) (ok_body F sc_Book_init (len_I fun _ => rfl) fun cdv A outer s H vs Q E hr q => ?_)
  obtain ⟨st, z, dx, ws, B, rfl, hz, nz, hs, _, hv, k⟩ := q
  obtain ⟨v1, v2, v3, v4, rfl, h1, h2, h3, h4⟩ := vs4 hv
  refine wb_sfP T.c_Book T.n_Book_stocks (ep_var 1 rfl rfl) (ep_var 0 rfl rfl) hs hz (by decide) ?_
  refine wb_sfP T.c_Book T.n_Book_orders (ep_var 2 rfl rfl) (ep_var 0 rfl rfl) (same_at hs nz) upd_same (by show 1 < 1000; decide) ?_
  refine wb_sfP T.c_Book T.n_Book_grind (ep_var 3 rfl rfl) (ep_var 0 rfl rfl) (same_at (same_at hs nz) nz) upd_same (by show 2 < 1000; decide) ?_
  refine wb_sfP T.c_Book T.n_Book_send (ep_var 4 rfl rfl) (ep_var 0 rfl rfl) (same_at (same_at (same_at hs nz) nz) nz) upd_same (by show 3 < 1000; decide) (wb_nil ?_)
  rw [upd4, pf_Book]
  exact ini_end k hs nz (fs4 h1 h2 h3 h4)
theorem ev_Book {X : Cx} {a b c d : Expr} {σ : L2.St} {B : Hp} {p pos : Pos} {bk : Vbcrah.Book} (M : Ct X.prog X.w X.K X.mg X.base "Book" (ga K "Book") 1 ["self", "stocks", "orders", "grind", "send"] (spBkI K)) (hr : Room 2 X.A)
    (h : EvA X [a, b, c, d] σ B [rL (rSt K) bk.stocks, rL (rOd K) bk.orders, rN bk.grind, rN bk.send]) (hg : Gl X "Book" := by rfl)
    (he : starEach (a :: [b, c, d]) X.env = (false, eval a X.env) :: starEach [b, c, d] X.env := by rfl) (hpl : (backTo pos (starEach [b, c, d] X.env)).any (·.1) = false := by rfl) : Ev X (.Call (.Name "Book" p) [a, b, c, d] [] pos) σ B (rBk K bk) :=
  ev_make M hr bk True.intro h hg (by decide) he hpl
abbrev spTkI (K : PySem.W.Frag) : Sp := spI (ga K "Take") (fun _ : Vbcrah.Take => True) (fun t => [rN t.order, rN t.stock, rN t.bags]) (fun t => [("order", rN t.order), ("stock", rN t.stock), ("bags", rN t.bags)])
theorem pf_Take (v1 v2 v3 : V) : putF "bags" v3 (putF "stock" v2 (putF "order" v1 [])) = ([("order", v1), ("stock", v2), ("bags", v3)] : List (Str × V)) := by kernel_rfl
theorem fs3 {f1 f2 f3 : Str} {r1 r2 r3 : Rp} {v1 v2 v3 : V} {B : Hp} (h1 : r1.p v1 B) (h2 : r2.p v2 B) (h3 : r3.p v3 B) : Fs [(f1, r1), (f2, r2), (f3, r3)] [(f1, v1), (f2, v2), (f3, v3)] B := ⟨rfl, h1, rfl, h2, rfl, h3, True.intro⟩
theorem ct_Take (T : Txt K mg) : Ct P w K mg base "Take" (ga K "Take") 1 ["self", "order", "stock", "bags"] (spTkI K) := by
  obtain ⟨fd, F⟩ := T.d_Take_init
  refine mkCt T.g_Take T.k_Take (b_Take_init F) (ok_body F sc_Take_init (len_I fun _ => rfl) fun cdv A outer s H vs Q E hr q => ?_)
  obtain ⟨st, z, dx, ws, B, rfl, hz, nz, hs, _, hv, k⟩ := q
  obtain ⟨v1, v2, v3, rfl, h1, h2, h3⟩ := vs3 hv
  refine wb_sfP T.c_Take T.n_Take_order (ep_var 1 rfl rfl) (ep_var 0 rfl rfl) hs hz (by decide) ?_
  refine wb_sfP T.c_Take T.n_Take_stock (ep_var 2 rfl rfl) (ep_var 0 rfl rfl) (same_at hs nz) upd_same (by show 1 < 1000; decide) ?_
  refine wb_sfP T.c_Take T.n_Take_bags (ep_var 3 rfl rfl) (ep_var 0 rfl rfl) (same_at (same_at hs nz) nz) upd_same (by show 2 < 1000; decide) (wb_nil ?_)
  rw [upd_upd, upd_upd, pf_Take]
  exact ini_end k hs nz (fs3 h1 h2 h3)
/-! Order: five numbers out of a list -/
abbrev numsO (o : Vbcrah.Order) : List Nat := [o.size, o.bags, o.due, o.lo, o.hi]
abbrev fsO (o : Vbcrah.Order) : List (Str × Rp) := [("name", rBy o.name), ("kind", rBy o.kind), ("size", rN o.size), ("bags", rN o.bags), ("due", rN o.due), ("least", rN o.lo), ("most", rN o.hi), ("is_ground", rB o.ground), ("is_whole", rB o.whole)]
abbrev spOdI (K : PySem.W.Frag) : Sp := spI (ga K "Order") (fun _ : Vbcrah.Order => True) (fun o => [rBy o.name, rBy o.kind, rBy (numsO o), rB o.ground, rB o.whole]) fsO
theorem pf_Order (v1 v2 v3 v4 v5 v6 v7 v8 v9 : V) : putF "is_whole" v9 (putF "is_ground" v8 (putF "most" v7 (putF "least" v6 (putF "due" v5 (putF "bags" v4 (putF "size" v3 (putF "kind" v2 (putF "name" v1 [])))))))) =
    ([("name", v1), ("kind", v2), ("size", v3), ("bags", v4), ("due", v5), ("least", v6), ("most", v7), ("is_ground", v8), ("is_whole", v9)] : List (Str × V)) := by kernel_rfl
theorem ct_Order (T : Txt K mg) : Ct P w K mg base "Order" (ga K "Order") 1 ["self", "name", "kind", "numbers", "is_ground", "is_whole"] (spOdI K) := by
  obtain ⟨fd, F⟩ := T.d_Order_init
  refine mkCt T.g_Order T.k_Order (b_Order_init F) (ok_body F sc_Order_init (len_I fun _ => rfl) fun cdv A outer s H vs Q E hr q => ?_)
  obtain ⟨o, z, dx, ws, B, rfl, hz, nz, hs, _, hv, k⟩ := q
  obtain ⟨v1, v2, v3, v4, v5, rfl, h1, h2, h3, h4, h5⟩ := vs5 hv
  obtain ⟨pn, ns, e3, hn, _, an⟩ := id h3
  have ens : ns = (numsO o).map fun n : Nat => V.int (n : Int) := All2.eq_map an
  subst ens
  refine wb_sfP T.c_Order T.n_Order_name (ep_var 1 rfl rfl) (ep_var 0 rfl rfl) hs hz (by decide) ?_
  refine wb_sfP T.c_Order T.n_Order_kind (ep_var 2 rfl rfl) (ep_var 0 rfl rfl) (same_at hs nz) upd_same (by show 1 < 1000; decide) ?_
  refine wb_asg (ep_var 3 rfl (R := rV v3) rfl).ev (same_at (same_at hs nz) nz) (pg_lst rfl (pgs_cons pg_attr (pgs_cons pg_attr (pgs_cons pg_attr (pgs_cons pg_attr (pgs_cons pg_attr pgs_nil)))))) fun v B2 H2 g r => ?_
  cases (show v = v3 from r)
  have nz2 := g.fr z (by rw [upd_same]; exact fun y => nomatch y) nz
  have h2z : H2 z = _ := g.hh z _ upd_same
  refine ⟨pn, _, e3, SqL.of (g.bh _ _ (g.bb _ _ hn)), rfl, V.int o.size, _, rfl, ?_⟩
  refine wv 0 rfl ⟨z, _, dx, _, rfl, h2z, T.c_Order, T.n_Order_size, (by show 2 < 1000; decide), V.int o.bags, _, rfl, ?_⟩
  refine wv 0 rfl ⟨z, _, dx, _, rfl, upd_same, T.c_Order, T.n_Order_bags, (by show 3 < 1000; decide), V.int o.due, _, rfl, ?_⟩
  refine wv 0 rfl ⟨z, _, dx, _, rfl, upd_same, T.c_Order, T.n_Order_due, (by show 4 < 1000; decide), V.int o.lo, _, rfl, ?_⟩
  refine wv 0 rfl ⟨z, _, dx, _, rfl, upd_same, T.c_Order, T.n_Order_least, (by show 5 < 1000; decide), V.int o.hi, _, rfl, ?_⟩
  refine wv 0 rfl ⟨z, _, dx, _, rfl, upd_same, T.c_Order, T.n_Order_most, (by show 6 < 1000; decide), rfl, ?_⟩
  have b1 := up (R := rV v1) g.bb rfl
  rw [upd_upd, upd_upd, upd_upd, upd_upd]
  refine wb_sfP T.c_Order T.n_Order_is_ground (ep_var 4 rfl rfl) (ep_var 0 rfl rfl) (same_at g.bh nz2) upd_same (by show 7 < 1000; decide) ?_
  refine wb_sfP T.c_Order T.n_Order_is_whole (ep_var 5 rfl rfl) (ep_var 0 rfl rfl) (same_at (same_at g.bh nz2) nz2) upd_same (by show 8 < 1000; decide) (wb_nil ?_)
  rw [upd_upd, upd_upd, pf_Order]
  refine k B2 _ _ g.bb (same_upd g.bh nz2) (fun y u e ne => by rw [upd_ne ne]; exact g.hh y u (by rw [upd_ne ne, upd_ne ne]; exact e)) (fun y hy n => g.fr y (fun e => hy (by
    by_cases hyz : y = z
    · subst hyz; rw [upd_same] at e; cases e
    · rw [upd_ne hyz, upd_ne hyz] at e; exact e)) n) upd_same ?_
  exact ⟨rfl, up g.bb h1, rfl, up g.bb h2, rfl, rfl, rfl, rfl, rfl, rfl, rfl, rfl, rfl, rfl, rfl, up g.bb h4, rfl, up g.bb h5, True.intro⟩
end
end Fb
section
set_option maxHeartbeats 8000000
/-! FbH: set(a list of whole numbers), sorted of it -/
namespace Fb
open PySem PySem.Spec PyProof.Rows L2
section
variable {P : Program} {w : World} {A : Around} {E : Value → Shared → Prop} {s : Shared}
abbrev freshSet (w : World) : Obj := { cls := .type "set", dict := none, data := .set #[] 0 (.fresh 0 0 (!w.params.followText "set-order")) }
/-- what the class's __init__ leaves: the set of the list's ints -/
def Filled (w : World) (s : Shared) (ns : List Int) (s2 : Shared) : Prop := ∃ h' tk c, s2 = { s with heap := h', toks := tk } ∧ SetR w h' s.heap.objs.size (fun j => decide (j ∈ ns)) c ∧ c ≤ ns.length ∧ (∀ b o, s.heap.get? b = some o → h'.get? b = some o)
set_option maxRecDepth 100000 in
/-- set(xs), xs a list of ints: as the layer has it of a tuple, and as it has it of a list of tuples -/
theorem set_of_list {l : Addr} {items : Array Value} (ns : List Int) {Q : Value → Shared → Prop} (hh : A.handled = none) (hl : s.heap.IsList l items) (hit : IntsAre items.toList ns) (hb : ns.length + 1 < scanBound)
    (h : ∀ s2, Filled w s ns s2 → Q (.ref s.heap.objs.size) s2) : wpAny (model P w) A (call (.type "set") [.ref l]) Q E s := by
  have sz : items.size = ns.length := (Array.length_toList (xs := items)).symm.trans (IntsAre.length hit)
  obtain ⟨c, tl, hmro⟩ := F.called_set.mro
  have hmade := F.called_set.made
  have hsub := F.called_set.sub
  refine wpAny_call (codeAny_of_tree ?_)
  show wpAny _ _ (callAny (.type "set") _) _ _ _
  refine wpAny_pure ⟨Code.quiet_builtin _ (by decide +kernel), codeAny_builtin F.entry_type_call ?_⟩
  rw [Around.under_plain (weight_type_call_type "set" [.ref l] []) rfl]
  have h1 := F.called_set.notType
  have h2 := F.called_set.canCreate
  have hct := F.typeCall_set_1 (.ref l)
  repeat (any_goals (first | assumption | wp_step))
  refine codeAny_mono (code_set_led1 (.ref l) (E := E) (Q₁ := fun obj s₁ => obj = .ref s.heap.objs.size ∧ s₁ = { s with heap := s.heap.push (freshSet w) }) ⟨rfl, rfl⟩) fun r s₁ hr => ?_
  cases r with
  | error e => exact hr
  | ok fl =>
    cases fl with
    | ret obj =>
      obtain ⟨rfl, rfl⟩ := hr
      have hS : (s.heap.push (freshSet w)).get? s.heap.objs.size = some (freshSet w) := Heap.get?_push_size _ rfl
      have hT : Shared.TypeIs { s with heap := s.heap.push (freshSet w) } (.ref s.heap.objs.size) "set" := ⟨_, hS, rfl⟩
      have hli := F.called_set.init.lookup
      have hbi := F.called_set.init.bind (.ref s.heap.objs.size)
      repeat (any_goals (first | assumption | wp_step))
      refine codeAny_mono (codeAny_call_builtin (R := wants (fun r s₂ => r = .none ∧ Filled w s ns s₂) E) F.called_set.init.plain F.entry_set_init (check_set_init_1 hT ?_)) fun r₂ s₂ hr₂ => ?_
      · obtain ⟨ol, hol, hcl, nl, hdl⟩ := hl
        obtain ⟨ocls, odict, odata, oslots⟩ := ol
        simp only at hcl hdl
        subst hcl; subst hdl
        have hol' : (s.heap.push (freshSet w)).get? l = some { cls := .type "list", dict := odict, data := .seq items nl, slots := oslots } := Heap.get?_push_of_some _ hol
        have hsls := F.sub_list_set
        have hslf := F.sub_list_frozenset
        have hne : (Value.type "list" == Value.type "dict") = false := by decide
        have hl1 : (s.heap.push (freshSet w)).IsList l items := ⟨_, hol', rfl, nl, rfl⟩
        unfold Builtin.«set.__init__» noKeywords Builtin.Frozenset.updateFrom
        generalize hPI : pyIter = PI
        wp_walk
        subst hPI
        refine wpAny_pyIter_list hl1 ?_
        refine wpAny_bind (wpAny_runValue ?_)
        have lS : l < s.heap.objs.size := Heap.lt_size hol
        have neI : l ≠ (s.heap.push (freshSet w)).objs.size := by rw [Heap.size_push]; exact Nat.ne_of_lt (Nat.lt_succ_of_lt lS)
        have out : s.heap.objs.size ∉ [(s.heap.push (freshSet w)).objs.size, l] := by
          rw [Heap.size_push]
          simp only [List.mem_cons, List.not_mem_nil, or_false, not_or]
          exact ⟨Nat.ne_of_lt (Nat.lt_succ_self _), Nat.ne_of_gt lS⟩
        have hval : ∀ (i : Nat) (v : Value), items[i]? = some v → ∃ k t, ns[i]? = some k ∧ v = .int k t := fun i v hv => by
          have hi : i < ns.length := by rw [← sz]; exact (Array.getElem?_eq_some_iff.mp hv).1
          obtain ⟨t, e⟩ := PyProof.Rows.IntsAre.int_at hit i v (by rw [Array.getElem?_toList]; exact hv)
          refine ⟨ns[i], t, List.getElem?_eq_getElem hi, ?_⟩
          rw [e, List.getD_eq_getElem?_getD, List.getElem?_eq_getElem hi] <;> rfl
        refine set_update_ints ((Walks.list (show A.in1.in1.in1.handled = none by simp [hh]) _ l neI items).toS) s.heap.objs.size out ns sz hb hval (items.size - 0) 0 _ (by omega) (Nat.zero_le _) ⟨⟨_, Heap.get?_push_size _ rfl, rfl, rfl⟩, (hl1.push _)⟩ ?start ?fin
        case start =>
          have g0 : ((s.heap.push (freshSet w)).push { cls := .type "list_iterator", data := .fields #[.ref l, .int 0 0] }).get? s.heap.objs.size = some (freshSet w) := Heap.get?_push_of_some _ hS
          exact ⟨0, Nat.le_refl 0, setR_new_at g0⟩
        case fin =>
          intro s' c' hm hc' hS'
          obtain ⟨h', g2, d', tk', os'⟩ := s'
          have eg : g2 = s.gens := hm.gens
          have ed : d' = s.drawn := hm.drawn
          have eo : os' = s.os := hm.os
          subst eg; subst ed; subst eo
          show wpAny _ _ _ _ _ _
          refine wpAny_pure ?_
          show wpAny _ _ (ret Value.none) _ _ _
          rw [sz] at hc'
          refine wpAny_pure ⟨rfl, h', tk', c', rfl, hS', hc', fun b o e => ?_⟩
          have hb0 : b < s.heap.objs.size := Heap.lt_size e
          have hb2 : b ≠ (s.heap.push (freshSet w)).objs.size := by rw [Heap.size_push]; exact Nat.ne_of_lt (Nat.lt_succ_of_lt hb0)
          exact hm.heap b o (by simp only [List.mem_cons, List.not_mem_nil, or_false, not_or]; exact ⟨Nat.ne_of_lt hb0, hb2⟩) (Heap.get?_push_of_some _ (Heap.get?_push_of_some _ e))
      · cases r₂ with
        | error e => exact hr₂
        | ok fl₂ =>
          cases fl₂ with
          | ret r =>
            obtain ⟨rfl, k⟩ := hr₂
            repeat (any_goals (first | assumption | wp_step))
            exact h _ k
          | _ => exact hr₂.elim
    | _ => exact hr.elim
end
/-! ### as a rule -/
/-- set(xs): a new set at p -/
def rSetOfL (K : PySem.W.Frag) (w : World) : List V → Hp → VK → Prop := fun vs H Q => ∃ (a : Addr) (ns : List Int), vs = [V.ref a] ∧ SqL K H a (ns.map V.int) ∧ ns.length < 4000 ∧
  ∀ p c, H p = none → c ≤ ns.length → Q (.ref p) (upd H p (SetO w p (fun j => decide (j ∈ ns)) c))
theorem cr_setOfL {X : Cx} (hc : X.calm = true) : CallR X (.type "set") (rSetOfL X.K X.w) := by
  intro pins s σ H vs us Q I r h
  obtain ⟨a, ns, rfl, hs, hz, q⟩ := h
  obtain ⟨its, rv, hl, _⟩ := I.list hs
  rw [Vals.ref1 r]
  refine set_of_list ns (I.ok.hd hc) hl.isList (Vals.ints rv) (by unfold scanBound; omega) fun s2 ⟨h', tk, c, e, R, hcl, kp⟩ => ?_
  subst e
  exact ⟨.ref s.heap.objs.size, _, I.laid (t' := tk) kp (Nat.le_refl _) (setO_new R), rfl, q _ c (I.hok.fresh (Nat.le_refl _)) hcl⟩
section
variable {X : Cx} {e : Expr} {σ : L2.St} {B : Hp} {p p2 pos pos2 : Pos}
/-- sorted(set(xs)) of naturals: the list l with just the members of xs, rising -/
theorem ev_sortset {xs l : List Nat} (hc : X.calm = true) (hs : X.mg "sorted" = none) (hm : X.mg "set" = none) (h : Ev X e σ B (rL rN xs)) (hz : xs.length < 64) (hl : ∀ ns : List Int, ns.Pairwise (· < ·) → (∀ k, k ∈ ns ↔ k ∈ xs.map (fun n : Nat => (n : Int))) → ns = l.map fun n : Nat => (n : Int)) (hz2 : l.length ≤ LB) (hg : Gl X "sorted" := by rfl) (hg2 : Gl X "set" := by rfl)
    (he : starEach (e :: []) X.env = (false, eval e X.env) :: starEach [] X.env := by rfl) (he2 : starEach ((.Call (.Name "set" p) [e] [] pos) :: []) X.env = (false, eval (.Call (.Name "set" p) [e] [] pos) X.env) :: starEach [] X.env := by rfl) :
    Ev X (.Call (.Name "sorted" p2) [.Call (.Name "set" p) [e] [] pos] [] pos2) σ B (rL rN l) :=
  ev_callB (cr_sortedSet hc) hs (by decide +kernel) (ea_one (R := ⟨fun v H => ∃ a c, v = .ref a ∧ H a = some (SetO X.w a (fun j => decide (j ∈ xs.map fun n : Nat => (n : Int))) c) ∧ c ≤ xs.length, fun _ _ _ s ⟨a, c, e, h, z⟩ => ⟨a, c, e, s _ _ h, z⟩⟩)
    (ev_callTy (cr_setOfL hc) hm (by decide +kernel) (ea_one h he) (fun vs B2 H2 s1 s2 r1 Q kk => by
      obtain ⟨v, rfl, q, ws, e1, h1, l1, a1⟩ := r1.one
      refine ⟨q, xs.map fun n : Nat => (n : Int), by rw [e1], ?_, by rw [List.length_map]; omega, fun z c hz hcl => ?_⟩
      · have := vints (r := fun i => i) (nat_int a1)
        rw [List.map_id'] at this
        rw [← this]
        exact sq_of s2 h1
      · rw [List.length_map] at hcl
        exact kk _ _ _ (Gr.new s2 hz) ⟨z, c, rfl, upd_same, hcl⟩) hg2 (by decide) (by decide) he (by rfl)) he2)
    (fun vs B2 H2 s1 s2 r1 Q kk => by
      obtain ⟨v, rfl, a, c, e1, h1, hcl⟩ := r1.one
      refine ⟨a, _, c, by rw [e1], s2 _ _ h1, by omega, fun ns z hp hk hlen hz => ?_⟩
      have e2 := hl ns hp fun k => (hk k).trans decide_eq_true_iff
      subst e2
      have e3 : (l.map fun n : Nat => (n : Int)).map V.int = l.map fun n : Nat => V.int (n : Int) := by rw [List.map_map]; rfl
      rw [e3]
      exact kk _ _ _ (Gr.new s2 hz) ⟨z, _, rfl, upd_same, hz2, All2.of_map _ l⟩) hg (by decide) (by decide) he2 (by rfl)
end
end Fb
end
/-! FbI: the defs of books -/
namespace Fb
open PySem PySem.Spec PyProof.Rows L2
section
variable {P : Program} {w : World} {K : PySem.W.Frag} {mg : Str → Option Value} {base : Heap}
/-! with_bags, numbers, with_due -/
theorem mt_with_bags (T : Txt K mg) : Mt P w K mg base CX0 (ga K "Stock") "with_bags" 3 ["self", "bags"] (spP (fun _ : Vbcrah.Stock × Nat => True) (fun a => [rSt K a.1, rN a.2]) (fun a => rSt K { a.1 with bags := a.2 })) := by
  obtain ⟨fd, F⟩ := T.d_Stock_with_bags
  refine mkMt T.m_Stock_with_bags (b_Stock_with_bags F) (ok_body F sc_Stock_with_bags (len_P fun _ => rfl) fun cdv A outer s H vs Q E hr q => ?_)
  obtain ⟨⟨st, n⟩, B, hs, hp, hv, k⟩ := q
  obtain ⟨v1, v2, rfl, h1, h2⟩ := vs2 hv
  exact wb_ret (ev_make (ct_Stock T) hr { st with bags := n } True.intro (ea_cons (ep_st_kind (s := st) T (ep_var 0 rfl h1)).ev (ea_cons (ep_st_size (s := st) T (ep_var 0 rfl h1)).ev (ea_cons (ep_st_day (s := st) T (ep_var 0 rfl h1)).ev (ea_one (ep_var 1 rfl h2).ev))))) hs k
theorem mt_numbers (T : Txt K mg) : Mt P w K mg base CX0 (ga K "Order") "numbers" 1 ["self"] (spP (fun _ : Vbcrah.Order => True) (fun a => [rOd K a]) (fun a => rBy (numsO a))) := by
  obtain ⟨fd, F⟩ := T.d_Order_numbers
  refine mkMt T.m_Order_numbers (b_Order_numbers F) (ok_body F sc_Order_numbers (len_P fun _ => rfl) fun cdv A outer s H vs Q E hr q => ?_)
  obtain ⟨o, B, hs, hp, hv, k⟩ := q
  obtain ⟨v1, rfl, h1⟩ := vs1 hv
  exact wb_ret (ev_list (r := rN) (xs := numsO o) (ea_cons (ep_od_size (o := o) T (ep_var 0 rfl h1)).ev (ea_cons (ep_od_bags (o := o) T (ep_var 0 rfl h1)).ev (ea_cons (ep_od_due (o := o) T (ep_var 0 rfl h1)).ev (ea_cons (ep_od_least (o := o) T (ep_var 0 rfl h1)).ev (ea_one (ep_od_most (o := o) T (ep_var 0 rfl h1)).ev))))) (by show 5 ≤ LB; decide)) hs k
theorem mt_with_due (T : Txt K mg) : Mt P w K mg base CX0 (ga K "Order") "with_due" 3 ["self", "due"] (spP (fun _ : Vbcrah.Order × Nat => True) (fun a => [rOd K a.1, rN a.2]) (fun a => rOd K { a.1 with due := a.2 })) := by
  obtain ⟨fd, F⟩ := T.d_Order_with_due
  refine mkMt T.m_Order_with_due (b_Order_with_due F) (ok_body F sc_Order_with_due (len_P fun _ => rfl) fun cdv A outer s H vs Q E hr q => ?_)
  obtain ⟨⟨o, n⟩, B, hs, hp, hv, k⟩ := q
  obtain ⟨v1, v2, rfl, h1, h2⟩ := vs2 hv
  refine wb_set 2 (ev_list (r := rN) (xs := numsO { o with due := n }) (ea_cons (ep_od_size (o := o) T (ep_var 0 rfl h1)).ev (ea_cons (ep_od_bags (o := o) T (ep_var 0 rfl h1)).ev (ea_cons (ep_var 1 rfl h2).ev (ea_cons (ep_od_least (o := o) T (ep_var 0 rfl h1)).ev (ea_one (ep_od_most (o := o) T (ep_var 0 rfl h1)).ev))))) (by show 5 ≤ LB; decide)) hs (fun v B2 H2 g r => ?_) sc_Order_with_due.nd
  have h3 := up g.bb h1
  exact wb_ret (ev_make (ct_Order T) hr { o with due := n } True.intro (ea_cons (ep_od_name (o := o) T (ep_var 0 rfl h3)).ev (ea_cons (ep_od_kind (o := o) T (ep_var 0 rfl h3)).ev (ea_cons (ep_var 2 rfl r).ev (ea_cons (ep_od_ground (o := o) T (ep_var 0 rfl h3)).ev (ea_one (ep_od_whole (o := o) T (ep_var 0 rfl h3)).ev)))))) g.bh fun v B3 H3 g3 r3 => k v B3 H3 (g.trans g3) r3
/-! wants, days, name_place -/
theorem fs_at {C : Addr} {rs : List (Str × Rp)} {v : V} {B : Hp} {f : Str} {R : Rp} (h : (rO C rs).p v B) (hf : rs.lookup f = some R) : ∃ u, R.p u B := by
  obtain ⟨_, _, _, _, _, z⟩ := h
  obtain ⟨u, _, r⟩ := z.at hf
  exact ⟨u, r⟩
theorem bk_orders_len {b : Vbcrah.Book} {v : V} {B : Hp} (h : (rBk K b).p v B) : b.orders.length ≤ LB := by
  obtain ⟨u, r⟩ := fs_at (f := "orders") (R := rL (rOd K) b.orders) h rfl
  exact ll r
theorem bk_stocks_len {b : Vbcrah.Book} {v : V} {B : Hp} (h : (rBk K b).p v B) : b.stocks.length ≤ LB := by
  obtain ⟨u, r⟩ := fs_at (f := "stocks") (R := rL (rSt K) b.stocks) h rfl
  exact ll r
abbrev spWants (K : PySem.W.Frag) : Sp := spN (fun _ : Vbcrah.Book => True) (fun b => [rBk K b]) (fun b => rBy (Vbcrah.wants b))
theorem mt_wants (T : Txt K mg) : Mt P w K mg base CX0 (ga K "Book") "wants" 1 ["self"] (spWants K) := by
  obtain ⟨fd, F⟩ := T.d_Book_wants
  refine mkMt T.m_Book_wants (b_Book_wants F) (ok_body F sc_Book_wants (len_N fun _ => rfl) fun cdv A outer s H vs Q E hr q => ?_)
  obtain ⟨b, B, hs, hp, hv, k⟩ := q
  obtain ⟨v1, rfl, h1⟩ := vs1 hv
  refine wb_ret (ef_map 1 (f := fun o : Vbcrah.Order => o.bags) (q := rN) rfl sc_Book_wants.nd (ei_list (ep_bk_orders T (ep_var 0 rfl h1)).ev (bk_orders_len h1)) (blkOk_by (N := N_Book_wants) (sc := defScope s_Book_wants) (by decide +kernel)) (fun _ _ _ _ _ => pg_name sc_Book_wants.nd rfl (Or.inl rfl)) ?_) hs k
  intro o ho v B1 s1 r1 _ _ _ _ _
  exact (ep_od_bags T (ep_var 1 rfl r1)).ev
end
end Fb
/-! FbM: plain Lean about the specification: days -/
namespace FbM
/-- two strictly rising lists with the same members are one -/
theorem rise_uniq : ∀ {l m : List Int}, l.Pairwise (· < ·) → m.Pairwise (· < ·) → (∀ k, k ∈ l ↔ k ∈ m) → l = m
  | [], [], _, _, _ => rfl
  | [], y :: m, _, _, h => absurd ((h y).mpr (List.mem_cons_self ..)) (by simp)
  | x :: l, [], _, _, h => absurd ((h x).mp (List.mem_cons_self ..)) (by simp)
  | x :: l, y :: m, hl, hm, h => by
    obtain ⟨h1, h2⟩ := List.pairwise_cons.mp hl
    obtain ⟨k1, k2⟩ := List.pairwise_cons.mp hm
    have e : x = y := by
      rcases List.mem_cons.mp ((h x).mp (List.mem_cons_self ..)) with e | e
      · exact e
      · rcases List.mem_cons.mp ((h y).mpr (List.mem_cons_self ..)) with e2 | e2
        · exact e2.symm
        · have a := k1 x e
          have b := h1 y e2
          omega
    subst e
    have r : l = m := rise_uniq h2 k2 fun k => by
      constructor
      · intro hk
        rcases List.mem_cons.mp ((h k).mp (List.mem_cons_of_mem _ hk)) with e | e
        · have := h1 k hk; omega
        · exact e
      · intro hk
        rcases List.mem_cons.mp ((h k).mpr (List.mem_cons_of_mem _ hk)) with e | e
        · have := k1 k hk; omega
        · exact e
    rw [r]
open Vbcrah
theorem insertDay_mem (d : Nat) : ∀ (l : List Nat) (k : Nat), k ∈ insertDay d l ↔ k = d ∨ k ∈ l
  | [], k => by simp [insertDay]
  | e :: l, k => by
    unfold insertDay
    split
    · simp
    · split
      · rename_i h; subst h; simp
      · rw [List.mem_cons, insertDay_mem d l k, List.mem_cons]
        constructor
        · rintro (h | h | h)
          · exact .inr (.inl h)
          · exact .inl h
          · exact .inr (.inr h)
        · rintro (h | h | h)
          · exact .inr (.inl h)
          · exact .inl h
          · exact .inr (.inr h)
theorem insertDay_rise (d : Nat) : ∀ (l : List Nat), l.Pairwise (· < ·) → (insertDay d l).Pairwise (· < ·)
  | [], _ => by simp [insertDay]
  | e :: l, h => by
    obtain ⟨h1, h2⟩ := List.pairwise_cons.mp h
    unfold insertDay
    split
    · rename_i c
      refine List.pairwise_cons.mpr ⟨fun k hk => ?_, h⟩
      rcases List.mem_cons.mp hk with e1 | e1
      · subst e1; exact c
      · have := h1 k e1; omega
    · split
      · exact h
      · refine List.pairwise_cons.mpr ⟨fun k hk => ?_, insertDay_rise d l h2⟩
        rcases (insertDay_mem d l k).mp hk with e1 | e1
        · subst e1; omega
        · exact h1 k e1
theorem days_fold : ∀ (os : List Order) (l : List Nat), l.Pairwise (· < ·) → (os.foldl (fun l o => insertDay o.due l) l).Pairwise (· < ·) ∧ ∀ k, k ∈ os.foldl (fun l o => insertDay o.due l) l ↔ k ∈ l ∨ k ∈ os.map fun o => o.due
  | [], l, h => ⟨h, fun k => by simp⟩
  | o :: os, l, h => by
    obtain ⟨h1, h2⟩ := days_fold os (insertDay o.due l) (insertDay_rise _ _ h)
    refine ⟨h1, fun k => ?_⟩
    rw [List.foldl_cons, h2 k, insertDay_mem, List.map_cons, List.mem_cons]
    constructor
    · rintro ((e | e) | e)
      · exact .inr (.inl e)
      · exact .inl e
      · exact .inr (.inr e)
    · rintro (e | e | e)
      · exact .inl (.inr e)
      · exact .inl (.inl e)
      · exact .inr e
theorem days_rise (b : Book) : (daysOf b).Pairwise (· < ·) := (days_fold b.orders [] List.Pairwise.nil).1
theorem days_mem (b : Book) (k : Nat) : k ∈ daysOf b ↔ k ∈ b.orders.map fun o => o.due := ((days_fold b.orders [] List.Pairwise.nil).2 k).trans (by simp)
theorem days_len (b : Book) : (daysOf b).length ≤ b.orders.length := by
  have h : ∀ (os : List Order) (l : List Nat), (os.foldl (fun l o => insertDay o.due l) l).length ≤ l.length + os.length := by
    intro os
    induction os with
    | nil => intro l; simp
    | cons o os ih =>
      intro l
      have i1 : ∀ l : List Nat, (insertDay o.due l).length ≤ l.length + 1 := by
        intro l
        induction l with
        | nil => simp [insertDay]
        | cons e l ih =>
          unfold insertDay
          split
          · simp
          · split
            · simp
            · simpa using ih
      have := ih (insertDay o.due l)
      have := i1 l
      rw [List.foldl_cons, List.length_cons]
      omega
  have := h b.orders []
  simpa [daysOf] using this
theorem map_rise : ∀ {l : List Nat}, l.Pairwise (· < ·) → (l.map fun n : Nat => (n : Int)).Pairwise (· < ·) := fun {l} h => by
  rw [List.pairwise_map]
  exact h.imp fun h => by omega
/-- what sorted(set(..)) gives is the specification's days -/
theorem days_of_set (b : Book) (ns : List Int) (h : ns.Pairwise (· < ·)) (hm : ∀ k, k ∈ ns ↔ k ∈ (b.orders.map fun o => o.due).map fun n : Nat => (n : Int)) : ns = (daysOf b).map fun n : Nat => (n : Int) := by
  refine rise_uniq h (map_rise (days_rise b)) fun k => ?_
  rw [hm k, List.mem_map, List.mem_map]
  constructor
  · rintro ⟨n, hn, e⟩
    exact ⟨n, (days_mem b n).mpr hn, e⟩
  · rintro ⟨n, hn, e⟩
    exact ⟨n, (days_mem b n).mp hn, e⟩
end FbM
/-! FbJ: the defs of books, further -/
namespace Fb
open PySem PySem.Spec PyProof.Rows L2
section
variable {P : Program} {w : World} {K : PySem.W.Frag} {mg : Str → Option Value} {base : Heap}
theorem mt_days (T : Txt K mg) : Mt P w K mg base CX0 (ga K "Book") "days" 1 ["self"] (spP (fun b : Vbcrah.Book => b.orders.length ≤ 8) (fun b => [rBk K b]) (fun b => rBy (Vbcrah.daysOf b))) := by
  obtain ⟨fd, F⟩ := T.d_Book_days
  refine mkMt T.m_Book_days (b_Book_days F) (ok_body F sc_Book_days (len_P fun _ => rfl) fun cdv A outer s H vs Q E hr q => ?_)
  obtain ⟨b, B, hs, hp, hv, k⟩ := q
  obtain ⟨v1, rfl, h1⟩ := vs1 hv
  have hp : b.orders.length ≤ 8 := hp
  refine wb_ret (ev_sortset (xs := b.orders.map fun o => o.due) (l := Vbcrah.daysOf b) rfl T.f_sorted T.f_set (Ev.unF (ef_map 1 (f := fun o : Vbcrah.Order => o.due) (q := rN) rfl sc_Book_days.nd (ei_list (ep_bk_orders T (ep_var 0 rfl h1)).ev (bk_orders_len h1)) (blkOk_by (N := N_Book_days) (sc := defScope s_Book_days) (by decide +kernel)) (fun _ _ _ _ _ => pg_name sc_Book_days.nd rfl (Or.inl rfl)) ?_))
    (by rw [List.length_map]; omega) (FbM.days_of_set b) (by have := FbM.days_len b; unfold LB; omega)) hs k
  intro o ho v B1 s1 r1 _ _ _ _ _
  exact (ep_od_due T (ep_var 1 rfl r1)).ev
/-! name_place -/
def placeOf (b : Vbcrah.Book) (nm : List Nat) : Int := match b.orders.findIdx? fun o => o.name == nm with
  | some j => j
  | none => -1
theorem place_yes {b : Vbcrah.Book} {nm : List Nat} {j : Nat} {o : Vbcrah.Order} (h : b.orders[j]? = some o) (e : o.name = nm) (no : ∀ o ∈ b.orders.take j, o.name ≠ nm) : placeOf b nm = j := by
  have q : b.orders.findIdx? (fun o => o.name == nm) = some j := by
    rw [List.findIdx?_eq_some_iff_getElem]
    obtain ⟨hj, ej⟩ := List.getElem?_eq_some_iff.mp h
    refine ⟨hj, by rw [ej, e]; exact beq_self_eq_true _, fun i hi => ?_⟩
    have : b.orders[i] ∈ b.orders.take j := List.mem_take_iff_getElem.mpr ⟨i, by omega, rfl⟩
    have := no _ this
    simpa using this
  unfold placeOf
  rw [q]
theorem place_no {b : Vbcrah.Book} {nm : List Nat} (no : ∀ o ∈ b.orders, o.name ≠ nm) : placeOf b nm = -1 := by
  have q : b.orders.findIdx? (fun o => o.name == nm) = none := by
    rw [List.findIdx?_eq_none_iff]
    intro o ho
    simpa using no o ho
  unfold placeOf
  rw [q]
theorem zi_back {α : Type} {xs : List α} {i : Nat} {z : α × Nat} (h : xs.zipIdx[i]? = some z) : xs[i]? = some z.1 ∧ z.2 = i := by
  rw [List.getElem?_zipIdx] at h
  cases e : xs[i]? with
  | none => rw [e] at h; cases h
  | some a =>
    rw [e] at h
    simp at h
    subst h
    exact ⟨rfl, rfl⟩
theorem mt_name_place (T : Txt K mg) : Mt P w K mg base CX0 (ga K "Book") "name_place" 1 ["self", "name"] (spP (fun _ : Vbcrah.Book × List Nat => True) (fun a => [rBk K a.1, rBy a.2]) (fun a => rI (placeOf a.1 a.2))) := by
  obtain ⟨fd, F⟩ := T.d_Book_name_place
  refine mkMt T.m_Book_name_place (b_Book_name_place F) (ok_body F sc_Book_name_place (len_P fun _ => rfl) fun cdv A outer s H vs Q E hr q => ?_)
  obtain ⟨⟨b, nm⟩, B, hs, hp, hv, k⟩ := q
  obtain ⟨v1, v2, rfl, h1, h2⟩ := vs2 hv
  refine wb_for PassesOwn.never rfl (ei_enum T.f_enumerate (ep_bk_orders T (ep_var 0 rfl h1)).ev (bk_orders_len h1)) (pg_tup rfl (pgs_cons (pg_name (i := 2) sc_Book_name_place.nd rfl (Or.inl rfl)) (pgs_cons (pg_name (i := 3) sc_Book_name_place.nd rfl (Or.inl rfl)) pgs_nil))) hs
    (fun B2 j σ' H' => Gr B H B2 H' ∧ (∀ o ∈ b.orders.take j, o.name ≠ nm) ∧ ∃ a c, σ' = [some v1, some v2, a, c]) (fun B2 H2 g => ⟨g, fun o ho => by simp at ho, none, none, rfl⟩) (fun B2 j σ' H' z => z.1.bh) ?_ ?_
  · rintro B2 j ⟨o, j'⟩ v σ' H' B4 H4 b2 hz ⟨g2, no, a, c, rfl⟩ g4 ⟨t, ws, ev, ht, hw⟩
    obtain ⟨ho, rfl⟩ := zi_back hz
    obtain ⟨u1, u2, rfl, r1, r2⟩ := vs2 hw
    have gg := g2.trans g4
    refine ⟨_, gn_pair ev ht g4.bh, wb_when (et_eqL hr.units (ep_od_name T (ep_var 3 rfl r2)).ev (ep_var 1 rfl (up gg.bb h2)).ev) gg.bh (fun hc B5 H5 g5 => ?_) fun hc B5 H5 g5 => ?_⟩
    · exact wb_ret (ep_var 2 rfl (up g5.bb r1)).ev g5.bh fun v B6 H6 g6 r6 => k v B6 H6 ((gg.trans g5).trans g6) (cv (congrArg rI (place_yes ho (of_decide_eq_true hc) no).symm) r6)
    · have g6 := gg.trans g5
      refine wb_nil ⟨⟨g6.hh, g2.bb, g4.bb.trans g5.bb |>.trans g5.bh, g2.fr⟩, fun o' ho' => ?_, some u1, some u2, rfl⟩
      rw [take_succ ho, List.mem_append, List.mem_singleton] at ho'
      rcases ho' with e | e
      · exact no o' e
      · subst e; exact of_decide_eq_false hc
  · rintro B2 σ' H' ⟨g2, no, a, c, rfl⟩
    rw [List.length_zipIdx, List.take_length] at no
    exact wb_ret (ev_neg ep_int.ev) g2.bh fun v B6 H6 g6 r6 => k v B6 H6 (g2.trans g6) (cv (congrArg rI (place_no no).symm) r6)
/-! new_book, is_right -/
theorem fn_new_book (T : Txt K mg) : Fn P w K mg base CX0 "new_book" 3 [] (spP (fun _ : Unit => True) (fun _ => []) (fun _ => rBk K Vbcrah.empty)) := by
  obtain ⟨fd, F⟩ := T.d_new_book
  refine mkFn T.g_new_book F (b_new_book F) (ok_body F sc_new_book (len_P fun _ => rfl) fun cdv A outer s H vs Q E hr q => ?_)
  obtain ⟨_, B, hs, hp, hv, k⟩ := q
  cases vs with
  | cons _ _ => exact hv.elim
  | nil => exact wb_ret (ev_Book (bk := Vbcrah.empty) (ct_Book T) hr (ea_cons (ev_list (r := rSt K) (xs := []) ea_nil) (ea_cons (ev_list (r := rOd K) (xs := []) ea_nil) (ea_cons (ep_cI T.i_AT_FIRST).ev (ea_one (ep_cI T.i_AT_FIRST).ev))))) hs k
abbrev spRight (K : PySem.W.Frag) : Sp := spP (fun _ : Vbcrah.Stock × Vbcrah.Order => True) (fun a => [rSt K a.1, rOd K a.2]) (fun a => rB (Vbcrah.suits a.1 a.2))
theorem dec_le2 (a b c : Nat) : decide ((a : Int) + (b : Int) ≤ (c : Int)) = decide (a + b ≤ c) := by rw [← dec_le, Int.natCast_add]
theorem dec_ge2 (a b c : Nat) : decide ((c : Int) ≤ (a : Int) + (b : Int)) = decide (c ≤ a + b) := by rw [← dec_le, Int.natCast_add]
theorem fn_is_right (T : Txt K mg) : Fn P w K mg base CX0 "is_right" 1 ["stock", "order"] (spRight K) := by
  obtain ⟨fd, F⟩ := T.d_is_right
  refine mkFn T.g_is_right F (b_is_right F) (ok_body F sc_is_right (len_P fun _ => rfl) fun cdv A outer s H vs Q E hr q => ?_)
  obtain ⟨⟨st, o⟩, B, hs, hp, hv, k⟩ := q
  obtain ⟨v1, v2, rfl, h1, h2⟩ := vs2 hv
  refine wb_when (et_or (et_neL hr.units (ep_st_kind T (ep_var 0 rfl h1)).ev (ep_od_kind T (ep_var 1 rfl h2)).ev) fun _ => et_ne (ep_st_size T (ep_var 0 rfl h1)).ev (ep_od_size T (ep_var 1 rfl h2)).ev) hs (fun hc B2 H2 g => ?_) fun hc B2 H2 g => ?_
  · refine wb_ret ep_bl.ev g.bh fun v B3 H3 g3 r => k v B3 H3 (g.trans g3) (cv (congrArg rB ?_) r)
    unfold Vbcrah.suits
    rw [Bool.or_eq_true, Bool.not_eq_true', Bool.not_eq_true', decide_eq_false_iff_not, decide_eq_false_iff_not] at hc
    rcases hc with hc | hc
    · rw [beq_eq_false_iff_ne.mpr hc]; rfl
    · rw [beq_eq_false_iff_ne.mpr (show st.size ≠ o.size from fun z => hc (show (st.size : Int) = (o.size : Int) by rw [z])), Bool.false_and, Bool.and_false]
  · refine wb_ret (ev_and (ev_le (ev_add (ep_st_day T (ep_var 0 rfl (up g.bb h1))).ev (ep_od_least T (ep_var 1 rfl (up g.bb h2))).ev) (ep_od_due T (ep_var 1 rfl (up g.bb h2))).ev) fun _ => ev_le (ep_od_due T (ep_var 1 rfl (up g.bb h2))).ev (ev_add (ep_st_day T (ep_var 0 rfl (up g.bb h1))).ev (ep_od_most T (ep_var 1 rfl (up g.bb h2))).ev)) g.bh fun v B3 H3 g3 r => k v B3 H3 (g.trans g3) (cv (congrArg rB ?_) r)
    rw [Bool.or_eq_false_iff, Bool.not_eq_false', Bool.not_eq_false'] at hc
    have e1 := of_decide_eq_true hc.1
    have e2 : st.size = o.size := by
      have : (st.size : Int) = (o.size : Int) := of_decide_eq_true hc.2
      omega
    unfold Vbcrah.suits
    rw [e1, e2, beq_self_eq_true, beq_self_eq_true, Bool.true_and, Bool.true_and, dec_le2, dec_ge2]
end
end Fb
/-! FbK: lists that grow in a loop; the defs of texts -/
namespace Fb
open PySem PySem.Spec PyProof.Rows L2
/-- since B, H: now Bk, H'; at f an own list vs that the base does not know -/
structure Acc (B H Bk H' : Hp) (f : Addr) (vs : List V) : Prop where
  g : Gr B H Bk H'
  hf : H f = none
  bf : Bk f = none
  at_ : H' f = some (.lst vs)
theorem Acc.step {B H Bk H' B2 H2 : Hp} {f : Addr} {vs : List V} (a : Acc B H Bk H' f vs) (g : Gr Bk H' B2 H2) : Acc B H B2 H2 f vs :=
  ⟨a.g.trans g, a.hf, g.fr f (by rw [a.at_]; exact fun z => nomatch z) a.bf, g.hh _ _ a.at_⟩
theorem Acc.put {B H Bk H' : Hp} {f : Addr} {vs ws : List V} (a : Acc B H Bk H' f vs) : Acc B H Bk (upd H' f (.lst ws)) f ws :=
  ⟨⟨same_upd a.g.hh a.hf, a.g.bb, same_upd a.g.bh a.bf, a.g.fr⟩, a.hf, a.bf, upd_same⟩
theorem Acc.close {α : Type} {r : α → Rp} {xs : List α} {B H Bk H' : Hp} {f : Addr} {vs : List V} (a : Acc B H Bk H' f vs) (h : All2 (fun x v => (r x).p v Bk) xs vs) (l : xs.length ≤ LB) :
    Gr B H (upd Bk f (.lst vs)) H' ∧ (rL r xs).p (.ref f) (upd Bk f (.lst vs)) := by
  refine ⟨⟨a.g.hh, a.g.bb.trans (same_new a.bf), fun b o e => ?_, fun b z n => ?_⟩, f, vs, rfl, upd_same, l, h.imp fun x v q => (r x).mo v _ _ (same_new a.bf) q⟩
  · by_cases hb : b = f
    · subst hb; rw [upd_same] at e; rw [a.at_]; exact e
    · rw [upd_ne hb] at e; exact a.g.bh b o e
  · have hb : b ≠ f := fun e => z (by rw [e]; exact a.hf)
    rw [upd_ne hb]; exact a.g.fr b z n
theorem Acc.len {B H Bk H' : Hp} {f : Addr} {vs : List V} (a : Acc B H Bk H' f vs) : Same Bk H' := a.g.bh
/-- a list just made whose items need no base -/
theorem acc_of {α : Type} {r : α → Rp} {xs : List α} {B H B2 H2 : Hp} {v : V} (s : Same B H) (g : Gr B H B2 H2) (h : (rLF B r xs).p v B2) (fl : ∀ x v C, (r x).p v B2 → (r x).p v C) :
    ∃ f vs, v = .ref f ∧ Acc B H B H2 f vs ∧ All2 (fun x v => (r x).p v B) xs vs := by
  obtain ⟨⟨p, vs, e, h2, l, a⟩, q, e2, n⟩ := h
  subst e
  cases e2
  refine ⟨p, vs, rfl, ⟨⟨g.hh, Same.refl B, g.bb.trans g.bh, fun _ _ z => z⟩, ?_, n, g.bh _ _ h2⟩, a.imp fun x v q => fl x v B q⟩
  cases e : H p with
  | none => rfl
  | some o =>
    have := g.fr p (by rw [e]; exact fun z => nomatch z) n
    rw [this] at h2; cases h2
section
variable {X : Cx} {e tg iter : Expr} {σ : L2.St} {B H : Hp} {pos : Pos} {α : Type} {rest body : List Stmt} {D : L2.Ends}
theorem wb_mono {st : List Stmt} {D D' : L2.Ends} (h1 : ∀ σ H, D.nx σ H → D'.nx σ H) (h2 : ∀ v H, D.rt v H → D'.rt v H) (h3 : ∀ σ H, D.bk σ H → D'.bk σ H) (h4 : ∀ σ H, D.ct σ H → D'.ct σ H) (h : WB X st D σ H) : WB X st D' σ H := fun pins s I =>
  thn (h pins s I) fun f s' q => by
    unfold SP at q ⊢
    cases f with
    | next => obtain ⟨σ', H', i, z⟩ := q; exact ⟨σ', H', i, h1 _ _ z⟩
    | brk => obtain ⟨σ', H', i, z⟩ := q; exact ⟨σ', H', i, h3 _ _ z⟩
    | cont => obtain ⟨σ', H', i, z⟩ := q; exact ⟨σ', H', i, h4 _ _ z⟩
    | ret u => obtain ⟨v, σ', H', i, r, z⟩ := q; exact ⟨v, σ', H', i, r, h2 _ _ z⟩
/-- a loop whose base grows -/
theorem wb_forG {r : α → Rp} {xs : List α} {g : TG} (hi : EvI X tg iter σ B xs r) (hg : PG X tg g) (s : Same B H) (Pv : Hp → Nat → L2.St → Hp → Prop) (hp : PassesOwn (model X.prog X.w) X.A X.env X.xe) (hc : X.calm = true)
    (h0 : ∀ B2 H2, Gr B H B2 H2 → Pv B2 0 σ H2) (hG : ∀ Bk k σ' H', Pv Bk k σ' H' → Same Bk H')
    (hs : ∀ Bk k a v σ' H' B4 H4, Same B Bk → xs[k]? = some a → Pv Bk k σ' H' → Gr Bk H' B4 H4 → (r a).p v B4 → ∃ slotsA, (∀ Q : L2.St → Hp → Prop, Q slotsA H4 → g v σ' H4 Q) ∧
      WB X body { nx := fun σ H => ∃ B5, Same Bk B5 ∧ Pv B5 (k + 1) σ H, ct := fun σ H => ∃ B5, Same Bk B5 ∧ Pv B5 (k + 1) σ H, bk := WB X rest D, rt := D.rt } slotsA H4)
    (hd : ∀ Bk σ' H', Same B Bk → Pv Bk xs.length σ' H' → WB X rest D σ' H') : WB X (.For tg iter body [] pos :: rest) D σ H := by
  refine wb_for hp hc hi hg s (fun B2 k σ' H' => ∃ Bk, Same B B2 ∧ Same B2 Bk ∧ Pv Bk k σ' H') (fun B2 H2 g => ⟨B2, g.bb, Same.refl _, h0 B2 H2 g⟩) (fun B2 k σ' H' ⟨Bk, _, s2, p⟩ => s2.trans (hG _ _ _ _ p)) ?_ (fun B2 σ' H' ⟨Bk, s1, s2, p⟩ => hd Bk σ' H' (s1.trans s2) p)
  intro B2 k a v σ' H' B4 H4 s0 ha ⟨Bk, s1, s2, p⟩ g4 r4
  have sk := hG _ _ _ _ p
  obtain ⟨slotsA, q1, q2⟩ := hs Bk k a v σ' H' (both Bk B4) H4 (s1.trans s2) ha p (g4.wide s2 sk) ((r a).mo _ _ _ (g4.wide_in sk) r4)
  refine ⟨slotsA, q1, ?_⟩
  exact wb_mono (D := { nx := fun σ H => ∃ B5, Same Bk B5 ∧ Pv B5 (k + 1) σ H, ct := fun σ H => ∃ B5, Same Bk B5 ∧ Pv B5 (k + 1) σ H, bk := WB X rest D, rt := D.rt }) (fun σ H z => by
    obtain ⟨B5, z, q⟩ := z
    exact ⟨B5, s1, s2.trans z, q⟩) (fun _ _ q => q) (fun _ _ q => q) (fun σ H z => by
    obtain ⟨B5, z, q⟩ := z
    exact ⟨B5, s1, s2.trans z, q⟩) q2
end
/-! ### texts -/
theorem cps_of (s : String) : (Str.ofString s).cps.toList = Vbcrah.ascii s := by
  rw [Str.ofString_eq_toList]
  rfl
theorem cps_dec (n : Nat) : (Str.ofString (toString (n : Int))).cps.toList = Vbcrah.dec n := by
  rw [Str.ofString_eq_toList]
  rfl
section
variable {P : Program} {w : World} {K : PySem.W.Frag} {mg : Str → Option Value} {base : Heap}
abbrev spBytes : Sp := spP (fun s : Str => s.cps.toList.length ≤ LB) (fun s => [rS s]) (fun s => rBy s.cps.toList)
theorem fn_bytes_of (T : Txt K mg) : Fn P w K mg base CX0 "bytes_of" 1 ["text"] spBytes := by
  obtain ⟨fd, F⟩ := T.d_bytes_of
  refine mkFn T.g_bytes_of F (b_bytes_of F) (ok_body F sc_bytes_of (len_P fun _ => rfl) fun cdv A outer s H vs Q E hr q => ?_)
  obtain ⟨st, B, hs, hp, hv, k⟩ := q
  obtain ⟨v1, rfl, h1⟩ := vs1 hv
  refine wb_ret (Ev.unF (ef_map 1 (q := rN) (f := fun c => c) rfl sc_bytes_of.nd (ei_str (ep_var 0 rfl h1).ev hp) (blkOk_by (N := N_bytes_of) (sc := defScope s_bytes_of) (by decide +kernel)) (fun _ _ _ _ _ => pg_name sc_bytes_of.nd rfl (Or.inl rfl)) ?_)) hs fun v B2 H2 g r => k v B2 H2 g (by rw [List.map_id'] at r; exact r)
  intro c hc v B1 s1 r1 _ _ _ _ _
  exact ev_ord T.f_ord (ep_var 1 rfl r1).ev rfl
theorem ev_bytes {X : Cx} {σ : L2.St} {B : Hp} {p pos p2 : Pos} {j} {s : String} (F : Fn X.prog X.w X.K X.mg X.base CX0 "bytes_of" 1 ["text"] spBytes) (hr : Room 1 X.A) (hl : (Vbcrah.ascii s).length ≤ LB := by decide) (hg : Gl X "bytes_of" := by rfl)
    (he : starEach (.Constant (.str (Str.ofString s)) j p2 :: []) X.env = (false, eval (.Constant (.str (Str.ofString s)) j p2) X.env) :: starEach [] X.env := by rfl) : Ev X (.Call (.Name "bytes_of" p) [.Constant (.str (Str.ofString s)) j p2] [] pos) σ B (rBy (Vbcrah.ascii s)) :=
  (ev_call F hr (Str.ofString s) (by rw [cps_of]; exact hl) (ea_one ep_str.ev he) hg (by decide) he (by rfl)).is (by rw [cps_of])
/-! parts_of -/
def partStep (sep : Nat) (z : List (List Nat) × List Nat) (c : Nat) : List (List Nat) × List Nat := if c = sep then (z.1 ++ [z.2], []) else (z.1, z.2 ++ [c])
theorem step_yes {sep x : Nat} {z : List (List Nat) × List Nat} (h : x = sep) : partStep sep z x = (z.1 ++ [z.2], []) := if_pos h
theorem step_no {sep x : Nat} {z : List (List Nat) × List Nat} (h : x ≠ sep) : partStep sep z x = (z.1, z.2 ++ [x]) := if_neg h
theorem split_yes {sep x : Nat} {xs : List Nat} (h : x = sep) : Vbcrah.split sep (x :: xs) = [] :: Vbcrah.split sep xs := by
  rw [Vbcrah.split, if_pos h]
theorem split_no {sep x : Nat} {xs : List Nat} (h : x ≠ sep) : Vbcrah.split sep (x :: xs) = (match Vbcrah.split sep xs with
    | l :: ls => (x :: l) :: ls
    | [] => [[x]]) := by
  rw [Vbcrah.split, if_neg h]
  cases Vbcrah.split sep xs <;> rfl
theorem split_ne (sep : Nat) : ∀ xs, Vbcrah.split sep xs ≠ []
  | [] => by simp [Vbcrah.split]
  | x :: xs => by
    by_cases h : x = sep
    · rw [split_yes h]; simp
    · rw [split_no h]; split <;> simp
theorem parts_fold (sep : Nat) : ∀ (xs : List Nat) (d : List (List Nat)) (c : List Nat), ∃ l ls, Vbcrah.split sep xs = l :: ls ∧ (xs.foldl (partStep sep) (d, c)).1 ++ [(xs.foldl (partStep sep) (d, c)).2] = d ++ (c ++ l) :: ls
  | [], d, c => ⟨[], [], by simp [Vbcrah.split], by simp⟩
  | x :: xs, d, c => by
    by_cases h : x = sep
    · have e : partStep sep (d, c) x = (d ++ [c], []) := if_pos h
      obtain ⟨l, ls, e1, e2⟩ := parts_fold sep xs (d ++ [c]) []
      refine ⟨[], l :: ls, by rw [split_yes h, e1], ?_⟩
      rw [List.foldl_cons, e, e2]; simp
    · have e : partStep sep (d, c) x = (d, c ++ [x]) := if_neg h
      obtain ⟨l, ls, e1, e2⟩ := parts_fold sep xs d (c ++ [x])
      refine ⟨x :: l, ls, by rw [split_no h, e1], ?_⟩
      rw [List.foldl_cons, e, e2]; simp
theorem parts_all (sep : Nat) (xs : List Nat) : (xs.foldl (partStep sep) ([], [])).1 ++ [(xs.foldl (partStep sep) ([], [])).2] = Vbcrah.split sep xs := by
  obtain ⟨l, ls, e1, e2⟩ := parts_fold sep xs [] []
  rw [e2, e1]; simp
theorem split_len (sep : Nat) : ∀ xs : List Nat, (Vbcrah.split sep xs).length ≤ xs.length + 1
  | [] => by simp [Vbcrah.split]
  | x :: xs => by
    have ih := split_len sep xs
    unfold Vbcrah.split
    split
    · simp; omega
    · split
      · rename_i h; rw [h] at ih; simp at ih ⊢; omega
      · simp
theorem split_part (sep : Nat) : ∀ (xs : List Nat), ∀ l ∈ Vbcrah.split sep xs, l.length ≤ xs.length
  | [], l, h => by simp [Vbcrah.split] at h; simp [h]
  | x :: xs, l, h => by
    unfold Vbcrah.split at h
    split at h
    · simp only [List.mem_cons] at h
      rcases h with h | h
      · simp [h]
      · have := split_part sep xs l h; simp; omega
    · split at h
      · rename_i l0 ls hh
        simp only [List.mem_cons] at h
        rcases h with h | h
        · have := split_part sep xs l0 (by rw [hh]; simp); subst h; simp; omega
        · have := split_part sep xs l (by rw [hh]; simp [h]); simp; omega
      · simp only [List.mem_cons, List.not_mem_nil, or_false] at h; simp [h]
theorem fold_len (sep : Nat) : ∀ (xs : List Nat) (z : List (List Nat) × List Nat), (xs.foldl (partStep sep) z).1.length ≤ z.1.length + xs.length ∧ (xs.foldl (partStep sep) z).2.length ≤ z.2.length + xs.length
  | [], z => by simp
  | x :: xs, z => by
    rw [List.foldl_cons]
    have := fold_len sep xs (partStep sep z x)
    unfold partStep at this ⊢
    by_cases h : x = sep
    · rw [if_pos h] at this ⊢; simp at this ⊢; omega
    · rw [if_neg h] at this ⊢; simp at this ⊢; omega
theorem wneg1 {X : Cx} {σ : L2.St} {H : Hp} {Q : VK} {j p p2} (q : Q (.int (-1)) H) : WE X (.UnaryOp .USub (.Constant (.int 1) j p) p2) σ H Q := we_of (pe_un un_neg we_pe) (we_of (Q := fun v H => ∃ i : Int, v = .int i ∧ Q (.int (-i)) H) pe_int ⟨1, rfl, q⟩)
/-- what parts_of holds in a turn -/
structure PI_ (B H Bk H' : Hp) (f c : Addr) (z : List (List Nat) × List Nat) : Prop where
  ex : ∃ dv cv : List V, Acc B H Bk H' f (dv ++ [.ref c]) ∧ H c = none ∧ Bk c = none ∧ c ≠ f ∧ H' c = some (.lst cv) ∧ All2 (fun x v => (rBy x).p v Bk) z.1 dv ∧ All2 (fun (x : Nat) v => (rN x).p v Bk) z.2 cv
abbrev spParts : Sp := spP (fun a : List Nat × Nat => a.1.length < LB) (fun a => [rBy a.1, rN a.2]) (fun a => rL rBy (Vbcrah.split a.2 a.1))
theorem fn_parts_of (T : Txt K mg) : Fn P w K mg base CX0 "parts_of" 1 ["some", "between"] spParts := by
  obtain ⟨fd, F⟩ := T.d_parts_of
  refine mkFn T.g_parts_of F (b_parts_of F) (ok_body F sc_parts_of (len_P fun _ => rfl) fun cdv A outer s H vs Q E hr q => ?_)
  obtain ⟨⟨xs, sep⟩, B, hs, hp, hv, k⟩ := q
  obtain ⟨v1, v2, rfl, h1, h2⟩ := vs2 hv
  refine wb_set 2 (ef_list (r := fun _ : Unit => rLF B rN []) (xs := [()]) (ea_one (ef_list (r := rN) (xs := []) ea_nil))) hs (fun v B2 H2 g r => ?_) sc_parts_of.nd
  obtain ⟨⟨f, vs, rfl, hf, _, al⟩, f', ef, nf⟩ := r
  cases ef
  cases al with
  | cons hc t =>
  cases t
  obtain ⟨⟨c, cv, rfl, hcv, _, ac⟩, c', ec, nc⟩ := hc
  cases ec
  cases ac
  have un : ∀ a, B2 a ≠ none → B a = none → H a = none := fun a z n => by
    cases e : H a with
    | none => rfl
    | some o => exact absurd (g.fr a (by rw [e]; exact fun z => nomatch z) n) z
  have i0 : PI_ B H B H2 f c ([], []) := ⟨[], [], ⟨⟨g.hh, Same.refl B, g.bb.trans g.bh, fun _ _ z => z⟩, un f (by rw [hf]; exact fun z => nomatch z) nf, nf, g.bh _ _ hf⟩, un c (by rw [hcv]; exact fun z => nomatch z) nc, nc, fun e => (by subst e; rw [hf] at hcv; cases hcv), g.bh _ _ hcv, .nil, .nil⟩
  refine wb_forG (ei_list (ep_var 0 rfl h1).ev (ll h1)) (pg_name (i := 3) sc_parts_of.nd rfl (Or.inl rfl)) (g.bb.trans g.bh) (fun Bk j σ' H' => ∃ c vb, PI_ B H Bk H' f c ((xs.take j).foldl (partStep sep) ([], [])) ∧ σ' = [some v1, some v2, some (.ref f), vb]) PassesOwn.never rfl ?_ ?_ ?_ ?_
  · intro B3 H3 g3
    obtain ⟨dv, cv, a, hc, bc, ne, ec, ad, ac⟩ := i0
    cases ad; cases ac
    refine ⟨c, none, ⟨[], [], a.step g3, hc, g3.fr c (by rw [ec]; exact fun z => nomatch z) bc, ne, g3.hh _ _ ec, .nil, .nil⟩, rfl⟩
  · rintro Bk j σ' H' ⟨c, vb, ⟨_, _, a, _⟩, _⟩
    exact a.g.bh
  · rintro Bk j x v σ' H' B4 H4 sB ha ⟨c, vb, ⟨dv, cv, a, hc, bc, ne, ec, ad, ac⟩, rfl⟩ g4 r4
    refine ⟨_, gn_name, ?_⟩
    have a4 := a.step g4
    have bc4 := g4.fr c (by rw [ec]; exact fun z => nomatch z) bc
    have ec4 := g4.hh _ _ ec
    have ad4 := ad.imp fun x v q => up (R := rBy x) g4.bb q
    have ac4 : All2 (fun (x : Nat) v => (rN x).p v B4) _ cv := ac
    have hx := fold_len sep (xs.take j) ([], [])
    have hj : (xs.take j).length ≤ xs.length := by rw [List.length_take]; omega
    have hLB : xs.length < LB := hp
    have eS := LB_line
    refine wb_if (et_eq (ep_var 3 rfl r4).ev (ep_var 1 rfl (up (sB.trans g4.bb) h2)).ev) g4.bh (fun hcx B5 H5 g5 => ?_) fun hcx B5 H5 g5 => ?_
    · have a5 := a4.step g5
      have bc5 := g5.fr c (by rw [ec4]; exact fun z => nomatch z) bc4
      have ec5 := g5.hh _ _ ec4
      have e : x = sep := by have := of_decide_eq_true hcx; omega
      refine wb_append (at_var 2 rfl) a5.at_ a5.bf ?_ (ef_list (r := rN) (xs := []) ea_nil) g5.bh fun u B6 H6 g6 r6 n6 => wb_nil (wb_nil ?_)
      · rw [List.length_append, List.length_singleton, ad4.len]
        simp at hx
        omega
      · obtain ⟨⟨z, zs, rfl, hz, _, az⟩, z', ez, nz⟩ := r6
        cases ez
        cases az
        have a6 := a5.step g6
        have nc6 := g6.fr c (by rw [ec5]; exact fun z => nomatch z) bc5
        have ec6 := g6.hh _ _ ec5
        have hzH5 : H5 z = none := by
          cases e : H5 z with
          | none => rfl
          | some o => have := g6.fr z (by rw [e]; exact fun z => nomatch z) nz; rw [this] at hz; cases hz
        have hzc : z ≠ c := fun e => by subst e; rw [hzH5] at ec5; cases ec5
        have hzf : z ≠ f := fun e => by have := a5.at_; rw [← e, hzH5] at this; cases this
        have nzH : H z = none := a5.g.hh.free hzH5
        refine ⟨upd B5 c (.lst cv), (g4.bb.trans g5.bb).trans (same_new bc5), z, some v, ⟨dv ++ [.ref c], [], ⟨⟨?_, a5.g.bb.trans (same_new bc5), ?_, ?_⟩, a5.hf, ?_, ?_⟩, nzH, ?_, hzf, ?_, ?_, ?_⟩, rfl⟩
        · exact same_upd a6.g.hh a6.hf
        · intro b o eb
          by_cases hbc : b = c
          · subst hbc; rw [upd_same] at eb; rw [upd_ne ne, ec6]; exact eb
          · rw [upd_ne hbc] at eb
            rw [upd_ne (ne_of_none eb a5.bf)]
            exact (g6.bb.trans g6.bh) b o eb
        · intro b hb nb
          by_cases hbc : b = c
          · subst hbc; exact absurd hc hb
          · rw [upd_ne hbc]; exact a5.g.fr b hb nb
        · rw [upd_ne (Ne.symm ne)]; exact a5.bf
        · rw [upd_same]
        · rw [upd_ne hzc]; exact nz
        · rw [upd_ne hzf]; exact g6.bh _ _ hz
        · rw [take_succ ha, List.foldl_append, List.foldl_cons, List.foldl_nil, step_yes e]
          refine ((ad4.imp fun x v q => up (R := rBy x) (g5.bb.trans (same_new bc5)) q)).app (.one ⟨c, cv, rfl, upd_same, ?_, ac⟩)
          simp at hx
          show ((xs.take j).foldl (partStep sep) ([], [])).2.length ≤ LB; omega
        · rw [take_succ ha, List.foldl_append, List.foldl_cons, List.foldl_nil, step_yes e]
          exact .nil
    · have a5 := a4.step g5
      have bc5 := g5.fr c (by rw [ec4]; exact fun z => nomatch z) bc4
      have ec5 := g5.hh _ _ ec4
      have e : x ≠ sep := by have := of_decide_eq_false hcx; omega
      refine wb_append (l := c) (fun Q q => we_of (pe_ix ix_list we_pe we_pe (by intro _ _; rfl)) (wv 2 rfl (wneg1 ⟨f, _, -1, .ref c, rfl, rfl, SqL.of a5.at_, atI_last _ _, q⟩))) ec5 bc5 ?_ (ep_var 3 rfl (up g5.bb r4)).ev g5.bh fun u B6 H6 g6 r6 n6 => wb_nil (wb_nil ?_)
      · rw [ac.len]
        simp at hx
        omega
      · have a6 := a5.step g6
        refine ⟨B6, (g4.bb.trans g5.bb).trans g6.bb, c, some v, ⟨dv, cv ++ [u], ⟨⟨same_upd a6.g.hh hc, a6.g.bb, same_upd a6.g.bh n6, a6.g.fr⟩, a6.hf, a6.bf, by rw [upd_ne (Ne.symm ne)]; exact a6.at_⟩, hc, n6, ne, upd_same, ?_, ?_⟩, rfl⟩
        · rw [take_succ ha, List.foldl_append, List.foldl_cons, List.foldl_nil, step_no e]
          exact (ad4.imp fun x v q => up (R := rBy x) (g5.bb.trans g6.bb) q)
        · rw [take_succ ha, List.foldl_append, List.foldl_cons, List.foldl_nil, step_no e]
          exact All2.app ac (.one r6)
  · rintro Bk σ' H' sB ⟨c, vb, ⟨dv, cv, a, hc, bc, ne, ec, ad, ac⟩, rfl⟩
    rw [List.take_length] at ad ac
    have hx := fold_len sep xs ([], [])
    simp at hx
    have hLB : xs.length < LB := hp
    have a2 : Acc B H (upd Bk c (.lst cv)) H' f (dv ++ [.ref c]) := ⟨⟨a.g.hh, a.g.bb.trans (same_new bc), fun b o e => by
      by_cases hb : b = c
      · subst hb; rw [upd_same] at e; rw [ec]; exact e
      · rw [upd_ne hb] at e; exact a.g.bh b o e, fun b z n => by
      have hb : b ≠ c := fun e => z (by rw [e]; exact hc)
      rw [upd_ne hb]; exact a.g.fr b z n⟩, a.hf, by rw [upd_ne (Ne.symm ne)]; exact a.bf, a.at_⟩
    obtain ⟨g9, r9⟩ := a2.close (r := rBy) (xs := Vbcrah.split sep xs) (by
      rw [← parts_all]
      exact (ad.imp fun x v q => up (R := rBy x) (same_new bc) q).app (.one ⟨c, cv, rfl, upd_same, by omega, ac⟩)) (by have := split_len sep xs; omega)
    exact wb_ret (ep_var 2 rfl r9).ev g9.bh fun v B7 H7 g7 r => k v B7 H7 (g9.trans g7) r
end
end Fb
/-! FbK2: words, lines, the shown book -/
namespace Fb
open PySem PySem.Spec PyProof.Rows L2
section
variable {P : Program} {w : World} {K : PySem.W.Frag} {mg : Str → Option Value} {base : Heap}
abbrev spWords : Sp := spP (fun a : List Nat => a.length < LB) (fun a => [rBy a]) (fun a => rL rBy (Vbcrah.wordsOf a))
theorem words_eq (l : List Nat) : Vbcrah.wordsOf l = ((Vbcrah.split 32 l).filter fun p => !decide (p = [])).map fun p => p := by
  rw [List.map_id']
  unfold Vbcrah.wordsOf
  refine List.filter_congr fun x _ => ?_
  cases x <;> simp
theorem fn_words_of (T : Txt K mg) : Fn P w K mg base CX0 "words_of" 2 ["line"] spWords := by
  obtain ⟨fd, F⟩ := T.d_words_of
  refine mkFn T.g_words_of F (b_words_of F) (ok_body F sc_words_of (len_P fun _ => rfl) fun cdv A outer s H vs Q E hr q => ?_)
  obtain ⟨l, B, hs, hp, hv, k⟩ := q
  obtain ⟨v1, rfl, h1⟩ := vs1 hv
  refine wb_ret (Ev.unF (ef_fmap 1 (r := rBy) (q := rBy) (f := fun p => p) (c := fun p => !decide (p = [])) rfl sc_words_of.nd (ei_list (ev_call (fn_parts_of T) hr (l, 32) hp (ea_cons (ep_var 0 rfl h1).ev (ea_one (ep_cI T.i_BLANK).ev))) (by have := split_len 32 l; show (Vbcrah.split 32 l).length ≤ LB; omega)) (blkOk_by (N := N_words_of) (sc := defScope s_words_of) (by decide +kernel)) (fun _ _ _ _ _ => pg_name sc_words_of.nd rfl (Or.inl rfl)) ?_)) hs fun v B2 H2 g r => k v B2 H2 g (cv (congrArg (rL rBy) (words_eq l).symm) r)
  intro p hpm v B1 s1 r1 _ _ _ _ _
  exact ⟨et_neL (l := p) (m := []) hr.units (ep_var 1 rfl r1).ev (ev_list (r := rN) (xs := []) ea_nil), fun _ => (ep_var 1 rfl r1).ev⟩
/-! line_of -/
abbrev LW := Sum (List Nat) Nat
def rW : LW → Rp
  | .inl l => rBy l
  | .inr n => rN n
def wB : LW → List Nat
  | .inl l => l
  | .inr n => Vbcrah.dec n
abbrev seg (x : LW) : List Nat := 32 :: wB x
def lineOfW (ws : List LW) : List Nat := (ws.flatMap seg).drop 1 ++ [10]
structure LineOk (ws : List LW) : Prop where
  len : (ws.flatMap seg).length < LB
  num : ∀ n, .inr n ∈ ws → ((n : Nat) : Int).natAbs.log2 < 1920
def isNum : LW → Bool
  | .inl _ => false
  | .inr _ => true
theorem ep_tyInt {X : Cx} {σ : L2.St} {B : Hp} {p : Pos} (hm : X.mg "int" = none) (hg : Gl X "int" := by rfl) : EvP X (.Name "int" p) σ B (rV (.ty "int")) :=
  ⟨_, rfl, fun H s Q q => we_of (pe_bltn hg hm (show bootBuiltins "int" = some (.type "int") by decide +kernel) (show RelV (.ty "int") (.type "int") from rfl)) q⟩
theorem et_isNum {x : LW} {X : Cx} {e : Expr} {σ : L2.St} {B : Hp} {p p2 pos : Pos} (hm : X.mg "isinstance" = none) (hm2 : X.mg "int" = none) (h : Ev X e σ B (rW x)) (hg : Gl X "isinstance" := by rfl) (hg2 : Gl X "int" := by rfl)
    (he : starEach (e :: [.Name "int" p2]) X.env = (false, eval e X.env) :: starEach [.Name "int" p2] X.env := by rfl) (he2 : starEach (.Name "int" p2 :: []) X.env = (false, eval (.Name "int" p2) X.env) :: starEach [] X.env := by rfl) (hpl : (backTo pos (starEach [.Name "int" p2] X.env)).any (·.1) = false := by rfl) : Ev X (.Call (.Name "isinstance" p) [e, .Name "int" p2] [] pos) σ B (rB (isNum x)) :=
  ev_callB call_isi hm (by decide +kernel) (ea_cons h (ea_one (ep_tyInt hm2 hg2).ev he2) he) (fun vs B2 H2 s1 s2 r1 Q kk => by
    obtain ⟨v, u, rfl, e1, e2⟩ := r1.two
    cases x with
    | inl l =>
      obtain ⟨q, ws, e1, h1, l1, a1⟩ := e1
      exact ⟨v, u, .type "list", .type "int", false, rfl, by rw [show u = V.ty "int" from e2]; exact .ty "int", by rw [e1]; exact .base (.lst (s2 _ _ h1)), kit_ty (by decide +kernel), kk _ B2 H2 (Gr.refl s2) rfl⟩
    | inr n => exact ⟨v, u, .type "int", .type "int", true, rfl, by rw [show u = V.ty "int" from e2]; exact .ty "int", by rw [show v = V.int n from e1]; exact .base (.int _), kit_ty (by decide +kernel), kk _ B2 H2 (Gr.refl s2) rfl⟩) hg (by decide) (by decide) he hpl
theorem seg_len {ws : List LW} {x : LW} (h : x ∈ ws) : (seg x).length ≤ (ws.flatMap seg).length := by
  obtain ⟨a, b, rfl⟩ := List.append_of_mem h
  rw [List.flatMap_append, List.flatMap_cons, List.length_append, List.length_append]
  omega
theorem take_flat {ws : List LW} {j : Nat} {x : LW} (h : ws[j]? = some x) : (ws.take (j + 1)).flatMap seg = (ws.take j).flatMap seg ++ seg x := by
  rw [take_succ h, List.flatMap_append]; simp
theorem pre_len {ws : List LW} {j : Nat} {x : LW} (h : ws[j]? = some x) : ((ws.take j).flatMap seg).length + (seg x).length ≤ (ws.flatMap seg).length := by
  rw [← List.length_append, ← take_flat h]
  conv => rhs; rw [← List.take_append_drop (j + 1) ws, List.flatMap_append, List.length_append]
  omega
abbrev spLine : Sp := spP LineOk (fun a => [rL rW a]) (fun a => rBy (lineOfW a))
theorem fn_line_of (T : Txt K mg) : Fn P w K mg base CX0 "line_of" 2 ["words"] spLine := by
  obtain ⟨fd, F⟩ := T.d_line_of
  refine mkFn T.g_line_of F (b_line_of F) (ok_body F sc_line_of (len_P fun _ => rfl) fun cdv A outer s H vs Q E hr q => ?_)
  obtain ⟨ws, B, hs, hp, hv, k⟩ := q
  obtain ⟨v1, rfl, h1⟩ := vs1 hv
  refine wb_set 1 (ef_list (r := rN) (xs := []) ea_nil) hs (fun v B2 H2 g r => ?_) sc_line_of.nd
  obtain ⟨f, vs, rfl, a0, al⟩ := acc_of hs g r fun x v C q => q
  cases al
  have eS := LB_line
  have hl := hp.len
  refine wb_forG (ei_list (ep_var 0 rfl h1).ev (ll h1)) (pg_name (i := 2) sc_line_of.nd rfl (Or.inl rfl)) (g.bb.trans g.bh) (fun Bk j σ' H' => ∃ cv vb, Acc B H Bk H' f cv ∧ All2 (fun (x : Nat) v => (rN x).p v Bk) ((ws.take j).flatMap seg) cv ∧ σ' = [some v1, some (.ref f), vb]) PassesOwn.never rfl ?_ ?_ ?_ ?_
  · intro B3 H3 g3
    exact ⟨[], none, a0.step g3, .nil, rfl⟩
  · rintro Bk j σ' H' ⟨cv, vb, a, _⟩
    exact a.g.bh
  · rintro Bk j x v σ' H' B4 H4 sB ha ⟨cv, vb, a, ac, rfl⟩ g4 r4
    refine ⟨_, gn_name, ?_⟩
    have a4 := a.step g4
    have hx := pre_len ha
    have hm := List.mem_of_getElem? ha
    have hx2 : (wB x).length + 1 ≤ LB := by
      have : (seg x).length = (wB x).length + 1 := rfl
      omega
    refine wb_extend (r := rN) (ys := seg x) (at_var 1 rfl) a4.at_ a4.bf (by rw [ac.len]; omega) (ev_cat (xs := [32]) (ys := wB x) (ev_list (r := rN) (xs := [32]) (ea_one (ep_cI T.i_BLANK).ev)) (ev_ite (et_val (et_isNum T.f_isinstance T.f_int (ep_var 2 rfl r4).ev)) (fun hc => ?_) fun hc => ?_) (by show 1 + (wB x).length ≤ LB; omega)) g4.bh fun us B6 H6 g6 r6 n6 => wb_nil ?_
    · cases x with
      | inl l => cases hc
      | inr n => exact (ev_call (fn_bytes_of T) (hr.mono (by decide)) (Str.ofString (toString (n : Int))) (by rw [cps_dec]; exact Nat.le_of_succ_le hx2) (ea_one (ev_strI T.f_str (ep_var 2 rfl r4).ev (hp.num n hm)))).is (by rw [cps_dec]; rfl)
    · cases x with
      | inl l => exact (ef_listL T.f_list (ep_var 2 rfl r4).ev).unF
      | inr n => cases hc
    · have a6 := (a4.step g6).put (ws := cv ++ us)
      exact ⟨B6, g4.bb.trans g6.bb, _, some v, a6, by rw [take_flat ha]; exact All2.app ac r6, rfl⟩
  · rintro Bk σ' H' sB ⟨cv, vb, a, ac, rfl⟩
    rw [List.take_length] at ac
    obtain ⟨g9, r9⟩ := a.close (r := rN) (xs := ws.flatMap seg) ac (by omega)
    exact wb_ret (ev_cat (ef_from (n := 1) (ep_var 1 rfl r9).ev ep_int.ev).unF (ev_list (r := rN) (xs := [10]) (ea_one (ep_cI T.i_LINE_END).ev)) (by rw [List.length_drop]; show _ + 1 ≤ LB; omega)) g9.bh fun v B7 H7 g7 r => k v B7 H7 (g9.trans g7) r
/-! lines of a book -/
structure StOk (s : Vbcrah.Stock) : Prop where
  kind : s.kind.length ≤ 10
  size : s.size ≤ 9999
  day : s.day ≤ 9999
  bags : s.bags ≤ 9999
structure OdOk (o : Vbcrah.Order) : Prop where
  name : o.name.length ≤ 10
  kind : o.kind.length ≤ 10
  size : o.size ≤ 9999
  bags : o.bags ≤ 9999
  due : o.due ≤ 9999
  lo : o.lo ≤ 9999
  hi : o.hi ≤ 9999
theorem log_ok {n : Nat} (h : n ≤ 9999) : ((n : Nat) : Int).natAbs.log2 < 1920 := by
  rw [Int.natAbs_natCast]
  by_cases z : n = 0
  · subst z; decide
  · exact Nat.lt_trans ((Nat.log2_lt (k := 14) z).mpr (Nat.lt_of_le_of_lt h (by decide))) (by decide)
theorem dec_len {n : Nat} (h : n ≤ 9999) : (Vbcrah.dec n).length ≤ 4 := by
  have := digits_le (v := (n : Int)) (by omega) (k := 4) (by decide) (by omega)
  have e : (asciiBytes (toString (n : Int))).length = (Vbcrah.dec n).length := by
    unfold asciiBytes Vbcrah.dec
    rw [List.length_map, List.length_map]
    rfl
  omega
theorem flat_le (n : Nat) : ∀ ws : List LW, (∀ x ∈ ws, (wB x).length ≤ n) → (ws.flatMap seg).length ≤ ws.length * (n + 1)
  | [], _ => by simp
  | x :: ws, h => by
    have ih := flat_le n ws fun y hy => h y (by simp [hy])
    have h1 := h x (by simp)
    rw [List.flatMap_cons, List.length_append, show (x :: ws).length = ws.length + 1 from rfl, Nat.add_mul]
    have : (seg x).length = (wB x).length + 1 := rfl
    omega
def wOk : LW → Prop
  | .inl l => l.length ≤ 10
  | .inr n => n ≤ 9999
theorem line_ok {ws : List LW} (hl : ws.length ≤ 20) (h : ∀ x ∈ ws, wOk x) : LineOk ws := by
  refine ⟨?_, fun n hn => log_ok (h _ hn)⟩
  have := flat_le 10 ws fun x hx => by
    have := h x hx
    cases x with
    | inl l => exact this
    | inr n => have := dec_len (n := n) this; show (Vbcrah.dec n).length ≤ 10; omega
  have : ws.length * (10 + 1) ≤ 20 * 11 := Nat.mul_le_mul hl (Nat.le_refl _)
  unfold LB
  omega
theorem line_len {ws : List LW} (hl : ws.length ≤ 20) (h : ∀ x ∈ ws, wOk x) : (lineOfW ws).length ≤ 221 := by
  have := flat_le 10 ws fun x hx => by
    have := h x hx
    cases x with
    | inl l => exact this
    | inr n => have := dec_len (n := n) this; show (Vbcrah.dec n).length ≤ 10; omega
  have : ws.length * (10 + 1) ≤ 20 * 11 := Nat.mul_le_mul hl (Nat.le_refl _)
  unfold lineOfW
  rw [List.length_append, List.length_drop, List.length_singleton]
  omega
theorem spaced_eq : ∀ ws : List LW, (ws.flatMap seg).drop 1 = Vbcrah.spaced (ws.map wB)
  | [] => rfl
  | [x] => by simp [Vbcrah.spaced, seg]
  | x :: y :: ws => by
    have ih := spaced_eq (y :: ws)
    rw [List.map_cons, List.map_cons, Vbcrah.spaced]
    rw [List.map_cons] at ih
    rw [← ih]
    · simp [seg]
    · simp
def stWords (s : Vbcrah.Stock) : List LW := [.inl (Vbcrah.ascii "stock"), .inl s.kind, .inr s.size, .inl (Vbcrah.ascii "day"), .inr s.day] ++ [.inl (Vbcrah.ascii "bags"), .inr s.bags]
def gText (b : Bool) : String := if b = true then "ground" else "beans"
def wText (b : Bool) : String := if b = true then "whole" else "parts"
def odWords (o : Vbcrah.Order) : List LW := ([.inl (Vbcrah.ascii "order"), .inl o.name, .inl o.kind, .inr o.size, .inl (Vbcrah.ascii "bags"), .inr o.bags] ++ [.inl (Vbcrah.ascii "due"), .inr o.due, .inl (Vbcrah.ascii "fresh"), .inr o.lo, .inl (Vbcrah.ascii "to"), .inr o.hi])
  ++ [.inl (Vbcrah.ascii (gText o.ground)), .inl (Vbcrah.ascii (wText o.whole))]
def liWords (b : Vbcrah.Book) : List LW := [.inl (Vbcrah.ascii "limits"), .inl (Vbcrah.ascii "grind"), .inr b.grind, .inl (Vbcrah.ascii "send"), .inr b.send]
theorem st_words_ok {s : Vbcrah.Stock} (h : StOk s) : ∀ x ∈ stWords s, wOk x := by
  intro x hx
  simp [stWords] at hx
  rcases hx with rfl | rfl | rfl | rfl | rfl | rfl | rfl
  · show (Vbcrah.ascii "stock").length ≤ 10; decide
  · exact h.kind
  · exact h.size
  · show (Vbcrah.ascii "day").length ≤ 10; decide
  · exact h.day
  · show (Vbcrah.ascii "bags").length ≤ 10; decide
  · exact h.bags
theorem od_words_ok {o : Vbcrah.Order} (h : OdOk o) : ∀ x ∈ odWords o, wOk x := by
  intro x hx
  simp [odWords] at hx
  rcases hx with rfl | rfl | rfl | rfl | rfl | rfl | rfl | rfl | rfl | rfl | rfl | rfl | rfl | rfl
  · show (Vbcrah.ascii "order").length ≤ 10; decide
  · exact h.name
  · exact h.kind
  · exact h.size
  · show (Vbcrah.ascii "bags").length ≤ 10; decide
  · exact h.bags
  · show (Vbcrah.ascii "due").length ≤ 10; decide
  · exact h.due
  · show (Vbcrah.ascii "fresh").length ≤ 10; decide
  · exact h.lo
  · show (Vbcrah.ascii "to").length ≤ 10; decide
  · exact h.hi
  · show (Vbcrah.ascii (gText o.ground)).length ≤ 10; cases o.ground <;> decide
  · show (Vbcrah.ascii (wText o.whole)).length ≤ 10; cases o.whole <;> decide
theorem li_words_ok {b : Vbcrah.Book} (h1 : b.grind ≤ 9999) (h2 : b.send ≤ 9999) : ∀ x ∈ liWords b, wOk x := by
  intro x hx
  simp [liWords] at hx
  rcases hx with rfl | rfl | rfl | rfl | rfl
  · show (Vbcrah.ascii "limits").length ≤ 10; decide
  · show (Vbcrah.ascii "grind").length ≤ 10; decide
  · exact h1
  · show (Vbcrah.ascii "send").length ≤ 10; decide
  · exact h2
theorem fn_stock_line (T : Txt K mg) : Fn P w K mg base CX0 "stock_line" 3 ["stock"] (spP StOk (fun a => [rSt K a]) (fun a => rBy (lineOfW (stWords a)))) := by
  obtain ⟨fd, F⟩ := T.d_stock_line
  refine mkFn T.g_stock_line F (b_stock_line F) (ok_body F sc_stock_line (len_P fun _ => rfl) fun cdv A outer s H vs Q E hr q => ?_)
  obtain ⟨st, B, hs, hp, hv, k⟩ := q
  obtain ⟨v1, rfl, h1⟩ := vs1 hv
  have b := fn_bytes_of (P := P) (w := w) (base := base) T
  refine wb_set 1 (ev_list (r := rW) (xs := [.inl (Vbcrah.ascii "stock"), .inl st.kind, .inr st.size, .inl (Vbcrah.ascii "day"), .inr st.day])
    (ea_cons (ev_bytes b (hr.mono (by decide))) (ea_cons (ep_st_kind (s := st) T (ep_var 0 rfl h1)).ev (ea_cons (ep_st_size (s := st) T (ep_var 0 rfl h1)).ev (ea_cons (ev_bytes b (hr.mono (by decide))) (ea_one (ep_st_day (s := st) T (ep_var 0 rfl h1)).ev))))) (by show 5 ≤ LB; decide)) hs (fun v B2 H2 g r => ?_) sc_stock_line.nd
  exact wb_ret (ev_call (fn_line_of T) hr (stWords st) (line_ok (by show 7 ≤ 20; decide) (st_words_ok hp)) (ea_one (ev_cat (ep_var 1 rfl r).ev (ev_list (r := rW) (xs := [.inl (Vbcrah.ascii "bags"), .inr st.bags]) (ea_cons (ev_bytes b (hr.mono (by decide))) (ea_one (ep_st_bags (s := st) T (ep_var 0 rfl (up g.bb h1))).ev)) (by show 2 ≤ LB; decide)) (by show 5 + 2 ≤ LB; decide)))) g.bh fun v B3 H3 g3 r3 => k v B3 H3 (g.trans g3) r3
theorem fn_order_line (T : Txt K mg) : Fn P w K mg base CX0 "order_line" 3 ["order"] (spP OdOk (fun a => [rOd K a]) (fun a => rBy (lineOfW (odWords a)))) := by
  obtain ⟨fd, F⟩ := T.d_order_line
  refine mkFn T.g_order_line F (b_order_line F) (ok_body F sc_order_line (len_P fun _ => rfl) fun cdv A outer s H vs Q E hr q => ?_)
  obtain ⟨o, B, hs, hp, hv, k⟩ := q
  obtain ⟨v1, rfl, h1⟩ := vs1 hv
  have b := fn_bytes_of (P := P) (w := w) (base := base) T
  refine wb_set 1 (ev_list (r := rW) (xs := [.inl (Vbcrah.ascii "order"), .inl o.name, .inl o.kind, .inr o.size, .inl (Vbcrah.ascii "bags"), .inr o.bags])
    (ea_cons (ev_bytes b (hr.mono (by decide))) (ea_cons (ep_od_name (o := o) T (ep_var 0 rfl h1)).ev (ea_cons (ep_od_kind (o := o) T (ep_var 0 rfl h1)).ev (ea_cons (ep_od_size (o := o) T (ep_var 0 rfl h1)).ev (ea_cons (ev_bytes b (hr.mono (by decide))) (ea_one (ep_od_bags (o := o) T (ep_var 0 rfl h1)).ev)))))) (by show 6 ≤ LB; decide)) hs (fun v B2 H2 g r => ?_) sc_order_line.nd
  have h2 := up g.bb h1
  refine wb_set 1 (ev_cat (ep_var 1 rfl r).ev (ev_list (r := rW) (xs := [.inl (Vbcrah.ascii "due"), .inr o.due, .inl (Vbcrah.ascii "fresh"), .inr o.lo, .inl (Vbcrah.ascii "to"), .inr o.hi])
    (ea_cons (ev_bytes b (hr.mono (by decide))) (ea_cons (ep_od_due (o := o) T (ep_var 0 rfl h2)).ev (ea_cons (ev_bytes b (hr.mono (by decide))) (ea_cons (ep_od_least (o := o) T (ep_var 0 rfl h2)).ev (ea_cons (ev_bytes b (hr.mono (by decide))) (ea_one (ep_od_most (o := o) T (ep_var 0 rfl h2)).ev)))))) (by show 6 ≤ LB; decide)) (by show 6 + 6 ≤ LB; decide)) g.bh (fun v B3 H3 g3 r3 => ?_) sc_order_line.nd
  have h3 := up g3.bb h2
  refine wb_set 2 (ev_ite (R := rS (Str.ofString (gText o.ground))) (et_val (ep_od_ground (o := o) T (ep_var 0 rfl h3)).ev) (fun e => ep_str.ev.is (by rw [e]; rfl)) fun e => ep_str.ev.is (by rw [e]; rfl)) g3.bh (fun v B4 H4 g4 r4 => ?_) sc_order_line.nd
  have h4 := up g4.bb h3
  have gl : (Vbcrah.ascii (gText o.ground)).length ≤ LB := by cases o.ground <;> decide
  have wl : (Vbcrah.ascii (wText o.whole)).length ≤ LB := by cases o.whole <;> decide
  exact wb_ret (ev_call (fn_line_of T) hr (odWords o) (line_ok (by show 14 ≤ 20; decide) (od_words_ok hp)) (ea_one (ev_cat (ep_var 1 rfl (up g4.bb r3)).ev (ev_list (r := rW) (xs := [.inl (Vbcrah.ascii (gText o.ground)), .inl (Vbcrah.ascii (wText o.whole))])
    (ea_cons ((ev_call b (hr.mono (by decide)) (Str.ofString (gText o.ground)) (by rw [cps_of]; exact gl) (ea_one (ep_var 2 rfl r4).ev)).is (by rw [cps_of]; rfl))
      (ea_one ((ev_call b (hr.mono (by decide)) (Str.ofString (wText o.whole)) (by rw [cps_of]; exact wl) (ea_one (ev_ite (R := rS (Str.ofString (wText o.whole))) (et_val (ep_od_whole (o := o) T (ep_var 0 rfl h4)).ev) (fun e => ep_str.ev.is (by rw [e]; rfl)) fun e => ep_str.ev.is (by rw [e]; rfl)))).is (by rw [cps_of]; rfl)))) (by show 2 ≤ LB; decide)) (by show 12 + 2 ≤ LB; decide)))) g4.bh fun v B5 H5 g5 r5 => k v B5 H5 (((g.trans g3).trans g4).trans g5) r5
/-! shown -/
structure BkOk (b : Vbcrah.Book) : Prop where
  ns : b.stocks.length ≤ 8
  no : b.orders.length ≤ 8
  st : ∀ s ∈ b.stocks, StOk s
  od : ∀ o ∈ b.orders, OdOk o
  grind : b.grind ≤ 9999
  send : b.send ≤ 9999
theorem flat_len {α : Type} {f : α → List Nat} {n : Nat} : ∀ {xs : List α}, (∀ x ∈ xs, (f x).length ≤ n) → (xs.flatMap f).length ≤ xs.length * n
  | [], _ => by simp
  | x :: xs, h => by
    have ih := flat_len (f := f) (n := n) (xs := xs) fun y hy => h y (by simp [hy])
    have h1 := h x (by simp)
    rw [List.flatMap_cons, List.length_append, show (x :: xs).length = xs.length + 1 from rfl, Nat.add_mul]
    omega
theorem flat_take {α : Type} {f : α → List Nat} {xs : List α} {j : Nat} {x : α} (h : xs[j]? = some x) : (xs.take (j + 1)).flatMap f = (xs.take j).flatMap f ++ f x := by
  rw [take_succ h, List.flatMap_append]; simp
theorem shown_eq (b : Vbcrah.Book) : Vbcrah.shown b = (b.stocks.flatMap fun s => lineOfW (stWords s)) ++ (b.orders.flatMap fun o => lineOfW (odWords o)) ++ lineOfW (liWords b) := by
  have e1 : ∀ s, lineOfW (stWords s) = Vbcrah.shownStock s ++ [10] := fun s => by unfold lineOfW; rw [spaced_eq]; rfl
  have e2 : ∀ o, lineOfW (odWords o) = Vbcrah.shownOrder o ++ [10] := fun o => by unfold lineOfW; rw [spaced_eq]; rfl
  have e3 : lineOfW (liWords b) = Vbcrah.spaced [Vbcrah.ascii "limits", Vbcrah.ascii "grind", Vbcrah.dec b.grind, Vbcrah.ascii "send", Vbcrah.dec b.send] ++ [10] := by unfold lineOfW; rw [spaced_eq]; rfl
  unfold Vbcrah.shown
  rw [e3, List.flatMap_append, List.flatMap_append, List.flatMap_map, List.flatMap_map, List.append_assoc]
  simp only [e1, e2]
  simp
theorem fn_shown (T : Txt K mg) : Fn P w K mg base CX0 "shown" 4 ["book"] (spP BkOk (fun a => [rBk K a]) (fun a => rBy (Vbcrah.shown a))) := by
  obtain ⟨fd, F⟩ := T.d_shown
  refine mkFn T.g_shown F (b_shown F) (ok_body F sc_shown (len_P fun _ => rfl) fun cdv A outer s H vs Q E hr q => ?_)
  obtain ⟨bk, B, hs, hp, hv, k⟩ := q
  obtain ⟨v1, rfl, h1⟩ := vs1 hv
  have b := fn_bytes_of (P := P) (w := w) (base := base) T
  refine wb_set 1 (ef_list (r := rN) (xs := []) ea_nil) hs (fun v B2 H2 g r => ?_) sc_shown.nd
  obtain ⟨f, vs, rfl, a0, al⟩ := acc_of hs g r fun x v C q => q
  cases al
  have eS := LB_line
  have l1 : (bk.stocks.flatMap fun s => lineOfW (stWords s)).length ≤ 8 * 221 := Nat.le_trans (flat_len (n := 221) fun s h => line_len (by show 7 ≤ 20; decide) (st_words_ok (hp.st s h))) (Nat.mul_le_mul hp.ns (Nat.le_refl _))
  have l2 : (bk.orders.flatMap fun s => lineOfW (odWords s)).length ≤ 8 * 221 := Nat.le_trans (flat_len (n := 221) fun s h => line_len (by show 14 ≤ 20; decide) (od_words_ok (hp.od s h))) (Nat.mul_le_mul hp.no (Nat.le_refl _))
  have l3 : (lineOfW (liWords bk)).length ≤ 221 := line_len (by show 5 ≤ 20; decide) (li_words_ok hp.grind hp.send)
  have eLB : LB = 1000000 := rfl
  refine wb_forG (ei_list (ep_bk_stocks T (ep_var 0 rfl h1)).ev (bk_stocks_len h1)) (pg_name (i := 2) sc_shown.nd rfl (Or.inl rfl)) (g.bb.trans g.bh) (fun Bk j σ' H' => ∃ cv vb, Acc B H Bk H' f cv ∧ All2 (fun (x : Nat) v => (rN x).p v Bk) ((bk.stocks.take j).flatMap fun s => lineOfW (stWords s)) cv ∧ σ' = [some v1, some (.ref f), vb, none]) PassesOwn.never rfl ?_ ?_ ?_ ?_
  · intro B3 H3 g3
    exact ⟨[], none, a0.step g3, .nil, rfl⟩
  · rintro Bk j σ' H' ⟨cv, vb, a, _⟩
    exact a.g.bh
  · rintro Bk j x v σ' H' B4 H4 sB ha ⟨cv, vb, a, ac, rfl⟩ g4 r4
    refine ⟨_, gn_name, ?_⟩
    have a4 := a.step g4
    have hm := List.mem_of_getElem? ha
    have hx : ((bk.stocks.take j).flatMap fun s => lineOfW (stWords s)).length + (lineOfW (stWords x)).length ≤ 8 * 221 := by
      rw [← List.length_append, ← flat_take ha]
      refine Nat.le_trans ?_ l1
      conv => rhs; rw [← List.take_append_drop (j + 1) bk.stocks, List.flatMap_append, List.length_append]
      omega
    refine wb_extend (r := rN) (ys := lineOfW (stWords x)) (at_var 1 rfl) a4.at_ a4.bf (by rw [ac.len]; omega) (ev_call (fn_stock_line T) hr x (hp.st x hm) (ea_one (ep_var 2 rfl r4).ev)) g4.bh fun us B6 H6 g6 r6 n6 => wb_nil ?_
    have a6 := (a4.step g6).put (ws := cv ++ us)
    exact ⟨B6, g4.bb.trans g6.bb, _, some v, a6, by rw [flat_take ha]; exact All2.app ac r6, rfl⟩
  rintro Bk σ' H' sB ⟨cv, vb, a, ac, rfl⟩
  rw [List.take_length] at ac
  have h2 := up sB h1
  refine wb_forG (ei_list (ep_bk_orders T (ep_var 0 rfl h2)).ev (bk_orders_len h2)) (pg_name (i := 3) sc_shown.nd rfl (Or.inl rfl)) a.g.bh (fun Bk2 j σ' H' => ∃ cv vc, Acc B H Bk2 H' f cv ∧ All2 (fun (x : Nat) v => (rN x).p v Bk2) ((bk.stocks.flatMap fun s => lineOfW (stWords s)) ++ (bk.orders.take j).flatMap fun s => lineOfW (odWords s)) cv ∧ σ' = [some v1, some (.ref f), vb, vc]) PassesOwn.never rfl ?_ ?_ ?_ ?_
  · intro B3 H3 g3
    exact ⟨cv, none, a.step g3, by rw [List.take_zero, List.flatMap_nil, List.append_nil]; exact ac, rfl⟩
  · rintro Bk j σ' H' ⟨cv, vb, a, _⟩
    exact a.g.bh
  · rintro Bk2 j x v σ' H' B4 H4 sB2 ha ⟨cv, vb, a, ac, rfl⟩ g4 r4
    refine ⟨_, gn_name, ?_⟩
    have a4 := a.step g4
    have hm := List.mem_of_getElem? ha
    have hx : ((bk.orders.take j).flatMap fun s => lineOfW (odWords s)).length + (lineOfW (odWords x)).length ≤ 8 * 221 := by
      rw [← List.length_append, ← flat_take ha]
      refine Nat.le_trans ?_ l2
      conv => rhs; rw [← List.take_append_drop (j + 1) bk.orders, List.flatMap_append, List.length_append]
      omega
    refine wb_extend (r := rN) (ys := lineOfW (odWords x)) (at_var 1 rfl) a4.at_ a4.bf (by rw [ac.len, List.length_append]; omega) (ev_call (fn_order_line T) hr x (hp.od x hm) (ea_one (ep_var 3 rfl r4).ev)) g4.bh fun us B6 H6 g6 r6 n6 => wb_nil ?_
    have a6 := (a4.step g6).put (ws := cv ++ us)
    exact ⟨B6, g4.bb.trans g6.bb, _, some v, a6, by rw [flat_take ha, ← List.append_assoc]; exact All2.app ac r6, rfl⟩
  rintro Bk2 σ' H' sB2 ⟨cv, vc, a, ac, rfl⟩
  rw [List.take_length] at ac
  obtain ⟨g9, r9⟩ := a.close (r := rN) (xs := (bk.stocks.flatMap fun s => lineOfW (stWords s)) ++ bk.orders.flatMap fun s => lineOfW (odWords s)) ac (by rw [List.length_append]; omega)
  have h3 := up g9.bb h1
  exact wb_ret (ev_cat (ep_var 1 rfl r9).ev (ev_call (fn_line_of T) (hr.mono (by decide)) (liWords bk) (line_ok (by show 5 ≤ 20; decide) (li_words_ok hp.grind hp.send)) (ea_one (ev_list (r := rW) (xs := liWords bk) (ea_cons (ev_bytes b (hr.mono (by decide))) (ea_cons (ev_bytes b (hr.mono (by decide))) (ea_cons (ep_bk_grind (b := bk) T (ep_var 0 rfl h3)).ev (ea_cons (ev_bytes b (hr.mono (by decide))) (ea_one (ep_bk_send (b := bk) T (ep_var 0 rfl h3)).ev))))) (by show 5 ≤ LB; decide)))) (by rw [List.length_append]; omega)) g9.bh fun v B7 H7 g7 r => k v B7 H7 (g9.trans g7) (Fb.cv (congrArg rBy (shown_eq bk).symm) r)
end
end Fb
/-! FbL: sorted lists of data; all sets -/
namespace Fb
open PySem PySem.Spec PyProof.Rows L2
/-- sorted(xs), xs a list that reads as data; φ: whatever is known of an item -/
def rSortedD (K : PySem.W.Frag) {β : Type} (enc : β → PyData) : List V → Hp → VK → Prop := fun vs H Q => ∃ (φ : V → β → Prop) (a : Addr) (xs : List V) (bs : List β), vs = [V.ref a] ∧ SqL K H a xs ∧ All2 (fun b x => φ x b) bs xs ∧ All2 (fun b x => Dp K H x (enc b)) bs xs ∧ PySem.W.AllAlike (bs.map enc) ∧ PySem.W.Sortable (bs.map enc) ∧ (∀ b ∈ bs, (enc b).depth ≤ 8) ∧
  ∀ ys p, All2 (fun b y => φ y b) (bs.mergeSort (PySem.W.dataLe false enc)) ys → H p = none → Q (.ref p) (upd H p (.lst ys))
theorem each_vals {β : Type} {φ : V → β → Prop} : ∀ {bs : List β} {xs : List V} {us : List Value}, All2 (fun b x => φ x b) bs xs → Vals xs us → PySem.W.EachIs (fun u b => ∃ x, RelV x u ∧ φ x b) us bs
  | _, _, _, .nil, .nil => .nil
  | _, _, _, .cons h t, .cons r s => .cons ⟨_, r, h⟩ (each_vals t s)
theorem vals_each {β : Type} {φ : V → β → Prop} : ∀ {us : List Value} {bs : List β}, PySem.W.EachIs (fun u b => ∃ x, RelV x u ∧ φ x b) us bs → ∃ xs, Vals xs us ∧ All2 (fun b x => φ x b) bs xs
  | _, _, .nil => ⟨[], .nil, .nil⟩
  | _, _, .cons ⟨x, r, h⟩ t => by
    obtain ⟨xs, h1, h2⟩ := vals_each t
    exact ⟨x :: xs, .cons r h1, .cons h h2⟩
theorem cr_sortedD {X : Cx} {β : Type} {enc : β → PyData} (hu : X.A.units + 64 < cLine) : CallR X (.builtin "sorted") (rSortedD X.K enc) := by
  intro pins s σ H vs us Q I r h
  obtain ⟨φ, a, xs, bs, rfl, hs, h1, h2, al, so, dp, q⟩ := h
  obtain ⟨its, rv, hl, hz⟩ := I.list hs
  rw [Vals.ref1 r]
  have rd : PySem.W.EachIs (fun v b => ∃ as, Reads s.heap v (enc b) as) its bs := (each_vals (φ := fun x b => Dp X.K H x (enc b)) h2 rv).mono fun u b ⟨x, rx, d⟩ => Dp.reads I _ x u d rx
  refine PySem.W.sorted_data (vs := its) hl.isList (each_vals h1 rv) rd al so (by rw [← h1.len]; exact hz) (fun b hb => by have := dp b hb; omega) fun out ho eo => ?_
  obtain ⟨ys, v1, v2⟩ := vals_each eo
  obtain ⟨ep, he'⟩ := PyProof.Rows.sortedAll_at s.heap its out.toArray
  exact ⟨.ref _, upd H (s.heap.objs.size + 1) (.lst ys), I.laid (t' := s.toks) (fun _ _ => PyProof.Rows.sortedAll_old) (Nat.le_succ _) ⟨by rw [v1.length, ho, ← h1.len]; exact hz, out, ep, v1, he'⟩, rfl, q _ _ v2 (I.hok.fresh (Nat.le_succ _))⟩
end Fb
/-! FbM2: all sets are the sorted ones (plain) -/
namespace Fb
open PySem PySem.Spec PyProof.Rows L2
def rowOf (n bits : Nat) : List Nat := (List.range n).filter fun p => (bits / 2 ^ p) &&& 1 == 1
def pairsOf (n : Nat) : List (Nat × List Nat) := (List.range (2 ^ n)).map fun bits => ((rowOf n bits).length, rowOf n bits)
def pairsDue (n : Nat) : List (Nat × List Nat) := (Vbcrah.sets n).map fun r => (r.length, r)
def encP (p : Nat × List Nat) : PyData := .tuple [.int (p.1 : Int), dB p.2]
def ltB : List Nat → List Nat → Bool
  | _, [] => false
  | [], _ :: _ => true
  | x :: xs, y :: ys => if x = y then ltB xs ys else decide (x < y)
def leP (p q : Nat × List Nat) : Bool := !(if q.1 = p.1 then (if q.2 = p.2 then false else ltB q.2 p.2) else decide (q.1 < p.1))
theorem ltB_tri : ∀ xs ys : List Nat, ltB xs ys = false → ltB ys xs = false → xs = ys
  | [], [], _, _ => rfl
  | [], _ :: _, h, _ => by simp [ltB] at h
  | _ :: _, [], _, h => by simp [ltB] at h
  | x :: xs, y :: ys, h1, h2 => by
    unfold ltB at h1 h2
    by_cases e : x = y
    · subst e
      rw [if_pos rfl] at h1 h2
      rw [ltB_tri xs ys h1 h2]
    · rw [if_neg e] at h1
      rw [if_neg (Ne.symm e)] at h2
      have := of_decide_eq_false h1
      have := of_decide_eq_false h2
      omega
theorem rowLt_dB : ∀ xs ys : List Nat, PySem.W.rowLt (xs.map fun n : Nat => .int (n : Int)) (ys.map fun n : Nat => .int (n : Int)) = ltB xs ys := by
  intro xs ys
  have e := PySem.W.dataLt_ints (xs.map fun n : Nat => (n : Int)) (ys.map fun n : Nat => (n : Int))
  rw [List.map_map, List.map_map] at e
  refine Eq.trans e ?_
  clear e
  induction xs generalizing ys with
  | nil => cases ys with
    | nil => simp [ltB]
    | cons y ys => simp [ltB]
  | cons x xs ih => cases ys with
    | nil => simp [ltB]
    | cons y ys =>
      rw [List.map_cons, List.map_cons]
      unfold ltB
      by_cases h : x = y
      · rw [if_pos h, ← ih ys]
        simp [h, List.cons_lt_cons_iff]
      · rw [if_neg h]
        have : ¬ ((x : Int) = (y : Int)) := by omega
        simp [List.cons_lt_cons_iff, this]
theorem leP_eq (p q : Nat × List Nat) : PySem.W.dataLe false encP p q = leP p q := by
  rw [PySem.W.dataLe_eq]
  show (!PySem.W.dataLt (encP q) (encP p)) = _
  unfold encP leP
  rw [PySem.W.dataLt_pair (by simp [PySem.W.alike]) (by
    show PySem.W.alike (dB q.2) (dB p.2) = true
    unfold dB
    rw [PySem.W.alike]
    have := PySem.W.alike_ints (q.2.map fun n : Nat => (n : Int)) (p.2.map fun n : Nat => (n : Int))
    rw [List.map_map, List.map_map] at this
    exact this), eqv_dB, PySem.W.dataLt_int]
  have e : PySem.W.dataLt (dB q.2) (dB p.2) = ltB q.2 p.2 := rowLt_dB _ _
  rw [e, PyData.eqv]
  congr 1
  by_cases h : q.1 = p.1
  · have h' : ((q.1 : Int) == (p.1 : Int)) = true := by rw [h]; exact beq_self_eq_true _
    rw [h', if_pos rfl, if_pos h]
    by_cases k : q.2 = p.2
    · rw [if_pos k, if_pos (decide_eq_true k)]
    · rw [if_neg k, if_neg (by rw [decide_eq_false k]; decide)]
  · have h' : ((q.1 : Int) == (p.1 : Int)) = false := by rw [beq_eq_false_iff_ne]; omega
    rw [h', if_neg (by decide), if_neg h, dec_lt]
theorem leP_anti {p q : Nat × List Nat} (h1 : leP p q = true) (h2 : leP q p = true) : p = q := by
  unfold leP at h1 h2
  rw [Bool.not_eq_true'] at h1 h2
  by_cases h : q.1 = p.1
  · rw [if_pos h] at h1
    rw [if_pos h.symm] at h2
    by_cases k : q.2 = p.2
    · exact Prod.ext h.symm k.symm
    · rw [if_neg k] at h1
      rw [if_neg (Ne.symm k)] at h2
      exact absurd (ltB_tri _ _ h1 h2) k
  · rw [if_neg h] at h1
    rw [if_neg (Ne.symm h)] at h2
    have := of_decide_eq_false h1
    have := of_decide_eq_false h2
    omega
def chk (n : Nat) : Bool := (pairsDue n).isPerm (pairsOf n) && decide ((pairsDue n).Pairwise fun p q => leP p q = true)
theorem chk_all : (List.range 9).all chk = true := by decide +kernel
theorem sorted_pairs {n : Nat} (h : n ≤ 8) : (pairsOf n).mergeSort (PySem.W.dataLe false encP) = pairsDue n := by
  have c := List.all_eq_true.mp chk_all n (List.mem_range.mpr (by omega))
  unfold chk at c
  rw [Bool.and_eq_true] at c
  have p : (pairsDue n).Perm (pairsOf n) := List.isPerm_iff.mp c.1
  have w := of_decide_eq_true c.2
  refine List.Perm.eq_of_pairwise (le := fun p q => leP p q = true) (fun a b _ _ => leP_anti) ?_ w ((List.mergeSort_perm _ _).trans p.symm)
  have := PySem.W.sort_pairwise (le := PySem.W.dataLe false encP) (PySem.W.sortLe_total _ _ _) (pairsOf n)
  exact this.imp fun {a b} z => by rw [← leP_eq]; exact z
end Fb
/-! FbN: all_sets, stocks_for, orders_on, Ways -/
namespace Fb
open PySem PySem.Spec PyProof.Rows L2
section
variable {P : Program} {w : World} {K : PySem.W.Frag} {mg : Str → Option Value} {base : Heap}
theorem bit_nat (a : Nat) : Builtin.bitAnd (a : Int) 1 = ((a &&& 1 : Nat) : Int) := by
  unfold Builtin.bitAnd
  rw [decide_eq_true (show (0 : Int) ≤ (a : Int) by omega)]
  rfl
theorem bit_test (b p : Nat) : decide (Builtin.bitAnd ((b : Int) / 2 ^ ((p : Nat) : Int).toNat) 1 = 1) = (b / 2 ^ p &&& 1 == 1) := by
  have e : (b : Int) / 2 ^ ((p : Nat) : Int).toNat = ((b / 2 ^ p : Nat) : Int) := by
    rw [Int.toNat_natCast, Int.natCast_ediv]
    congr 1
  rw [e, bit_nat]
  by_cases h : b / 2 ^ p &&& 1 = 1
  · rw [h]; rfl
  · rw [decide_eq_false (by omega), beq_eq_false_iff_ne.mpr h]
def rPr (p : Nat × List Nat) : Rp := rT [rN p.1, rBy p.2]
theorem dp_pair {K : PySem.W.Frag} {B H : Hp} {p : Nat × List Nat} {v : V} (s : Same B H) (h : (rPr p).p v B) : Dp K H v (encP p) := by
  obtain ⟨t, vs, rfl, ht, hv⟩ := h
  obtain ⟨v1, v2, rfl, h1, h2⟩ := vs2 hv
  cases (show v1 = V.int p.1 from h1)
  exact .tup (SqT.of (s _ _ ht)) (.cons (.int _) (.cons (dp_dB s h2) .nil))
theorem depth_P (p : Nat × List Nat) : (encP p).depth ≤ 8 := by
  unfold encP
  rw [PyData.depth]
  unfold dB
  rw [PyData.depthAll, PyData.depthAll, PyData.depthAll, PyData.depth, PyData.depth, depth_ints]
  decide
theorem alike_P : ∀ p q : Nat × List Nat, PySem.W.alike (encP p) (encP q) = true := fun p q => by
  unfold encP dB
  rw [PySem.W.alike, PySem.W.alikeAll, PySem.W.alikeAll, PySem.W.alike, PySem.W.alikeAll, PySem.W.alike]
  have := PySem.W.alike_ints (p.2.map fun n : Nat => (n : Int)) (q.2.map fun n : Nat => (n : Int))
  rw [List.map_map, List.map_map] at this
  show (true && (PySem.W.alikeAll (p.2.map (PyData.int ∘ fun n : Nat => (n : Int))) (q.2.map (PyData.int ∘ fun n : Nat => (n : Int))) && true)) = true
  rw [this]; rfl
theorem ev_sortP {X : Cx} {e : Expr} {σ : L2.St} {B : Hp} {p pos : Pos} {bs : List (Nat × List Nat)} (hu : X.A.units + 64 < cLine) (hm : X.mg "sorted" = none) (h : Ev X e σ B (rL rPr bs)) (hl : bs.length ≤ LB) (hg : Gl X "sorted" := by rfl)
    (he : starEach (e :: []) X.env = (false, eval e X.env) :: starEach [] X.env := by rfl) : Ev X (.Call (.Name "sorted" p) [e] [] pos) σ B (rL rPr (bs.mergeSort (PySem.W.dataLe false encP))) := fun H s Q kk => by
  refine we_of (pe_callB (cr_sortedD (enc := encP) hu) hg hm (by decide +kernel) wa_pa (by decide) (by decide) he (by rfl)) ((ea_one h he) H s _ fun vs B2 H2 g r1 => ?_)
  obtain ⟨v, rfl, q, ws, e1, h1, l1, a1⟩ := r1.one
  refine ⟨fun v b => (rPr b).p v B2, q, ws, bs, by rw [e1], sq_of g.bh h1, a1, a1.imp fun b v r => dp_pair g.bh r, PySem.W.AllAlike.of alike_P, PySem.W.Sortable.tuples fun b => ⟨_, _, rfl⟩, fun b _ => depth_P b, fun ys z ay hz => ?_⟩
  obtain ⟨g4, r4⟩ := mk_list (r := rPr) (xs := bs.mergeSort (PySem.W.dataLe false encP)) (Gr.refl g.bh) hz (by rw [(List.mergeSort_perm _ _).length_eq]; exact hl) ay
  exact kk _ _ _ (g.trans g4) r4.1
/-! all_sets -/
theorem sets_len {n : Nat} (h : n ≤ 8) : (Vbcrah.sets n).length = 2 ^ n := by
  have e := congrArg List.length (sorted_pairs h)
  rw [(List.mergeSort_perm _ _).length_eq] at e
  unfold pairsOf pairsDue at e
  rw [List.length_map, List.length_map, List.length_range] at e
  exact e.symm
theorem pow_le {n : Nat} (h : n ≤ 8) : 2 ^ n ≤ 256 := Nat.pow_le_pow_right (n := 2) (by decide) h
theorem fn_all_sets (T : Txt K mg) : Fn P w K mg base CX0 "all_sets" 1 ["many"] (spP (fun n : Nat => n ≤ 8) (fun n => [rN n]) (fun n => rL rBy (Vbcrah.sets n))) := by
  obtain ⟨fd, F⟩ := T.d_all_sets
  refine mkFn T.g_all_sets F (b_all_sets F) (ok_body F sc_all_sets (len_P fun _ => rfl) fun cdv A outer s H vs Q E hr q => ?_)
  obtain ⟨n, B, hs, hp, hv, k⟩ := q
  obtain ⟨v1, rfl, h1⟩ := vs1 hv
  have hpw := pow_le hp
  have eLB : LB = 1000000 := rfl
  have eS := LB_line
  refine wb_set 1 (ef_list (r := rPr) (xs := []) ea_nil) hs (fun v B2 H2 g r => ?_) sc_all_sets.nd
  obtain ⟨⟨f, vs, rfl, hf, _, al⟩, f', ef, nf⟩ := r
  cases ef
  cases al
  have a0 : Acc B H B H2 f [] := ⟨⟨g.hh, Same.refl B, g.bb.trans g.bh, fun _ _ z => z⟩, (by
    cases e : H f with
    | none => rfl
    | some o => have := g.fr f (by rw [e]; exact fun z => nomatch z) nf; rw [this] at hf; cases hf), nf, g.bh _ _ hf⟩
  refine wb_forG (ei_range1 (n := 2 ^ n) T.f_range ((ev_shl ep_int.ev (ep_var 0 rfl h1).ev ⟨by omega, by omega, by decide⟩).is (by
      rw [Int.toNat_natCast, Int.one_mul]
      congr 1)) (by omega)) (pg_name (i := 2) sc_all_sets.nd rfl (Or.inr rfl)) (g.bb.trans g.bh) (fun Bk j σ' H' => ∃ cv vb vr, Acc B H Bk H' f cv ∧ All2 (fun p v => (rPr p).p v Bk) (((List.range (2 ^ n)).take j).map fun bits => ((rowOf n bits).length, rowOf n bits)) cv ∧ σ' = [some v1, some (.ref f), vb, vr, none, none]) PassesOwn.never rfl ?_ ?_ ?_ ?_
  · intro B3 H3 g3
    exact ⟨[], none, none, a0.step g3, .nil, rfl⟩
  · rintro Bk j σ' H' ⟨cv, vb, vr, a, _⟩
    exact a.g.bh
  · rintro Bk j x v σ' H' B4 H4 sB ha ⟨cv, vb, vr, a, ac, rfl⟩ g4 r4
    refine ⟨_, gn_name, ?_⟩
    have a4 := a.step g4
    refine wb_lc (own := [("place", 5)]) (r := fun p : Nat => rN p) (q := rN) (xs := List.range n) (cc := fun p => x / 2 ^ p &&& 1 == 1) (f := fun p => p) 3 rfl sc_all_sets.nd (ei_range1 (n := n) T.f_range (ep_var 0 rfl (up (sB.trans g4.bb) h1)).ev (by omega)) (blkOk_by (N := N_all_sets) (sc := defScope s_all_sets) (by decide +kernel)) (fun _ _ _ _ _ => pg_name (i := 5) sc_all_sets.nd rfl (Or.inl rfl)) (fun p hpm v B1 H1 s1 s2 r1 => ⟨_, gn_name, wipe1 _ _ _, fun _ _ _ _ _ => ⟨ets_one ?_, fun _ => (ep_var 5 rfl r1).ev⟩⟩) g4.bh ?_
    · exact (et_eq (ev_bitand (ev_shr (ep_var 2 rfl (up s1 r4)).ev (ep_var 5 rfl r1).ev (by omega)) ep_int.ev) ep_int.ev).is (bit_test x p)
    · intro u B5 H5 g5 r5
      rw [List.map_id'] at r5
      have r6 : (rBy (rowOf n x)).p u B5 := r5.1
      have a5 := a4.step g5
      have hx : x < 2 ^ n := by have := List.mem_of_getElem? ha; rwa [List.mem_range] at this
      have hj : j < 2 ^ n := by have := (List.getElem?_eq_some_iff.mp ha).1; rwa [List.length_range] at this
      refine wb_append (at_var 1 rfl) a5.at_ a5.bf (by rw [ac.len, List.length_map, List.length_take, List.length_range]; omega) (ev_tup (Rs := [rN (rowOf n x).length, rBy (rowOf n x)]) (ea_cons (ev_len T.f_len (ep_var 3 rfl r6).ev) (ea_one (ep_var 3 rfl r6).ev)) (by show 2 ≤ LB; decide)) g5.bh fun z B6 H6 g6 r7 n6 => wb_nil ?_
      refine ⟨B6, (g4.bb.trans g5.bb).trans g6.bb, _, some v, some u, (a5.step g6).put (ws := cv ++ [z]), ?_, rfl⟩
      rw [take_succ ha, List.map_append]
      exact (ac.imp fun p v r => up (R := rPr p) ((g4.bb.trans g5.bb).trans g6.bb) r).app (.one r7)
  · rintro Bk σ' H' sB ⟨cv, vb, vr, a, ac, rfl⟩
    rw [List.length_range, List.take_of_length_le (by rw [List.length_range]; exact Nat.le_refl _)] at ac
    obtain ⟨g9, r9⟩ := a.close (r := rPr) (xs := pairsOf n) ac (by unfold pairsOf; rw [List.length_map, List.length_range]; omega)
    refine wb_ret (Ev.unF (ef_map2 4 3 (by decide) (ρ := fun p : Nat × List Nat => rN p.1) (τ := fun p => rBy p.2) (q := rBy) (f := fun p => p.2) rfl sc_all_sets.nd (ei_list (r := fun a : Nat × List Nat => rT [rN a.1, rBy a.2]) (ev_sortP (bs := pairsOf n) hr.units T.f_sorted (ep_var 1 rfl r9).ev (ll r9)) (by rw [(List.mergeSort_perm _ _).length_eq]; exact ll r9)) (blkOk_by (N := N_all_sets) (sc := defScope s_all_sets) (by decide +kernel)) (fun _ _ _ _ _ => pg_tup rfl (pgs_cons (pg_name (i := 4) sc_all_sets.nd rfl (Or.inl rfl)) (pgs_cons (pg_name (i := 3) sc_all_sets.nd rfl (Or.inl rfl)) pgs_nil))) ?_)) g9.bh fun v B7 H7 g7 r => k v B7 H7 (g9.trans g7) (Fb.cv (congrArg (rL rBy) ?_) r)
    · intro p hpm v u B1 s1 r1 r2 _ _ _ _ _
      exact (ep_var 3 rfl r2).ev
    · rw [sorted_pairs hp]
      unfold pairsDue
      rw [List.map_map]
      exact List.map_id' _
end
/-! x = [.. for .. in ..], x a plain local name -/
section
variable {K : PySem.W.Frag} {mg : Str → Option Value} {X : Cx} {e : Expr} {σ : L2.St} {B : Hp} {pos : Pos} {o : Vbcrah.Order} {st : Vbcrah.Stock}
theorem ev_od_kind (T : Txt K mg) (h : Ev X e σ B (rOd K o)) (hb : attributeBase e "kind" X.env (eval e X.env) = eval e X.env := by rfl) (hK : X.K = K := by rfl) : Ev X (.Attribute e "kind" pos) σ B (rBy o.kind) := by subst hK; exact ev_fld T.c_Order T.n_Order_kind h rfl hb
theorem ev_od_bags (T : Txt K mg) (h : Ev X e σ B (rOd K o)) (hb : attributeBase e "bags" X.env (eval e X.env) = eval e X.env := by rfl) (hK : X.K = K := by rfl) : Ev X (.Attribute e "bags" pos) σ B (rN o.bags) := by subst hK; exact ev_fld T.c_Order T.n_Order_bags h rfl hb
theorem ev_od_due (T : Txt K mg) (h : Ev X e σ B (rOd K o)) (hb : attributeBase e "due" X.env (eval e X.env) = eval e X.env := by rfl) (hK : X.K = K := by rfl) : Ev X (.Attribute e "due" pos) σ B (rN o.due) := by subst hK; exact ev_fld T.c_Order T.n_Order_due h rfl hb
theorem ev_od_ground (T : Txt K mg) (h : Ev X e σ B (rOd K o)) (hb : attributeBase e "is_ground" X.env (eval e X.env) = eval e X.env := by rfl) (hK : X.K = K := by rfl) : Ev X (.Attribute e "is_ground" pos) σ B (rB o.ground) := by subst hK; exact ev_fld T.c_Order T.n_Order_is_ground h rfl hb
theorem ev_od_whole (T : Txt K mg) (h : Ev X e σ B (rOd K o)) (hb : attributeBase e "is_whole" X.env (eval e X.env) = eval e X.env := by rfl) (hK : X.K = K := by rfl) : Ev X (.Attribute e "is_whole" pos) σ B (rB o.whole) := by subst hK; exact ev_fld T.c_Order T.n_Order_is_whole h rfl hb
theorem ev_st_bags (T : Txt K mg) (h : Ev X e σ B (rSt K st)) (hb : attributeBase e "bags" X.env (eval e X.env) = eval e X.env := by rfl) (hK : X.K = K := by rfl) : Ev X (.Attribute e "bags" pos) σ B (rN st.bags) := by subst hK; exact ev_fld T.c_Stock T.n_Stock_bags h rfl hb
theorem ev_st_day (T : Txt K mg) (h : Ev X e σ B (rSt K st)) (hb : attributeBase e "day" X.env (eval e X.env) = eval e X.env := by rfl) (hK : X.K = K := by rfl) : Ev X (.Attribute e "day" pos) σ B (rN st.day) := by subst hK; exact ev_fld T.c_Stock T.n_Stock_day h rfl hb
theorem ev_st_size (T : Txt K mg) (h : Ev X e σ B (rSt K st)) (hb : attributeBase e "size" X.env (eval e X.env) = eval e X.env := by rfl) (hK : X.K = K := by rfl) : Ev X (.Attribute e "size" pos) σ B (rN st.size) := by subst hK; exact ev_fld T.c_Stock T.n_Stock_size h rfl hb
end

section
variable {X : Cx} {iter elt cnd : Expr} {σ : L2.St} {B H : Hp} {pos p : Pos} {α β : Type} {r : α → Rp} {q : β → Rp} {xs : List α} {scope : Scope} {x y z : Str} {px py pz : Pos} {kk : Nat} {rest : List Stmt} {D : L2.Ends}
theorem wb_map (k i : Nat) {f : α → β} (hc : X.calm = true) (hN : X.N.Nodup) (hi : EvI X (.Name x px) iter σ B xs r) (ok : BlkOk X.N X.env.scope scope [(x, i)])
    (hg : ∀ (s : Shared) (H : Hp) (C : Addr) (cl : List (Str × Addr)) (fp : List Addr), PG (bk X scope s H C cl fp) (.Name x px) (gName i))
    (t : ∀ a ∈ xs, ∀ v B1, Same B B1 → (r a).p v B1 → Ctxs X scope fun Z => Ev Z elt (slotsA σ i v) B1 (q (f a))) (s : Same B H)
    (kn : ∀ v B2 H2, Gr B H B2 H2 → (rLF B q (xs.map f)).p v B2 → WB X rest D (σ.set k (some v)) H2) (hy : X.N[k]? = some z := by rfl) (hyl : X.env.scope.names.lookup z = some .local := by rfl)
    (hsw : swapsWith (.ListComp elt [⟨.Name x px, iter, [], 0⟩] scope p) (some (.Name z pz)) pos.line X.env = pure true := by exact sw_true rfl rfl rfl (by decide +kernel)) : WB X (.Assign [.Name z pz] (.ListComp elt [⟨.Name x px, iter, [], 0⟩] scope p) pos :: rest) D σ H :=
  wb_lc (cc := fun _ => true) (f := f) (q := q) k hc hN hi ok hg (fun a ha v B1 H1 s1 s2 r1 => ⟨_, gn_name, wipe1 σ i v, fun s0 H0 C cl fp => ⟨ets_nil, fun _ => t a ha v B1 s1 r1 s0 H0 C cl fp⟩⟩) s (fun v B2 H2 g r => kn v B2 H2 g (by rw [filter_all] at r; exact r)) hy hyl hsw
theorem wb_fmap (k i : Nat) {c : α → Bool} {f : α → β} (hc : X.calm = true) (hN : X.N.Nodup) (hi : EvI X (.Name x px) iter σ B xs r) (ok : BlkOk X.N X.env.scope scope [(x, i)])
    (hg : ∀ (s : Shared) (H : Hp) (C : Addr) (cl : List (Str × Addr)) (fp : List Addr), PG (bk X scope s H C cl fp) (.Name x px) (gName i))
    (t : ∀ a ∈ xs, ∀ v B1, Same B B1 → (r a).p v B1 → Ctxs X scope fun Z => EvT Z cnd (slotsA σ i v) B1 (c a) ∧ (c a = true → Ev Z elt (slotsA σ i v) B1 (q (f a)))) (s : Same B H)
    (kn : ∀ v B2 H2, Gr B H B2 H2 → (rLF B q ((xs.filter c).map f)).p v B2 → WB X rest D (σ.set k (some v)) H2) (hy : X.N[k]? = some z := by rfl) (hyl : X.env.scope.names.lookup z = some .local := by rfl)
    (hsw : swapsWith (.ListComp elt [⟨.Name x px, iter, [cnd], 0⟩] scope p) (some (.Name z pz)) pos.line X.env = pure true := by exact sw_true rfl rfl rfl (by decide +kernel)) : WB X (.Assign [.Name z pz] (.ListComp elt [⟨.Name x px, iter, [cnd], 0⟩] scope p) pos :: rest) D σ H :=
  wb_lc (cc := c) (f := f) (q := q) k hc hN hi ok hg (fun a ha v B1 H1 s1 s2 r1 => ⟨_, gn_name, wipe1 σ i v, fun s0 H0 C cl fp => ⟨ets_one (t a ha v B1 s1 r1 s0 H0 C cl fp).1, (t a ha v B1 s1 r1 s0 H0 C cl fp).2⟩⟩) s kn hy hyl hsw
variable {ρ τ : α → Rp}
theorem wb_fmap2 (k i j : Nat) (hij : i ≠ j) {c : α → Bool} {f : α → β} (hc : X.calm = true) (hN : X.N.Nodup) (hi : EvI X (.Tuple [.Name x px, .Name y py] kk p) iter σ B xs (fun a => rT [ρ a, τ a])) (ok : BlkOk X.N X.env.scope scope [(x, i), (y, j)])
    (hg : ∀ (s : Shared) (H : Hp) (C : Addr) (cl : List (Str × Addr)) (fp : List Addr), PG (bk X scope s H C cl fp) (.Tuple [.Name x px, .Name y py] kk p) (gTup X.K 2 (gCons (gName i) (gCons (gName j) gNil))))
    (t : ∀ a ∈ xs, ∀ v u B1, Same B B1 → (ρ a).p v B1 → (τ a).p u B1 → Ctxs X scope fun Z => EvT Z cnd (slotsB σ i j v u) B1 (c a) ∧ (c a = true → Ev Z elt (slotsB σ i j v u) B1 (q (f a)))) {p2 : Pos} (s : Same B H)
    (kn : ∀ v B2 H2, Gr B H B2 H2 → (rLF B q ((xs.filter c).map f)).p v B2 → WB X rest D (σ.set k (some v)) H2) (hy : X.N[k]? = some z := by rfl) (hyl : X.env.scope.names.lookup z = some .local := by rfl)
    (hsw : swapsWith (.ListComp elt [⟨.Tuple [.Name x px, .Name y py] kk p, iter, [cnd], 0⟩] scope p2) (some (.Name z pz)) pos.line X.env = pure true := by exact sw_true rfl rfl rfl (by decide +kernel)) : WB X (.Assign [.Name z pz] (.ListComp elt [⟨.Tuple [.Name x px, .Name y py] kk p, iter, [cnd], 0⟩] scope p2) pos :: rest) D σ H :=
  wb_lc (cc := c) (f := f) (q := q) k hc hN hi ok hg (fun a ha v B1 H1 s1 s2 r1 => by
    obtain ⟨T, ws, e1, hT, hv⟩ := r1
    obtain ⟨v1, v2, rfl, h1, h2⟩ := vs2 hv
    exact ⟨_, gn_pair e1 hT s2, wipe2 σ i j v1 v2 hij, fun s0 H0 C cl fp => ⟨ets_one (t a ha v1 v2 B1 s1 h1 h2 s0 H0 C cl fp).1, (t a ha v1 v2 B1 s1 h1 h2 s0 H0 C cl fp).2⟩⟩) s kn hy hyl hsw
theorem wb_map2 (k i j : Nat) (hij : i ≠ j) {f : α → β} (hc : X.calm = true) (hN : X.N.Nodup) (hi : EvI X (.Tuple [.Name x px, .Name y py] kk p) iter σ B xs (fun a => rT [ρ a, τ a])) (ok : BlkOk X.N X.env.scope scope [(x, i), (y, j)])
    (hg : ∀ (s : Shared) (H : Hp) (C : Addr) (cl : List (Str × Addr)) (fp : List Addr), PG (bk X scope s H C cl fp) (.Tuple [.Name x px, .Name y py] kk p) (gTup X.K 2 (gCons (gName i) (gCons (gName j) gNil))))
    (t : ∀ a ∈ xs, ∀ v u B1, Same B B1 → (ρ a).p v B1 → (τ a).p u B1 → Ctxs X scope fun Z => Ev Z elt (slotsB σ i j v u) B1 (q (f a))) {p2 : Pos} (s : Same B H)
    (kn : ∀ v B2 H2, Gr B H B2 H2 → (rLF B q (xs.map f)).p v B2 → WB X rest D (σ.set k (some v)) H2) (hy : X.N[k]? = some z := by rfl) (hyl : X.env.scope.names.lookup z = some .local := by rfl)
    (hsw : swapsWith (.ListComp elt [⟨.Tuple [.Name x px, .Name y py] kk p, iter, [], 0⟩] scope p2) (some (.Name z pz)) pos.line X.env = pure true := by exact sw_true rfl rfl rfl (by decide +kernel)) : WB X (.Assign [.Name z pz] (.ListComp elt [⟨.Tuple [.Name x px, .Name y py] kk p, iter, [], 0⟩] scope p2) pos :: rest) D σ H :=
  wb_lc (cc := fun _ => true) (f := f) (q := q) k hc hN hi ok hg (fun a ha v B1 H1 s1 s2 r1 => by
    obtain ⟨T, ws, e1, hT, hv⟩ := r1
    obtain ⟨v1, v2, rfl, h1, h2⟩ := vs2 hv
    exact ⟨_, gn_pair e1 hT s2, wipe2 σ i j v1 v2 hij, fun s0 H0 C cl fp => ⟨ets_nil, fun _ => t a ha v1 v2 B1 s1 h1 h2 s0 H0 C cl fp⟩⟩) s (fun v B2 H2 g r => kn v B2 H2 g (by rw [filter_all] at r; exact r)) hy hyl hsw
end
section
variable {P : Program} {w : World} {K : PySem.W.Frag} {mg : Str → Option Value} {base : Heap}
/-! stocks_for, orders_on -/
theorem zi_eq {α : Type} (d : α) (xs : List α) : xs.zipIdx = (List.range xs.length).map fun j => (xs.getD j d, j) := by
  refine List.ext_getElem? fun i => ?_
  rw [List.getElem?_zipIdx, List.getElem?_map]
  by_cases h : i < xs.length
  · rw [List.getElem?_range h]
    simp [h]
  · rw [List.getElem?_eq_none (by omega), List.getElem?_eq_none (by rw [List.length_range]; omega)]
    rfl
theorem zi_filter {α : Type} (d : α) (xs : List α) (p : α → Bool) : (xs.zipIdx.filter fun z => p z.1).map (fun z => z.2) = (List.range xs.length).filter fun j => p (xs.getD j d) := by
  rw [zi_eq d, List.filter_map, List.map_map]
  exact List.map_id' _
def rightOf (b : Vbcrah.Book) (w : List Nat) : List Nat := (List.range b.stocks.length).filter fun i => w.any fun j => Vbcrah.suits (Vbcrah.stockAt b i) (Vbcrah.orderAt b j)
def groundOn (b : Vbcrah.Book) (d : Nat) : List Nat := (List.range b.orders.length).filter fun j => (Vbcrah.orderAt b j).due == d && (Vbcrah.orderAt b j).ground
def beansOn (b : Vbcrah.Book) (d : Nat) : List Nat := (List.range b.orders.length).filter fun j => (Vbcrah.orderAt b j).due == d && !(Vbcrah.orderAt b j).ground
theorem od_at {b : Vbcrah.Book} {j : Nat} (h : j < b.orders.length) : b.orders[j]? = some (Vbcrah.orderAt b j) := by
  unfold Vbcrah.orderAt
  rw [List.getD_eq_getElem?_getD, List.getElem?_eq_getElem h]; rfl
theorem st_at {b : Vbcrah.Book} {j : Nat} (h : j < b.stocks.length) : b.stocks[j]? = some (Vbcrah.stockAt b j) := by
  unfold Vbcrah.stockAt
  rw [List.getD_eq_getElem?_getD, List.getElem?_eq_getElem h]; rfl
theorem fn_stocks_for (T : Txt K mg) : Fn P w K mg base CX0 "stocks_for" 2 ["book", "some"] (spP (fun a : Vbcrah.Book × List Nat => ∀ j ∈ a.2, j < a.1.orders.length) (fun a => [rBk K a.1, rBy a.2]) (fun a => rBy (rightOf a.1 a.2))) := by
  obtain ⟨fd, F⟩ := T.d_stocks_for
  refine mkFn T.g_stocks_for F (b_stocks_for F) (ok_body F sc_stocks_for (len_P fun _ => rfl) fun cdv A outer s H vs Q E hr q => ?_)
  obtain ⟨⟨b, ws⟩, B, hs, hp, hv, k⟩ := q
  obtain ⟨v1, v2, rfl, h1, h2⟩ := vs2 hv
  refine wb_set 2 (Ev.unF (ef_map 3 (q := rOd K) (f := fun j => Vbcrah.orderAt b j) rfl sc_stocks_for.nd (ei_list (ep_var 1 rfl h2).ev (ll h2)) (blkOk_by (N := N_stocks_for) (sc := defScope s_stocks_for) (by decide +kernel)) (fun _ _ _ _ _ => pg_name sc_stocks_for.nd rfl (Or.inl rfl)) (fun p hpm v B1 s1 r1 _ _ _ _ _ => ev_ix (ep_bk_orders T (ep_var 0 rfl (up s1 h1))).ev (ep_var 3 rfl r1).ev (od_at (hp p hpm))))) hs (fun u B2 H2 g r2 => ?_) sc_stocks_for.nd
  refine wb_ret (Ev.unF (ef_fmap2 3 4 (by decide) (ρ := fun z : Vbcrah.Stock × Nat => rN z.2) (τ := fun z => rSt K z.1) (q := rN) (f := fun z => z.2) (c := fun z => ((ws.map (Vbcrah.orderAt b)).map fun o => Vbcrah.suits z.1 o).any id) rfl sc_stocks_for.nd (ei_enum T.f_enumerate (ep_bk_stocks T (ep_var 0 rfl (up g.bb h1))).ev (bk_stocks_len (up g.bb h1))) (blkOk_by (N := N_stocks_for) (sc := defScope s_stocks_for) (by decide +kernel)) (fun _ _ _ _ _ => pg_tup rfl (pgs_cons (pg_name (i := 3) sc_stocks_for.nd rfl (Or.inl rfl)) (pgs_cons (pg_name (i := 4) sc_stocks_for.nd rfl (Or.inr rfl)) pgs_nil))) ?_)) g.bh fun v B3 H3 g3 r3 => k v B3 H3 (g.trans g3) (Fb.cv (congrArg rBy ?_) r3)
  · intro z hz v u B1 s1 h4 h5 _ _ _ _ _
    refine ⟨et_val (ev_any rfl T.f_any (Ev.unF (ef_map 5 (r := rOd K) (q := rB) (f := fun o => Vbcrah.suits z.1 o) rfl sc_stocks_for.nd (ei_list (ep_var 2 rfl (up s1 r2)).ev (ll r2)) (blkOk_by (N := N_stocks_for) (sc := relS _ (defScope s_stocks_for)) (by decide +kernel)) (fun _ _ _ _ _ => pg_name (i := 5) sc_stocks_for.nd rfl (Or.inl rfl)) ?_))), fun _ => (ep_var 3 rfl h4).ev⟩
    intro o ho v6 B6 s6 r6 _ _ _ _ _
    exact ev_call (fn_is_right T) hr (z.1, o) True.intro (ea_cons (ep_var 4 rfl (up s6 h5)).ev (ea_one (ep_var 5 rfl r6).ev))
  · unfold rightOf
    refine Eq.trans ?_ (zi_filter Vbcrah.noStock_ b.stocks fun s => ws.any fun j => Vbcrah.suits s (Vbcrah.orderAt b j))
    congr 2
    funext z
    rw [List.any_map, List.any_map]
    rfl
theorem mem_rng {n j : Nat} {p : Nat → Bool} (h : j ∈ (List.range n).filter p) : j < n := List.mem_range.mp (List.mem_filter.mp h).1
theorem has_filter {n : Nat} {p q : Nat → Bool} : (((List.range n).filter p).filter fun j => !(((List.range n).filter p).filter q).contains j) = (List.range n).filter fun j => p j && !q j := by
  rw [List.filter_filter]
  refine List.filter_congr fun j hj => ?_
  cases hp : p j with
  | false => rw [Bool.and_false]; rfl
  | true =>
    rw [Bool.and_true, Bool.true_and]
    congr 1
    have : (((List.range n).filter p).filter q).contains j = decide (j ∈ ((List.range n).filter p).filter q) := by
      rw [List.contains_eq_mem]
    rw [this]
    cases hq : q j with
    | true => exact decide_eq_true (List.mem_filter.mpr ⟨List.mem_filter.mpr ⟨hj, hp⟩, hq⟩)
    | false => exact decide_eq_false fun z => by have := (List.mem_filter.mp z).2; rw [hq] at this; cases this
theorem fn_orders_on (T : Txt K mg) : Fn P w K mg base CX0 "orders_on" 1 ["book", "day"] (spP (fun a : Vbcrah.Book × Nat => True) (fun a => [rBk K a.1, rN a.2]) (fun a => rT [rBy (groundOn a.1 a.2), rBy (beansOn a.1 a.2)])) := by
  obtain ⟨fd, F⟩ := T.d_orders_on
  refine mkFn T.g_orders_on F (b_orders_on F) (ok_body F sc_orders_on (len_P fun _ => rfl) fun cdv A outer s H vs Q E hr q => ?_)
  obtain ⟨⟨b, d⟩, B, hs, hp, hv, k⟩ := q
  obtain ⟨v1, v2, rfl, h1, h2⟩ := vs2 hv
  refine wb_fmap2 2 4 5 (by decide) (ρ := fun z : Vbcrah.Order × Nat => rN z.2) (τ := fun z => rOd K z.1) (q := rN) (f := fun z => z.2) (c := fun z => decide ((z.1.due : Int) = (d : Int))) rfl sc_orders_on.nd (ei_enum T.f_enumerate (ep_bk_orders T (ep_var 0 rfl h1)).ev (bk_orders_len h1)) (blkOk_by (N := N_orders_on) (sc := defScope s_orders_on) (by decide +kernel)) (fun _ _ _ _ _ => pg_tup rfl (pgs_cons (pg_name (i := 4) sc_orders_on.nd rfl (Or.inl rfl)) (pgs_cons (pg_name (i := 5) sc_orders_on.nd rfl (Or.inl rfl)) pgs_nil))) ?_ hs fun u B2 H2 g r => ?_
  · intro z hz v u B1 s1 h4 h5 _ _ _ _ _
    exact ⟨et_eq (ep_od_due T (ep_var 5 rfl h5)).ev (ep_var 1 rfl (up s1 h2)).ev, fun _ => (ep_var 4 rfl h4).ev⟩
  have e1 : ((b.orders.zipIdx.filter fun z => decide ((z.1.due : Int) = (d : Int))).map fun z => z.2) = (List.range b.orders.length).filter fun j => (Vbcrah.orderAt b j).due == d := by
    refine Eq.trans (zi_filter Vbcrah.none_ b.orders fun o => decide ((o.due : Int) = (d : Int))) (List.filter_congr fun j _ => ?_)
    rw [dec_eq]; rfl
  have r1 := Fb.cv (congrArg rBy e1) r.1
  refine wb_set 3 (Ev.unF (ef_fmap 4 (q := rN) (f := fun j => j) (c := fun j => (Vbcrah.orderAt b j).ground) rfl sc_orders_on.nd (ei_list (ep_var 2 rfl r1).ev (ll r1)) (blkOk_by (N := N_orders_on) (sc := defScope s_orders_on) (by decide +kernel)) (fun _ _ _ _ _ => pg_name sc_orders_on.nd rfl (Or.inl rfl)) (fun j hj v B1 s1 r1 _ _ _ _ _ => ⟨et_val (ev_od_ground T (o := Vbcrah.orderAt b j) (ev_ix (ep_bk_orders T (ep_var 0 rfl (up ((g.bb.trans s1)) h1))).ev (ep_var 4 rfl r1).ev (od_at (mem_rng hj)))), fun _ => (ep_var 4 rfl r1).ev⟩))) g.bh (fun u B3 H3 g3 r3 => ?_) sc_orders_on.nd
  rw [List.map_id'] at r3
  have r4 := up g3.bb r1
  refine wb_ret (ev_tup (Rs := [rBy (groundOn b d), rBy (beansOn b d)]) (ea_cons (Ev.is (ep_var 3 rfl r3).ev ?_) (ea_one (Ev.is (Ev.unF (ef_fmap 4 (q := rN) (f := fun j => j) (c := fun j => !(((List.range b.orders.length).filter fun j => (Vbcrah.orderAt b j).due == d).filter fun j => (Vbcrah.orderAt b j).ground).contains j) rfl sc_orders_on.nd (ei_list (ep_var 2 rfl r4).ev (ll r4)) (blkOk_by (N := N_orders_on) (sc := defScope s_orders_on) (by decide +kernel)) (fun _ _ _ _ _ => pg_name sc_orders_on.nd rfl (Or.inl rfl)) (fun j hj v B1 s1 r1 _ _ _ _ _ => ⟨et_nin (ep_var 4 rfl r1).ev (ep_var 3 rfl (up s1 r3)).ev, fun _ => (ep_var 4 rfl r1).ev⟩))) ?_))) (by show 2 ≤ LB; decide)) g3.bh fun v B5 H5 g5 r5 => k v B5 H5 ((g.trans g3).trans g5) r5
  · unfold groundOn
    rw [List.filter_filter]
    congr 2
    funext j
    rw [Bool.and_comm]
  · rw [List.map_id', has_filter]; rfl
end
end Fb
/-! FbM3: bounds (plain) -/
namespace Fb
open PySem PySem.Spec PyProof.Rows L2
def sumN (ns : List Nat) (ps : List Nat) : Nat := (ps.map fun p => ns.getD p 0).sum
def restOf (want w l : List Nat) : Nat := sumN want (othersOf l w)
def boundW (b : Vbcrah.Book) (want w : List Nat) : Nat := Vbcrah.boundBy (Vbcrah.stockTable b) (Vbcrah.dayTable b) b.send b.grind want w
def putUp (b : Vbcrah.Book) (want w : List Nat) (d : List Nat × List Nat) : Nat := restOf want w d.2 + min b.grind (restOf want w d.1)
def daysB (b : Vbcrah.Book) (want w : List Nat) : Nat := ((Vbcrah.daysOf b).map fun d => min b.send (putUp b want w (groundOn b d, beansOn b d))).sum
theorem cast_sum (xs : List Nat) : (xs.map fun n : Nat => (n : Int)).sum = ((xs.sum : Nat) : Int) := by
  induction xs with
  | nil => rfl
  | cons x xs ih => rw [List.map_cons, List.sum_cons, List.sum_cons, ih, Int.natCast_add]
theorem getD_cast (l : List Nat) (p : Nat) : (l.map fun n : Nat => (n : Int)).getD p 0 = ((l.getD p 0 : Nat) : Int) := by
  rw [List.getD_eq_getElem?_getD, List.getD_eq_getElem?_getD, List.getElem?_map]
  cases l[p]? <;> rfl
theorem sumOf_nat (ns ps : List Nat) : sumOf (ns.map fun n : Nat => (n : Int)) ps = ((sumN ns ps : Nat) : Int) := by
  unfold sumOf sumN
  rw [← cast_sum, List.map_map]
  congr 1
  refine List.map_congr_left fun p _ => ?_
  exact getD_cast ns p
theorem rng_map {α β : Type} (d : α) (xs : List α) (p : α → Bool) (f : α → β) : ((List.range xs.length).filter fun i => p (xs.getD i d)).map (fun i => f (xs.getD i d)) = (xs.filter p).map f := by
  have e : xs = (List.range xs.length).map fun i => xs.getD i d := by
    have := congrArg (List.map Prod.fst) (zi_eq d xs)
    rw [List.map_map] at this
    rw [← List.zipIdx_map_fst 0 xs] 
    conv => rhs; rw [List.zipIdx_map_fst]
    exact this
  conv => rhs; rw [e, List.filter_map, List.map_map]
  rfl
theorem sets_lt' : ∀ (k : Nat) (l : List Nat), ∀ w ∈ Vbcrah.choices k l, ∀ j ∈ w, j ∈ l
  | 0, l, w, hw, j, hj => by unfold Vbcrah.choices at hw; simp at hw; subst hw; cases hj
  | k + 1, [], w, hw, j, hj => by simp [Vbcrah.choices] at hw
  | k + 1, x :: l, w, hw, j, hj => by
    rw [Vbcrah.choices, List.mem_append] at hw
    rcases hw with hw | hw
    · obtain ⟨s, hs, rfl⟩ := List.mem_map.mp hw
      rcases List.mem_cons.mp hj with e | e
      · simp [e]
      · exact List.mem_cons_of_mem _ (sets_lt' k l s hs j e)
    · exact List.mem_cons_of_mem _ (sets_lt' (k + 1) l w hw j hj)
theorem sets_lt {n : Nat} {w : List Nat} (h : w ∈ Vbcrah.sets n) : ∀ j ∈ w, j < n := fun j hj => by
  obtain ⟨k, hk, hw⟩ := List.mem_flatMap.mp h
  exact List.mem_range.mp (sets_lt' k _ w hw j hj)
theorem sets_zero (n : Nat) : (Vbcrah.sets n)[0]? = some [] := by
  unfold Vbcrah.sets
  rw [List.range_succ_eq_map, List.flatMap_cons]
  have : Vbcrah.choices 0 (List.range n) = [[]] := by unfold Vbcrah.choices; rfl
  rw [this]; rfl
theorem any_table {b : Vbcrah.Book} {w : List Nat} (hw : ∀ j ∈ w, j < b.orders.length) (s : Vbcrah.Stock) : (((List.range b.orders.length).filter fun j => Vbcrah.suits s (Vbcrah.orderAt b j)).any w.contains) = w.any fun j => Vbcrah.suits s (Vbcrah.orderAt b j) := by
  rw [Bool.eq_iff_iff, List.any_eq_true, List.any_eq_true]
  constructor
  · rintro ⟨j, hj, hc⟩
    exact ⟨j, List.contains_iff_mem.mp hc, (List.mem_filter.mp hj).2⟩
  · rintro ⟨j, hj, hc⟩
    exact ⟨j, List.mem_filter.mpr ⟨List.mem_range.mpr (hw j hj), hc⟩, List.contains_iff_mem.mpr hj⟩
theorem stock_part {b : Vbcrah.Book} {w : List Nat} (hw : ∀ j ∈ w, j < b.orders.length) : sumN (b.stocks.map fun s => s.bags) (rightOf b w) = (((Vbcrah.stockTable b).filter fun s => s.2.any w.contains).map fun s => s.1).sum := by
  unfold sumN rightOf Vbcrah.stockTable
  rw [List.filter_map, List.map_map]
  have e := rng_map Vbcrah.noStock_ b.stocks (fun s => w.any fun j => Vbcrah.suits s (Vbcrah.orderAt b j)) (fun s => s.bags)
  have e2 : ((List.range b.stocks.length).filter fun i => w.any fun j => Vbcrah.suits (Vbcrah.stockAt b i) (Vbcrah.orderAt b j)).map (fun p => (b.stocks.map fun s => s.bags).getD p 0) = (b.stocks.filter fun s => w.any fun j => Vbcrah.suits s (Vbcrah.orderAt b j)).map fun s => s.bags := by
    rw [← e]
    refine List.map_congr_left fun i hi => ?_
    have hi := mem_rng hi
    rw [List.getD_eq_getElem?_getD, List.getD_eq_getElem?_getD, List.getElem?_map, List.getElem?_eq_getElem hi]
    rfl
  rw [e2]
  congr 1
  congr 1
  refine List.filter_congr fun s _ => ?_
  exact (any_table hw s).symm
theorem bound_eq {b : Vbcrah.Book} {want w : List Nat} (hw : ∀ j ∈ w, j < b.orders.length) : sumN (b.stocks.map fun s => s.bags) (rightOf b w) + daysB b want w = boundW b want w := by
  rw [stock_part hw]
  unfold boundW Vbcrah.boundBy daysB Vbcrah.dayTable
  dsimp only
  rw [List.map_map]
  rfl
def stepB (b : Vbcrah.Book) (want : List Nat) (z : Nat × List Nat) (w : List Nat) : Nat × List Nat := if boundW b want w < z.1 then (boundW b want w, w) else z
theorem least_eq (b : Vbcrah.Book) (want : List Nat) : Vbcrah.leastBound b want = (Vbcrah.sets b.orders.length).foldl (stepB b want) (boundW b want [], []) := rfl
end Fb
/-! FbO: Ways, bounds -/
namespace Fb
open PySem PySem.Spec PyProof.Rows L2
/-! what does not look at an instance -/
def er (B : Hp) (q : Addr) : Hp := fun a => if a = q then none else B a
theorem er_ne {B : Hp} {q a : Addr} (h : a ≠ q) : er B q a = B a := if_neg h
theorem er_q {B : Hp} {q : Addr} : er B q q = none := if_pos rfl
/-- told of a value without a look at an instance of C -/
def Er (C : Addr) (R : Rp) : Prop := ∀ v B q dx fs, B q = some (.ins C dx fs) → R.p v B → R.p v (er B q)
theorem er_V {C : Addr} {x : V} : Er C (rV x) := fun _ _ _ _ _ _ h => h
theorem er_L {C : Addr} {α : Type} {r : α → Rp} {xs : List α} (h : ∀ x, Er C (r x)) : Er C (rL r xs) := fun v B q dx fs e ⟨p, vs, e1, h1, l, a⟩ =>
  ⟨p, vs, e1, by rw [er_ne (fun z => by subst z; rw [e] at h1; cases h1)]; exact h1, l, a.imp fun x v r => h x v B q dx fs e r⟩
theorem er_Vs {C : Addr} : ∀ {rs : List Rp} {vs : List V} {B : Hp} {q dx : Addr} {fs : List (Str × V)}, (∀ r ∈ rs, Er C r) → B q = some (.ins C dx fs) → Vs rs vs B → Vs rs vs (er B q)
  | [], [], _, _, _, _, _, _, _ => True.intro
  | r :: rs, v :: vs, B, q, dx, fs, h, e, z => ⟨h r (by simp) v B q dx fs e z.1, er_Vs (fun r hr => h r (by simp [hr])) e z.2⟩
  | [], _ :: _, _, _, _, _, _, _, z => z
  | _ :: _, [], _, _, _, _, _, _, z => z
theorem er_T {C : Addr} {rs : List Rp} (h : ∀ r ∈ rs, Er C r) : Er C (rT rs) := fun v B q dx fs e ⟨p, vs, e1, h1, a⟩ =>
  ⟨p, vs, e1, by rw [er_ne (fun z => by subst z; rw [e] at h1; cases h1)]; exact h1, er_Vs h e a⟩
theorem er_Fs {C : Addr} : ∀ {rs : List (Str × Rp)} {vs : List (Str × V)} {B : Hp} {q dx : Addr} {fs : List (Str × V)}, (∀ r ∈ rs, Er C r.2) → B q = some (.ins C dx fs) → Fs rs vs B → Fs rs vs (er B q)
  | [], [], _, _, _, _, _, _, _ => True.intro
  | (f, r) :: rs, (g, v) :: vs, B, q, dx, fs, h, e, z => ⟨z.1, h (f, r) (by simp) v B q dx fs e z.2.1, er_Fs (fun r hr => h r (by simp [hr])) e z.2.2⟩
  | [], _ :: _, _, _, _, _, _, _, z => z
  | _ :: _, [], _, _, _, _, _, _, z => z
theorem er_O {C C' : Addr} {rs : List (Str × Rp)} (hC : C' ≠ C) (h : ∀ r ∈ rs, Er C r.2) : Er C (rO C' rs) := fun v B q dx fs e ⟨p, dx2, vs, e1, h1, a⟩ =>
  ⟨p, dx2, vs, e1, by rw [er_ne (fun z => by subst z; rw [e] at h1; cases h1; exact hC rfl)]; exact h1, er_Fs h e a⟩
/-- an instance known for a while -/
theorem lend_same {B H : Hp} {q : Addr} {o : HO} (s : Same B H) (h : H q = some o) : Same (upd B q o) H := fun a u e => by
  by_cases ha : a = q
  · subst ha; rw [upd_same] at e; rw [h]; exact e
  · rw [upd_ne ha] at e; exact s a u e
theorem Gr.back {B H B2 H2 : Hp} {q : Addr} {o : HO} (n : B q = none) (g : Gr (upd B q o) H B2 H2) : Gr B H (er B2 q) H2 :=
  ⟨g.hh, fun a u e => by
    have ha : a ≠ q := ne_of_none e n
    rw [er_ne ha]
    exact g.bb a u (by rw [upd_ne ha]; exact e), fun a u e => by
    by_cases ha : a = q
    · subst ha; rw [er_q] at e; cases e
    · rw [er_ne ha] at e; exact g.bh a u e, fun a h n2 => by
    by_cases ha : a = q
    · subst ha; exact er_q
    · rw [er_ne ha]; exact g.fr a h (by rw [upd_ne ha]; exact n2)⟩
section
variable {P : Program} {w : World} {K : PySem.W.Frag} {mg : Str → Option Value} {base : Heap}
theorem Fn.imp {CX : CXT} {x : Str} {k : Nat} {ps : List Str} {sp sp' : Sp} (F : Fn P w K mg base CX x k ps sp) (h : ∀ vs H Q E, sp' vs H Q E → sp vs H Q E) : Fn P w K mg base CX x k ps sp' := by
  obtain ⟨f, fd, h1, h2, h3, h4⟩ := F.ex
  exact ⟨f, fd, h1, h2, h3, h4.imp h⟩
/-- sum_of, no number below 0 -/
theorem fn_sum_nat (T : Txt K mg) : Fn P w K mg base CX0 "sum_of" 1 ["numbers", "places"] (spP (fun a : List Nat × List Nat => ∀ p ∈ a.2, p < a.1.length) (fun a => [rBy a.1, rBy a.2]) (fun a => rN (sumN a.1 a.2))) :=
  (fn_sum_of T).imp fun vs H Q E ⟨a, B, s, p, v, k⟩ => by
    obtain ⟨v1, v2, rfl, h1, h2⟩ := vs2 v
    exact ⟨(a.1.map fun n : Nat => (n : Int), a.2), B, s, fun q hq => by rw [List.length_map]; exact p q hq, ⟨rL_nat.mp h1, h2, True.intro⟩, fun u B2 H2 g r => k u B2 H2 g (Fb.cv (congrArg rI (sumOf_nat a.1 a.2)) r)⟩
theorem ev_sumN {X : Cx} {e : Expr} {σ : L2.St} {B : Hp} {p pos : Pos} {xs : List Nat} (hc : X.calm = true) (hm : X.mg "sum" = none) (h : Ev X e σ B (rL rN xs)) (hg : Gl X "sum" := by rfl)
    (he : starEach (e :: []) X.env = (false, eval e X.env) :: starEach [] X.env := by rfl) : Ev X (.Call (.Name "sum" p) [e] [] pos) σ B (rN xs.sum) :=
  (ev_sum (xs := xs.map fun n : Nat => (n : Int)) hc hm (h.imp fun v H r => rL_nat.mp r) hg he).is (by rw [cast_sum])
/-! Ways -/
abbrev rDue (d : List Nat × List Nat) : Rp := rT [rBy d.1, rBy d.2]
abbrev setsOf (b : Vbcrah.Book) : List (List Nat) := Vbcrah.sets b.orders.length
abbrev duesOf (b : Vbcrah.Book) : List (List Nat × List Nat) := (Vbcrah.daysOf b).map fun d => (groundOn b d, beansOn b d)
abbrev fsW (K : PySem.W.Frag) (b : Vbcrah.Book) : List (Str × Rp) := [("book", rBk K b), ("sets", rL rBy (setsOf b)), ("right_ones", rL rBy ((setsOf b).map (rightOf b))), ("due_ones", rL rDue (duesOf b))]
def rWy (K : PySem.W.Frag) (b : Vbcrah.Book) : Rp := rO (ga K "Ways") (fsW K b)
abbrev spWyI (K : PySem.W.Frag) : Sp := spI (ga K "Ways") (fun b : Vbcrah.Book => b.orders.length ≤ 8) (fun b => [rBk K b]) (fsW K)
theorem pf_Ways (v1 v2 v3 v4 : V) : putF "due_ones" v4 (putF "right_ones" v3 (putF "sets" v2 (putF "book" v1 []))) = ([("book", v1), ("sets", v2), ("right_ones", v3), ("due_ones", v4)] : List (Str × V)) := by kernel_rfl
theorem pf_Ways2 (v1 v2 : V) : putF "sets" v2 (putF "book" v1 []) = ([("book", v1), ("sets", v2)] : List (Str × V)) := by kernel_rfl
theorem er_BB {C : Addr} {xs : List (List Nat)} : Er C (rL rBy xs) := er_L fun _ => er_L fun _ => er_V
/-- an object that is being made at z -/
structure Con (B H Bk H' : Hp) (z : Addr) (o : HO) : Prop where
  bb : Same B Bk
  bh : Same Bk H'
  keep : ∀ y o, H y = some o → y ≠ z → H' y = some o
  fr : ∀ y, H y ≠ none → B y = none → Bk y = none
  nz : Bk z = none
  at_ : H' z = some o
theorem Con.start {B H : Hp} {z : Addr} {o : HO} (s : Same B H) (n : B z = none) (h : H z = some o) : Con B H B H z o := ⟨Same.refl B, s, fun _ _ e _ => e, fun _ _ h => h, n, h⟩
theorem Con.step {B H Bk H' B2 H2 : Hp} {z : Addr} {o : HO} (c : Con B H Bk H' z o) (g : Gr Bk H' B2 H2) : Con B H B2 H2 z o :=
  ⟨c.bb.trans g.bb, g.bh, fun y o e ne => g.hh y o (c.keep y o e ne), fun y h n => g.fr y (by
    by_cases hy : y = z
    · subst hy; rw [c.at_]; exact fun z => nomatch z
    · cases e : H y with
      | none => exact absurd e h
      | some u => rw [c.keep y u e hy]; exact fun z => nomatch z) (c.fr y h n), g.fr z (by rw [c.at_]; exact fun z => nomatch z) c.nz, g.hh _ _ c.at_⟩
theorem Con.put {B H Bk H' : Hp} {z : Addr} {o o' : HO} (c : Con B H Bk H' z o) : Con B H Bk (upd H' z o') z o' :=
  ⟨c.bb, same_upd c.bh c.nz, fun y o e ne => by rw [upd_ne ne]; exact c.keep y o e ne, c.fr, c.nz, upd_same⟩
theorem Con.stepL {B H Bk H' B2 H2 : Hp} {z : Addr} {o : HO} (c : Con B H Bk H' z o) (g : Gr (upd Bk z o) H' B2 H2) : Con B H (er B2 z) H2 z o := c.step (g.back c.nz)
theorem Con.lend {B H Bk H' : Hp} {z : Addr} {o : HO} (c : Con B H Bk H' z o) : Same (upd Bk z o) H' := lend_same c.bh c.at_
theorem wb_sfQ {X : Cx} {e o : Expr} {σ : L2.St} {B H : Hp} {pos p2 : Pos} {rest : List Stmt} {D : L2.Ends} {R : Rp} {C q dx : Addr} {fv : List (Str × V)} {f : Str} (cl : Cls X.K C) (na : NoAttr X.K C f) (h : Ev X e σ B R) (ho : EvP X o σ B (rV (.ref q))) (hq : H q = some (.ins C dx fv)) (s : Same B H) (hl : fv.length < 1000)
    (k : ∀ v B2 H2, Gr B H B2 H2 → R.p v B2 → WB X rest D σ (upd H2 q (.ins C dx (putF f v fv)))) (hs : swapsWith e (some (.Attribute o f p2)) pos.line X.env = pure false := by rfl) : WB X (.Assign [.Attribute o f p2] e pos :: rest) D σ H := by
  refine wb_cons (ps_fld we_pe we_pe hs) (h H s _ fun v B2 H2 g r => ?_)
  obtain ⟨u, hu, hk⟩ := ho.mo g.bb
  exact hk H2 g.bh _ ⟨q, C, dx, fv, hu, g.hh _ _ hq, cl, na, hl, k v B2 H2 g r⟩
theorem ct_Ways (T : Txt K mg) : Ct P w K mg base "Ways" (ga K "Ways") 3 ["self", "book"] (spWyI K) := by
  obtain ⟨fd, F⟩ := T.d_Ways_init
  refine mkCt T.g_Ways T.k_Ways (b_Ways_init F) (ok_body F sc_Ways_init (len_I fun _ => rfl) fun cdv A outer s H vs Q E hr q => ?_)
  obtain ⟨b, z, dx, ws, B, rfl, hz, nz, hs, hp, hv, k⟩ := q
  obtain ⟨v1, rfl, h1⟩ := vs1 hv
  have c0 := (Con.start hs nz hz).put (o' := .ins (ga K "Ways") dx (putF "book" v1 []))
  refine wb_sfP T.c_Ways T.n_Ways_book (ep_var 1 rfl rfl) (ep_var 0 rfl rfl) hs hz (by decide) ?_
  refine wb_sfQ T.c_Ways T.n_Ways_sets (ev_call (fn_all_sets T) (hr.mono (by decide)) b.orders.length hp (ea_one (ev_len T.f_len (ep_bk_orders T (ep_var 1 rfl h1)).ev))) (ep_var 0 rfl rfl) c0.at_ c0.bh (by show 1 < 1000; decide) fun u2 B2 H2 g2 r2 => ?_
  rw [pf_Ways2]
  have c2 := (c0.step g2).put (o' := .ins (ga K "Ways") dx [("book", v1), ("sets", u2)])
  have hb2 := up g2.bb h1
  have z2 : (rO (ga K "Ways") [("book", rBk K b), ("sets", rL rBy (setsOf b))]).p (.ref z) (upd B2 z (.ins (ga K "Ways") dx [("book", v1), ("sets", u2)])) :=
    ⟨z, dx, _, rfl, upd_same, rfl, up (same_new c2.nz) hb2, rfl, up (R := rL rBy (setsOf b)) (same_new c2.nz) r2, True.intro⟩
  refine wb_sfQ (R := rL rBy ((setsOf b).map (rightOf b))) T.c_Ways T.n_Ways_right_ones (Ev.unF (ef_map 2 (q := rBy) (f := rightOf b) rfl sc_Ways_init.nd (ei_list (r := rBy) (ev_fld T.c_Ways T.n_Ways_sets (ep_var 0 rfl z2).ev rfl) (ll r2)) (blkOk_by (N := N_Ways_init) (sc := defScope s_Ways_init) (by decide +kernel)) (fun _ _ _ _ _ => pg_name sc_Ways_init.nd rfl (Or.inl rfl)) (fun w' hw v B1 s1 r1 _ _ _ _ _ =>
    ev_call (fn_stocks_for T) hr (b, w') (sets_lt hw) (ea_cons (ep_var 1 rfl (up s1 (up (same_new c2.nz) hb2))).ev (ea_one (ep_var 2 rfl r1).ev))))) (ep_var 0 rfl rfl) c2.at_ c2.lend (by show 2 < 1000; decide) fun u3 B3 H3 g3 r3 => ?_
  have c3 := (c2.stepL g3).put (o' := .ins (ga K "Ways") dx (putF "right_ones" u3 [("book", v1), ("sets", u2)]))
  have r3' := er_BB _ _ _ _ _ (g3.bb _ _ upd_same) r3
  have hb3 := up (g3.back c2.nz).bb hb2
  refine wb_sfQ (R := rL rDue (duesOf b)) T.c_Ways T.n_Ways_due_ones (Ev.unF (ef_map 3 (q := rDue) (f := fun d => (groundOn b d, beansOn b d)) rfl sc_Ways_init.nd (ei_list (r := rN) (ev_meth0 T.c_Book (mt_days T) (hr.mono (by decide)) b hp (ep_var 1 rfl hb3).ev rfl rfl) (by have := FbM.days_len b; unfold LB; omega)) (blkOk_by (N := N_Ways_init) (sc := defScope s_Ways_init) (by decide +kernel)) (fun _ _ _ _ _ => pg_name sc_Ways_init.nd rfl (Or.inl rfl)) (fun d hd v B1 s1 r1 _ _ _ _ _ =>
    ev_call (fn_orders_on T) (hr.mono (by decide)) (b, d) True.intro (ea_cons (ep_var 1 rfl (up s1 hb3)).ev (ea_one (ep_var 3 rfl r1).ev))))) (ep_var 0 rfl rfl) c3.at_ c3.bh (by show 3 < 1000; decide) fun u4 B4 H4 g4 r4 => wb_nil ?_
  have c4 := (c3.step g4).put (o' := .ins (ga K "Ways") dx [("book", v1), ("sets", u2), ("right_ones", u3), ("due_ones", u4)])
  exact k B4 _ _ c4.bb c4.bh c4.keep c4.fr c4.at_ ⟨rfl, up g4.bb hb3, rfl, up (R := rL rBy (setsOf b)) ((g3.back c2.nz).bb.trans g4.bb) r2, rfl, up (R := rL rBy _) g4.bb r3', rfl, r4, True.intro⟩
end
end Fb
/-! FbO2: what bounds -/
namespace Fb
open PySem PySem.Spec PyProof.Rows L2
section
variable {K : PySem.W.Frag} {mg : Str → Option Value} {X : Cx} {e : Expr} {σ : L2.St} {B : Hp} {pos : Pos} {b : Vbcrah.Book}
theorem ep_wy_book (T : Txt K mg) (h : EvP X e σ B (rWy K b)) (hb : attributeBase e "book" X.env (eval e X.env) = eval e X.env := by rfl) (hK : X.K = K := by rfl) : EvP X (.Attribute e "book" pos) σ B (rBk K b) := by subst hK; exact ep_fld T.c_Ways T.n_Ways_book h rfl hb
theorem ep_wy_sets (T : Txt K mg) (h : EvP X e σ B (rWy K b)) (hb : attributeBase e "sets" X.env (eval e X.env) = eval e X.env := by rfl) (hK : X.K = K := by rfl) : EvP X (.Attribute e "sets" pos) σ B (rL rBy (setsOf b)) := by subst hK; exact ep_fld T.c_Ways T.n_Ways_sets h rfl hb
theorem ep_wy_right (T : Txt K mg) (h : EvP X e σ B (rWy K b)) (hb : attributeBase e "right_ones" X.env (eval e X.env) = eval e X.env := by rfl) (hK : X.K = K := by rfl) : EvP X (.Attribute e "right_ones" pos) σ B (rL rBy ((setsOf b).map (rightOf b))) := by subst hK; exact ep_fld T.c_Ways T.n_Ways_right_ones h rfl hb
theorem ep_wy_due (T : Txt K mg) (h : EvP X e σ B (rWy K b)) (hb : attributeBase e "due_ones" X.env (eval e X.env) = eval e X.env := by rfl) (hK : X.K = K := by rfl) : EvP X (.Attribute e "due_ones" pos) σ B (rL rDue (duesOf b)) := by subst hK; exact ep_fld T.c_Ways T.n_Ways_due_ones h rfl hb
end
/-- an item of a tuple -/
theorem Vs.at {R : Rp} : ∀ {rs : List Rp} {vs : List V} {B : Hp} {n : Nat}, Vs rs vs B → rs[n]? = some R → ∃ v, vs[n]? = some v ∧ R.p v B
  | [], _, _, n, _, e => by simp at e
  | r :: rs, [], _, _, h, _ => h.elim
  | r :: rs, v :: vs, _, 0, h, e => by simp at e; subst e; exact ⟨v, rfl, h.1⟩
  | r :: rs, v :: vs, _, n + 1, h, e => by
    obtain ⟨u, h1, h2⟩ := Vs.at (n := n) h.2 (by simpa using e)
    exact ⟨u, by simpa using h1, h2⟩
theorem ev_ixT {X : Cx} {a b : Expr} {σ : L2.St} {B : Hp} {pos : Pos} {rs : List Rp} {n : Nat} {R : Rp} (ha : Ev X a σ B (rT rs)) (hb : Ev X b σ B (rN n)) (hx : rs[n]? = some R) (hs : PlainIx b := by intro _ _; rfl) : Ev X (.Subscript a b pos) σ B R := fun H s Q k =>
  we_of (pe_ix ix_tup we_pe we_pe hs) (ev_two (R := R) ha hb (fun u w B2 H2 s1 s2 ⟨q, ws, e1, h1, a1⟩ e2 Q k => by
    obtain ⟨v, hv, rv⟩ := a1.at hx
    exact ⟨q, ws, n, v, e1, e2, SqT.of (s2 _ _ h1), atI_nat hv, k v B2 H2 (Gr.refl s2) rv⟩) s k)
theorem wb_par {X : Cx} {σ : L2.St} {B H : Hp} {pos px py pt pt2 : Pos} {rest : List Stmt} {D : L2.Ends} {a b : Expr} {x y : Str} {kt k2} {R1 R2 : Rp} (i j : Nat) (h : EvA X [a, b] σ B [R1, R2]) (s : Same B H) (k : ∀ v w B2 H2, Gr B H B2 H2 → R1.p v B2 → R2.p w B2 → WB X rest D ((σ.set i (some v)).set j (some w)) H2) (hN : X.N.Nodup) (hij : i ≠ j := by decide) (hc : X.calm = true := by rfl)
    (hi : X.N[i]? = some x := by rfl) (hj : X.N[j]? = some y := by rfl) (hx : X.env.scope.names.lookup x = some .local := by rfl) (hy : X.env.scope.names.lookup y = some .local := by rfl)
    (hw : swappedStores [.Tuple [.Name x px, .Name y py] kt pt] (.Tuple [a, b] k2 pt2) X.env = pure (some [x, y]) := by rfl) (hs : swapsWithSole [.Tuple [.Name x px, .Name y py] kt pt] (.Tuple [a, b] k2 pt2) pos.line X.env = pure false := by rfl) :
    WB X (.Assign [.Tuple [.Name x px, .Name y py] kt pt] (.Tuple [a, b] k2 pt2) pos :: rest) D σ H :=
  wb_cons (ps_par hc hN hi hj hij hx hy wa_pa hw hs) (h H s _ fun vs B2 H2 g r => by
    obtain ⟨v1, v2, rfl, h1, h2⟩ := vs2 r
    exact ⟨v1, v2, rfl, k v1 v2 B2 H2 g h1 h2⟩)
theorem wy_book_len {K : PySem.W.Frag} {b : Vbcrah.Book} {v : V} {B : Hp} (h : (rWy K b).p v B) : ∃ u, (rBk K b).p u B ∧ ∃ u2, (rL rBy (setsOf b)).p u2 B ∧ ∃ u3, (rL rDue (duesOf b)).p u3 B := by
  obtain ⟨q, dx, fs, _, _, z⟩ := h
  obtain ⟨u, _, h1⟩ := z.at (f := "book") rfl
  obtain ⟨u2, _, h2⟩ := z.at (f := "sets") rfl
  obtain ⟨u3, _, h3⟩ := z.at (f := "due_ones") rfl
  exact ⟨u, h1, u2, h2, u3, h3⟩
theorem min_cast (a b : Nat) : min (a : Int) (b : Int) = ((min a b : Nat) : Int) := by omega
section
variable {P : Program} {w : World} {K : PySem.W.Frag} {mg : Str → Option Value} {base : Heap}
theorem others_mem {l s : List Nat} {n : Nat} (h : ∀ j ∈ l, j < n) : ∀ j ∈ othersOf l s, j < n := fun j hj => h j (List.mem_filter.mp hj).1
structure PuA where
  b : Vbcrah.Book
  want : List Nat
  w : List Nat
  d : List Nat × List Nat
abbrev PuOk (a : PuA) : Prop := (∀ j ∈ a.d.1, j < a.want.length) ∧ ∀ j ∈ a.d.2, j < a.want.length
abbrev puArgs (K : PySem.W.Frag) (a : PuA) : List Rp := [rWy K a.b, rBy a.want, rBy a.w, rDue a.d]
theorem fn_put_up (T : Txt K mg) : Fn P w K mg base CX0 "put_up" 2 ["ways", "wants", "some", "due_ones"] (spP PuOk (puArgs K) (fun a => rN (putUp a.b a.want a.w a.d))) := by
  obtain ⟨fd, F⟩ := T.d_put_up
  refine mkFn T.g_put_up F (b_put_up F) (ok_body F sc_put_up (len_P fun _ => rfl) fun cdv A outer s H vs Q E hr q => ?_)
  obtain ⟨⟨b, want, ws, d⟩, B, hs, hp, hv, k⟩ := q
  obtain ⟨v1, v2, v3, v4, rfl, h1, h2, h3, h4⟩ := vs4 hv
  refine wb_asg (ep_var 3 rfl h4).ev hs (pg_tup rfl (pgs_cons (pg_name (i := 4) sc_put_up.nd rfl (Or.inl rfl)) (pgs_cons (pg_name (i := 5) sc_put_up.nd rfl (Or.inl rfl)) pgs_nil))) fun v B2 H2 g r => ?_
  obtain ⟨t, us, e1, ht, hu⟩ := r
  obtain ⟨u1, u2, rfl, r1, r2⟩ := vs2 hu
  refine gn_pair e1 ht g.bh _ ?_
  have k1 := up g.bb h1
  have k2 := up g.bb h2
  have k3 := up g.bb h3
  refine wb_ret (ev_add (ev_call (fn_sum_nat T) hr (want, othersOf d.2 ws) (others_mem hp.2) (ea_cons (ep_var 1 rfl k2).ev (ea_one (ev_call (fn_others T) hr (d.2, ws) True.intro (ea_cons (ep_var 5 rfl r2).ev (ea_one (ep_var 2 rfl k3).ev))))))
    (ev_min2 rfl T.f_min (ep_bk_grind T (ep_wy_book T (ep_var 0 rfl k1))).ev (ev_call (fn_sum_nat T) hr (want, othersOf d.1 ws) (others_mem hp.1) (ea_cons (ep_var 1 rfl k2).ev (ea_one (ev_call (fn_others T) hr (d.1, ws) True.intro (ea_cons (ep_var 4 rfl r1).ev (ea_one (ep_var 2 rfl k3).ev)))))))) g.bh fun v B3 H3 g3 r3 => k v B3 H3 (g.trans g3) (Fb.cv (congrArg rI ?_) r3)
  rw [min_cast]
  exact (Int.natCast_add _ _).symm
theorem ground_lt {b : Vbcrah.Book} {d : Nat} : ∀ j ∈ groundOn b d, j < b.orders.length := fun j h => mem_rng h
theorem beans_lt {b : Vbcrah.Book} {d : Nat} : ∀ j ∈ beansOn b d, j < b.orders.length := fun j h => mem_rng h
structure DbA where
  b : Vbcrah.Book
  want : List Nat
  w : List Nat
theorem fn_days_bound (T : Txt K mg) : Fn P w K mg base CX0 "days_bound" 3 ["ways", "wants", "some"] (spP (fun a : DbA => a.want.length = a.b.orders.length) (fun a => [rWy K a.b, rBy a.want, rBy a.w]) (fun a => rN (daysB a.b a.want a.w))) := by
  obtain ⟨fd, F⟩ := T.d_days_bound
  refine mkFn T.g_days_bound F (b_days_bound F) (ok_body F sc_days_bound (len_P fun _ => rfl) fun cdv A outer s H vs Q E hr q => ?_)
  obtain ⟨⟨b, want, ws⟩, B, hs, hp, hv, k⟩ := q
  obtain ⟨v1, v2, v3, rfl, h1, h2, h3⟩ := vs3 hv
  have hl : want.length = b.orders.length := hp
  obtain ⟨_, _, _, _, u3, hd⟩ := wy_book_len h1
  refine wb_ret (ev_sumN (xs := (duesOf b).map fun d => min b.send (putUp b want ws d)) rfl T.f_sum (Ev.unF (ef_map 3 (r := rDue) (q := rN) (f := fun d => min b.send (putUp b want ws d)) rfl sc_days_bound.nd (ei_list (ep_wy_due T (ep_var 0 rfl h1)).ev (ll hd)) (blkOk_by (N := N_days_bound) (sc := defScope s_days_bound) (by decide +kernel)) (fun _ _ _ _ _ => pg_name sc_days_bound.nd rfl (Or.inl rfl)) ?_))) hs fun v B2 H2 g r => k v B2 H2 g (Fb.cv (congrArg rN ?_) r)
  · intro d hd v B1 s1 r1 _ _ _ _ _
    obtain ⟨dd, _, rfl⟩ := List.mem_map.mp hd
    exact (ev_min2 rfl T.f_min (ep_bk_send T (ep_wy_book T (ep_var 0 rfl (up s1 h1)))).ev (ev_call (fn_put_up T) hr ⟨b, want, ws, _⟩ ⟨fun j hj => by show j < want.length; rw [hl]; exact ground_lt j hj, fun j hj => by show j < want.length; rw [hl]; exact beans_lt j hj⟩ (ea_cons (ep_var 0 rfl (up s1 h1)).ev (ea_cons (ep_var 1 rfl (up s1 h2)).ev (ea_cons (ep_var 2 rfl (up s1 h3)).ev (ea_one (ep_var 3 rfl r1).ev)))))).is (congrArg rI (min_cast _ _))
  · unfold daysB
    rw [List.map_map]; rfl
structure BnA where
  b : Vbcrah.Book
  want : List Nat
  n : Nat
abbrev setAt (b : Vbcrah.Book) (n : Nat) : List Nat := (setsOf b).getD n []
theorem set_at {b : Vbcrah.Book} {n : Nat} (h : n < (setsOf b).length) : (setsOf b)[n]? = some (setAt b n) := by
  unfold setAt
  rw [List.getD_eq_getElem?_getD, List.getElem?_eq_getElem h]; rfl
theorem set_mem {b : Vbcrah.Book} {n : Nat} (h : n < (setsOf b).length) : setAt b n ∈ setsOf b := List.mem_of_getElem? (set_at h)
theorem right_lt {b : Vbcrah.Book} {w : List Nat} : ∀ j ∈ rightOf b w, j < b.stocks.length := fun j h => mem_rng h
theorem fn_bound (T : Txt K mg) : Fn P w K mg base CX0 "bound" 4 ["ways", "wants", "number"] (spP (fun a : BnA => a.want.length = a.b.orders.length ∧ a.n < (setsOf a.b).length) (fun a => [rWy K a.b, rBy a.want, rN a.n]) (fun a => rN (boundW a.b a.want (setAt a.b a.n)))) := by
  obtain ⟨fd, F⟩ := T.d_bound
  refine mkFn T.g_bound F (b_bound F) (ok_body F sc_bound (len_P fun _ => rfl) fun cdv A outer s H vs Q E hr q => ?_)
  obtain ⟨⟨b, want, n⟩, B, hs, ⟨hl, hn⟩, hv, k⟩ := q
  obtain ⟨v1, v2, v3, rfl, h1, h2, h3⟩ := vs3 hv
  obtain ⟨u, hb, _⟩ := wy_book_len h1
  refine wb_map 3 4 (r := rSt K) (q := rN) (f := fun st : Vbcrah.Stock => st.bags) rfl sc_bound.nd (ei_list (ep_bk_stocks T (ep_wy_book T (ep_var 0 rfl h1))).ev (bk_stocks_len hb)) (blkOk_by (N := N_bound) (sc := defScope s_bound) (by decide +kernel)) (fun _ _ _ _ _ => pg_name sc_bound.nd rfl (Or.inl rfl)) (fun st hst v B1 s1 r1 _ _ _ _ _ => (ep_st_bags T (ep_var 4 rfl r1)).ev) hs fun u B2 H2 g r => ?_
  have k1 := up g.bb h1
  have r1 : (rBy (b.stocks.map fun st => st.bags)).p u B2 := r.1
  have sa := set_at hn
  refine wb_ret (ev_add (ev_call (fn_sum_nat T) (hr.mono (by decide)) (b.stocks.map fun st => st.bags, rightOf b (setAt b n)) (fun j hj => by show j < (b.stocks.map _).length; rw [List.length_map]; exact right_lt j hj) (ea_cons (ep_var 3 rfl r1).ev (ea_one (ev_ix (r := rBy) (ep_wy_right T (ep_var 0 rfl k1)).ev (ep_var 2 rfl (up (R := rN n) g.bb h3)).ev (by rw [List.getElem?_map, sa]; rfl)))))
    (ev_call (fn_days_bound T) hr ⟨b, want, setAt b n⟩ hl (ea_cons (ep_var 0 rfl k1).ev (ea_cons (ep_var 1 rfl (up (R := rBy want) g.bb h2)).ev (ea_one (ev_ix (r := rBy) (ep_wy_sets T (ep_var 0 rfl k1)).ev (ep_var 2 rfl (up (R := rN n) g.bb h3)).ev sa)))))) g.bh fun v B3 H3 g3 r3 => k v B3 H3 (g.trans g3) (Fb.cv (congrArg rI ?_) r3)
  rw [← bound_eq (sets_lt (set_mem hn))]
  exact (Int.natCast_add _ _).symm
theorem fn_told_bound (T : Txt K mg) : Fn P w K mg base CX0 "told_bound" 5 ["ways", "wants"] (spP (fun a : Vbcrah.Book × List Nat => a.2.length = a.1.orders.length) (fun a => [rWy K a.1, rBy a.2]) (fun a => rT [rN (Vbcrah.leastBound a.1 a.2).1, rBy (Vbcrah.leastBound a.1 a.2).2])) := by
  obtain ⟨fd, F⟩ := T.d_told_bound
  refine mkFn T.g_told_bound F (b_told_bound F) (ok_body F sc_told_bound (len_P fun _ => rfl) fun cdv A outer s H vs Q E hr q => ?_)
  obtain ⟨⟨b, want⟩, B, hs, hl, hv, k⟩ := q
  obtain ⟨v1, v2, rfl, h1, h2⟩ := vs2 hv
  obtain ⟨_, _, us, hsl, _⟩ := wy_book_len h1
  have s0 : (setsOf b)[0]? = some [] := sets_zero _
  have n0 : 0 < (setsOf b).length := (List.getElem?_eq_some_iff.mp s0).1
  have e0 : setAt b 0 = [] := by have := set_at n0; rw [s0] at this; exact (Option.some.inj this).symm
  refine wb_par 2 3 (ea_cons ((ev_call (fn_bound T) hr ⟨b, want, 0⟩ ⟨hl, n0⟩ (ea_cons (ep_var 0 rfl h1).ev (ea_cons (ep_var 1 rfl h2).ev (ea_one ep_int.ev)))).is (by rw [e0])) (ea_one (ev_ix (r := rBy) (n := 0) (ep_wy_sets T (ep_var 0 rfl h1)).ev ep_int.ev s0))) hs (fun u1 u2 B2 H2 g r1 r2 => ?_) sc_told_bound.nd
  refine wb_forG (ei_enum T.f_enumerate (ep_wy_sets T (ep_var 0 rfl (up g.bb h1))).ev (ll hsl)) (pg_tup rfl (pgs_cons (pg_name (i := 4) sc_told_bound.nd rfl (Or.inl rfl)) (pgs_cons (pg_name (i := 5) sc_told_bound.nd rfl (Or.inl rfl)) pgs_nil))) g.bh
    (fun Bk j σ' H' => Gr B H Bk H' ∧ ∃ x y a c d, (rN (((setsOf b).take j).foldl (stepB b want) (boundW b want [], [])).1).p x Bk ∧ (rBy (((setsOf b).take j).foldl (stepB b want) (boundW b want [], [])).2).p y Bk ∧ σ' = [some v1, some v2, some x, some y, a, c, d]) PassesOwn.never rfl
    (fun B3 H3 g3 => ⟨g.trans g3, u1, u2, none, none, none, r1, up (R := rBy []) g3.bb r2, rfl⟩) (fun Bk j σ' H' z => z.1.bh) ?_ ?_
  · rintro Bk j ⟨sw, j'⟩ v σ' H' B4 H4 sB hz ⟨gk, x, y, a, c, d, hx, hy, rfl⟩ g4 ⟨t, ws, ev, ht, hw⟩
    obtain ⟨ho, ej⟩ := zi_back hz
    have ej : j = j' := ej.symm
    subst ej
    have ho : (setsOf b)[j]? = some sw := ho
    obtain ⟨w1, w2, rfl, q1, q2⟩ := vs2 hw
    have hj : j < (setsOf b).length := (List.getElem?_eq_some_iff.mp ho).1
    have ew : setAt b j = sw := by have := set_at hj; rw [ho] at this; exact (Option.some.inj this).symm
    have gg := gk.trans g4
    refine ⟨_, gn_pair ev ht g4.bh, wb_set 6 ((ev_call (fn_bound T) hr ⟨b, want, j⟩ ⟨hl, hj⟩ (ea_cons (ep_var 0 rfl (up gg.bb h1)).ev (ea_cons (ep_var 1 rfl (up gg.bb h2)).ev (ea_one (ep_var 4 rfl q1).ev)))).is (by rw [ew])) gg.bh (fun u B5 H5 g5 r5 => ?_) sc_told_bound.nd⟩
    have g6 := gg.trans g5
    have hstep : ((setsOf b).take (j + 1)).foldl (stepB b want) (boundW b want [], []) = stepB b want (((setsOf b).take j).foldl (stepB b want) (boundW b want [], [])) sw := by
      rw [take_succ ho, List.foldl_append]; rfl
    refine wb_when (et_lt (ep_var 6 rfl (R := rN _) r5).ev (ep_var 2 rfl (up (g4.bb.trans g5.bb) (R := rN _) hx)).ev) g6.bh (fun hc B7 H7 g7 => ?_) fun hc B7 H7 g7 => ?_
    · refine wb_par 2 3 (ea_cons (ep_var 6 rfl (up g7.bb (R := rN (boundW b want sw)) r5)).ev (ea_one (ep_var 5 rfl (up (g5.bb.trans g7.bb) (R := rBy sw) q2)).ev)) g7.bh (fun x9 y9 B9 H9 g9 rx9 ry9 => wb_nil (wb_nil ⟨B9, (g4.bb.trans g5.bb).trans (g7.bb.trans g9.bb), (g6.trans g7).trans g9, x9, y9, some w1, some w2, some u, ?_, ?_, rfl⟩)) sc_told_bound.nd
      · rw [hstep]; unfold stepB; rw [if_pos (by rw [dec_lt] at hc; exact of_decide_eq_true hc)]; exact rx9
      · rw [hstep]; unfold stepB; rw [if_pos (by rw [dec_lt] at hc; exact of_decide_eq_true hc)]; exact ry9
    · refine wb_nil ⟨B7, (g4.bb.trans g5.bb).trans g7.bb, g6.trans g7, x, y, some w1, some w2, some u, ?_, ?_, rfl⟩
      · rw [hstep]; unfold stepB; rw [if_neg (by rw [dec_lt] at hc; exact of_decide_eq_false hc)]; exact hx
      · rw [hstep]; unfold stepB; rw [if_neg (by rw [dec_lt] at hc; exact of_decide_eq_false hc)]; exact up (R := rBy _) ((g4.bb.trans g5.bb).trans g7.bb) hy
  · rintro Bk σ' H' sB ⟨gk, x, y, a, c, d, hx, hy, rfl⟩
    rw [List.length_zipIdx, List.take_length, ← least_eq] at hx hy
    exact wb_ret (ev_tup (Rs := [rN (Vbcrah.leastBound b want).1, rBy (Vbcrah.leastBound b want).2]) (ea_cons (ep_var 2 rfl hx).ev (ea_one (ep_var 3 rfl hy).ev)) (by show 2 ≤ LB; decide)) gk.bh fun v B7 H7 g7 r => k v B7 H7 (gk.trans g7) r
/-! most, can_have, held_on, bound_told -/
abbrev WtOk (a : Vbcrah.Book × List Nat) : Prop := a.2.length = a.1.orders.length
theorem fn_most (T : Txt K mg) : Fn P w K mg base CX0 "most" 6 ["ways", "wants"] (spP WtOk (fun a => [rWy K a.1, rBy a.2]) (fun a => rN (Vbcrah.mostBy a.1 a.2))) := by
  obtain ⟨fd, F⟩ := T.d_most
  refine mkFn T.g_most F (b_most F) (ok_body F sc_most (len_P fun _ => rfl) fun cdv A outer s H vs Q E hr q => ?_)
  obtain ⟨⟨b, want⟩, B, hs, hl, hv, k⟩ := q
  obtain ⟨v1, v2, rfl, h1, h2⟩ := vs2 hv
  exact wb_ret (ev_ixT (n := 0) (ev_call (fn_told_bound T) hr (b, want) hl (ea_cons (ep_var 0 rfl h1).ev (ea_one (ep_var 1 rfl h2).ev))) ep_int.ev rfl) hs k
theorem fn_can_have (T : Txt K mg) : Fn P w K mg base CX0 "can_have" 7 ["ways", "wants"] (spP WtOk (fun a => [rWy K a.1, rBy a.2]) (fun a => rB (Vbcrah.can a.1 a.2))) := by
  obtain ⟨fd, F⟩ := T.d_can_have
  refine mkFn T.g_can_have F (b_can_have F) (ok_body F sc_can_have (len_P fun _ => rfl) fun cdv A outer s H vs Q E hr q => ?_)
  obtain ⟨⟨b, want⟩, B, hs, hl, hv, k⟩ := q
  obtain ⟨v1, v2, rfl, h1, h2⟩ := vs2 hv
  refine wb_ret (ev_eq (ev_call (fn_most T) hr (b, want) hl (ea_cons (ep_var 0 rfl h1).ev (ea_one (ep_var 1 rfl h2).ev))) (ev_sumN rfl T.f_sum (ep_var 1 rfl h2).ev)) hs fun v B2 H2 g r => k v B2 H2 g (Fb.cv (congrArg rB ?_) r)
  rw [dec_eq]
  unfold Vbcrah.can
  cases h : decide (Vbcrah.mostBy b want = want.sum) with
  | true => exact (beq_iff_eq.mpr (of_decide_eq_true h)).symm
  | false => exact (beq_eq_false_iff_ne.mpr (of_decide_eq_false h)).symm
def heldOn (b : Vbcrah.Book) (want w : List Nat) (d : List Nat × List Nat) : Nat := if b.send < putUp b want w d then 2 else if b.grind < restOf want w d.1 then 1 else 0
theorem fn_held_on (T : Txt K mg) : Fn P w K mg base CX0 "held_on" 3 ["ways", "wants", "some", "due_ones"] (spP PuOk (puArgs K) (fun a => rN (heldOn a.b a.want a.w a.d))) := by
  obtain ⟨fd, F⟩ := T.d_held_on
  refine mkFn T.g_held_on F (b_held_on F) (ok_body F sc_held_on (len_P fun _ => rfl) fun cdv A outer s H vs Q E hr q => ?_)
  obtain ⟨⟨b, want, ws, d⟩, B, hs, hp, hv, k⟩ := q
  obtain ⟨v1, v2, v3, v4, rfl, h1, h2, h3, h4⟩ := vs4 hv
  refine wb_when (et_lt (ep_bk_send T (ep_wy_book T (ep_var 0 rfl h1))).ev (ev_call (fn_put_up T) hr ⟨b, want, ws, d⟩ hp (ea_cons (ep_var 0 rfl h1).ev (ea_cons (ep_var 1 rfl h2).ev (ea_cons (ep_var 2 rfl h3).ev (ea_one (ep_var 3 rfl h4).ev)))))) hs (fun hc B2 H2 g => ?_) fun hc B2 H2 g => ?_
  · rw [dec_lt] at hc
    exact wb_ret (ep_cI T.i_BY_CART).ev g.bh fun v B3 H3 g3 r => k v B3 H3 (g.trans g3) (Fb.cv (show rI 2 = rN (heldOn b want ws d) by unfold heldOn; rw [if_pos (show b.send < putUp b want ws d from of_decide_eq_true hc)]; rfl) r)
  · rw [dec_lt] at hc
    have hc : ¬ b.send < putUp b want ws d := of_decide_eq_false hc
    refine wb_ret (ev_ite (R := rN (heldOn b want ws d)) (et_lt (ep_bk_grind T (ep_wy_book T (ep_var 0 rfl (up g.bb h1)))).ev (ev_call (fn_sum_nat T) (hr.mono (by decide)) (want, othersOf d.1 ws) (others_mem hp.1) (ea_cons (ep_var 1 rfl (up g.bb h2)).ev (ea_one (ev_call (fn_others T) (hr.mono (by decide)) (d.1, ws) True.intro (ea_cons (ev_ixT (n := 0) (ep_var 3 rfl (up (R := rDue d) g.bb h4)).ev ep_int.ev rfl) (ea_one (ep_var 2 rfl (up g.bb h3)).ev))))))) (fun e => (ep_cI T.i_BY_MILL).ev.is ?_) fun e => (ep_cI T.i_FREE).ev.is ?_) g.bh fun v B3 H3 g3 r => k v B3 H3 (g.trans g3) r
    · rw [dec_lt] at e
      unfold heldOn
      rw [if_neg hc, if_pos (show b.grind < restOf want ws d.1 from of_decide_eq_true e)]; rfl
    · rw [dec_lt] at e
      unfold heldOn
      rw [if_neg hc, if_neg (show ¬ b.grind < restOf want ws d.1 from of_decide_eq_false e)]; rfl
theorem choices_len : ∀ (k : Nat) (l : List Nat), ∀ w ∈ Vbcrah.choices k l, w.length = k
  | 0, l, w, hw => by unfold Vbcrah.choices at hw; simp at hw; subst hw; rfl
  | k + 1, [], w, hw => by simp [Vbcrah.choices] at hw
  | k + 1, x :: l, w, hw => by
    rw [Vbcrah.choices, List.mem_append] at hw
    rcases hw with hw | hw
    · obtain ⟨s, hs, rfl⟩ := List.mem_map.mp hw
      rw [List.length_cons, choices_len k l s hs]
    · exact choices_len (k + 1) l w hw
theorem sets_size {n : Nat} {w : List Nat} (h : w ∈ Vbcrah.sets n) : w.length ≤ n := by
  obtain ⟨k, hk, hw⟩ := List.mem_flatMap.mp h
  have := choices_len k _ w hw
  have := List.mem_range.mp hk
  omega
def toldRow (b : Vbcrah.Book) (want : List Nat) : List Nat := (Vbcrah.leastBound b want).2.length :: ((Vbcrah.leastBound b want).2 ++ (duesOf b).map (heldOn b want (Vbcrah.leastBound b want).2))
theorem least_mem (b : Vbcrah.Book) (want : List Nat) : (Vbcrah.leastBound b want).2 ∈ setsOf b := by
  rw [least_eq]
  have : ∀ (l : List (List Nat)) (z : Nat × List Nat), (∀ x ∈ l, x ∈ setsOf b) → z.2 ∈ setsOf b → (l.foldl (stepB b want) z).2 ∈ setsOf b := by
    intro l
    induction l with
    | nil => intro z _ h; exact h
    | cons x l ih =>
      intro z hl hz
      rw [List.foldl_cons]
      refine ih _ (fun y hy => hl y (by simp [hy])) ?_
      unfold stepB
      split
      · exact hl x (by simp)
      · exact hz
  exact this _ _ (fun x h => h) (List.mem_of_getElem? (sets_zero _))
theorem fn_bound_told (T : Txt K mg) : Fn P w K mg base CX0 "bound_told" 6 ["ways", "wants"] (spP (fun a => WtOk a ∧ a.1.orders.length ≤ 8) (fun a => [rWy K a.1, rBy a.2]) (fun a => rT [rN (Vbcrah.mostBy a.1 a.2), rBy (toldRow a.1 a.2)])) := by
  obtain ⟨fd, F⟩ := T.d_bound_told
  refine mkFn T.g_bound_told F (b_bound_told F) (ok_body F sc_bound_told (len_P fun _ => rfl) fun cdv A outer s H vs Q E hr q => ?_)
  obtain ⟨⟨b, want⟩, B, hs, ⟨hl, h8⟩, hv, k⟩ := q
  obtain ⟨v1, v2, rfl, h1, h2⟩ := vs2 hv
  refine wb_asg (ev_call (fn_told_bound T) hr (b, want) hl (ea_cons (ep_var 0 rfl h1).ev (ea_one (ep_var 1 rfl h2).ev))) hs (pg_tup rfl (pgs_cons (pg_name (i := 2) sc_bound_told.nd rfl (Or.inl rfl)) (pgs_cons (pg_name (i := 3) sc_bound_told.nd rfl (Or.inr rfl)) pgs_nil))) fun v B2 H2 g r => ?_
  obtain ⟨t, us, e1, ht, hu⟩ := r
  obtain ⟨u1, u2, rfl, r1, r2⟩ := vs2 hu
  refine gn_pair e1 ht g.bh _ ?_
  have hl : want.length = b.orders.length := hl
  have hd8 := FbM.days_len b
  have h8 : b.orders.length ≤ 8 := h8
  obtain ⟨_, _, _, _, u3, hd⟩ := wy_book_len h1
  have s8 : (Vbcrah.leastBound b want).2.length ≤ LB := ll r2
  have s9 : (Vbcrah.leastBound b want).2.length ≤ 256 := by have := sets_size (least_mem b want); omega
  refine wb_ret (ev_tup (Rs := [rN (Vbcrah.mostBy b want), rBy (toldRow b want)]) (ea_cons (ep_var 2 rfl r1).ev (ea_one ((ev_cat (r := rN) (xs := (Vbcrah.leastBound b want).2.length :: (Vbcrah.leastBound b want).2) (ys := (duesOf b).map (heldOn b want (Vbcrah.leastBound b want).2)) (ev_cat (r := rN) (xs := [(Vbcrah.leastBound b want).2.length]) (ys := (Vbcrah.leastBound b want).2) (ev_list (r := rN) (xs := [(Vbcrah.leastBound b want).2.length]) (ea_one (ev_len T.f_len (ep_var 3 rfl r2).ev)) (by show 1 ≤ LB; decide)) (ep_var 3 rfl r2).ev (by show 1 + _ ≤ LB; unfold LB; omega)) (Ev.unF (ef_map 4 (r := rDue) (q := rN) (f := heldOn b want (Vbcrah.leastBound b want).2) rfl sc_bound_told.nd (ei_list (ep_wy_due T (ep_var 0 rfl (up g.bb h1))).ev (ll hd)) (blkOk_by (N := N_bound_told) (sc := defScope s_bound_told) (by decide +kernel)) (fun _ _ _ _ _ => pg_name sc_bound_told.nd rfl (Or.inl rfl)) ?_)) (by rw [List.length_map, List.length_map]; show _ + 1 + _ ≤ LB; unfold LB; omega)).is (by rfl)))) (by show 2 ≤ LB; decide)) g.bh fun v B3 H3 g3 r => k v B3 H3 (g.trans g3) r
  intro d hd v B1 s1 r1 _ _ _ _ _
  obtain ⟨dd, _, rfl⟩ := List.mem_map.mp hd
  exact ev_call (fn_held_on T) (hr.mono (by decide)) ⟨b, want, _, _⟩ ⟨fun j hj => by show j < want.length; rw [hl]; exact ground_lt j hj, fun j hj => by show j < want.length; rw [hl]; exact beans_lt j hj⟩ (ea_cons (ep_var 0 rfl (up (g.bb.trans s1) h1)).ev (ea_cons (ep_var 1 rfl (up (g.bb.trans s1) h2)).ev (ea_cons (ep_var 3 rfl (up s1 r2)).ev (ea_one (ep_var 4 rfl r1).ev))))
end
end Fb
/-! FbP: serving: rows, takes -/
namespace Fb
open PySem PySem.Spec PyProof.Rows L2
section
variable {X : Cx} {a b : Expr} {σ : L2.St} {B : Hp} {pos : Pos}
/-- n in (p, q) -/
theorem ev_in2 {i p q : Int} (ha : Ev X a σ B (rI i)) (hb : Ev X b σ B (rT [rI p, rI q])) (hm : behindInMarks .In b = false := by rfl) : Ev X (.Compare a [.In] [b] pos) σ B (rB (decide (p = i) || decide (q = i))) :=
  ev_cmp op_in_seq hm ha hb fun x y B2 H2 _ s r1 ⟨t, vs, e1, h1, z⟩ Q k => by
    obtain ⟨v1, v2, rfl, q1, q2⟩ := vs2 z
    cases (show v1 = V.int p from q1)
    cases (show v2 = V.int q from q2)
    cases (show x = V.int i from r1)
    refine ⟨t, _, e1, .inr (SqT.of (s _ _ h1)), rfl, rfl, ?_⟩
    have e : inV (V.int i) [V.int p, V.int q] = (decide (p = i) || decide (q = i)) := by
      show ((p == i) || ((q == i) || false)) = _
      rw [Bool.or_false]
      congr 1
    rw [e]; exact k
end
section
variable {P : Program} {w : World} {K : PySem.W.Frag} {mg : Str → Option Value} {base : Heap}
theorem set_cut {α : Type} {row : List α} {p : Nat} {x : α} (h : p < row.length) : row.take p ++ [x] ++ row.drop (p + 1) = row.set p x := by
  rw [List.set_eq_take_append_cons_drop, if_pos h, List.append_assoc]; rfl
theorem fn_with_one {α : Type} (r : α → Rp) (T : Txt K mg) : Fn P w K mg base CX0 "with_one" 1 ["row", "place", "number"] (spP (fun a : List α × Nat × α => a.2.1 < a.1.length ∧ a.1.length < LB) (fun a => [rL r a.1, rN a.2.1, r a.2.2]) (fun a => rL r (a.1.set a.2.1 a.2.2))) := by
  obtain ⟨fd, F⟩ := T.d_with_one
  refine mkFn T.g_with_one F (b_with_one F) (ok_body F sc_with_one (len_P fun _ => rfl) fun cdv A outer s H vs Q E hr q => ?_)
  obtain ⟨⟨row, p, x⟩, B, hs, ⟨hp, hl⟩, hv, k⟩ := q
  obtain ⟨v1, v2, v3, rfl, h1, h2, h3⟩ := vs3 hv
  have hl : row.length < LB := hl
  have hp : p < row.length := hp
  refine wb_ret (ev_cat (r := r) (xs := row.take p ++ [x]) (ys := row.drop (p + 1)) (ev_cat (r := r) (xs := row.take p) (ys := [x]) (ef_to (ep_var 0 rfl h1).ev (ep_var 1 rfl h2).ev).unF (ev_list (r := r) (xs := [x]) (ea_one (ep_var 2 rfl h3).ev) (by show 1 ≤ LB; decide)) (by rw [List.length_take]; show _ + 1 ≤ LB; omega)) (ef_from (n := p + 1) (ep_var 0 rfl h1).ev (ev_add (ep_var 1 rfl h2).ev ep_int.ev)).unF (by rw [List.length_append, List.length_take, List.length_drop]; show _ + 1 + _ ≤ LB; omega)) hs fun v B2 H2 g r2 => k v B2 H2 g (Fb.cv (congrArg (rL r) (set_cut hp)) r2)
/-! what takes tell -/
abbrev tkOrder (ts : List Vbcrah.Take) (j : Nat) : Nat := Vbcrah.byOrder ts j
theorem dec_beq (a b : Nat) : decide ((a : Int) = (b : Int)) = (a == b) := by
  rw [dec_eq]
  by_cases h : a = b
  · subst h; simp
  · rw [decide_eq_false h, beq_eq_false_iff_ne.mpr h]
theorem fn_bags_had (T : Txt K mg) : Fn P w K mg base CX0 "bags_had" 1 ["takes", "many"] (spP (fun a : List Vbcrah.Take × Nat => a.2 ≤ LB) (fun a => [rL (rTk K) a.1, rN a.2]) (fun a => rBy ((List.range a.2).map fun j => Vbcrah.byOrder a.1 j))) := by
  obtain ⟨fd, F⟩ := T.d_bags_had
  refine mkFn T.g_bags_had F (b_bags_had F) (ok_body F sc_bags_had (len_P fun _ => rfl) fun cdv A outer s H vs Q E hr q => ?_)
  obtain ⟨⟨ts, n⟩, B, hs, hp, hv, k⟩ := q
  obtain ⟨v1, v2, rfl, h1, h2⟩ := vs2 hv
  refine wb_ret (Ev.unF (ef_map 2 (r := fun j : Nat => rN j) (q := rN) (f := fun j => Vbcrah.byOrder ts j) rfl sc_bags_had.nd (ei_range1 T.f_range (ep_var 1 rfl h2).ev hp) (blkOk_by (N := N_bags_had) (sc := defScope s_bags_had) (by decide +kernel)) (fun _ _ _ _ _ => pg_name sc_bags_had.nd rfl (Or.inr rfl)) ?_)) hs fun v B2 H2 g r => k v B2 H2 g r
  intro j hj v B1 s1 r1 _ _ _ _ _
  refine (ev_sumN rfl T.f_sum (Ev.unF (ef_fmap 3 (r := rTk K) (q := rN) (f := fun t => t.bags) (c := fun t => t.order == j) rfl sc_bags_had.nd (ei_list (ep_var 0 rfl (up s1 h1)).ev (ll h1)) (blkOk_by (N := N_bags_had) (sc := relS _ (defScope s_bags_had)) (by decide +kernel)) (fun _ _ _ _ _ => pg_name sc_bags_had.nd rfl (Or.inl rfl)) ?_)))
  intro t ht v3 B3 s3 r3 _ _ _ _ _
  exact ⟨(et_eq (ep_tk_order T (ep_var 3 rfl r3)).ev (ep_var 2 rfl (up s3 r1)).ev).is (dec_beq _ _), fun _ => (ep_tk_bags T (ep_var 3 rfl r3)).ev⟩
theorem fn_bags_given (T : Txt K mg) : Fn P w K mg base CX0 "bags_given" 1 ["takes", "many"] (spP (fun a : List Vbcrah.Take × Nat => a.2 ≤ LB) (fun a => [rL (rTk K) a.1, rN a.2]) (fun a => rBy ((List.range a.2).map fun j => Vbcrah.byStock a.1 j))) := by
  obtain ⟨fd, F⟩ := T.d_bags_given
  refine mkFn T.g_bags_given F (b_bags_given F) (ok_body F sc_bags_given (len_P fun _ => rfl) fun cdv A outer s H vs Q E hr q => ?_)
  obtain ⟨⟨ts, n⟩, B, hs, hp, hv, k⟩ := q
  obtain ⟨v1, v2, rfl, h1, h2⟩ := vs2 hv
  refine wb_ret (Ev.unF (ef_map 2 (r := fun j : Nat => rN j) (q := rN) (f := fun j => Vbcrah.byStock ts j) rfl sc_bags_given.nd (ei_range1 T.f_range (ep_var 1 rfl h2).ev hp) (blkOk_by (N := N_bags_given) (sc := defScope s_bags_given) (by decide +kernel)) (fun _ _ _ _ _ => pg_name sc_bags_given.nd rfl (Or.inr rfl)) ?_)) hs fun v B2 H2 g r => k v B2 H2 g r
  intro j hj v B1 s1 r1 _ _ _ _ _
  refine (ev_sumN rfl T.f_sum (Ev.unF (ef_fmap 3 (r := rTk K) (q := rN) (f := fun t => t.bags) (c := fun t => t.stock == j) rfl sc_bags_given.nd (ei_list (ep_var 0 rfl (up s1 h1)).ev (ll h1)) (blkOk_by (N := N_bags_given) (sc := relS _ (defScope s_bags_given)) (by decide +kernel)) (fun _ _ _ _ _ => pg_name sc_bags_given.nd rfl (Or.inl rfl)) ?_)))
  intro t ht v3 B3 s3 r3 _ _ _ _ _
  exact ⟨(et_eq (ep_tk_stock T (ep_var 3 rfl r3)).ev (ep_var 2 rfl (up s3 r1)).ev).is (dec_beq _ _), fun _ => (ep_tk_bags T (ep_var 3 rfl r3)).ev⟩
def tkOk (b : Vbcrah.Book) (t : Vbcrah.Take) : Bool := match b.stocks[t.stock]?, b.orders[t.order]? with
  | some s, some o => Vbcrah.suits s o && decide (1 ≤ t.bags)
  | _, _ => false
theorem fn_is_take_right (T : Txt K mg) : Fn P w K mg base CX0 "is_take_right" 2 ["book", "take"] (spP (fun a : Vbcrah.Book × Vbcrah.Take => True) (fun a => [rBk K a.1, rTk K a.2]) (fun a => rB (tkOk a.1 a.2))) := by
  obtain ⟨fd, F⟩ := T.d_is_take_right
  refine mkFn T.g_is_take_right F (b_is_take_right F) (ok_body F sc_is_take_right (len_P fun _ => rfl) fun cdv A outer s H vs Q E hr q => ?_)
  obtain ⟨⟨b, t⟩, B, hs, hp, hv, k⟩ := q
  obtain ⟨v1, v2, rfl, h1, h2⟩ := vs2 hv
  refine wb_when (et_or3 (et_ge (ep_tk_order T (ep_var 1 rfl h2)).ev (ev_len T.f_len (ep_bk_orders T (ep_var 0 rfl h1)).ev)) (fun _ => et_ge (ep_tk_stock T (ep_var 1 rfl h2)).ev (ev_len T.f_len (ep_bk_stocks T (ep_var 0 rfl h1)).ev)) fun _ _ => et_lt (ep_tk_bags T (ep_var 1 rfl h2)).ev ep_int.ev) hs (fun hc B2 H2 g => ?_) fun hc B2 H2 g => ?_
  · refine wb_ret ep_bl.ev g.bh fun v B3 H3 g3 r => k v B3 H3 (g.trans g3) (Fb.cv (congrArg rB ?_) r)
    show false = tkOk b t
    rw [Bool.or_eq_true, Bool.or_eq_true] at hc
    unfold tkOk
    rcases hc with hc | hc | hc
    · have hc : ((b.orders.length : Nat) : Int) ≤ (t.order : Int) := of_decide_eq_true hc
      rw [List.getElem?_eq_none (show b.orders.length ≤ t.order by omega)]
      cases b.stocks[t.stock]? <;> rfl
    · have hc : ((b.stocks.length : Nat) : Int) ≤ (t.stock : Int) := of_decide_eq_true hc
      rw [List.getElem?_eq_none (show b.stocks.length ≤ t.stock by omega)]
    · have hc : (t.bags : Int) < 1 := of_decide_eq_true hc
      cases b.stocks[t.stock]? <;> cases b.orders[t.order]? <;> first | rfl | (show false = (_ && decide (1 ≤ t.bags)); rw [decide_eq_false (by omega), Bool.and_false])
  · rw [Bool.or_eq_false_iff, Bool.or_eq_false_iff] at hc
    have c1 : ¬ ((b.orders.length : Nat) : Int) ≤ (t.order : Int) := of_decide_eq_false hc.1
    have c2 : ¬ ((b.stocks.length : Nat) : Int) ≤ (t.stock : Int) := of_decide_eq_false hc.2.1
    have c3 : ¬ (t.bags : Int) < 1 := of_decide_eq_false hc.2.2
    have ho := od_at (b := b) (j := t.order) (by omega)
    have hst := st_at (b := b) (j := t.stock) (by omega)
    refine wb_ret (ev_call (fn_is_right T) hr (Vbcrah.stockAt b t.stock, Vbcrah.orderAt b t.order) True.intro (ea_cons (ev_ix (ep_bk_stocks T (ep_var 0 rfl (up g.bb h1))).ev (ep_tk_stock T (ep_var 1 rfl (up g.bb h2))).ev hst) (ea_one (ev_ix (ep_bk_orders T (ep_var 0 rfl (up g.bb h1))).ev (ep_tk_order T (ep_var 1 rfl (up g.bb h2))).ev ho)))) g.bh fun v B3 H3 g3 r => k v B3 H3 (g.trans g3) (Fb.cv (congrArg rB ?_) r)
    show _ = tkOk b t
    unfold tkOk
    rw [ho, hst]
    show _ = (_ && decide (1 ≤ t.bags))
    rw [decide_eq_true (by omega), Bool.and_true]
theorem fn_wants_of (T : Txt K mg) : Fn P w K mg base CX0 "wants_of" 1 ["book", "some"] (spP (fun a : Vbcrah.Book × List Nat => True) (fun a => [rBk K a.1, rBy a.2]) (fun a => rBy (Vbcrah.wantOnly a.1 a.2))) := by
  obtain ⟨fd, F⟩ := T.d_wants_of
  refine mkFn T.g_wants_of F (b_wants_of F) (ok_body F sc_wants_of (len_P fun _ => rfl) fun cdv A outer s H vs Q E hr q => ?_)
  obtain ⟨⟨b, ws⟩, B, hs, hp, hv, k⟩ := q
  obtain ⟨v1, v2, rfl, h1, h2⟩ := vs2 hv
  refine wb_ret (Ev.unF (ef_map2 2 3 (by decide) (ρ := fun z : Vbcrah.Order × Nat => rN z.2) (τ := fun z => rOd K z.1) (q := rN) (f := fun z => if ws.contains z.2 = true then z.1.bags else 0) rfl sc_wants_of.nd (ei_enum T.f_enumerate (ep_bk_orders T (ep_var 0 rfl h1)).ev (bk_orders_len h1)) (blkOk_by (N := N_wants_of) (sc := defScope s_wants_of) (by decide +kernel)) (fun _ _ _ _ _ => pg_tup rfl (pgs_cons (pg_name (i := 2) sc_wants_of.nd rfl (Or.inl rfl)) (pgs_cons (pg_name (i := 3) sc_wants_of.nd rfl (Or.inl rfl)) pgs_nil))) ?_)) hs fun v B2 H2 g r => k v B2 H2 g (Fb.cv (congrArg rBy ?_) r)
  · intro z hz v u B1 s1 h4 h5 _ _ _ _ _
    exact ev_ite (et_in (ep_var 2 rfl h4).ev (ep_var 1 rfl (up s1 h2)).ev) (fun e => (ep_od_bags T (ep_var 3 rfl h5)).ev.is (by rw [if_pos e])) fun e => ep_int.ev.is (by rw [if_neg (by rw [e]; decide)]; rfl)
  · rw [zi_eq Vbcrah.none_ b.orders, List.map_map]; rfl
end
end Fb
/-! FbP2: what is kept -/
namespace Fb
open PySem PySem.Spec PyProof.Rows L2
section
variable {P : Program} {w : World} {K : PySem.W.Frag} {mg : Str → Option Value} {base : Heap}
def onDay (b : Vbcrah.Book) (had : List Nat) (d : Nat) : List (Vbcrah.Order × Nat) := (b.orders.zip had).filter fun z => z.1.due == d
def dayOk (b : Vbcrah.Book) (had : List Nat) (d : Nat) : Bool := !(decide (b.grind < (((onDay b had d).filter fun z => z.1.ground).map fun z => z.2).sum) || decide (b.send < ((onDay b had d).map fun z => z.2).sum))
theorem fn_are_days_kept (T : Txt K mg) : Fn P w K mg base CX0 "are_days_kept" 2 ["book", "had"] (spP (fun a : Vbcrah.Book × List Nat => a.1.orders.length ≤ 8) (fun a => [rBk K a.1, rBy a.2]) (fun a => rB ((Vbcrah.daysOf a.1).all (dayOk a.1 a.2)))) := by
  obtain ⟨fd, F⟩ := T.d_are_days_kept
  refine mkFn T.g_are_days_kept F (b_are_days_kept F) (ok_body F sc_are_days_kept (len_P fun _ => rfl) fun cdv A outer s H vs Q E hr q => ?_)
  obtain ⟨⟨b, had⟩, B, hs, hp, hv, k⟩ := q
  obtain ⟨v1, v2, rfl, h1, h2⟩ := vs2 hv
  have h8 : b.orders.length ≤ 8 := hp
  have hd8 := FbM.days_len b
  refine wb_forG (ei_list (r := rN) (ev_meth0 T.c_Book (mt_days T) hr b hp (ep_var 0 rfl h1).ev rfl rfl) (by show (Vbcrah.daysOf b).length ≤ LB; unfold LB; omega)) (pg_name (i := 2) sc_are_days_kept.nd rfl (by first | exact Or.inl rfl | exact Or.inr rfl)) hs
    (fun Bk j σ' H' => Gr B H Bk H' ∧ ((Vbcrah.daysOf b).take j).all (dayOk b had) = true ∧ ∃ x y z, σ' = [some v1, some v2, x, y, z, none, none]) PassesOwn.never rfl (fun B3 H3 g3 => ⟨g3, rfl, none, none, none, rfl⟩) (fun Bk j σ' H' z => z.1.bh) ?_ ?_
  · rintro Bk j d v σ' H' B4 H4 sB hd ⟨gk, hok, x, y, z, rfl⟩ g4 r4
    have gg := gk.trans g4
    refine ⟨_, gn_name, ?_⟩
    refine wb_fmap2 3 5 6 (by decide) (xs := b.orders.zip had) (ρ := fun z : Vbcrah.Order × Nat => rOd K z.1) (τ := fun z => rN z.2) (q := fun z : Vbcrah.Order × Nat => rT [rOd K z.1, rN z.2]) (f := fun z => z) (c := fun z => z.1.due == d) rfl sc_are_days_kept.nd (ei_zip T.f_zip (ep_bk_orders T (ep_var 0 rfl (up gg.bb h1))).ev (ep_var 1 rfl (up gg.bb h2)).ev (bk_orders_len h1) (hpi := by exact fun h => pi_zip rfl T.f_zip h)) (blkOk_by (N := N_are_days_kept) (sc := defScope s_are_days_kept) (by decide +kernel)) (fun _ _ _ _ _ => pg_tup rfl (pgs_cons (pg_name (i := 5) sc_are_days_kept.nd rfl (Or.inl rfl)) (pgs_cons (pg_name (i := 6) sc_are_days_kept.nd rfl (Or.inl rfl)) pgs_nil))) ?_ gg.bh fun u B5 H5 g5 r5 => ?_
    · intro z hz v u B1 s1 h4 h5 _ _ _ _ _
      exact ⟨(et_eq (ep_od_due T (ep_var 5 rfl h4)).ev (ep_var 2 rfl (up s1 r4)).ev).is (dec_beq _ _), fun _ => ev_tup (Rs := [rOd K z.1, rN z.2]) (ea_cons (ep_var 5 rfl h4).ev (ea_one (ep_var 6 rfl h5).ev)) (by show 2 ≤ LB; decide)⟩
    rw [List.map_id'] at r5
    have r6 : (rL (fun z : Vbcrah.Order × Nat => rT [rOd K z.1, rN z.2]) (onDay b had d)).p u B5 := r5.1
    have g6 := gg.trans g5
    refine wb_set 4 (ev_sumN (xs := ((onDay b had d).filter fun z => z.1.ground).map fun z => z.2) rfl T.f_sum (Ev.unF (ef_fmap2 5 6 (by decide) (ρ := fun z : Vbcrah.Order × Nat => rOd K z.1) (τ := fun z => rN z.2) (q := rN) (f := fun z => z.2) (c := fun z => z.1.ground) rfl sc_are_days_kept.nd (ei_list (ep_var 3 rfl r6).ev (ll r6)) (blkOk_by (N := N_are_days_kept) (sc := defScope s_are_days_kept) (by decide +kernel)) (fun _ _ _ _ _ => pg_tup rfl (pgs_cons (pg_name (i := 5) sc_are_days_kept.nd rfl (Or.inl rfl)) (pgs_cons (pg_name (i := 6) sc_are_days_kept.nd rfl (Or.inl rfl)) pgs_nil))) ?_))) g6.bh (fun u7 B7 H7 g7 r7 => ?_) sc_are_days_kept.nd
    · intro z hz v u B1 s1 h4 h5 _ _ _ _ _
      exact ⟨et_val (ep_od_ground T (ep_var 5 rfl h4)).ev, fun _ => (ep_var 6 rfl h5).ev⟩
    have g8 := g6.trans g7
    have hstep : ((Vbcrah.daysOf b).take (j + 1)).all (dayOk b had) = dayOk b had d := by
      rw [take_succ hd, List.all_append, hok, Bool.true_and]
      show (dayOk b had d && true) = _
      rw [Bool.and_true]
    refine wb_when (et_or (et_gt (ep_var 4 rfl r7).ev (ep_bk_grind T (ep_var 0 rfl (up g8.bb h1))).ev) fun _ => et_gt (ev_sumN (xs := (onDay b had d).map fun z => z.2) rfl T.f_sum (Ev.unF (ef_map2 5 6 (by decide) (ρ := fun z : Vbcrah.Order × Nat => rOd K z.1) (τ := fun z => rN z.2) (q := rN) (f := fun z => z.2) rfl sc_are_days_kept.nd (ei_list (ep_var 3 rfl (up g7.bb r6)).ev (ll r6)) (blkOk_by (N := N_are_days_kept) (sc := defScope s_are_days_kept) (by decide +kernel)) (fun _ _ _ _ _ => pg_tup rfl (pgs_cons (pg_name (i := 5) sc_are_days_kept.nd rfl (Or.inl rfl)) (pgs_cons (pg_name (i := 6) sc_are_days_kept.nd rfl (Or.inl rfl)) pgs_nil))) (fun z hz v u B1 s1 h4 h5 _ _ _ _ _ => (ep_var 6 rfl h5).ev)))) (ep_bk_send T (ep_var 0 rfl (up g8.bb h1))).ev) g8.bh (fun hc B9 H9 g9 => ?_) fun hc B9 H9 g9 => ?_
    · rw [dec_lt, dec_lt] at hc
      refine wb_ret ep_bl.ev g9.bh fun v B3 H3 g3 r => k v B3 H3 ((g8.trans g9).trans g3) (Fb.cv (congrArg rB ?_) r)
      show false = (Vbcrah.daysOf b).all (dayOk b had)
      symm
      rw [List.all_eq_false]
      refine ⟨d, List.mem_of_getElem? hd, ?_⟩
      unfold dayOk
      rw [hc]; decide
    · rw [dec_lt, dec_lt] at hc
      refine wb_nil ⟨B9, ((g4.bb.trans g5.bb).trans g7.bb).trans g9.bb, g8.trans g9, by rw [hstep]; unfold dayOk; rw [hc]; rfl, some v, some u, some u7, rfl⟩
  · rintro Bk σ' H' sB ⟨gk, hok, x, y, z, rfl⟩
    rw [List.take_length] at hok
    exact wb_ret ep_bl.ev gk.bh fun v B3 H3 g3 r => k v B3 H3 (gk.trans g3) (Fb.cv (congrArg rB hok.symm) r)
/-! keep_all, keep_whole -/
def gives (b : Vbcrah.Book) (ts : List Vbcrah.Take) : List Nat := (List.range b.stocks.length).map fun j => Vbcrah.byStock ts j
def hads (b : Vbcrah.Book) (ts : List Vbcrah.Take) : List Nat := (List.range b.orders.length).map fun j => Vbcrah.byOrder ts j
def keepAll (b : Vbcrah.Book) (ts : List Vbcrah.Take) : Bool := ts.all (tkOk b) && (!(((gives b ts).zip b.stocks).any fun z => decide (z.2.bags < z.1)) && (!(((hads b ts).zip b.orders).any fun z => decide (z.2.bags < z.1)) && (Vbcrah.daysOf b).all (dayOk b (hads b ts))))
def keepWhole (b : Vbcrah.Book) (ts : List Vbcrah.Take) : Bool := ((hads b ts).zip b.orders).all fun z => !z.2.whole || (z.1 == 0 || z.1 == z.2.bags)
theorem fn_keep_all (T : Txt K mg) : Fn P w K mg base CX0 "keep_all" 3 ["book", "takes"] (spP (fun a : Vbcrah.Book × List Vbcrah.Take => a.1.orders.length ≤ 8 ∧ a.1.stocks.length ≤ 8) (fun a => [rBk K a.1, rL (rTk K) a.2]) (fun a => rB (keepAll a.1 a.2))) := by
  obtain ⟨fd, F⟩ := T.d_keep_all
  refine mkFn T.g_keep_all F (b_keep_all F) (ok_body F sc_keep_all (len_P fun _ => rfl) fun cdv A outer s H vs Q E hr q => ?_)
  obtain ⟨⟨b, ts⟩, B, hs, ⟨h8, h9⟩, hv, k⟩ := q
  obtain ⟨v1, v2, rfl, h1, h2⟩ := vs2 hv
  have h8 : b.orders.length ≤ 8 := h8
  have h9 : b.stocks.length ≤ 8 := h9
  have l8 : b.orders.length ≤ LB := by unfold LB; omega
  have l9 : b.stocks.length ≤ LB := by unfold LB; omega
  refine wb_when (et_not (et_val (ev_all rfl T.f_all (xs := ts.map (tkOk b)) (Ev.unF (ef_map 6 (r := rTk K) (q := rB) (f := tkOk b) rfl sc_keep_all.nd (ei_list (ep_var 1 rfl h2).ev (ll h2)) (blkOk_by (N := N_keep_all) (sc := defScope s_keep_all) (by decide +kernel)) (fun _ _ _ _ _ => pg_name sc_keep_all.nd rfl (Or.inl rfl)) (fun t ht v B1 s1 r1 _ _ _ _ _ => ev_call (fn_is_take_right T) hr (b, t) True.intro (ea_cons (ep_var 0 rfl (up s1 h1)).ev (ea_one (ep_var 6 rfl r1).ev)))))))) hs (fun hc B2 H2 g => ?_) fun hc B2 H2 g => ?_
  · refine wb_ret ep_bl.ev g.bh fun v B3 H3 g3 r => k v B3 H3 (g.trans g3) (Fb.cv (congrArg rB ?_) r)
    rw [Bool.not_eq_true', List.all_map] at hc
    show false = keepAll b ts
    unfold keepAll
    rw [show ts.all (tkOk b) = false from hc]; rfl
  rw [Bool.not_eq_false', List.all_map] at hc
  have hc : ts.all (tkOk b) = true := hc
  refine wb_set 2 (ev_call (fn_bags_given T) (hr.mono (by decide)) (ts, b.stocks.length) l9 (ea_cons (ep_var 1 rfl (up g.bb h2)).ev (ea_one (ev_len T.f_len (ep_bk_stocks T (ep_var 0 rfl (up g.bb h1))).ev)))) g.bh (fun u3 B3 H3 g3 r3 => ?_) sc_keep_all.nd
  have g3' := g.trans g3
  refine wb_set 3 (ev_call (fn_bags_had T) (hr.mono (by decide)) (ts, b.orders.length) l8 (ea_cons (ep_var 1 rfl (up g3'.bb h2)).ev (ea_one (ev_len T.f_len (ep_bk_orders T (ep_var 0 rfl (up g3'.bb h1))).ev)))) g3'.bh (fun u4 B4 H4 g4 r4 => ?_) sc_keep_all.nd
  have g4' := g3'.trans g4
  have r3' : (rBy (gives b ts)).p u3 B4 := up (R := rBy (gives b ts)) g4.bb r3
  have r4' : (rBy (hads b ts)).p u4 B4 := r4
  refine wb_when (et_val (ev_any rfl T.f_any (xs := ((gives b ts).zip b.stocks).map fun z => decide (z.2.bags < z.1)) (Ev.unF (ef_map2 4 5 (by decide) (ρ := fun z : Nat × Vbcrah.Stock => rN z.1) (τ := fun z => rSt K z.2) (q := rB) (f := fun z => decide (z.2.bags < z.1)) rfl sc_keep_all.nd (ei_zip T.f_zip (ep_var 2 rfl r3').ev (ep_bk_stocks T (ep_var 0 rfl (up g4'.bb h1))).ev (ll r3') (hpi := by exact fun h => pi_zip rfl T.f_zip h)) (blkOk_by (N := N_keep_all) (sc := defScope s_keep_all) (by decide +kernel)) (fun _ _ _ _ _ => pg_tup rfl (pgs_cons (pg_name (i := 4) sc_keep_all.nd rfl (Or.inl rfl)) (pgs_cons (pg_name (i := 5) sc_keep_all.nd rfl (Or.inl rfl)) pgs_nil))) (fun z hz v u B1 s1 h4 h5 _ _ _ _ _ => (ev_gt (ep_var 4 rfl h4).ev (ep_st_bags T (ep_var 5 rfl h5)).ev).is (by rw [dec_lt])))))) g4'.bh (fun hd B5 H5 g5 => ?_) fun hd B5 H5 g5 => ?_
  · refine wb_ret ep_bl.ev g5.bh fun v B6 H6 g6 r => k v B6 H6 ((g4'.trans g5).trans g6) (Fb.cv (congrArg rB ?_) r)
    rw [List.any_map] at hd
    show false = keepAll b ts
    unfold keepAll
    rw [hc, show (((gives b ts).zip b.stocks).any fun z => decide (z.2.bags < z.1)) = true from hd]; rfl
  rw [List.any_map] at hd
  have g5' := g4'.trans g5
  refine wb_ret (ev_and (ev_not (ev_any rfl T.f_any (xs := ((hads b ts).zip b.orders).map fun z => decide (z.2.bags < z.1)) (Ev.unF (ef_map2 4 7 (by decide) (ρ := fun z : Nat × Vbcrah.Order => rN z.1) (τ := fun z => rOd K z.2) (q := rB) (f := fun z => decide (z.2.bags < z.1)) rfl sc_keep_all.nd (ei_zip T.f_zip (ep_var 3 rfl (up g5.bb r4')).ev (ep_bk_orders T (ep_var 0 rfl (up g5'.bb h1))).ev (ll r4') (hpi := by exact fun h => pi_zip rfl T.f_zip h)) (blkOk_by (N := N_keep_all) (sc := defScope s_keep_all) (by decide +kernel)) (fun _ _ _ _ _ => pg_tup rfl (pgs_cons (pg_name (i := 4) sc_keep_all.nd rfl (Or.inl rfl)) (pgs_cons (pg_name (i := 7) sc_keep_all.nd rfl (Or.inl rfl)) pgs_nil))) (fun z hz v u B1 s1 h4 h5 _ _ _ _ _ => (ev_gt (ep_var 4 rfl h4).ev (ep_od_bags T (ep_var 7 rfl h5)).ev).is (by rw [dec_lt])))))) fun _ => ev_call (fn_are_days_kept T) hr (b, hads b ts) h8 (ea_cons (ep_var 0 rfl (up g5'.bb h1)).ev (ea_one (ep_var 3 rfl (up g5.bb r4')).ev))) g5'.bh fun v B6 H6 g6 r => k v B6 H6 (g5'.trans g6) (Fb.cv (congrArg rB ?_) r)
  show _ = keepAll b ts
  unfold keepAll
  rw [hc, show (((gives b ts).zip b.stocks).any fun z => decide (z.2.bags < z.1)) = false from hd, List.any_map]; rfl
theorem in_01 (h n : Nat) : (decide ((0 : Int) = (h : Int)) || decide ((n : Int) = (h : Int))) = (h == 0 || h == n) := by
  have e1 : decide ((0 : Int) = (h : Int)) = (h == 0) := by
    have := dec_beq h 0
    rw [← this]
    exact decide_eq_decide.mpr ⟨Eq.symm, Eq.symm⟩
  have e2 : decide ((n : Int) = (h : Int)) = (h == n) := by
    rw [← dec_beq]
    exact decide_eq_decide.mpr ⟨Eq.symm, Eq.symm⟩
  rw [e1, e2]
theorem fn_keep_whole (T : Txt K mg) : Fn P w K mg base CX0 "keep_whole" 2 ["book", "takes"] (spP (fun a : Vbcrah.Book × List Vbcrah.Take => a.1.orders.length ≤ 8) (fun a => [rBk K a.1, rL (rTk K) a.2]) (fun a => rB (keepWhole a.1 a.2))) := by
  obtain ⟨fd, F⟩ := T.d_keep_whole
  refine mkFn T.g_keep_whole F (b_keep_whole F) (ok_body F sc_keep_whole (len_P fun _ => rfl) fun cdv A outer s H vs Q E hr q => ?_)
  obtain ⟨⟨b, ts⟩, B, hs, h8, hv, k⟩ := q
  obtain ⟨v1, v2, rfl, h1, h2⟩ := vs2 hv
  have h8 : b.orders.length ≤ 8 := h8
  have l8 : b.orders.length ≤ LB := by unfold LB; omega
  refine wb_set 2 (ev_call (fn_bags_had T) (hr.mono (by decide)) (ts, b.orders.length) l8 (ea_cons (ep_var 1 rfl h2).ev (ea_one (ev_len T.f_len (ep_bk_orders T (ep_var 0 rfl h1)).ev)))) hs (fun u4 B4 H4 g4 r4 => ?_) sc_keep_whole.nd
  have r4' : (rBy (hads b ts)).p u4 B4 := r4
  refine wb_ret (ev_all rfl T.f_all (xs := ((hads b ts).zip b.orders).map fun z => !z.2.whole || (z.1 == 0 || z.1 == z.2.bags)) (Ev.unF (ef_map2 3 4 (by decide) (ρ := fun z : Nat × Vbcrah.Order => rN z.1) (τ := fun z => rOd K z.2) (q := rB) (f := fun z => !z.2.whole || (z.1 == 0 || z.1 == z.2.bags)) rfl sc_keep_whole.nd (ei_zip T.f_zip (ep_var 2 rfl r4').ev (ep_bk_orders T (ep_var 0 rfl (up g4.bb h1))).ev (ll r4') (hpi := by exact fun h => pi_zip rfl T.f_zip h)) (blkOk_by (N := N_keep_whole) (sc := defScope s_keep_whole) (by decide +kernel)) (fun _ _ _ _ _ => pg_tup rfl (pgs_cons (pg_name (i := 3) sc_keep_whole.nd rfl (Or.inl rfl)) (pgs_cons (pg_name (i := 4) sc_keep_whole.nd rfl (Or.inl rfl)) pgs_nil))) (fun z hz v u B1 s1 h4 h5 _ _ _ _ _ => (ev_or (ev_not (ep_od_whole T (ep_var 4 rfl h5)).ev) fun _ => ev_in2 (p := 0) (ep_var 3 rfl h4).ev (ev_tup (Rs := [rI 0, rI z.2.bags]) (ea_cons ep_int.ev (ea_one (ep_od_bags T (ep_var 4 rfl h5)).ev)) (by show 2 ≤ LB; decide))).is (by rw [in_01]))))) g4.bh fun v B6 H6 g6 r => k v B6 H6 (g4.trans g6) (Fb.cv (congrArg rB (by rw [List.all_map]; rfl)) r)
end
end Fb
/-! FbP3: turns, spares, whole ones -/
namespace Fb
open PySem PySem.Spec PyProof.Rows L2
def rII (p : Nat × Nat) : Rp := rT [rN p.1, rN p.2]
def encII (p : Nat × Nat) : PyData := .tuple [.int (p.1 : Int), .int (p.2 : Int)]
theorem dp_II {K : PySem.W.Frag} {B H : Hp} {p : Nat × Nat} {v : V} (s : Same B H) (h : (rII p).p v B) : Dp K H v (encII p) := by
  obtain ⟨t, vs, rfl, ht, hv⟩ := h
  obtain ⟨v1, v2, rfl, h1, h2⟩ := vs2 hv
  cases (show v1 = V.int p.1 from h1)
  cases (show v2 = V.int p.2 from h2)
  exact .tup (SqT.of (s _ _ ht)) (.cons (.int _) (.cons (.int _) .nil))
theorem depth_II (p : Nat × Nat) : (encII p).depth ≤ 8 := by
  unfold encII
  rw [PyData.depth, PyData.depthAll, PyData.depthAll, PyData.depthAll, PyData.depth, PyData.depth]
  decide
theorem ev_sortII {X : Cx} {e : Expr} {σ : L2.St} {B : Hp} {p pos : Pos} {bs : List (Nat × Nat)} (hu : X.A.units + 64 < cLine) (hm : X.mg "sorted" = none) (h : Ev X e σ B (rL rII bs)) (hl : bs.length ≤ LB) (hg : Gl X "sorted" := by rfl)
    (he : starEach (e :: []) X.env = (false, eval e X.env) :: starEach [] X.env := by rfl) : Ev X (.Call (.Name "sorted" p) [e] [] pos) σ B (rL rII (bs.mergeSort (PySem.W.dataLe false encII))) := fun H s Q kk => by
  refine we_of (pe_callB (cr_sortedD (enc := encII) hu) hg hm (by decide +kernel) wa_pa (by decide) (by decide) he (by rfl)) ((ea_one h he) H s _ fun vs B2 H2 g r1 => ?_)
  obtain ⟨v, rfl, q, ws, e1, h1, l1, a1⟩ := r1.one
  refine ⟨fun v b => (rII b).p v B2, q, ws, bs, by rw [e1], sq_of g.bh h1, a1, a1.imp fun b v r => dp_II g.bh r, PySem.W.AllAlike.of fun _ _ => by unfold encII; simp [PySem.W.alike, PySem.W.alikeAll], PySem.W.Sortable.tuples fun b => ⟨_, _, rfl⟩, fun b _ => depth_II b, fun ys z ay hz => ?_⟩
  obtain ⟨g4, r4⟩ := mk_list (r := rII) (xs := bs.mergeSort (PySem.W.dataLe false encII)) (Gr.refl g.bh) hz (by rw [(List.mergeSort_perm _ _).length_eq]; exact hl) ay
  exact kk _ _ _ (g.trans g4) r4.1
def turnPairs (b : Vbcrah.Book) (o : Vbcrah.Order) : List (Nat × Nat) := (b.stocks.zipIdx.filter fun z => Vbcrah.suits z.1 o).map fun z => (z.1.day, z.2)
def inTurn (b : Vbcrah.Book) (o : Vbcrah.Order) : List Nat := ((turnPairs b o).mergeSort (PySem.W.dataLe false encII)).map fun p => p.2
def stepSp (lefts wants : List Nat) (place stock : Nat) (n : Int) (z : List Nat × List Nat) : Int := if (!z.1.contains place && z.2.contains stock) = true then min n ((sumN lefts z.2 : Nat) - (sumN wants z.1 : Nat) : Int) else n
def spareI (b : Vbcrah.Book) (lefts wants : List Nat) (place stock : Nat) : Int := ((setsOf b).zip ((setsOf b).map (rightOf b))).foldl (stepSp lefts wants place stock) ((lefts.getD stock 0 : Nat) : Int)
def keptOnes (b : Vbcrah.Book) (gone : List Nat) : Vbcrah.Book := { b with stocks := (b.stocks.zipIdx.filter fun z => !gone.contains z.2).map fun z => z.1 }
def stepMw (b : Vbcrah.Book) (f w : List Nat) : List Nat := if (decide (f.length < w.length) && Vbcrah.can b (Vbcrah.wantOnly b w)) = true then w else f
def mwW (b : Vbcrah.Book) : List Nat := (setsOf b).foldl (stepMw b) []
def lackI (b : Vbcrah.Book) (w : List Nat) : Int := ((Vbcrah.wants b).sum : Nat) - (boundW b (Vbcrah.wants b) w : Nat)
def badW (b : Vbcrah.Book) (st : Vbcrah.Stock) (w : List Nat) : Bool := decide (0 < lackI b w) && !(w.any fun j => Vbcrah.suits st (Vbcrah.orderAt b j))
def fewI (b : Vbcrah.Book) (st : Vbcrah.Stock) : Int := if (setsOf b).any (badW b st) = true then -1 else (setsOf b).foldl (fun n w => max n (lackI b w)) 0
section
variable {P : Program} {w : World} {K : PySem.W.Frag} {mg : Str → Option Value} {base : Heap}
theorem turn_len (b : Vbcrah.Book) (o : Vbcrah.Order) : (turnPairs b o).length ≤ b.stocks.length := by
  unfold turnPairs
  rw [List.length_map]
  exact Nat.le_trans (List.length_filter_le _ _) (by rw [List.length_zipIdx]; exact Nat.le_refl _)
theorem fn_stocks_in_turn (T : Txt K mg) : Fn P w K mg base CX0 "stocks_in_turn" 2 ["book", "order"] (spP (fun a : Vbcrah.Book × Vbcrah.Order => True) (fun a => [rBk K a.1, rOd K a.2]) (fun a => rBy (inTurn a.1 a.2))) := by
  obtain ⟨fd, F⟩ := T.d_stocks_in_turn
  refine mkFn T.g_stocks_in_turn F (b_stocks_in_turn F) (ok_body F sc_stocks_in_turn (len_P fun _ => rfl) fun cdv A outer s H vs Q E hr q => ?_)
  obtain ⟨⟨b, o⟩, B, hs, hp, hv, k⟩ := q
  obtain ⟨v1, v2, rfl, h1, h2⟩ := vs2 hv
  refine wb_fmap2 2 3 4 (by decide) (ρ := fun z : Vbcrah.Stock × Nat => rN z.2) (τ := fun z => rSt K z.1) (q := rII) (f := fun z => (z.1.day, z.2)) (c := fun z => Vbcrah.suits z.1 o) rfl sc_stocks_in_turn.nd (ei_enum T.f_enumerate (ep_bk_stocks T (ep_var 0 rfl h1)).ev (bk_stocks_len h1)) (blkOk_by (N := N_stocks_in_turn) (sc := defScope s_stocks_in_turn) (by decide +kernel)) (fun _ _ _ _ _ => pg_tup rfl (pgs_cons (pg_name (i := 3) sc_stocks_in_turn.nd rfl (Or.inl rfl)) (pgs_cons (pg_name (i := 4) sc_stocks_in_turn.nd rfl (Or.inl rfl)) pgs_nil))) ?_ hs fun u B2 H2 g r => ?_
  · intro z hz v u B1 s1 h4 h5 _ _ _ _ _
    exact ⟨et_val (ev_call (fn_is_right T) hr (z.1, o) True.intro (ea_cons (ep_var 4 rfl h5).ev (ea_one (ep_var 1 rfl (up s1 h2)).ev))), fun _ => ev_tup (Rs := [rN z.1.day, rN z.2]) (ea_cons (ep_st_day T (ep_var 4 rfl h5)).ev (ea_one (ep_var 3 rfl h4).ev)) (by show 2 ≤ LB; decide)⟩
  have r2 : (rL rII (turnPairs b o)).p u B2 := r.1
  refine wb_ret (Ev.unF (ef_map2 5 3 (by decide) (ρ := fun p : Nat × Nat => rN p.1) (τ := fun p => rN p.2) (q := rN) (f := fun p => p.2) rfl sc_stocks_in_turn.nd (ei_list (r := fun p : Nat × Nat => rT [rN p.1, rN p.2]) (ev_sortII (bs := turnPairs b o) hr.units T.f_sorted (ep_var 2 rfl r2).ev (ll r2)) (by rw [(List.mergeSort_perm _ _).length_eq]; exact ll r2)) (blkOk_by (N := N_stocks_in_turn) (sc := defScope s_stocks_in_turn) (by decide +kernel)) (fun _ _ _ _ _ => pg_tup rfl (pgs_cons (pg_name (i := 5) sc_stocks_in_turn.nd rfl (Or.inl rfl)) (pgs_cons (pg_name (i := 3) sc_stocks_in_turn.nd rfl (Or.inl rfl)) pgs_nil))) ?_)) g.bh fun v B7 H7 g7 r => k v B7 H7 (g.trans g7) r
  intro p hpm v u B1 s1 r1 r2 _ _ _ _ _
  exact (ep_var 3 rfl r2).ev
structure SpA where
  b : Vbcrah.Book
  lefts : List Nat
  wants : List Nat
  place : Nat
  stock : Nat
structure SpOk (a : SpA) : Prop where
  l : a.lefts.length = a.b.stocks.length
  w : a.wants.length = a.b.orders.length
  s : a.stock < a.b.stocks.length
theorem zip_set {b : Vbcrah.Book} {j : Nat} {z : List Nat × List Nat} (h : ((setsOf b).zip ((setsOf b).map (rightOf b)))[j]? = some z) : z.1 ∈ setsOf b ∧ z.2 = rightOf b z.1 := by
  obtain ⟨h1, h2⟩ := List.getElem?_zip_eq_some.mp h
  rw [List.getElem?_map, h1] at h2
  exact ⟨List.mem_of_getElem? h1, (Option.some.inj h2).symm⟩
theorem fn_spare (T : Txt K mg) : Fn P w K mg base CX0 "spare" 2 ["ways", "lefts", "wants", "place", "stock"] (spP SpOk (fun a => [rWy K a.b, rBy a.lefts, rBy a.wants, rN a.place, rN a.stock]) (fun a => rI (spareI a.b a.lefts a.wants a.place a.stock))) := by
  obtain ⟨fd, F⟩ := T.d_spare
  refine mkFn T.g_spare F (b_spare F) (ok_body F sc_spare (len_P fun _ => rfl) fun cdv A outer s H vs Q E hr q => ?_)
  obtain ⟨⟨b, lefts, wants, place, stock⟩, B, hs, ⟨hl, hw, hst⟩, hv, k⟩ := q
  obtain ⟨v1, v2, v3, v4, v5, rfl, h1, h2, h3, h4, h5⟩ := vs5 hv
  have hl : lefts.length = b.stocks.length := hl
  have hw : wants.length = b.orders.length := hw
  have hst : stock < b.stocks.length := hst
  obtain ⟨_, _, us, hsl, _⟩ := wy_book_len h1
  refine wb_set 5 (ev_ix (r := rN) (ep_var 1 rfl h2).ev (ep_var 4 rfl h5).ev (getD_nat (by omega))) hs (fun u B2 H2 g r => ?_) sc_spare.nd
  refine wb_forG (ei_zip T.f_zip (ep_wy_sets T (ep_var 0 rfl (up g.bb h1))).ev (ep_wy_right T (ep_var 0 rfl (up g.bb h1))).ev (ll hsl) (hpi := by exact fun h => pi_zip rfl T.f_zip h)) (pg_tup rfl (pgs_cons (pg_name (i := 6) sc_spare.nd rfl (Or.inl rfl)) (pgs_cons (pg_name (i := 7) sc_spare.nd rfl (Or.inl rfl)) pgs_nil))) g.bh
    (fun Bk j σ' H' => Gr B H Bk H' ∧ ∃ x y, σ' = [some v1, some v2, some v3, some v4, some v5, some (.int ((((setsOf b).zip ((setsOf b).map (rightOf b))).take j).foldl (stepSp lefts wants place stock) ((lefts.getD stock 0 : Nat) : Int))), x, y]) PassesOwn.never rfl
    (fun B3 H3 g3 => ⟨g.trans g3, none, none, by rw [show u = V.int ((lefts.getD stock 0 : Nat) : Int) from r]; rfl⟩) (fun Bk j σ' H' z => z.1.bh) ?_ ?_
  · rintro Bk j z v σ' H' B4 H4 sB hz ⟨gk, x, y, rfl⟩ g4 ⟨t, ws, ev, ht, hv4⟩
    obtain ⟨w1, w2, rfl, q1, q2⟩ := vs2 hv4
    obtain ⟨m1, m2⟩ := zip_set hz
    have gg := gk.trans g4
    have hstep : (((setsOf b).zip ((setsOf b).map (rightOf b))).take (j + 1)).foldl (stepSp lefts wants place stock) ((lefts.getD stock 0 : Nat) : Int) = stepSp lefts wants place stock ((((setsOf b).zip ((setsOf b).map (rightOf b))).take j).foldl (stepSp lefts wants place stock) ((lefts.getD stock 0 : Nat) : Int)) z := by
      rw [take_succ hz, List.foldl_append]; rfl
    refine ⟨_, gn_pair ev ht g4.bh, wb_when (et_and (et_nin (ep_var 3 rfl (up gg.bb h4)).ev (ep_var 6 rfl q1).ev) fun _ => et_in (ep_var 4 rfl (up gg.bb h5)).ev (ep_var 7 rfl q2).ev) gg.bh (fun hc B5 H5 g5 => ?_) fun hc B5 H5 g5 => ?_⟩
    · refine wb_set 5 (ev_min2 rfl T.f_min (ep_var 5 rfl (R := rI _) rfl).ev (ev_sub (ev_call (fn_sum_nat T) hr (lefts, z.2) (fun j hj => by show j < lefts.length; rw [hl]; rw [m2] at hj; exact right_lt j hj) (ea_cons (ep_var 1 rfl (up (gg.trans g5).bb h2)).ev (ea_one (ep_var 7 rfl (up g5.bb q2)).ev))) (ev_call (fn_sum_nat T) hr (wants, z.1) (fun j hj => by show j < wants.length; rw [hw]; exact sets_lt m1 j hj) (ea_cons (ep_var 2 rfl (up (gg.trans g5).bb h3)).ev (ea_one (ep_var 6 rfl (up g5.bb q1)).ev))))) g5.bh (fun u B6 H6 g6 r6 => wb_nil (wb_nil ⟨B6, (g4.bb.trans g5.bb).trans g6.bb, (gg.trans g5).trans g6, some w1, some w2, ?_⟩)) sc_spare.nd
      rw [hstep, show u = V.int _ from r6]
      unfold stepSp
      rw [if_pos hc]; rfl
    · refine wb_nil ⟨B5, g4.bb.trans g5.bb, gg.trans g5, some w1, some w2, ?_⟩
      rw [hstep]
      conv => rhs; unfold stepSp
      rw [if_neg (by rw [hc]; decide)]; rfl
  · rintro Bk σ' H' sB ⟨gk, x, y, rfl⟩
    have e : (((setsOf b).zip ((setsOf b).map (rightOf b))).take (List.length ((setsOf b).zip ((setsOf b).map (rightOf b))))) = (setsOf b).zip ((setsOf b).map (rightOf b)) := List.take_length
    exact wb_ret (ep_var 5 rfl (R := rI (spareI b lefts wants place stock)) (by show V.int _ = V.int _; unfold spareI; exact congrArg (fun l => V.int (l.foldl (stepSp lefts wants place stock) ((lefts.getD stock 0 : Nat) : Int))) e)).ev gk.bh fun v B7 H7 g7 r => k v B7 H7 (gk.trans g7) r
theorem fn_without_stocks (T : Txt K mg) : Fn P w K mg base CX0 "without_stocks" 3 ["book", "gone"] (spP (fun a : Vbcrah.Book × List Nat => True) (fun a => [rBk K a.1, rBy a.2]) (fun a => rBk K (keptOnes a.1 a.2))) := by
  obtain ⟨fd, F⟩ := T.d_without_stocks
  refine mkFn T.g_without_stocks F (b_without_stocks F) (ok_body F sc_without_stocks (len_P fun _ => rfl) fun cdv A outer s H vs Q E hr q => ?_)
  obtain ⟨⟨b, gone⟩, B, hs, hp, hv, k⟩ := q
  obtain ⟨v1, v2, rfl, h1, h2⟩ := vs2 hv
  refine wb_fmap2 2 3 4 (by decide) (ρ := fun z : Vbcrah.Stock × Nat => rN z.2) (τ := fun z => rSt K z.1) (q := rSt K) (f := fun z => z.1) (c := fun z => !gone.contains z.2) rfl sc_without_stocks.nd (ei_enum T.f_enumerate (ep_bk_stocks T (ep_var 0 rfl h1)).ev (bk_stocks_len h1)) (blkOk_by (N := N_without_stocks) (sc := defScope s_without_stocks) (by decide +kernel)) (fun _ _ _ _ _ => pg_tup rfl (pgs_cons (pg_name (i := 3) sc_without_stocks.nd rfl (Or.inl rfl)) (pgs_cons (pg_name (i := 4) sc_without_stocks.nd rfl (Or.inl rfl)) pgs_nil))) ?_ hs fun u B2 H2 g r => ?_
  · intro z hz v u B1 s1 h4 h5 _ _ _ _ _
    exact ⟨et_nin (ep_var 3 rfl h4).ev (ep_var 1 rfl (up s1 h2)).ev, fun _ => (ep_var 4 rfl h5).ev⟩
  have k1 := up g.bb h1
  exact wb_ret (ev_Book (bk := keptOnes b gone) (ct_Book T) hr (ea_cons (ep_var 2 rfl r.1).ev (ea_cons (ep_bk_orders T (ep_var 0 rfl k1)).ev (ea_cons (ep_bk_grind T (ep_var 0 rfl k1)).ev (ea_one (ep_bk_send T (ep_var 0 rfl k1)).ev))))) g.bh fun v B3 H3 g3 r3 => k v B3 H3 (g.trans g3) r3
theorem only_len (b : Vbcrah.Book) (l : List Nat) : (Vbcrah.wantOnly b l).length = b.orders.length := by
  unfold Vbcrah.wantOnly
  rw [List.length_map, List.length_range]
theorem fn_most_whole (T : Txt K mg) : Fn P w K mg base CX0 "most_whole" 8 ["ways"] (spP (fun a : Vbcrah.Book => True) (fun a => [rWy K a]) (fun a => rBy (mwW a))) := by
  obtain ⟨fd, F⟩ := T.d_most_whole
  refine mkFn T.g_most_whole F (b_most_whole F) (ok_body F sc_most_whole (len_P fun _ => rfl) fun cdv A outer s H vs Q E hr q => ?_)
  obtain ⟨b, B, hs, hp, hv, k⟩ := q
  obtain ⟨v1, rfl, h1⟩ := vs1 hv
  obtain ⟨_, _, us, hsl, _⟩ := wy_book_len h1
  refine wb_set 1 (ev_list (r := rN) (xs := []) ea_nil) hs (fun u B2 H2 g r => ?_) sc_most_whole.nd
  refine wb_forG (ei_list (ep_wy_sets T (ep_var 0 rfl (up g.bb h1))).ev (ll hsl)) (pg_name (i := 2) sc_most_whole.nd rfl (Or.inl rfl)) g.bh
    (fun Bk j σ' H' => Gr B H Bk H' ∧ ∃ x y, (rBy (((setsOf b).take j).foldl (stepMw b) [])).p x Bk ∧ σ' = [some v1, some x, y]) PassesOwn.never rfl
    (fun B3 H3 g3 => ⟨g.trans g3, u, none, up (R := rBy []) g3.bb r, rfl⟩) (fun Bk j σ' H' z => z.1.bh) ?_ ?_
  · rintro Bk j z v σ' H' B4 H4 sB hz ⟨gk, x, y, hx, rfl⟩ g4 r4
    have gg := gk.trans g4
    have hstep : ((setsOf b).take (j + 1)).foldl (stepMw b) [] = stepMw b (((setsOf b).take j).foldl (stepMw b) []) z := by
      rw [take_succ hz, List.foldl_append]; rfl
    have hx4 := up (R := rBy _) g4.bb hx
    refine ⟨_, gn_name, wb_when (et_and ((et_gt (ev_len T.f_len (ep_var 2 rfl r4).ev) (ev_len T.f_len (ep_var 1 rfl hx4).ev)).is (dec_lt _ _)) fun _ => et_val (ev_call (fn_can_have T) hr (b, Vbcrah.wantOnly b z) (only_len b z) (ea_cons (ep_var 0 rfl (up gg.bb h1)).ev (ea_one (ev_call (fn_wants_of T) (hr.mono (by decide)) (b, z) True.intro (ea_cons (ep_wy_book T (ep_var 0 rfl (up gg.bb h1))).ev (ea_one (ep_var 2 rfl r4).ev))))))) gg.bh (fun hc B5 H5 g5 => ?_) fun hc B5 H5 g5 => ?_⟩
    · refine wb_set 1 (ep_var 2 rfl (up g5.bb r4)).ev g5.bh (fun u B6 H6 g6 r6 => wb_nil (wb_nil ⟨B6, (g4.bb.trans g5.bb).trans g6.bb, (gg.trans g5).trans g6, u, some v, ?_, rfl⟩)) sc_most_whole.nd
      rw [hstep, show stepMw b (((setsOf b).take j).foldl (stepMw b) []) z = z from if_pos hc]; exact r6
    · refine wb_nil ⟨B5, g4.bb.trans g5.bb, gg.trans g5, x, some v, ?_, rfl⟩
      rw [hstep, show stepMw b (((setsOf b).take j).foldl (stepMw b) []) z = ((setsOf b).take j).foldl (stepMw b) [] from if_neg fun e => Bool.noConfusion (e.symm.trans hc)]; exact up (R := rBy _) g5.bb hx4
  · rintro Bk σ' H' sB ⟨gk, x, y, hx, rfl⟩
    rw [List.take_length] at hx
    exact wb_ret (ep_var 1 rfl hx).ev gk.bh fun v B7 H7 g7 r => k v B7 H7 (gk.trans g7) r
theorem wants_len (b : Vbcrah.Book) : (Vbcrah.wants b).length = b.orders.length := List.length_map ..
theorem fn_fewest_more (T : Txt K mg) : Fn P w K mg base CX0 "fewest_more" 5 ["ways", "stock"] (spP (fun a : Vbcrah.Book × Vbcrah.Stock => True) (fun a => [rWy K a.1, rSt K a.2]) (fun a => rI (fewI a.1 a.2))) := by
  obtain ⟨fd, F⟩ := T.d_fewest_more
  refine mkFn T.g_fewest_more F (b_fewest_more F) (ok_body F sc_fewest_more (len_P fun _ => rfl) fun cdv A outer s H vs Q E hr q => ?_)
  obtain ⟨⟨b, st⟩, B, hs, hp, hv, k⟩ := q
  obtain ⟨v1, v2, rfl, h1, h2⟩ := vs2 hv
  obtain ⟨_, _, us, hsl, _⟩ := wy_book_len h1
  refine wb_set 2 (Ev.unF (ef_meth0 T.c_Book (mt_wants T) (hr.mono (by decide)) b True.intro (ep_wy_book T (ep_var 0 rfl h1)).ev rfl rfl)) hs (fun u B2 H2 g r => ?_) sc_fewest_more.nd
  have r : (rBy (Vbcrah.wants b)).p u B2 := r
  refine wb_set 3 ep_int.ev g.bh (fun u3 B3 H3 g3 r3 => ?_) sc_fewest_more.nd
  cases (show u3 = V.int 0 from r3)
  have g' := g.trans g3
  refine wb_forG (ei_enum T.f_enumerate (ep_wy_sets T (ep_var 0 rfl (up g'.bb h1))).ev (ll hsl)) (pg_tup rfl (pgs_cons (pg_name (i := 4) sc_fewest_more.nd rfl (Or.inl rfl)) (pgs_cons (pg_name (i := 5) sc_fewest_more.nd rfl (Or.inl rfl)) pgs_nil))) g'.bh
    (fun Bk j σ' H' => Gr B H Bk H' ∧ ((setsOf b).take j).any (badW b st) = false ∧ ∃ x y z, (rBy (Vbcrah.wants b)).p u Bk ∧ σ' = [some v1, some v2, some u, some (.int (((setsOf b).take j).foldl (fun n w => max n (lackI b w)) 0)), x, y, z, none]) PassesOwn.never rfl
    (fun B4 H4 g4 => ⟨g'.trans g4, rfl, none, none, none, up (R := rBy _) (g3.bb.trans g4.bb) r, rfl⟩) (fun Bk j σ' H' z => z.1.bh) ?_ ?_
  · rintro Bk j ⟨sw, j'⟩ v σ' H' B4 H4 sB hz ⟨gk, hok, x, y, z, hu, rfl⟩ g4 ⟨t, ws, ev, ht, hw⟩
    obtain ⟨ho, ej⟩ := zi_back hz
    have ej : j = j' := ej.symm
    subst ej
    have ho : (setsOf b)[j]? = some sw := ho
    obtain ⟨w1, w2, rfl, q1, q2⟩ := vs2 hw
    have hj : j < (setsOf b).length := (List.getElem?_eq_some_iff.mp ho).1
    have ew : setAt b j = sw := by have := set_at hj; rw [ho] at this; exact (Option.some.inj this).symm
    have gg := gk.trans g4
    have hu4 := up (R := rBy _) g4.bb hu
    refine ⟨_, gn_pair ev ht g4.bh, wb_set 6 (R := rI (lackI b sw)) ((ev_sub (ev_sumN (xs := Vbcrah.wants b) rfl T.f_sum (ep_var 2 rfl hu4).ev) (ev_call (fn_bound T) hr ⟨b, Vbcrah.wants b, j⟩ ⟨wants_len b, hj⟩ (ea_cons (ep_var 0 rfl (up gg.bb h1)).ev (ea_cons (ep_var 2 rfl hu4).ev (ea_one (ep_var 4 rfl q1).ev))))).is (by rw [ew]; rfl)) gg.bh (fun u5 B5 H5 g5 r5 => ?_) sc_fewest_more.nd⟩
    have g6 := gg.trans g5
    refine wb_when (t := badW b st sw) (et_and ((et_gt (ep_var 6 rfl (R := rI (lackI b sw)) r5).ev ep_int.ev)) fun _ => et_not (et_val (ev_any rfl T.f_any (xs := sw.map fun j => Vbcrah.suits st (Vbcrah.orderAt b j)) (Ev.unF (ef_map 7 (r := rN) (q := rB) (f := fun j => Vbcrah.suits st (Vbcrah.orderAt b j)) rfl sc_fewest_more.nd (ei_list (ep_var 5 rfl (up (R := rBy sw) g5.bb q2)).ev (ll q2)) (blkOk_by (N := N_fewest_more) (sc := defScope s_fewest_more) (by decide +kernel)) (fun _ _ _ _ _ => pg_name sc_fewest_more.nd rfl (Or.inl rfl)) (fun p hp v7 B7 s7 r7 _ _ _ _ _ => ev_call (fn_is_right T) (hr.mono (by decide)) (st, Vbcrah.orderAt b p) True.intro (ea_cons (ep_var 1 rfl (up (g6.bb.trans s7) h2)).ev (ea_one (ev_ix (ep_bk_orders T (ep_wy_book T (ep_var 0 rfl (up (g6.bb.trans s7) h1)))).ev (ep_var 7 rfl r7).ev (od_at (sets_lt (List.mem_of_getElem? ho) p hp)))))))))) |>.is (by rw [List.any_map]; rfl)) g6.bh (fun hc B7 H7 g7 => ?_) fun hc B7 H7 g7 => ?_
    · refine wb_ret (ev_neg ep_int.ev) g7.bh fun v B8 H8 g8 r8 => k v B8 H8 ((g6.trans g7).trans g8) (Fb.cv (congrArg rI ?_) r8)
      show -1 = fewI b st
      unfold fewI
      rw [if_pos (List.any_eq_true.mpr ⟨sw, List.mem_of_getElem? ho, hc⟩)]
    · refine wb_set 3 (ev_max2 rfl T.f_max (ep_var 3 rfl (R := rI _) rfl).ev (ep_var 6 rfl (up g7.bb (R := rI (lackI b sw)) r5)).ev) g7.bh (fun u8 B8 H8 g8 r8 => wb_nil ⟨B8, ((g4.bb.trans g5.bb).trans g7.bb).trans g8.bb, (g6.trans g7).trans g8, ?_, some w1, some w2, some u5, up (R := rBy _) ((g5.bb.trans g7.bb).trans g8.bb) hu4, ?_⟩) sc_fewest_more.nd
      · rw [take_succ ho, List.any_append, hok, Bool.false_or]
        show (badW b st sw || false) = false
        rw [hc]; rfl
      · rw [take_succ ho, List.foldl_append, show u8 = V.int _ from r8]; rfl
  · rintro Bk σ' H' sB ⟨gk, hok, x, y, z, hu, rfl⟩
    have e : ((setsOf b).take (setsOf b).zipIdx.length) = setsOf b := by rw [List.length_zipIdx, List.take_length]
    rw [e] at hok
    exact wb_ret (ep_var 3 rfl (R := rI (fewI b st)) (by show V.int _ = V.int _; unfold fewI; rw [if_neg (by rw [hok]; decide)]; exact congrArg (fun l => V.int (l.foldl (fun n w => max n (lackI b w)) 0)) e)).ev gk.bh fun v B7 H7 g7 r => k v B7 H7 (gk.trans g7) r
end
end Fb
/-! FbM4: the most, one want changed (plain); served, fullest -/
namespace Fb
open PySem PySem.Spec PyProof.Rows L2
def MF (f : Nat → Nat) : Prop := ∃ C D, ∀ t, f t = min C (D + t)
theorem mf_const {f : Nat → Nat} {c : Nat} (h : ∀ t, f t = c) : MF f := ⟨c, c, fun t => by rw [h]; omega⟩
theorem mf_min {f g : Nat → Nat} (hf : MF f) (hg : MF g) : MF fun t => min (f t) (g t) := by
  obtain ⟨C, D, h⟩ := hf
  obtain ⟨C', D', h'⟩ := hg
  exact ⟨min C C', min D D', fun t => by show min (f t) (g t) = _; rw [h, h']; omega⟩
theorem mf_addc {f : Nat → Nat} (c : Nat) (hf : MF f) : MF fun t => c + f t := by
  obtain ⟨C, D, h⟩ := hf
  exact ⟨c + C, c + D, fun t => by show c + f t = _; rw [h]; omega⟩
theorem getD_set {l : List Nat} {j t p : Nat} : (l.set j t).getD p 0 = if j = p ∧ p < l.length then t else l.getD p 0 := by
  rw [List.getD_eq_getElem?_getD, List.getD_eq_getElem?_getD, List.getElem?_set]
  by_cases h : j = p
  · subst h
    by_cases k : j < l.length
    · simp [k]
    · simp [k]
  · simp [h]
theorem sum_out {l ps : List Nat} {j t : Nat} (h : j ∉ ps) : sumN (l.set j t) ps = sumN l ps := by
  unfold sumN
  congr 1
  refine List.map_congr_left fun p hp => ?_
  rw [getD_set, if_neg]
  rintro ⟨rfl, _⟩
  exact h hp
theorem sum_in {l : List Nat} {j t : Nat} (hj : j < l.length) : ∀ {ps : List Nat}, ps.Nodup → j ∈ ps → sumN (l.set j t) ps = sumN (l.set j 0) ps + t
  | [], _, h => by cases h
  | p :: ps, nd, h => by
    have e1 : ∀ t, sumN (l.set j t) (p :: ps) = (l.set j t).getD p 0 + sumN (l.set j t) ps := fun t => by unfold sumN; rw [List.map_cons, List.sum_cons]
    rw [e1, e1]
    obtain ⟨n1, n2⟩ := List.nodup_cons.mp nd
    by_cases e : j = p
    · subst e
      rw [sum_out n1, sum_out n1, getD_set, getD_set, if_pos ⟨rfl, hj⟩, if_pos ⟨rfl, hj⟩]
      omega
    · have hm : j ∈ ps := by
        rcases List.mem_cons.mp h with h | h
        · exact absurd h e
        · exact h
      rw [sum_in hj n2 hm, getD_set, getD_set, if_neg (fun z => e z.1), if_neg (fun z => e z.1)]
      omega
theorem rest_cases {l ps w : List Nat} {j : Nat} (hj : j < l.length) (nd : ps.Nodup) : (∃ c, ∀ t, restOf (l.set j t) w ps = c) ∨ (j ∈ ps ∧ ∃ e, ∀ t, restOf (l.set j t) w ps = e + t) := by
  by_cases h : j ∈ othersOf ps w
  · exact .inr ⟨(List.mem_filter.mp h).1, _, fun t => sum_in hj (nd.filter _) h⟩
  · exact .inl ⟨_, fun t => sum_out h⟩
theorem rng_nodup {n : Nat} {p : Nat → Bool} : ((List.range n).filter p).Nodup := List.nodup_range.filter _
/-- a day's value -/
abbrev dayV (b : Vbcrah.Book) (want w : List Nat) (d : Nat) : Nat := min b.send (putUp b want w (groundOn b d, beansOn b d))
theorem day_mf {b : Vbcrah.Book} {l w : List Nat} {j d : Nat} (hj : j < l.length) : MF fun t => dayV b (l.set j t) w d := by
  have hg := rest_cases (w := w) hj (rng_nodup (n := b.orders.length) (p := fun j => (Vbcrah.orderAt b j).due == d && (Vbcrah.orderAt b j).ground))
  have hb := rest_cases (w := w) hj (rng_nodup (n := b.orders.length) (p := fun j => (Vbcrah.orderAt b j).due == d && !(Vbcrah.orderAt b j).ground))
  have e : ∀ t, dayV b (l.set j t) w d = min b.send (restOf (l.set j t) w (beansOn b d) + min b.grind (restOf (l.set j t) w (groundOn b d))) := fun t => rfl
  rcases hg with ⟨c, hc⟩ | ⟨m1, e1, h1⟩
  · rcases hb with ⟨c', hc'⟩ | ⟨m2, e2, h2⟩
    · exact mf_const (c := min b.send (c' + min b.grind c)) fun t => (e t).trans (by unfold beansOn groundOn; rw [hc, hc'])
    · exact ⟨b.send, e2 + min b.grind c, fun t => (e t).trans (by unfold beansOn groundOn; rw [hc, h2]; omega)⟩
  · rcases hb with ⟨c', hc'⟩ | ⟨m2, _⟩
    · exact ⟨min b.send (c' + b.grind), c' + e1, fun t => (e t).trans (by unfold beansOn groundOn; rw [hc', h1]; omega)⟩
    · have a := (List.mem_filter.mp m1).2
      have c := (List.mem_filter.mp m2).2
      rw [Bool.and_eq_true] at a c
      rw [a.2] at c
      exact absurd c.2 (by decide)
theorem day_const {b : Vbcrah.Book} {l w : List Nat} {j d : Nat} (hd : (Vbcrah.orderAt b j).due ≠ d) (t : Nat) : dayV b (l.set j t) w d = dayV b l w d := by
  have n1 : j ∉ othersOf (groundOn b d) w := fun h => by
    have a := (List.mem_filter.mp (List.mem_filter.mp h).1).2
    rw [Bool.and_eq_true] at a
    exact hd (eq_of_beq a.1)
  have n2 : j ∉ othersOf (beansOn b d) w := fun h => by
    have a := (List.mem_filter.mp (List.mem_filter.mp h).1).2
    rw [Bool.and_eq_true] at a
    exact hd (eq_of_beq a.1)
  unfold dayV putUp restOf
  rw [sum_out n1, sum_out n2]
theorem days_mf {b : Vbcrah.Book} {l w : List Nat} {j : Nat} (hj : j < l.length) : ∀ ds : List Nat, ds.Nodup → ((Vbcrah.orderAt b j).due ∉ ds → ∀ t, (ds.map (dayV b (l.set j t) w)).sum = (ds.map (dayV b l w)).sum) ∧ MF fun t => (ds.map (dayV b (l.set j t) w)).sum
  | [], _ => ⟨fun _ _ => rfl, mf_const (c := 0) fun _ => rfl⟩
  | d :: ds, nd => by
    obtain ⟨n1, n2⟩ := List.nodup_cons.mp nd
    obtain ⟨h1, h2⟩ := days_mf (b := b) (w := w) hj ds n2
    have e : ∀ t, ((d :: ds).map (dayV b (l.set j t) w)).sum = dayV b (l.set j t) w d + (ds.map (dayV b (l.set j t) w)).sum := fun t => by rw [List.map_cons, List.sum_cons]
    refine ⟨fun nm t => ?_, ?_⟩
    · rw [e, List.map_cons, List.sum_cons, day_const (fun z => nm (by rw [z]; exact List.mem_cons_self)), h1 (fun z => nm (List.mem_cons_of_mem _ z))]
    · by_cases hd : (Vbcrah.orderAt b j).due = d
      · have k := h1 (by rw [hd]; exact n1)
        have m := mf_addc ((ds.map (dayV b l w)).sum) (day_mf (b := b) (w := w) (d := d) hj)
        obtain ⟨C, D, q⟩ := m
        exact ⟨C, D, fun t => (e t).trans (by rw [k t, Nat.add_comm]; exact q t)⟩
      · obtain ⟨C, D, q⟩ := mf_addc (dayV b l w d) h2
        exact ⟨C, D, fun t => (e t).trans (by rw [day_const hd]; exact q t)⟩
theorem rise_nodup {l : List Nat} (h : l.Pairwise (· < ·)) : l.Nodup := h.imp fun {a b} z => Nat.ne_of_lt z
theorem bound_mf {b : Vbcrah.Book} {l w : List Nat} {j : Nat} (hj : j < l.length) (hw : ∀ k ∈ w, k < b.orders.length) : MF fun t => boundW b (l.set j t) w := by
  obtain ⟨C, D, h⟩ := mf_addc (sumN (b.stocks.map fun s => s.bags) (rightOf b w)) (days_mf (b := b) (w := w) hj (Vbcrah.daysOf b) (rise_nodup (FbM.days_rise b))).2
  exact ⟨C, D, fun t => (bound_eq hw).symm.trans (h t)⟩
theorem fold_fst (b : Vbcrah.Book) (want : List Nat) : ∀ (ws : List (List Nat)) (z : Nat × List Nat), (ws.foldl (stepB b want) z).1 = ws.foldl (fun m w => min m (boundW b want w)) z.1
  | [], _ => rfl
  | w :: ws, z => by
    rw [List.foldl_cons, List.foldl_cons, fold_fst b want ws]
    congr 1
    unfold stepB
    split
    · show boundW b want w = _; omega
    · omega
theorem most_fold (b : Vbcrah.Book) (want : List Nat) : Vbcrah.mostBy b want = (setsOf b).foldl (fun m w => min m (boundW b want w)) (boundW b want []) := by
  unfold Vbcrah.mostBy
  rw [least_eq, fold_fst]
theorem fold_mf {α : Type} {F : Nat → α → Nat} : ∀ {ws : List α} {z : Nat → Nat}, MF z → (∀ w ∈ ws, MF fun t => F t w) → MF fun t => ws.foldl (fun m w => min m (F t w)) (z t)
  | [], z, hz, _ => hz
  | w :: ws, z, hz, h => fold_mf (ws := ws) (z := fun t => min (z t) (F t w)) (mf_min hz (h w List.mem_cons_self)) fun x hx => h x (List.mem_cons_of_mem _ hx)
/-- the most, as one want changes -/
theorem most_mf {b : Vbcrah.Book} {l : List Nat} {j : Nat} (hj : j < l.length) : MF fun t => Vbcrah.mostBy b (l.set j t) := by
  have h := fold_mf (F := fun t w => boundW b (l.set j t) w) (ws := setsOf b) (z := fun t => boundW b (l.set j t) []) (bound_mf hj (fun k hk => by cases hk)) fun w hw => bound_mf hj (sets_lt hw)
  obtain ⟨C, D, q⟩ := h
  exact ⟨C, D, fun t => (most_fold b _).trans (q t)⟩
/-! served -/
theorem set_self {l : List Nat} {j : Nat} (h : l.getD j 0 = 0) : l.set j 0 = l := by
  refine List.ext_getElem? fun i => ?_
  rw [List.getElem?_set]
  by_cases e : j = i
  · subst e
    rw [if_pos rfl]
    rw [List.getD_eq_getElem?_getD] at h
    by_cases k : j < l.length
    · rw [if_pos k]
      rw [List.getElem?_eq_getElem k] at h ⊢
      simp at h
      rw [h]
    · rw [if_neg k, List.getElem?_eq_none (by omega)]
  · rw [if_neg e]
theorem sum_set {l : List Nat} {j t : Nat} (hj : j < l.length) : (l.set j t).sum + l.getD j 0 = l.sum + t := by
  induction l generalizing j with
  | nil => simp at hj
  | cons x l ih =>
    cases j with
    | zero => simp; omega
    | succ j =>
      have := ih (j := j) (by simpa using hj)
      simp at this ⊢
      omega
def serveStep (b : Vbcrah.Book) (l : List Nat) (j : Nat) : List Nat := l.set j (if (Vbcrah.orderAt b j).whole = true ∧ Vbcrah.greatest b l j < (Vbcrah.orderAt b j).bags then 0 else Vbcrah.greatest b l j)
theorem serve_fold (b : Vbcrah.Book) : ∀ (js l : List Nat), Vbcrah.serveFrom b js l = js.foldl (serveStep b) l
  | [], _ => rfl
  | j :: js, l => by rw [List.foldl_cons, ← serve_fold b js]; rfl
structure SrvI (b : Vbcrah.Book) (l : List Nat) (j : Nat) : Prop where
  len : l.length = b.orders.length
  can : Vbcrah.mostBy b l = l.sum
  zero : ∀ k, j ≤ k → l.getD k 0 = 0
structure SrvS (b : Vbcrah.Book) (l : List Nat) (j : Nat) : Prop where
  ge : l.sum ≤ Vbcrah.mostBy b (l.set j (Vbcrah.orderAt b j).bags)
  le : Vbcrah.greatest b l j ≤ (Vbcrah.orderAt b j).bags
  next : SrvI b (serveStep b l j) (j + 1)
theorem srv_step {b : Vbcrah.Book} {l : List Nat} {j : Nat} (h : SrvI b l j) (hj : j < b.orders.length) : SrvS b l j := by
  have hl : j < l.length := by rw [h.len]; exact hj
  obtain ⟨C, D, q⟩ := most_mf (b := b) hl
  have h0 := h.zero j (Nat.le_refl _)
  have e0 := q 0
  have es := set_self h0
  simp only [es, h.can] at e0
  have eb := q (Vbcrah.orderAt b j).bags
  simp only at eb
  have eg : Vbcrah.greatest b l j = Vbcrah.mostBy b (l.set j (Vbcrah.orderAt b j).bags) - l.sum := rfl
  refine ⟨by rw [eb]; omega, by rw [eg, eb]; omega, ?_⟩
  have key : ∀ v, (v = 0 ∨ v = Vbcrah.greatest b l j) → SrvI b (l.set j v) (j + 1) := by
    intro v hv
    refine ⟨by rw [List.length_set]; exact h.len, ?_, fun k hk => ?_⟩
    · have ev := q v
      simp only at ev
      have ss := sum_set (t := v) hl
      rw [h0] at ss
      rw [eg, eb] at hv
      rw [ev]
      omega
    · rw [getD_set, if_neg (by omega)]
      exact h.zero k (by omega)
  unfold serveStep
  split
  · exact key 0 (.inl rfl)
  · exact key _ (.inr rfl)
theorem sumN_zero {l ps : List Nat} (h : ∀ k, l.getD k 0 = 0) : sumN l ps = 0 := by
  unfold sumN
  induction ps with
  | nil => rfl
  | cons p ps ih => rw [List.map_cons, List.sum_cons, h, ih]
theorem zeros_at (b : Vbcrah.Book) (k : Nat) : (b.orders.map fun _ => 0).getD k 0 = 0 := by
  rw [List.getD_eq_getElem?_getD, List.getElem?_map]
  cases b.orders[k]? <;> rfl
theorem fold_min_le {α : Type} {F : α → Nat} : ∀ (ws : List α) (z : Nat), ws.foldl (fun m w => min m (F w)) z ≤ z
  | [], z => Nat.le_refl _
  | w :: ws, z => Nat.le_trans (fold_min_le ws _) (Nat.min_le_left _ _)
theorem srv_start (b : Vbcrah.Book) : SrvI b (b.orders.map fun _ => 0) 0 := by
  refine ⟨List.length_map .., ?_, fun k _ => zeros_at b k⟩
  have hs : (b.orders.map fun _ => 0).sum = 0 := by
    induction b.orders with
    | nil => rfl
    | cons o os ih => rw [List.map_cons, List.sum_cons, ih]
  have h0 : boundW b (b.orders.map fun _ => 0) [] = 0 := by
    rw [← bound_eq (w := []) (fun k hk => by cases hk)]
    have e1 : rightOf b [] = [] := by
      unfold rightOf
      rw [List.filter_eq_nil_iff]
      intro a _
      simp
    rw [e1]
    have e2 : ∀ d, dayV b (b.orders.map fun _ => 0) [] d = 0 := fun d => by
      unfold dayV putUp restOf
      rw [sumN_zero (zeros_at b), sumN_zero (zeros_at b)]
      omega
    unfold daysB
    have : ∀ ds : List Nat, (ds.map fun d => dayV b (b.orders.map fun _ => 0) [] d).sum = 0 := by
      intro ds
      induction ds with
      | nil => rfl
      | cons d ds ih => rw [List.map_cons, List.sum_cons, e2, ih]
    have e3 : sumN (b.stocks.map fun s => s.bags) [] = 0 := rfl
    rw [e3, Nat.zero_add]
    exact this _
  have := fold_min_le (F := fun w => boundW b (b.orders.map fun _ => 0) w) (setsOf b) (boundW b (b.orders.map fun _ => 0) [])
  rw [hs, most_fold]
  omega
/-- served, up to j -/
def srv (b : Vbcrah.Book) (j : Nat) : List Nat := ((List.range b.orders.length).take j).foldl (serveStep b) (b.orders.map fun _ => 0)
theorem rng_at {n j : Nat} (h : j < n) : (List.range n)[j]? = some j := List.getElem?_range h
theorem srv_succ {b : Vbcrah.Book} {j : Nat} (h : j < b.orders.length) : srv b (j + 1) = serveStep b (srv b j) j := by
  unfold srv
  rw [take_succ (rng_at h), List.foldl_append]; rfl
theorem srv_inv (b : Vbcrah.Book) : ∀ j, j ≤ b.orders.length → SrvI b (srv b j) j
  | 0, _ => srv_start b
  | j + 1, h => by
    rw [srv_succ (by omega)]
    exact (srv_step (srv_inv b j (by omega)) (by omega)).next
theorem srv_all (b : Vbcrah.Book) : srv b b.orders.length = Vbcrah.served b := by
  unfold srv Vbcrah.served
  rw [serve_fold, List.take_of_length_le (by rw [List.length_range]; exact Nat.le_refl _)]
/-! fullest -/
theorem leastUp_eq {f : Nat → Bool} {m : Nat} : ∀ (k lo hi : Nat), hi - lo < 2 ^ k → lo ≤ m → m ≤ hi → (∀ t, lo ≤ t → t < hi → (f t = true ↔ m ≤ t)) → Vbcrah.leastUp f k lo hi = m
  | 0, lo, hi, h, h1, h2, _ => by
    unfold Vbcrah.leastUp
    simp at h
    omega
  | k + 1, lo, hi, h, h1, h2, hf => by
    unfold Vbcrah.leastUp
    have e : 2 ^ (k + 1) = 2 ^ k + 2 ^ k := by rw [Nat.pow_succ]; omega
    split
    · omega
    · rename_i hlt
      dsimp only
      have hm := hf ((lo + hi) / 2) (by omega) (by omega)
      split
      · rename_i hy
        have := hm.mp hy
        exact leastUp_eq k lo _ (by omega) h1 this fun t a b => hf t a (by omega)
      · rename_i hn
        have : ¬ m ≤ (lo + hi) / 2 := fun z => hn (hm.mpr z)
        exact leastUp_eq k _ hi (by omega) (by omega) h2 fun t a b => hf t (by omega) b
def fstep (b : Vbcrah.Book) (top : Nat) (l : List Nat) (j : Nat) : List Nat := l.set j (top - Vbcrah.mostBy b (l.set j 0))
theorem full_step {b : Vbcrah.Book} {l : List Nat} {j top : Nat} (hj : j < l.length) (h : Vbcrah.mostBy b l = top) (h8 : l.getD j 0 < 256) :
    l.set j (Vbcrah.leastUp (fun t => Vbcrah.mostBy b (l.set j t) == top) 8 0 (l.getD j 0)) = fstep b top l j ∧ Vbcrah.mostBy b (fstep b top l j) = top ∧ Vbcrah.mostBy b (l.set j 0) ≤ top := by
  obtain ⟨C, D, q⟩ := most_mf (b := b) hj
  have e0 := q 0
  have el := q (l.getD j 0)
  simp only at e0 el
  have es : l.set j (l.getD j 0) = l := by
    refine List.ext_getElem? fun i => ?_
    rw [List.getElem?_set]
    by_cases e : j = i
    · subst e
      rw [if_pos rfl, if_pos hj, getD_nat hj]
    · rw [if_neg e]
  rw [es, h] at el
  refine ⟨?_, ?_, by rw [e0]; omega⟩
  · unfold fstep
    congr 1
    refine leastUp_eq 8 0 _ (by simpa using h8) (Nat.zero_le _) (by rw [e0]; omega) fun t _ ht => ?_
    have et := q t
    simp only at et
    rw [beq_iff_eq, et, e0]
    omega
  · unfold fstep
    have et := q (top - Vbcrah.mostBy b (l.set j 0))
    simp only at et
    rw [et, e0]
    omega
/-- the fullest, up to j -/
def ful (b : Vbcrah.Book) (j : Nat) : List Nat := ((List.range b.orders.length).take j).foldl (fstep b (Vbcrah.most b)) (Vbcrah.wants b)
theorem ful_succ {b : Vbcrah.Book} {j : Nat} (h : j < b.orders.length) : ful b (j + 1) = fstep b (Vbcrah.most b) (ful b j) j := by
  unfold ful
  rw [take_succ (rng_at h), List.foldl_append]; rfl
structure FulI (b : Vbcrah.Book) (l : List Nat) (j : Nat) : Prop where
  len : l.length = b.orders.length
  top : Vbcrah.mostBy b l = Vbcrah.most b
  same : ∀ k, j ≤ k → l.getD k 0 = (Vbcrah.wants b).getD k 0
theorem ful_inv {b : Vbcrah.Book} (h8 : ∀ k, (Vbcrah.wants b).getD k 0 < 256) : ∀ j, j ≤ b.orders.length → FulI b (ful b j) j
  | 0, _ => ⟨wants_len b, rfl, fun _ _ => rfl⟩
  | j + 1, h => by
    have i := ful_inv h8 j (by omega)
    rw [ful_succ (by omega)]
    obtain ⟨h1, h2, h3⟩ := full_step (b := b) (l := ful b j) (j := j) (by rw [i.len]; omega) i.top (by rw [i.same j (Nat.le_refl _)]; exact h8 j)
    refine ⟨by unfold fstep; rw [List.length_set]; exact i.len, h2, fun k hk => ?_⟩
    unfold fstep
    rw [getD_set, if_neg (by omega)]
    exact i.same k (by omega)
theorem fullFrom_eq {b : Vbcrah.Book} (h8 : ∀ k, (Vbcrah.wants b).getD k 0 < 256) : ∀ (m j : Nat), j + m = b.orders.length → Vbcrah.fullestFrom b (Vbcrah.most b) ((List.range b.orders.length).drop j) (ful b j) = ful b b.orders.length
  | 0, j, h => by
    have : j = b.orders.length := by omega
    subst this
    rw [List.drop_of_length_le (by rw [List.length_range]; exact Nat.le_refl _)]; rfl
  | m + 1, j, h => by
    have hj : j < b.orders.length := by omega
    have e : (List.range b.orders.length).drop j = j :: (List.range b.orders.length).drop (j + 1) := by
      rw [List.drop_eq_getElem_cons (by rw [List.length_range]; exact hj)]
      simp
    have i := ful_inv h8 j (by omega)
    rw [e]
    have s := full_step (b := b) (l := ful b j) (j := j) (by rw [i.len]; omega) i.top (by rw [i.same j (Nat.le_refl _)]; exact h8 j)
    show Vbcrah.fullestFrom b (Vbcrah.most b) _ ((ful b j).set j _) = _
    rw [s.1, ← ful_succ hj]
    exact fullFrom_eq h8 m (j + 1) (by omega)
theorem ful_all {b : Vbcrah.Book} (h8 : ∀ k, (Vbcrah.wants b).getD k 0 < 256) : ful b b.orders.length = Vbcrah.fullest b := by
  have := fullFrom_eq h8 b.orders.length 0 (by omega)
  rw [← this]; rfl
end Fb
/-! FbQ: served, fullest -/
namespace Fb
open PySem PySem.Spec PyProof.Rows L2
section
variable {X : Cx} {e o : Expr} {σ : L2.St} {B H : Hp} {pos p : Pos} {R : Rp} {rest : List Stmt} {D : L2.Ends}
/-- xs[i] = e, the base may know the list -/
theorem wb_setixQ {l : Addr} {xs : List V} {n : Nat} {i : Expr} (h : Ev X e σ B R) (s : Same B H) (hl : H l = some (.lst xs)) (hn : n < xs.length) (ho : ∀ H', Same B H' → ∀ Q : VK, Q (.ref l) H' → WE X o σ H' Q) (hi : EvP X i σ B (rN n))
    (k : ∀ v B2 H2, Gr B H B2 H2 → R.p v B2 → WB X rest D σ (upd H2 l (.lst (xs.set n v))))
    (ha : ∀ v, assign (.Subscript o i p) X.env v = (do
      let ov ← holding [v] (eval o X.env)
      let iv ← holding [v, ov] (eval i X.env)
      standAt p
      holding [v, ov, iv] (setItem ov iv v)
      release [v, ov, iv] []) := by intro _; rfl)
    (hs : swapsWithSole [.Subscript o i p] e pos.line X.env = pure false := by rfl) (hw : swappedStores [.Subscript o i p] e X.env = pure none := by rfl)
    (h1 : (assignEach [.Subscript o i p] X.env).map (·.2) = [assign (.Subscript o i p) X.env] := by rfl) : WB X (.Assign [.Subscript o i p] e pos :: rest) D σ H :=
  wb_cons (ps_asg we_pe (pg_sub we_pe we_pe set_list ha) hs hw h1) (h H s _ fun v B2 H2 g r => ho H2 (g.bb.trans g.bh) _ (by
    obtain ⟨u, hu, hk⟩ := hi
    refine hk H2 (g.bb.trans g.bh) _ ⟨l, xs, n, n, rfl, hu, g.hh _ _ hl, ?_, k v B2 H2 g r⟩
    unfold ixN
    rw [if_pos (by omega), if_pos (by omega), Int.toNat_natCast]))
end
/-- the own list known for a while -/
theorem Acc.lend {B H Bk H' : Hp} {f : Addr} {vs : List V} (a : Acc B H Bk H' f vs) : Same (upd Bk f (.lst vs)) H' := lend_same a.g.bh a.at_
theorem Acc.stepL {B H Bk H' B2 H2 : Hp} {f : Addr} {vs : List V} (a : Acc B H Bk H' f vs) (g : Gr (upd Bk f (.lst vs)) H' B2 H2) : Acc B H (er B2 f) H2 f vs := a.step (g.back a.bf)
abbrev vN (l : List Nat) : List V := l.map fun n : Nat => V.int (n : Int)
theorem vN_all {B : Hp} (l : List Nat) : All2 (fun (n : Nat) v => (rN n).p v B) l (vN l) := All2.of_map _ l
theorem vN_set (l : List Nat) (j n : Nat) : (vN l).set j (V.int (n : Int)) = vN (l.set j n) := by
  unfold vN
  rw [List.map_set]
theorem vN_rep {B : Hp} (l : List Nat) {f : Addr} {Bk : Hp} (hl : l.length ≤ LB) : (rBy l).p (.ref f) (upd Bk f (.lst (vN l))) := ⟨f, vN l, rfl, upd_same, hl, All2.of_map _ l⟩
theorem all_vN {B : Hp} {l : List Nat} {vs : List V} (a : All2 (fun (n : Nat) v => (rN n).p v B) l vs) : vs = vN l := All2.eq_map a
section
variable {P : Program} {w : World} {K : PySem.W.Frag} {mg : Str → Option Value} {base : Heap}
theorem nV {n : Int} {v : V} {B C : Hp} (h : (rI n).p v B) : (rI n).p v C := h
theorem set_nat {x : Int} {l : List Nat} {j n : Nat} (h : x = (n : Int)) : (vN l).set j (V.int x) = vN (l.set j n) := by rw [h, vN_set]
theorem fn_served (T : Txt K mg) : Fn P w K mg base CX0 "served" 7 ["ways"] (spP (fun a : Vbcrah.Book => a.orders.length ≤ 8) (fun a => [rWy K a]) (fun a => rBy (Vbcrah.served a))) := by
  obtain ⟨fd, F⟩ := T.d_served
  refine mkFn T.g_served F (b_served F) (ok_body F sc_served (len_P fun _ => rfl) fun cdv A outer s H vs Q E hr q => ?_)
  obtain ⟨b, B, hs, h8, hv, k⟩ := q
  obtain ⟨v1, rfl, h1⟩ := vs1 hv
  have h8 : b.orders.length ≤ 8 := h8
  have l8 : b.orders.length ≤ LB := by unfold LB; omega
  obtain ⟨ub, hub, _⟩ := wy_book_len h1
  refine wb_set 1 (ef_rep (r := rN) (x := 0) (n := b.orders.length) (ev_list (r := rN) (xs := [0]) (ea_one ep_int.ev) (by show 1 ≤ LB; decide)) (ev_len T.f_len (ep_bk_orders T (ep_wy_book T (ep_var 0 rfl h1))).ev) l8) hs (fun v B2 H2 g r => ?_) sc_served.nd
  obtain ⟨f, vs, rfl, a0, al⟩ := acc_of hs g r fun x v C q => q
  have e0 := all_vN al
  subst e0
  have e1 : List.replicate b.orders.length 0 = b.orders.map fun _ => 0 := (List.map_const' ..).symm
  rw [e1] at a0
  refine wb_forG (ei_enum T.f_enumerate (ep_bk_orders T (ep_wy_book T (ep_var 0 rfl h1))).ev (bk_orders_len hub)) (pg_tup rfl (pgs_cons (pg_name (i := 2) sc_served.nd rfl (Or.inl rfl)) (pgs_cons (pg_name (i := 3) sc_served.nd rfl (Or.inl rfl)) pgs_nil))) a0.g.bh
    (fun Bk j σ' H' => Acc B H Bk H' f (vN (srv b j)) ∧ ∃ x y z, σ' = [some v1, some (.ref f), x, y, z]) PassesOwn.never rfl (fun B3 H3 g3 => ⟨a0.step g3, none, none, none, rfl⟩) (fun Bk j σ' H' z => z.1.g.bh) ?_ ?_
  · rintro Bk j ⟨o, j'⟩ v σ' H' B4 H4 sB hz ⟨a, x, y, z, rfl⟩ g4 ⟨t, ws, ev, ht, hw⟩
    obtain ⟨ho, ej⟩ := zi_back hz
    have ej : j = j' := ej.symm
    subst ej
    have ho : b.orders[j]? = some o := ho
    have hj : j < b.orders.length := (List.getElem?_eq_some_iff.mp ho).1
    have eo : Vbcrah.orderAt b j = o := by have := od_at hj; rw [ho] at this; exact (Option.some.inj this).symm
    have inv := srv_inv b j (by omega)
    have stp := srv_step inv hj
    obtain ⟨w1, w2, rfl, q1, q2⟩ := vs2 hw
    have a4 := a.step g4
    have lf := lend_same a4.g.bh a4.at_
    have ld : Same B4 (upd B4 f (.lst (vN (srv b j)))) := same_new a4.bf
    have rf : (rBy (srv b j)).p (.ref f) (upd B4 f (.lst (vN (srv b j)))) := vN_rep (B := B4) _ (by rw [inv.len]; exact l8)
    have hl1 : (srv b j).length = b.orders.length := inv.len
    have k1 := up (a4.g.bb.trans ld) h1
    refine ⟨_, gn_pair ev ht g4.bh, wb_set 4 (R := rN (Vbcrah.greatest b (srv b j) j)) ((ev_sub (ev_call (fn_most T) hr (b, (srv b j).set j o.bags) (by show ((srv b j).set j o.bags).length = b.orders.length; rw [List.length_set]; exact hl1) (ea_cons (ep_var 0 rfl k1).ev (ea_one (ev_call (fn_with_one rN T) (hr.mono (by decide)) (srv b j, j, o.bags) ⟨by rw [hl1]; exact hj, by rw [hl1]; unfold LB; omega⟩ (ea_cons (ep_var 1 rfl rf).ev (ea_cons (ep_var 2 rfl (up (R := rN j) ld q1)).ev (ea_one (ep_od_bags T (ep_var 3 rfl (up (R := rOd K o) ld q2))).ev))))))) (ev_sumN rfl T.f_sum (ep_var 1 rfl rf).ev)).is ?_) lf (fun u B5 H5 g5 r5 => ?_) sc_served.nd⟩
    · have ge := stp.ge
      rw [eo] at ge
      show rI _ = rI _
      congr 1
      unfold Vbcrah.greatest
      rw [eo]
      show ((Vbcrah.mostBy b ((srv b j).set j o.bags) : Nat) : Int) - (((srv b j).sum : Nat) : Int) = _
      omega
    · have a5 := a4.stepL g5
      have ld5 : Same (er B5 f) B5 := fun c u e => by
        by_cases hc : c = f
        · subst hc; rw [er_q] at e; cases e
        · rw [er_ne hc] at e; exact e
      have q2' := up (R := rOd K o) (g5.back a4.bf).bb q2
      have le := stp.le
      rw [eo] at le
      refine wb_when (et_or (et_not (et_val (ep_od_whole T (ep_var 3 rfl q2')).ev)) fun _ => et_eq (ep_var 4 rfl (R := rN _) (nV r5)).ev (ep_od_bags T (ep_var 3 rfl q2')).ev) a5.g.bh (fun hc B6 H6 g6 => ?_) fun hc B6 H6 g6 => ?_
      · have a6 := a5.step g6
        rw [Bool.or_eq_true, Bool.not_eq_true', dec_eq, decide_eq_true_eq] at hc
        refine wb_setixQ (n := j) (ep_var 4 rfl (R := rN (Vbcrah.greatest b (srv b j) j)) (nV r5)).ev a6.g.bh a6.at_ (by show j < (vN (srv b j)).length; rw [List.length_map, hl1]; exact hj) (fun H' _ => at_var 1 rfl) (ep_var 2 rfl (R := rN j) (nV (B := B4) q1)) fun u7 B7 H7 g7 r7 => wb_nil (wb_nil ⟨B7, (((g4.bb.trans (g5.back a4.bf).bb).trans g6.bb)).trans g7.bb, ?_, some w1, some w2, some u, rfl⟩)
        have a7 := (a6.step g7).put (ws := vN (srv b (j + 1)))
        rw [show u7 = V.int (Vbcrah.greatest b (srv b j) j : Nat) from r7, vN_set]
        rw [srv_succ hj] at a7 ⊢
        unfold serveStep at a7 ⊢
        rw [if_neg (by rw [eo]; rintro ⟨c1, c2⟩; rcases hc with hc | hc; exact absurd c1 (by rw [hc]; decide); omega)] at a7 ⊢
        exact a7
      · have a6 := a5.step g6
        rw [Bool.or_eq_false_iff, Bool.not_eq_false', dec_eq, decide_eq_false_iff_not] at hc
        refine wb_nil ⟨B6, (g4.bb.trans (g5.back a4.bf).bb).trans g6.bb, ?_, some w1, some w2, some u, rfl⟩
        rw [srv_succ hj]
        unfold serveStep
        rw [if_pos (by rw [eo]; exact ⟨hc.1, by omega⟩), set_self (inv.zero j (Nat.le_refl _))]
        exact a6
  · rintro Bk σ' H' sB ⟨a, x, y, z, rfl⟩
    rw [List.length_zipIdx, srv_all] at a
    obtain ⟨g9, r9⟩ := a.close (r := rN) (xs := Vbcrah.served b) (vN_all _) (by rw [← srv_all, (srv_inv b _ (Nat.le_refl _)).len]; exact l8)
    exact wb_ret (ep_var 1 rfl r9).ev g9.bh fun v B7 H7 g7 r => k v B7 H7 (g9.trans g7) r
end
end Fb
/-! FbQ2: the fullest -/
namespace Fb
open PySem PySem.Spec PyProof.Rows L2
/-- what is walked, from this very heap -/
def EvIH (X : Cx) (tg iter : Expr) (σ : L2.St) (B H : Hp) {α : Type} (xs : List α) (r : α → Rp) : Prop := xs.length ≤ LB ∧ (∀ x, foldedSetIterable iter X.env x = pure x) ∧ ∃ wi, PI X tg iter wi ∧ ∀ R : It → Hp → Prop,
  (∀ J G Y B2 H2, Gr B H B2 H2 → Walk J xs.length G Y → (∀ H3, Same B2 H3 → G H3) → (∀ i H3 x H4, i < xs.length → Same B2 H3 → Y i H3 x H4 → ∃ a B4, xs[i]? = some a ∧ Gr B2 H3 B4 H4 ∧ (r a).p x B4) → R J H2) → wi σ H R
section
variable {X : Cx} {e tg iter : Expr} {σ : L2.St} {B H : Hp} {pos p : Pos} {α : Type} {rest body : List Stmt} {D : L2.Ends}
theorem eih_rangeL {n : Nat} {f : Addr} {o : HO} (hm : X.mg "range" = none) (s : Same B H) (nf : B f = none) (hf : H f = some o) (h : Ev X e σ (upd B f o) (rN n)) (hl : n ≤ LB) (hg : Gl X "range" := by rfl)
    (he : starEach [e] X.env = [(false, eval e X.env)] := by rfl) (hs : ∀ x, foldedSetIterable (.Call (.Name "range" p) [e] [] pos) X.env x = pure x := by intro _; rfl) :
    EvIH X tg (.Call (.Name "range" p) [e] [] pos) σ B H (List.range n) (fun i => rN i) :=
  ⟨by rw [List.length_range]; exact hl, hs, _, pi_range1 hg hm wa_pa he, fun R k => (ea_one h he) H (lend_same s hf) _ fun vs B2 H2 g rv => by
    obtain ⟨v, rfl, e1⟩ := rv.one
    refine ⟨n, by rw [e1], by omega, by unfold LB at hl; omega, ?_⟩
    rw [Int.toNat_natCast]
    refine k _ _ _ (er B2 f) H2 (g.back nf) (by rw [List.length_range]; exact walk_range) (fun H3 s3 => True.intro) fun i H3 x H4 hi s3 y => ?_
    obtain ⟨rfl, rfl⟩ := y
    rw [List.length_range] at hi
    exact ⟨i, er B2 f, by rw [List.getElem?_range hi], Gr.refl s3, by show V.int (0 + (i : Int)) = V.int i; rw [Int.zero_add]⟩⟩
theorem wb_forH {r : α → Rp} {xs : List α} {g : TG} (hi : EvIH X tg iter σ B H xs r) (hg : PG X tg g) (Pv : Hp → Nat → L2.St → Hp → Prop) (hp : PassesOwn (model X.prog X.w) X.A X.env X.xe) (hc : X.calm = true)
    (h0 : ∀ B2 H2, Gr B H B2 H2 → Pv B2 0 σ H2) (hG : ∀ Bk k σ' H', Pv Bk k σ' H' → Same Bk H')
    (hs : ∀ Bk k a v σ' H' B4 H4, Same B Bk → xs[k]? = some a → Pv Bk k σ' H' → Gr Bk H' B4 H4 → (r a).p v B4 → ∃ slotsA, (∀ Q : L2.St → Hp → Prop, Q slotsA H4 → g v σ' H4 Q) ∧
      WB X body { nx := fun σ H => ∃ B5, Same Bk B5 ∧ Pv B5 (k + 1) σ H, ct := fun σ H => ∃ B5, Same Bk B5 ∧ Pv B5 (k + 1) σ H, bk := WB X rest D, rt := D.rt } slotsA H4)
    (hd : ∀ Bk σ' H', Same B Bk → Pv Bk xs.length σ' H' → WB X rest D σ' H') : WB X (.For tg iter body [] pos :: rest) D σ H := by
  obtain ⟨hl, hf, wi, hpi, hw⟩ := hi
  refine wb_cons (ps_for hp hc hpi hg wb_pss hf) ?_
  refine hw _ fun J G Y B2 H2 g2 W hGG hY => ?_
  refine for_it (D := { D with nx := WB X rest D }) W (fun k σ' H' => ∃ Bk, Same B2 Bk ∧ Pv Bk k σ' H') ⟨B2, Same.refl _, h0 B2 H2 g2⟩ (fun k σ' H' _ ⟨Bk, s2, z⟩ => hGG H' (s2.trans (hG Bk k σ' H' z))) ?_ (fun σ' H' ⟨Bk, s2, z⟩ => hd Bk σ' H' (g2.bb.trans s2) z)
  intro k v σ' H' H4 hk ⟨Bk, s2, z⟩ y
  have sk := hG _ _ _ _ z
  obtain ⟨a, B4, ha, g4, ra⟩ := hY k H' v H4 hk (s2.trans sk) y
  obtain ⟨slotsA, q1, q2⟩ := hs Bk k a v σ' H' (both Bk B4) H4 (g2.bb.trans s2) ha z (g4.wide s2 sk) ((r a).mo _ _ _ (g4.wide_in sk) ra)
  refine q1 _ (wb_mono (D := { nx := fun σ H => ∃ B5, Same Bk B5 ∧ Pv B5 (k + 1) σ H, ct := fun σ H => ∃ B5, Same Bk B5 ∧ Pv B5 (k + 1) σ H, bk := WB X rest D, rt := D.rt }) (fun σ H w => ?_) (fun _ _ q => q) (fun _ _ q => q) (fun σ H w => ?_) q2)
  · obtain ⟨B5, z, q⟩ := w
    exact ⟨B5, s2.trans z, q⟩
  · obtain ⟨B5, z, q⟩ := w
    exact ⟨B5, s2.trans z, q⟩
end
section
variable {P : Program} {w : World} {K : PySem.W.Frag} {mg : Str → Option Value} {base : Heap}
structure FulOk (b : Vbcrah.Book) : Prop where
  n : b.orders.length ≤ 8
  w : ∀ k, (Vbcrah.wants b).getD k 0 < 256
theorem fn_fullest (T : Txt K mg) : Fn P w K mg base CX0 "fullest" 7 ["ways"] (spP FulOk (fun a => [rWy K a]) (fun a => rBy (Vbcrah.fullest a))) := by
  obtain ⟨fd, F⟩ := T.d_fullest
  refine mkFn T.g_fullest F (b_fullest F) (ok_body F sc_fullest (len_P fun _ => rfl) fun cdv A outer s H vs Q E hr q => ?_)
  obtain ⟨b, B, hs, hp, hv, k⟩ := q
  obtain ⟨v1, rfl, h1⟩ := vs1 hv
  have h8 := hp.n
  have h9 := hp.w
  have l8 : b.orders.length ≤ LB := by unfold LB; omega
  refine wb_set 1 (ef_meth0 T.c_Book (mt_wants T) (hr.mono (by decide)) b True.intro (ep_wy_book T (ep_var 0 rfl h1)).ev rfl rfl) hs (fun v B2 H2 g r => ?_) sc_fullest.nd
  obtain ⟨f, vs, rfl, a0, al⟩ := acc_of (r := rN) (xs := Vbcrah.wants b) hs g r fun x v C q => q
  have e0 := all_vN al
  subst e0
  have wl := wants_len b
  have ld0 : Same B (upd B f (.lst (vN (Vbcrah.wants b)))) := same_new a0.bf
  have rf0 : (rBy (Vbcrah.wants b)).p (.ref f) (upd B f (.lst (vN (Vbcrah.wants b)))) := vN_rep (B := B) _ (by rw [wl]; exact l8)
  refine wb_set 2 (ev_call (fn_most T) hr (b, Vbcrah.wants b) wl (ea_cons (ep_var 0 rfl (up ld0 h1)).ev (ea_one (ep_var 1 rfl rf0).ev))) a0.lend (fun u2 B3 H3 g3 r3 => ?_) sc_fullest.nd
  cases (show u2 = V.int (Vbcrah.most b : Nat) from r3)
  have a3 := a0.stepL g3
  have rf3 : (rBy (Vbcrah.wants b)).p (.ref f) (upd (er B3 f) f (.lst (vN (Vbcrah.wants b)))) := vN_rep (B := B) _ (by rw [wl]; exact l8)
  refine wb_forH (eih_rangeL (n := b.orders.length) T.f_range a3.g.bh a3.bf a3.at_ ((ev_len T.f_len (ep_var 1 rfl rf3).ev).is (by rw [wl])) l8) (pg_name (i := 3) sc_fullest.nd rfl (Or.inl rfl))
    (fun Bk j σ' H' => Acc B H Bk H' f (vN (ful b j)) ∧ ∃ x, σ' = [some v1, some (.ref f), some (.int (Vbcrah.most b : Nat)), x]) PassesOwn.never rfl (fun B4 H4 g4 => ⟨a3.step g4, none, rfl⟩) (fun Bk j σ' H' z => z.1.g.bh) ?_ ?_
  · rintro Bk j j' v σ' H' B4 H4 sB hz ⟨a, x, rfl⟩ g4 q1
    have hj : j < b.orders.length := by have := (List.getElem?_eq_some_iff.mp hz).1; rwa [List.length_range] at this
    have ej : j' = j := by have := rng_at hj; rw [hz] at this; exact Option.some.inj this
    subst ej
    have inv := ful_inv h9 j' (by omega)
    have hl1 : (ful b j').length = b.orders.length := inv.len
    obtain ⟨_, _, le⟩ := full_step (b := b) (l := ful b j') (j := j') (by rw [hl1]; exact hj) inv.top (by rw [inv.same j' (Nat.le_refl _)]; exact h9 j')
    have a4 := a.step g4
    have ld : Same B4 (upd B4 f (.lst (vN (ful b j')))) := same_new a4.bf
    have rf : (rBy (ful b j')).p (.ref f) (upd B4 f (.lst (vN (ful b j')))) := vN_rep (B := B4) _ (by rw [hl1]; exact l8)
    have k1 := up (a4.g.bb.trans ld) h1
    refine ⟨_, gn_name, wb_setixQ (n := j') (R := rN (Vbcrah.most b - Vbcrah.mostBy b ((ful b j').set j' 0))) ((ev_sub (ep_var 2 rfl (R := rN (Vbcrah.most b)) rfl).ev (ev_call (fn_most T) hr (b, (ful b j').set j' 0) (by show ((ful b j').set j' 0).length = b.orders.length; rw [List.length_set]; exact hl1) (ea_cons (ep_var 0 rfl k1).ev (ea_one (ev_call (fn_with_one rN T) (hr.mono (by decide)) (ful b j', j', 0) ⟨by rw [hl1]; exact hj, by rw [hl1]; unfold LB; omega⟩ (ea_cons (ep_var 1 rfl rf).ev (ea_cons (ep_var 3 rfl (up (R := rN j') ld q1)).ev (ea_one ep_int.ev)))))))).is ?_) a4.lend a4.at_ (by rw [List.length_map, hl1]; exact hj) (fun H' _ => at_var 1 rfl) (ep_var 3 rfl (up (R := rN j') ld q1)) fun u7 B7 H7 g7 r7 => wb_nil ⟨er B7 f, g4.bb.trans (g7.back a4.bf).bb, ?_, some v, rfl⟩⟩
    · show rI _ = rI _
      congr 1
      show ((Vbcrah.most b : Nat) : Int) - ((Vbcrah.mostBy b ((ful b j').set j' 0) : Nat) : Int) = _
      omega
    · have a7 := (a4.stepL g7).put (ws := vN (ful b (j' + 1)))
      rw [show u7 = V.int (Vbcrah.most b - Vbcrah.mostBy b ((ful b j').set j' 0) : Nat) from r7, vN_set]
      rw [ful_succ hj] at a7 ⊢
      exact a7
  · rintro Bk σ' H' sB ⟨a, x, rfl⟩
    rw [List.length_range, ful_all h9] at a
    obtain ⟨g9, r9⟩ := a.close (r := rN) (xs := Vbcrah.fullest b) (vN_all _) (by rw [← ful_all h9, (ful_inv h9 _ (Nat.le_refl _)).len]; exact l8)
    exact wb_ret (ep_var 1 rfl r9).ev g9.bh fun v B7 H7 g7 r => k v B7 H7 (g9.trans g7) r
end
end Fb
/-! FbR: plans -/
namespace Fb
open PySem PySem.Spec PyProof.Rows L2
structure PlS where
  ts : List Vbcrah.Take
  lefts : List Nat
  wants : List Nat
def bagsI (b : Vbcrah.Book) (j : Nat) (S : PlS) (i : Nat) : Int := min ((S.wants.getD j 0 : Nat) : Int) (spareI b S.lefts S.wants j i)
def stepT (b : Vbcrah.Book) (j : Nat) (S : PlS) (i : Nat) : PlS := if 0 < bagsI b j S i then ⟨S.ts ++ [⟨j, i, (bagsI b j S i).toNat⟩], S.lefts.set i (S.lefts.getD i 0 - (bagsI b j S i).toNat), S.wants.set j (S.wants.getD j 0 - (bagsI b j S i).toNat)⟩ else S
def orderT (b : Vbcrah.Book) (S : PlS) (j : Nat) : PlS := (inTurn b (Vbcrah.orderAt b j)).foldl (stepT b j) S
def startT (b : Vbcrah.Book) (had : List Nat) : PlS := ⟨[], b.stocks.map fun s => s.bags, had⟩
def plS (b : Vbcrah.Book) (had : List Nat) (j : Nat) : PlS := ((List.range b.orders.length).take j).foldl (orderT b) (startT b had)
def planW (b : Vbcrah.Book) (had : List Nat) : List Vbcrah.Take := (plS b had b.orders.length).ts
structure PlI (b : Vbcrah.Book) (S : PlS) (m : Nat) : Prop where
  l : S.lefts.length = b.stocks.length
  w : S.wants.length = b.orders.length
  t : S.ts.length ≤ m
theorem step_inv {b : Vbcrah.Book} {S : PlS} {m j i : Nat} (h : PlI b S m) : PlI b (stepT b j S i) (m + 1) := by
  unfold stepT
  split
  · exact ⟨by show (S.lefts.set _ _).length = _; rw [List.length_set]; exact h.l, by show (S.wants.set _ _).length = _; rw [List.length_set]; exact h.w, by show (S.ts ++ [_]).length ≤ _; rw [List.length_append]; exact Nat.add_le_add_right h.t 1⟩
  · exact ⟨h.l, h.w, Nat.le_succ_of_le h.t⟩
theorem steps_inv {b : Vbcrah.Book} {j : Nat} : ∀ (is : List Nat) {S : PlS} {m : Nat}, PlI b S m → PlI b (is.foldl (stepT b j) S) (m + is.length)
  | [], _, _, h => h
  | i :: is, S, m, h => by
    rw [List.foldl_cons, List.length_cons]
    have := steps_inv (j := j) is (step_inv (j := j) (i := i) h)
    rw [show m + (is.length + 1) = m + 1 + is.length by omega]
    exact this
theorem turn_len2 {b : Vbcrah.Book} {o : Vbcrah.Order} (h : b.stocks.length ≤ 8) : (inTurn b o).length ≤ 8 := by
  unfold inTurn
  rw [List.length_map, (List.mergeSort_perm _ _).length_eq]
  exact Nat.le_trans (turn_len b o) h
theorem turn_lt {b : Vbcrah.Book} {o : Vbcrah.Order} : ∀ i ∈ inTurn b o, i < b.stocks.length := by
  intro i hi
  unfold inTurn at hi
  obtain ⟨p, hp, rfl⟩ := List.mem_map.mp hi
  have hp := (List.mergeSort_perm _ _).mem_iff.mp hp
  unfold turnPairs at hp
  obtain ⟨z, hz, rfl⟩ := List.mem_map.mp hp
  have hz := (List.mem_filter.mp hz).1
  have := List.mem_zipIdx hz
  show z.2 < _
  omega
theorem plS_succ {b : Vbcrah.Book} {had : List Nat} {j : Nat} (h : j < b.orders.length) : plS b had (j + 1) = orderT b (plS b had j) j := by
  unfold plS
  rw [take_succ (rng_at h), List.foldl_append]; rfl
theorem plS_inv {b : Vbcrah.Book} {had : List Nat} (h8 : b.stocks.length ≤ 8) (hh : had.length = b.orders.length) : ∀ j, j ≤ b.orders.length → PlI b (plS b had j) (8 * j)
  | 0, _ => ⟨List.length_map .., hh, Nat.le_refl _⟩
  | j + 1, h => by
    rw [plS_succ (by omega)]
    have := steps_inv (j := j) (inTurn b (Vbcrah.orderAt b j)) (plS_inv h8 hh j (by omega))
    have l := turn_len2 (o := Vbcrah.orderAt b j) h8
    exact ⟨this.l, this.w, Nat.le_trans this.t (by omega)⟩
theorem spare_le {lefts wants : List Nat} {j i : Nat} : ∀ (zs : List (List Nat × List Nat)) (n : Int), zs.foldl (stepSp lefts wants j i) n ≤ n
  | [], n => Int.le_refl n
  | z :: zs, n => by
    rw [List.foldl_cons]
    refine Int.le_trans (spare_le zs _) ?_
    unfold stepSp
    split
    · exact Int.min_le_left _ _
    · exact Int.le_refl n
theorem bags_le {b : Vbcrah.Book} {S : PlS} {j i : Nat} : bagsI b j S i ≤ (S.lefts.getD i 0 : Nat) ∧ bagsI b j S i ≤ (S.wants.getD j 0 : Nat) :=
  ⟨Int.le_trans (Int.min_le_right _ _) (spare_le _ _), Int.min_le_left _ _⟩
theorem Acc.other {B H Bk H' : Hp} {f l : Addr} {vs : List V} {o : HO} (a : Acc B H Bk H' f vs) (ne : f ≠ l) (hl : H l = none) (bl : Bk l = none) : Acc B H Bk (upd H' l o) f vs :=
  ⟨⟨same_upd a.g.hh hl, a.g.bb, same_upd a.g.bh bl, a.g.fr⟩, a.hf, a.bf, by rw [upd_ne ne]; exact a.at_⟩
theorem Acc.under {B H Bk Hc B2 H3 : Hp} {f : Addr} {vs : List V} (a : Acc Bk Hc B2 H3 f vs) (g : Gr B H Bk Hc) : Acc B H B2 H3 f vs := ⟨g.trans a.g, g.hh.free a.hf, a.bf, a.at_⟩
structure PlA (K : PySem.W.Frag) (B H Bk H' : Hp) (f l w : Addr) (S : PlS) : Prop where
  a : ∃ tv, Acc B H Bk H' f tv ∧ All2 (fun t v => (rTk K t).p v Bk) S.ts tv
  b : Acc B H Bk H' l (vN S.lefts)
  c : Acc B H Bk H' w (vN S.wants)
theorem PlA.step {K : PySem.W.Frag} {B H Bk H' B2 H2 : Hp} {f l w : Addr} {S : PlS} (p : PlA K B H Bk H' f l w S) (g : Gr Bk H' B2 H2) : PlA K B H B2 H2 f l w S := by
  obtain ⟨⟨tv, a1, a2⟩, b, c⟩ := p
  exact ⟨⟨tv, a1.step g, a2.imp fun t v q => up (R := rTk K t) g.bb q⟩, b.step g, c.step g⟩
section
variable {P : Program} {w : World} {K : PySem.W.Frag} {mg : Str → Option Value} {base : Heap}
structure PlOk (a : Vbcrah.Book × List Nat) : Prop where
  n : a.1.orders.length ≤ 8
  s : a.1.stocks.length ≤ 8
  h : a.2.length = a.1.orders.length
theorem fn_plan (T : Txt K mg) : Fn P w K mg base CX0 "plan" 3 ["ways", "had"] (spP PlOk (fun a => [rWy K a.1, rBy a.2]) (fun a => rL (rTk K) (planW a.1 a.2))) := by
  obtain ⟨fd, F⟩ := T.d_plan
  refine mkFn T.g_plan F (b_plan F) (ok_body F sc_plan (len_P fun _ => rfl) fun cdv A outer s H vs Q E hr q => ?_)
  obtain ⟨⟨b, had⟩, B, hs, hp, hv, k⟩ := q
  obtain ⟨v1, v2, rfl, h1, h2⟩ := vs2 hv
  have h8 : b.orders.length ≤ 8 := hp.n
  have h9 : b.stocks.length ≤ 8 := hp.s
  have hh : had.length = b.orders.length := hp.h
  have l8 : b.orders.length ≤ LB := by unfold LB; omega
  have eS := LB_line
  have eLB : LB = 1000000 := rfl
  obtain ⟨ub, hub, _⟩ := wy_book_len h1
  refine wb_set 2 (ef_list (r := rTk K) (xs := []) ea_nil) hs (fun v B2 H2 g r => ?_) sc_plan.nd
  have ⟨f, ef, af⟩ : ∃ f, v = .ref f ∧ Acc B H B H2 f [] := by
    obtain ⟨⟨f, vs, rfl, hf, _, al⟩, f', ef, nf⟩ := r
    cases ef
    cases al
    exact ⟨f, rfl, ⟨g.hh, Same.refl B, g.bb.trans g.bh, fun _ _ z => z⟩, (by
      cases e : H f with
      | none => rfl
      | some o => have := g.fr f (by rw [e]; exact fun z => nomatch z) nf; rw [this] at hf; cases hf), nf, g.bh _ _ hf⟩
  subst ef
  refine wb_map 3 7 (r := rSt K) (q := rN) (f := fun st : Vbcrah.Stock => st.bags) rfl sc_plan.nd (ei_list (ep_bk_stocks T (ep_wy_book T (ep_var 0 rfl h1))).ev (bk_stocks_len hub)) (blkOk_by (N := N_plan) (sc := defScope s_plan) (by decide +kernel)) (fun _ _ _ _ _ => pg_name sc_plan.nd rfl (Or.inl rfl)) (fun st hst v B1 s1 r1 _ _ _ _ _ => (ep_st_bags T (ep_var 7 rfl r1)).ev) af.g.bh fun u B3 H3 g3 r3 => ?_
  obtain ⟨l, lv, rfl, al, all⟩ := acc_of af.g.bh g3 r3 fun x v C q => q
  have e3 := all_vN all
  subst e3
  have nlf : l ≠ f := fun e => by have := al.hf; rw [e, af.at_] at this; cases this
  have af3 := af.step al.g
  have al3 := al.under af.g
  refine wb_set 4 (ef_listL (r := rN) T.f_list (ep_var 1 rfl h2).ev) af3.g.bh (fun u B4 H4 g4 r4 => ?_) sc_plan.nd
  obtain ⟨wa, wv, rfl, aw, aww⟩ := acc_of af3.g.bh g4 r4 fun x v C q => q
  have e4 := all_vN aww
  subst e4
  have nwf : wa ≠ f := fun e => by have := aw.hf; rw [e, af3.at_] at this; cases this
  have nwl : wa ≠ l := fun e => by have := aw.hf; rw [e, al3.at_] at this; cases this
  have P0 : PlA K B H B H4 f l wa (startT b had) := ⟨⟨[], af3.step aw.g, .nil⟩, al3.step aw.g, aw.under af3.g⟩
  refine wb_forG (ei_enum T.f_enumerate (ep_bk_orders T (ep_wy_book T (ep_var 0 rfl h1))).ev (bk_orders_len hub)) (pg_tup rfl (pgs_cons (pg_name (i := 5) sc_plan.nd rfl (Or.inl rfl)) (pgs_cons (pg_name (i := 6) sc_plan.nd rfl (Or.inl rfl)) pgs_nil))) P0.c.g.bh
    (fun Bk j σ' H' => PlA K B H Bk H' f l wa (plS b had j) ∧ ∃ x y z u, σ' = [some v1, some v2, some (.ref f), some (.ref l), some (.ref wa), x, y, z, u]) PassesOwn.never rfl (fun B5 H5 g5 => ⟨P0.step g5, none, none, none, none, rfl⟩) (fun Bk j σ' H' z => z.1.c.g.bh) ?_ ?_
  · rintro Bk j ⟨o, j'⟩ v σ' H' B5 H5 sB hz ⟨a, x, y, z, u, rfl⟩ g5 ⟨t, ws, ev, ht, hw⟩
    obtain ⟨ho, ej⟩ := zi_back hz
    have ej : j = j' := ej.symm
    subst ej
    have ho : b.orders[j]? = some o := ho
    have hj : j < b.orders.length := (List.getElem?_eq_some_iff.mp ho).1
    have eo : Vbcrah.orderAt b j = o := by have := od_at hj; rw [ho] at this; exact (Option.some.inj this).symm
    obtain ⟨w1, w2, rfl, q1, q2⟩ := vs2 hw
    have a5 := a.step g5
    have k1 := up a5.c.g.bb h1
    refine ⟨_, gn_pair ev ht g5.bh, wb_forG (r := rN) (ei_list (ev_call (fn_stocks_in_turn T) hr (b, o) True.intro (ea_cons (ep_wy_book T (ep_var 0 rfl k1)).ev (ea_one (ep_var 6 rfl q2).ev))) (by have := turn_len2 (o := o) h9; show (inTurn b o).length ≤ LB; omega)) (pg_name (i := 7) sc_plan.nd rfl (Or.inl rfl)) a5.c.g.bh
      (fun Bi i σ' H' => Same B5 Bi ∧ PlA K B H Bi H' f l wa (((inTurn b o).take i).foldl (stepT b j) (plS b had j)) ∧ ∃ z u, σ' = [some v1, some v2, some (.ref f), some (.ref l), some (.ref wa), some w1, some w2, z, u]) PassesOwn.never rfl (fun B6 H6 g6 => ⟨g6.bb, a5.step g6, z, u, rfl⟩) (fun Bk j σ' H' z => z.2.1.c.g.bh) ?_ ?_⟩
    · rintro Bi i st v7 σ' H' B6 H6 sBi hz7 ⟨sb5, ai, z, u, rfl⟩ g6 r7
      have hst := turn_lt st (List.mem_of_getElem? hz7)
      have inv := steps_inv (j := j) ((inTurn b o).take i) (plS_inv h9 hh j (by omega))
      generalize hS : ((inTurn b o).take i).foldl (stepT b j) (plS b had j) = S at *
      have hstep : ((inTurn b o).take (i + 1)).foldl (stepT b j) (plS b had j) = stepT b j S st := by
        rw [take_succ hz7, List.foldl_append, hS]; rfl
      have til : ((inTurn b o).take i).length ≤ 8 := Nat.le_trans (by rw [List.length_take]; exact Nat.min_le_right _ _) (turn_len2 (o := o) h9)
      have tsl : S.ts.length ≤ 128 := by have := inv.t; omega
      have a6 := ai.step g6
      have q1' : (rN j).p w1 B6 := nV (B := B5) q1
      have k6 := up a6.c.g.bb h1
      -- bags = min(wants[place], spare(..))
      have nl6 : (upd B6 l (.lst (vN S.lefts))) wa = none := by rw [upd_ne nwl]; exact a6.c.bf
      have lendS : Same (upd (upd B6 l (.lst (vN S.lefts))) wa (.lst (vN S.wants))) H6 := lend_same (lend_same a6.b.g.bh a6.b.at_) a6.c.at_
      have ld1 : Same B6 (upd (upd B6 l (.lst (vN S.lefts))) wa (.lst (vN S.wants))) := (same_new a6.b.bf).trans (same_new nl6)
      have rl : (rBy S.lefts).p (.ref l) (upd (upd B6 l (.lst (vN S.lefts))) wa (.lst (vN S.wants))) := up (R := rBy S.lefts) (same_new nl6) (vN_rep (B := B6) _ (by rw [inv.l]; omega))
      have rw_ : (rBy S.wants).p (.ref wa) (upd (upd B6 l (.lst (vN S.lefts))) wa (.lst (vN S.wants))) := vN_rep (B := B6) _ (by rw [inv.w]; omega)
      have hjw : j < S.wants.length := by rw [inv.w]; exact hj
      have hsl : st < S.lefts.length := by rw [inv.l]; exact hst
      refine ⟨_, gn_name, wb_set 8 (R := rI (bagsI b j S st)) (ev_min2 rfl T.f_min (ev_ix (r := rN) (ep_var 4 rfl rw_).ev (ep_var 5 rfl (nV q1')).ev (getD_nat hjw)) (ev_call (fn_spare T) hr ⟨b, S.lefts, S.wants, j, st⟩ ⟨inv.l, inv.w, hst⟩ (ea_cons (ep_var 0 rfl (up ld1 k6)).ev (ea_cons (ep_var 3 rfl rl).ev (ea_cons (ep_var 4 rfl rw_).ev (ea_cons (ep_var 5 rfl (nV q1')).ev (ea_one (ep_var 7 rfl (R := rN st) (nV (B := B6) r7)).ev))))))) lendS (fun u8 B8 H8 g8 r8 => ?_) sc_plan.nd⟩
      have g8' := (g8.back nl6).back a6.b.bf
      have a8 := a6.step g8'
      cases (show u8 = V.int (bagsI b j S st) from r8)
      cases (show v7 = V.int (st : Nat) from r7)
      cases (show w1 = V.int (j : Nat) from q1)
      have bl := bags_le (b := b) (S := S) (j := j) (i := st)
      refine wb_when (et_gt (ep_var 8 rfl (R := rI _) rfl).ev ep_int.ev) a8.c.g.bh (fun hc B9 H9 g9 => ?_) fun hc B9 H9 g9 => ?_
      · have hpos : 0 < bagsI b j S st := of_decide_eq_true hc
        have eN : bagsI b j S st = (((bagsI b j S st).toNat : Nat) : Int) := by omega
        have a9 := a8.step g9
        obtain ⟨tv, at9, at9'⟩ := a9.a
        refine wb_append (at_var 2 rfl) at9.at_ at9.bf (by rw [at9'.len]; omega) (ev_make (ct_Take T) (hr.mono (by decide)) (⟨j, st, (bagsI b j S st).toNat⟩ : Vbcrah.Take) True.intro (ea_cons (ep_var 5 rfl (R := rN j) rfl).ev (ea_cons (ep_var 7 rfl (R := rN st) rfl).ev (ea_one (ep_var 8 rfl (R := rN (bagsI b j S st).toNat) (by show V.int _ = V.int _; rw [← eN])).ev)))) at9.g.bh fun z Ba Ha ga ra na => ?_
        have af10 := (at9.step ga).put (ws := tv ++ [z])
        have al10 := (a9.b.step ga).other (o := .lst (tv ++ [z])) nlf at9.hf (at9.step ga).bf
        have aw10 := (a9.c.step ga).other (o := .lst (tv ++ [z])) nwf at9.hf (at9.step ga).bf
        have rl2 : (rBy S.lefts).p (.ref l) (upd Ba l (.lst (vN S.lefts))) := vN_rep (B := B6) _ (by rw [inv.l]; omega)
        refine wb_setixQ (n := st) (R := rN (S.lefts.getD st 0 - (bagsI b j S st).toNat)) ((ev_sub (ev_ix (r := rN) (ep_var 3 rfl rl2).ev (ep_var 7 rfl (R := rN st) rfl).ev (getD_nat hsl)) (ep_var 8 rfl (R := rI (bagsI b j S st)) rfl).ev).is (by show rI _ = rI _; congr 1; omega)) al10.lend al10.at_ (by rw [List.length_map]; exact hsl) (fun H' _ => at_var 3 rfl) (ep_var 7 rfl (R := rN st) rfl) fun ub Bb Hb gb rb => ?_
        cases (show ub = V.int (S.lefts.getD st 0 - (bagsI b j S st).toNat : Nat) from rb)
        rw [vN_set]
        have gb' := gb.back al10.bf
        have al11 := (al10.stepL gb).put (ws := vN (S.lefts.set st (S.lefts.getD st 0 - (bagsI b j S st).toNat)))
        have af11 := (af10.step gb').other (o := .lst (vN (S.lefts.set st (S.lefts.getD st 0 - (bagsI b j S st).toNat)))) (Ne.symm nlf) al10.hf (al10.stepL gb).bf
        have aw11 := (aw10.step gb').other (o := .lst (vN (S.lefts.set st (S.lefts.getD st 0 - (bagsI b j S st).toNat)))) nwl al10.hf (al10.stepL gb).bf
        have rw2 : (rBy S.wants).p (.ref wa) (upd (er Bb l) wa (.lst (vN S.wants))) := vN_rep (B := B6) _ (by rw [inv.w]; omega)
        refine wb_setixQ (n := j) (R := rN (S.wants.getD j 0 - (bagsI b j S st).toNat)) ((ev_sub (ev_ix (r := rN) (ep_var 4 rfl rw2).ev (ep_var 5 rfl (R := rN j) rfl).ev (getD_nat hjw)) (ep_var 8 rfl (R := rI (bagsI b j S st)) rfl).ev).is (by show rI _ = rI _; congr 1; omega)) aw11.lend aw11.at_ (by rw [List.length_map]; exact hjw) (fun H' _ => at_var 4 rfl) (ep_var 5 rfl (R := rN j) rfl) fun uc Bc Hc gc rc => wb_nil (wb_nil ?_)
        cases (show uc = V.int (S.wants.getD j 0 - (bagsI b j S st).toNat : Nat) from rc)
        rw [vN_set]
        have gc' := gc.back aw11.bf
        have aw12 := (aw11.stepL gc).put (ws := vN (S.wants.set j (S.wants.getD j 0 - (bagsI b j S st).toNat)))
        have af12 := (af11.step gc').other (o := .lst (vN (S.wants.set j (S.wants.getD j 0 - (bagsI b j S st).toNat)))) (Ne.symm nwf) aw11.hf (aw11.stepL gc).bf
        have al12 := (al11.step gc').other (o := .lst (vN (S.wants.set j (S.wants.getD j 0 - (bagsI b j S st).toNat)))) (Ne.symm nwl) aw11.hf (aw11.stepL gc).bf
        have ss : Same Bi (er Bc wa) := (((g6.bb.trans g8'.bb).trans g9.bb).trans ga.bb).trans (gb'.bb.trans gc'.bb)
        refine ⟨_, ss, sb5.trans ss, ?_, some (.int (st : Nat)), some (.int (bagsI b j S st)), rfl⟩
        rw [hstep]
        unfold stepT
        rw [if_pos hpos]
        exact ⟨⟨_, af12, (at9'.imp fun t v q => up (R := rTk K t) ((ga.bb.trans gb'.bb).trans gc'.bb) q).app (.one (up (R := rTk K _) (gb'.bb.trans gc'.bb) ra))⟩, al12, aw12⟩
      · have hneg : ¬ 0 < bagsI b j S st := of_decide_eq_false hc
        have ss : Same Bi B9 := (g6.bb.trans g8'.bb).trans g9.bb
        refine wb_nil ⟨B9, ss, sb5.trans ss, ?_, some (.int (st : Nat)), some (.int (bagsI b j S st)), rfl⟩
        rw [hstep]
        unfold stepT
        rw [if_neg hneg]
        exact a8.step g9
    · rintro Bi σ' H' sBi ⟨sb5, ai, z, u, rfl⟩
      rw [List.take_length] at ai
      refine wb_nil ⟨Bi, g5.bb.trans sb5, ?_, some w1, some w2, z, u, rfl⟩
      rw [plS_succ hj]
      unfold orderT
      rw [eo]
      exact ai
  · rintro Bk σ' H' sB ⟨a, x, y, z, u, rfl⟩
    rw [List.length_zipIdx] at a
    obtain ⟨tv, a1, a2⟩ := a.a
    have := (plS_inv h9 hh b.orders.length (Nat.le_refl _)).t
    obtain ⟨g9, r9⟩ := a1.close (r := rTk K) (xs := planW b had) a2 (by show (plS b had b.orders.length).ts.length ≤ LB; omega)
    exact wb_ret (ep_var 2 rfl r9).ev g9.bh fun v B7 H7 g7 r => k v B7 H7 (g9.trans g7) r
end
end Fb
/-! FbX1: own errors: made, raised, passed on -/
namespace Fb
open PySem PySem.Spec PyProof.Rows L2
/-- C(e, ..), C's own __init__ keeping sp, where nothing is handled: its context is None -/
theorem pmk_oexN {X : Cx} {CX : CXT} {x : Str} {e : Expr} {es : List Expr} {ta : TA} {p pos : Pos} {C fI : Addr} {k : Nat} {fd : FuncData} {ps : List Str} {sp : Sp} (T : OexC X.K C) (iC : PySem.W.findIn X.K (.ref C) "__init__" = some (some (.ref fI))) (tI : PySem.W.typeIn X.K (.ref fI) = some (.type "function"))
    (F1 : FnOk X.prog X.w X.K X.mg X.base CX k fI fd ps sp) (hr : Room (k + 1) X.A) (hb : Binds X.K fd ps []) (hx : Passes CX X (fun _ _ _ => False)) (hg : Gl X x) (hm : X.mg x = some (.ref C)) (ha : PA X (e :: es) ta)
    (hdb : (x == ("__debug__" : Str)) = false := by decide) (he : starEach (e :: es) X.env = (false, eval e X.env) :: starEach es X.env := by rfl) (hpl : (backTo pos (starEach es X.env)).any (·.1) = false := by rfl) :
    L2N.PMk X (.Call (.Name x p) (e :: es) [] pos) (tMkO C sp [] ta) := by
  intro pins s σ H Q I h
  obtain ⟨nm, q, N, bs, bm, sn, sub, ab, col, dd, k0, k1, k2, k3, k5, hC, hbm⟩ := T.cls
  refine wpAny_Call_Name_kw (ld_glob I hg hm ?_ hdb)
  refine PySem.W.callWith_K (h₀ := X.base) I.ok.mod.kin T.kC (thn (ha.run pos pins s σ H _ I h) fun us s1 ⟨vs, H1, I1, r1, hz, q1⟩ => ⟨I1.kIn, ?_⟩) he hpl
  show wpAny _ _ (call (.ref C) us) _ _ _
  obtain ⟨hp, g, dr, tk, os⟩ := s1
  have nw : hp.objs.size ≤ hp.objs.size + 1 := Nat.le_succ _
  have hq := q1 (hp.objs.size + 1) (I1.hok.fresh nw)
  rw [List.append_nil] at hq
  have old : ∀ b o, hp.get? b = some o → ((hp.push (PySem.W.kdv_tup us)).push (PySem.HandSPX.excO C hp.objs.size)).get? b = some o := fun b o e => Heap.get?_push_of_some _ (Heap.get?_push_of_some _ e)
  have at_ : ((hp.push (PySem.W.kdv_tup us)).push (PySem.HandSPX.excO C hp.objs.size)).get? (hp.objs.size + 1) = some (PySem.HandSPX.excO C hp.objs.size) := by heap_get
  have J := I1.laid (t' := tk) (o := exo (hp.objs.size + 1) C none) old nw (exo_ok at_)
  have rv : Vals (V.ref (hp.objs.size + 1) :: vs) (Value.ref (hp.objs.size + 1) :: us) := .cons rfl r1
  have hl : (Value.ref (hp.objs.size + 1) :: us ++ []).length = ps.length := by
    rw [List.append_nil, ← rv.length]
    exact F1.len _ _ _ _ hq
  have b2 := hb _ (Value.ref (hp.objs.size + 1) :: us) J.kIn hl
  rw [List.append_nil] at b2
  have hus : us.length ≤ sizeLine := by
    rw [← Paired.length r1, sizeLine_eq]
    omega
  refine wpAny_call (PySem.HandSPX.call_own F.excBase_ValueError (fun Y => PySem.HandSPX.refsVE_contains Y bm hbm) (I1.kIn _ _ hC) (PySem.W.looks_findIn I1.kIn iC) (fun self => PySem.W.bind_fn I1.kIn self tI) hus
    (codeAny_mono (F1.run _ X.stack _ _ ⟨Value.ref (hp.objs.size + 1) :: us, []⟩ _ _ _ (fun _ _ _ => False) (hr.make C us []) (J.env0.make C us []) b2 rv hq) fun r s' z => ?_))
  match r, z with
  | .error er, z => exact hx pins σ _ _ er s' J z
  | .ok (.ret u), z =>
    obtain ⟨v, H2, os2, bare2, un2, hok2, rv2, ev, d, fs, ea, ed, hd1, q2⟩ := z
    subst ev
    obtain ⟨h2, g2, d2, t2, os'⟩ := s'
    obtain ⟨t0, G, JG, kG, ge, hoe, na⟩ := mk_end0 (d2 := d2) (t2 := t2) I1 nw old un2 hok2 os2 bare2 ea ed hd1
    exact ⟨rv2, hp.objs.size + 1, _, _, ⟨G, g2, d2, t2, os'⟩, _, .ref C, some d, rfl, JG, kG, ge, hoe, ⟨rfl, rfl, fun vs hv => by cases hv; rfl⟩, rfl, rfl, na, rfl, bare2, raises_own T.exC T.tyC, q2⟩
  | .ok .next, z => exact z.elim
  | .ok .brk, z => exact z.elim
  | .ok .cont, z => exact z.elim
section
variable {P : Program} {w : World} {K : PySem.W.Frag} {mg : Str → Option Value} {base : Heap}
/-- a body that may raise, whatever the way out -/
theorem ok_bodyC {CX : CXT} {x qual : Str} {st : Stmt} {f : Addr} {fd : FuncData} {N ps : List Str} {k : Nat} {sp : Sp} (F : Fun K x qual st f fd) (S : FnScope N ps (defScope st)) (len : ∀ vs H Q E, sp vs H Q E → vs.length = ps.length)
    (h : ∀ (cdv : Value) (A : Around) (outer : List Env) (s : Shared) (H : Hp) (vs : List V) (Q : VK) (E : XK), Room k (A.deeper (envOfC qual (defScope st) s.heap.objs.size f cdv)) → sp vs H Q E →
      WB (cxOf CX P w K mg base N qual (defScope st) f cdv A outer s H E) (defBody st) { nx := fun _ H' => Q .non H', rt := Q } (start N vs) H) : FnOk P w K mg base CX (k + 1) f fd ps sp := by
  obtain ⟨oc, od, kV, doc, pm, an, cdv, ct, osl, rfl, lk, hcd⟩ := F.ex
  exact fn_of lk hcd S len fun A outer s H vs Q E hr q => ⟨_, wb_pss, h cdv A outer s H vs Q E hr q⟩
abbrev CXN (P : Program) (w : World) : CXT := L2N.CX P w
abbrev cxN (P : Program) (w : World) (K : PySem.W.Frag) (mg : Str → Option Value) (base : Heap) (N : List Str) (qual : Str) (scope : Scope) (f : Addr) (cd : Value) (A : Around) (outer : List Env) (s : Shared) (H : Hp) (E : XK) : Cx := cxOf (CXN P w) P w K mg base N qual scope f cd A outer s H E
theorem tkN {P : Program} {w : World} {K : PySem.W.Frag} {mg : Str → Option Value} {base : Heap} {N : List Str} {qual : Str} {scope : Scope} {f : Addr} {cd : Value} {A : Around} {outer : List Env} {s : Shared} {H : Hp} {E : XK} : L2N.Takes (cxOf (CXN P w) P w K mg base N qual scope f cd A outer s H E) (fun cls d _ H => E cls d H) := L2N.takes_of rfl rfl rfl rfl
theorem tkX {P : Program} {w : World} {K : PySem.W.Frag} {mg : Str → Option Value} {base : Heap} {N : List Str} {qual : Str} {scope : Scope} {f : Addr} {cd : Value} {A : Around} {outer : List Env} {s : Shared} {H : Hp} {E : XK} : L2.Takes (cxOf (L2.CX P w) P w K mg base N qual scope f cd A outer s H E) (fun cls d _ H => E cls d H) := L2.takes_of rfl rfl rfl rfl
/-- __init__ of an own error of one field -/
def spE1 (C : Addr) (fld : Str) : Sp := fun vs H Q _ => ∃ (a : Addr) (n : Int), vs = [.ref a, .int n] ∧ H a = some (exo a C none) ∧ ∀ dx, H dx = none → dx ≠ a → Q .non (upd (upd H dx (exd dx [(fld, .int n)])) a (exo a C (some dx)))
theorem len_E1 {C : Addr} {fld : Str} : ∀ vs H Q E, spE1 C fld vs H Q E → vs.length = 2 := fun vs H Q E ⟨a, n, e, _⟩ => by rw [e]; rfl
structure Xt (P : Program) (w : World) (K : PySem.W.Frag) (mg : Str → Option Value) (base : Heap) (x : Str) (ps : List Str) (sp : Sp) : Prop where
  ex : ∃ fd, mg x = some (.ref (ga K x)) ∧ Binds K fd ps [] ∧ FnOk P w K mg base CX0 1 (ma K (ga K x) "__init__") fd ps sp
theorem xt_WrongLine (T : Txt K mg) : Xt P w K mg base "WrongLine" ["self", "kind"] (spE1 (ga K "WrongLine") "kind") := by
  obtain ⟨fd, F⟩ := T.d_WrongLine_init
  refine ⟨fd, T.g_WrongLine, b_WrongLine_init F, ok_body F sc_WrongLine_init len_E1 fun cdv A outer s H vs Q E hr q => ?_⟩
  obtain ⟨a, n, rfl, ha, k⟩ := q
  have xc := T.x_WrongLine
  refine wb_cons (ps_expr (pe_veinit rfl T.f_ValueError T.veI wa_pa)) ?_
  refine wa_of (pa_cons we_pe (pa_cons we_pe pa_nil)) ?_
  show WE _ (.Name _ _) _ _ _
  refine wv 0 rfl ?_
  show WE _ (.Constant _ _ _) _ _ _
  refine we_of pe_str ?_
  refine ⟨a, ga K "WrongLine", _, rfl, by show 1 ≤ 1000; decide, xc.o, ha, ?_⟩
  refine wb_cons (ps_ost we_pe we_pe) ?_
  show WE _ (.Name _ _) _ _ _
  refine wv 1 rfl ?_
  show WE _ (.Name _ _) _ _ _
  refine wv 0 rfl ?_
  exact ⟨a, ga K "WrongLine", rfl, xc.o, T.n_WrongLine_kind, .inl ⟨ha, fun dx n1 n2 => wb_nil (k dx n1 n2)⟩⟩
end
end Fb
/-! FbX2: Refused, Fault, need, want -/
namespace Fb
open PySem PySem.Spec PyProof.Rows L2
section
variable {P : Program} {w : World} {K : PySem.W.Frag} {mg : Str → Option Value} {base : Heap}
theorem xt_Refused (T : Txt K mg) : Xt P w K mg base "Refused" ["self", "number"] (spE1 (ga K "Refused") "number") := by
  obtain ⟨fd, F⟩ := T.d_Refused_init
  refine ⟨fd, T.g_Refused, b_Refused_init F, ok_body F sc_Refused_init len_E1 fun cdv A outer s H vs Q E hr q => ?_⟩
  obtain ⟨a, n, rfl, ha, k⟩ := q
  have xc := T.x_Refused
  refine wb_cons (ps_expr (pe_veinit rfl T.f_ValueError T.veI wa_pa)) ?_
  refine wa_of (pa_cons we_pe (pa_cons we_pe pa_nil)) ?_
  show WE _ (.Name _ _) _ _ _
  refine wv 0 rfl ?_
  show WE _ (.Constant _ _ _) _ _ _
  refine we_of pe_str ?_
  refine ⟨a, ga K "Refused", _, rfl, by show 1 ≤ 1000; decide, xc.o, ha, ?_⟩
  refine wb_cons (ps_ost we_pe we_pe) ?_
  show WE _ (.Name _ _) _ _ _
  refine wv 1 rfl ?_
  show WE _ (.Name _ _) _ _ _
  refine wv 0 rfl ?_
  exact ⟨a, ga K "Refused", rfl, xc.o, T.n_Refused_number, .inl ⟨ha, fun dx n1 n2 => wb_nil (k dx n1 n2)⟩⟩
/-- Fault's __init__, while another error is handled -/
def spF (K : PySem.W.Frag) : Sp := fun vs H Q _ => ∃ (a : Addr) (n l : Int), vs = [.ref a, .int n, .int l] ∧ H a = some (exo a (ga K "Fault") none) ∧ ∀ dx, H dx = none → dx ≠ a →
  Q .non (upd (upd (upd H dx (exd dx [("kind", .int n)])) a (exo a (ga K "Fault") (some dx))) dx (exd dx [("line", .int l), ("kind", .int n)]))
theorem len_F : ∀ vs H Q E, spF K vs H Q E → vs.length = 3 := fun vs H Q E ⟨a, n, l, e, _⟩ => by rw [e]; rfl
structure XtH (P : Program) (w : World) (K : PySem.W.Frag) (mg : Str → Option Value) (base : Heap) (x : Str) (ps : List Str) (sp : Sp) : Prop where
  ex : ∃ fd, mg x = some (.ref (ga K x)) ∧ Binds K fd ps [] ∧ L2H.FnH P w K mg base CX0 1 (ma K (ga K x) "__init__") fd ps sp
theorem xt_Fault (T : Txt K mg) : XtH P w K mg base "Fault" ["self", "kind", "line"] (spF K) := by
  obtain ⟨fd, F⟩ := T.d_Fault_init
  have bb := b_Fault_init F
  obtain ⟨oc, od, kV, doc, pm, an, cdv, ct, osl, rfl, lk, hcd⟩ := F.ex
  refine ⟨_, T.g_Fault, bb, L2H.fn_ofH lk hcd sc_Fault_init len_F fun A outer s H vs Q E p hot hr q => ⟨_, wb_pss, ?_⟩⟩
  obtain ⟨a, n, l, rfl, ha, k⟩ := q
  have xc := T.x_Fault
  refine wb_cons (ps_expr (pe_veinit rfl T.f_ValueError T.veI wa_pa)) ?_
  refine wa_of (pa_cons we_pe (pa_cons we_pe pa_nil)) ?_
  show WE _ (.Name _ _) _ _ _
  refine wv 0 rfl ?_
  show WE _ (.Constant _ _ _) _ _ _
  refine we_of pe_str ?_
  refine ⟨a, ga K "Fault", _, rfl, by show 1 ≤ 1000; decide, xc.o, ha, ?_⟩
  refine wb_cons (ps_ost we_pe we_pe) ?_
  show WE _ (.Name _ _) _ _ _
  refine wv 1 rfl ?_
  show WE _ (.Name _ _) _ _ _
  refine wv 0 rfl ?_
  refine ⟨a, ga K "Fault", rfl, xc.o, T.n_Fault_kind, .inl ⟨ha, fun dx n1 n2 => ?_⟩⟩
  refine wb_cons (ps_ost we_pe we_pe) ?_
  show WE _ (.Name _ _) _ _ _
  refine wv 2 rfl ?_
  show WE _ (.Name _ _) _ _ _
  refine wv 0 rfl ?_
  exact ⟨a, ga K "Fault", rfl, xc.o, T.n_Fault_line, .inr ⟨dx, _, upd_same, by rw [upd_ne n2]; exact upd_same, by show 1 ≤ 900; decide, wb_nil (k dx n1 n2)⟩⟩
/-! raising -/
theorem mk_same {H H2 : Hp} {a d : Addr} {o : HO} (ha : H a = none) (hd : H d = none) (h : ∀ b, b ≠ a → b ≠ d → H2 b = H b) : Same H (upd (del H2 a) d o) := fun b u e => by
  have hb : b ≠ a := ne_of_none e ha
  have hbd : b ≠ d := ne_of_none e hd
  rw [upd_ne hbd, del_ne hb, h b hb hbd]; exact e
abbrev er1 (C : Addr) (f : Str) (n : Int) : XF := (C, [(f, .int n)])
section
variable {X : Cx} {e : Expr} {σ : L2.St} {B H : Hp} {pos pos2 p : Pos} {rest : List Stmt} {D : L2.Ends} {W : WX} {x : Str} {fld : Str} {n : Int}
/-- raise C(n) -/
theorem mk1 {C : Addr} {a : Addr} {H1 : Hp} {Q : XK} {k : Int} (q : Ends1 Q H1 (er1 C fld k)) (ha : H1 a = none) : spE1 C fld [.ref a, .int k] (upd H1 a (exo a C none))
    (fun v H2 => v = .non ∧ ∃ (d : Addr) (fs : List (Str × V)), H2 a = some (exo a C (some d)) ∧ H2 d = some (exd d fs) ∧ H1 d = none ∧ Q (.ref C) (some d) (upd (del H2 a) d (.xd fs))) (fun _ _ _ => False) :=
  ⟨a, k, rfl, upd_same, fun dx n1 n2 => by
    rw [upd_ne n2] at n1
    exact ⟨rfl, dx, [(fld, .int k)], upd_same, by rw [upd_ne n2, upd_same], n1, q dx _ (mk_same ha n1 fun b h1 h2 => by rw [upd_ne h1, upd_ne h2, upd_ne h1]) upd_same⟩⟩
theorem wb_raiseN {ps : List Str} (M : Xt X.prog X.w X.K X.mg X.base x ps (spE1 (ga X.K x) fld)) (xc : XcT X.K x) (tk : L2N.Takes X W) (hr : Room 2 X.A) (h : Ev X e σ B (rI n)) (s : Same B H) (k : Ends1 (fun c d H => W c d σ H) H (er1 (ga X.K x) fld n)) (hc : X.calm = true := by rfl)
    (hg : Gl X x := by rfl) (hdb : (x == ("__debug__" : Str)) = false := by decide) (he : starEach (e :: []) X.env = (false, eval e X.env) :: starEach [] X.env := by rfl) : WB X (.Raise (some (.Call (.Name x p) [e] [] pos)) none pos2 :: rest) D σ H := by
  obtain ⟨fd, hm, hb, G⟩ := M.ex
  refine wb_cons (L2N.ps_raise hc tk (pmk_oexN xc.o xc.ini xc.tI G hr hb pass0 hg hm wa_pa hdb he (by rfl))) ?_
  refine (ea_one h he) H s _ fun vs B2 H2 g r => ?_
  obtain ⟨v, rfl, r1⟩ := r.one
  cases (show v = V.int n from r1)
  refine ⟨by show 1 ≤ 1000; decide, fun a ha => ?_⟩
  exact mk1 (Q := fun c d H => W c d σ H) (fun d H3 s3 h3 => k d H3 (g.hh.trans s3) h3) ha
theorem wb_raiseX {ps : List Str} (M : Xt X.prog X.w X.K X.mg X.base x ps (spE1 (ga X.K x) fld)) (xc : XcT X.K x) (tk : L2.Takes X W) (hr : Room 2 X.A) (h : Ev X e σ B (rI n)) (s : Same B H) (k : Ends1 (fun c d H => W c d σ H) H (er1 (ga X.K x) fld n)) (hc : X.calm = true := by rfl)
    (hg : Gl X x := by rfl) (hdb : (x == ("__debug__" : Str)) = false := by decide) (he : starEach (e :: []) X.env = (false, eval e X.env) :: starEach [] X.env := by rfl) : WB X (.Raise (some (.Call (.Name x p) [e] [] pos)) none pos2 :: rest) D σ H := by
  obtain ⟨fd, hm, hb, G⟩ := M.ex
  refine wb_cons (L2.ps_raise hc tk (pmk_oex (dvs := []) (ds := []) xc.o xc.ini xc.tI G hr hb .nil pass0 hg hm wa_pa hdb he (by rfl))) ?_
  refine (ea_one h he) H s _ fun vs B2 H2 g r => ?_
  obtain ⟨v, rfl, r1⟩ := r.one
  cases (show v = V.int n from r1)
  refine ⟨by show 1 ≤ 1000; decide, fun a ha => ?_⟩
  exact mk1 (Q := fun c d H => W c d σ H) (fun d H3 s3 h3 => k d H3 (g.hh.trans s3) h3) ha
end
/-! need, want -/
abbrev wl (K : PySem.W.Frag) (k : Int) : XF := er1 (ga K "WrongLine") "kind" k
abbrev rf (K : PySem.W.Frag) (k : Int) : XF := er1 (ga K "Refused") "number" k
def toX {α : Type} (we : Int → XF) (r : Except Int α) (f : α → Rp) : Except XF Rp := match r with
  | .ok x => .ok (f x)
  | .error k => .error (we k)
def ask (b : Bool) (k : Int) : Except Int Unit := if b = true then .ok () else .error k
abbrev rU (_ : Unit) : Rp := rNon
theorem fn_need (T : Txt K mg) : Fn P w K mg base (CXN P w) "need" 3 ["is_so", "kind"] (spX (fun _ : Bool × Int => True) (fun a => [rB a.1, rI a.2]) (fun a => toX (wl K) (ask a.1 a.2) rU)) := by
  obtain ⟨fd, F⟩ := T.d_need
  refine mkFn T.g_need F (b_need F) (ok_bodyC F sc_need (len_X fun _ => rfl) fun cdv A outer s H vs Q E hr q => ?_)
  obtain ⟨⟨b, n⟩, B, hs, hp, hv, k⟩ := q
  obtain ⟨v1, v2, rfl, h1, h2⟩ := vs2 hv
  refine wb_when (et_not (et_val (ep_var 0 rfl h1).ev)) hs (fun hc B2 H2 g => ?_) fun hc B2 H2 g => ?_
  · rw [Bool.not_eq_true'] at hc
    subst hc
    exact wb_raiseN (xt_WrongLine T) T.x_WrongLine tkN hr (ep_var 1 rfl (up (R := rI n) g.bb h2)).ev g.bh fun d H3 s3 h3 => k d H3 (g.hh.trans s3) h3
  · rw [Bool.not_eq_false'] at hc
    subst hc
    exact wb_nil (k .non B2 H2 g rfl)
theorem fn_want (T : Txt K mg) : Fn P w K mg base (L2.CX P w) "want" 3 ["is_so", "number"] (spX (fun _ : Bool × Int => True) (fun a => [rB a.1, rI a.2]) (fun a => toX (rf K) (ask a.1 a.2) rU)) := by
  obtain ⟨fd, F⟩ := T.d_want
  refine mkFn T.g_want F (b_want F) (ok_bodyC F sc_want (len_X fun _ => rfl) fun cdv A outer s H vs Q E hr q => ?_)
  obtain ⟨⟨b, n⟩, B, hs, hp, hv, k⟩ := q
  obtain ⟨v1, v2, rfl, h1, h2⟩ := vs2 hv
  refine wb_when (et_not (et_val (ep_var 0 rfl h1).ev)) hs (fun hc B2 H2 g => ?_) fun hc B2 H2 g => ?_
  · rw [Bool.not_eq_true'] at hc
    subst hc
    exact wb_raiseX (xt_Refused T) T.x_Refused tkX hr (ep_var 1 rfl (up (R := rI n) g.bb h2)).ev g.bh fun d H3 s3 h3 => k d H3 (g.hh.trans s3) h3
  · rw [Bool.not_eq_false'] at hc
    subst hc
    exact wb_nil (k .non B2 H2 g rfl)
end
end Fb
/-! FbX3: calls that may raise; what lines need -/
namespace Fb
open PySem PySem.Spec PyProof.Rows L2
section
variable {X : Cx} {e : Expr} {es : List Expr} {σ : L2.St} {B H : Hp} {pos pos2 p p2 : Pos} {rest : List Stmt} {D : L2.Ends} {W : WX} {x y : Str} {k : Nat} {ps : List Str} {α β : Type} {pre : α → Prop} {args : α → List Rp} {we : Int → XF} {res : α → Except Int β} {f : β → Rp} {CX : CXT}
theorem wb_exprC (F : Fn X.prog X.w X.K X.mg X.base CX x k ps (spX pre args (fun a => toX we (res a) f))) (hr : Room k X.A) (hx : ∀ σ, PassesAt CX X σ (L2.WE W σ)) (a : α) (hp : pre a) (ha : EvA X (e :: es) σ B (args a)) (s : Same B H)
    (k1 : ∀ z, res a = .ok z → ∀ v B2 H2, Gr B H B2 H2 → (f z).p v B2 → WB X rest D σ H2) (k2 : ∀ n, res a = .error n → Ends1 (fun c d H => W c d σ H) H (we n)) (hg : Gl X x := by rfl) (hdb : (x == ("__debug__" : Str)) = false := by decide)
    (he : starEach (e :: es) X.env = (false, eval e X.env) :: starEach es X.env := by rfl) (hpl : (backTo pos (starEach es X.env)).any (·.1) = false := by rfl) (hs : swapsWith (.Call (.Name x p) (e :: es) [] pos) none pos2.line X.env = pure false := by rfl) : WB X (.Expr (.Call (.Name x p) (e :: es) [] pos) pos2 :: rest) D σ H := by
  cases h : res a with
  | ok z => exact wb_expr (ev_callX F hr hx a hp (R := f z) (by rw [h]; rfl) ha hg hdb he hpl) s (k1 z h) hs
  | error n => exact wb_exprR (er_callX F hr hx a hp (ef := we n) (by rw [h]; rfl) ha hg hdb he hpl) s (k2 n h) hs
theorem wb_setC (i : Nat) (F : Fn X.prog X.w X.K X.mg X.base CX x k ps (spX pre args (fun a => toX we (res a) f))) (hr : Room k X.A) (hx : ∀ σ, PassesAt CX X σ (L2.WE W σ)) (a : α) (hp : pre a) (ha : EvA X (e :: es) σ B (args a)) (s : Same B H)
    (k1 : ∀ z, res a = .ok z → ∀ v B2 H2, Gr B H B2 H2 → (f z).p v B2 → WB X rest D (σ.set i (some v)) H2) (k2 : ∀ n, res a = .error n → Ends1 (fun c d H => W c d σ H) H (we n)) (hN : X.N.Nodup) (hi : X.N[i]? = some y := by rfl) (hy : Loc X.env.scope y := by first | exact Or.inl rfl | exact Or.inr rfl)
    (hf : X.fn y = true ∨ X.env.scope.names.lookup y = some .local := by first | exact .inl rfl | exact .inr rfl) (hg : Gl X x := by rfl) (hdb : (x == ("__debug__" : Str)) = false := by decide)
    (he : starEach (e :: es) X.env = (false, eval e X.env) :: starEach es X.env := by rfl) (hpl : (backTo pos (starEach es X.env)).any (·.1) = false := by rfl) (hs : swapsWithSole [.Name y p2] (.Call (.Name x p) (e :: es) [] pos) pos2.line X.env = pure false := by rfl)
    (hw : swappedStores [.Name y p2] (.Call (.Name x p) (e :: es) [] pos) X.env = pure none := by rfl) (h1 : (assignEach [.Name y p2] X.env).map (·.2) = [assign (.Name y p2) X.env] := by rfl) : WB X (.Assign [.Name y p2] (.Call (.Name x p) (e :: es) [] pos) pos2 :: rest) D σ H := by
  cases h : res a with
  | ok z => exact wb_set i (ev_callX F hr hx a hp (R := f z) (by rw [h]; rfl) ha hg hdb he hpl) s (k1 z h) hN hi hy hf hs hw h1
  | error n => exact wb_setR (er_callX F hr hx a hp (ef := we n) (by rw [h]; rfl) ha hg hdb he hpl) s (k2 n h) (pg_name hN hi hy hf) hs hw h1
theorem wb_asgC {tg : Expr} {g : TG} (F : Fn X.prog X.w X.K X.mg X.base CX x k ps (spX pre args (fun a => toX we (res a) f))) (hr : Room k X.A) (hx : ∀ σ, PassesAt CX X σ (L2.WE W σ)) (a : α) (hp : pre a) (ha : EvA X (e :: es) σ B (args a)) (s : Same B H) (hG : PG X tg g)
    (k1 : ∀ z, res a = .ok z → ∀ v B2 H2, Gr B H B2 H2 → (f z).p v B2 → g v σ H2 fun σ' H' => WB X rest D σ' H') (k2 : ∀ n, res a = .error n → Ends1 (fun c d H => W c d σ H) H (we n)) (hg : Gl X x := by rfl) (hdb : (x == ("__debug__" : Str)) = false := by decide)
    (he : starEach (e :: es) X.env = (false, eval e X.env) :: starEach es X.env := by rfl) (hpl : (backTo pos (starEach es X.env)).any (·.1) = false := by rfl) (hs : swapsWithSole [tg] (.Call (.Name x p) (e :: es) [] pos) pos2.line X.env = pure false := by rfl)
    (hw : swappedStores [tg] (.Call (.Name x p) (e :: es) [] pos) X.env = pure none := by rfl) (h1 : (assignEach [tg] X.env).map (·.2) = [assign tg X.env] := by rfl) : WB X (.Assign [tg] (.Call (.Name x p) (e :: es) [] pos) pos2 :: rest) D σ H := by
  cases h : res a with
  | ok z => exact wb_asg (ev_callX F hr hx a hp (R := f z) (by rw [h]; rfl) ha hg hdb he hpl) s hG (k1 z h) hs hw h1
  | error n => exact wb_setR (er_callX F hr hx a hp (ef := we n) (by rw [h]; rfl) ha hg hdb he hpl) s (k2 n h) hG hs hw h1
theorem wb_retC (F : Fn X.prog X.w X.K X.mg X.base CX x k ps (spX pre args (fun a => toX we (res a) f))) (hr : Room k X.A) (hx : ∀ σ, PassesAt CX X σ (L2.WE W σ)) (a : α) (hp : pre a) (ha : EvA X (e :: es) σ B (args a)) (s : Same B H)
    (k1 : ∀ z, res a = .ok z → ∀ v B2 H2, Gr B H B2 H2 → (f z).p v B2 → D.rt v H2) (k2 : ∀ n, res a = .error n → Ends1 (fun c d H => W c d σ H) H (we n)) (hg : Gl X x := by rfl) (hdb : (x == ("__debug__" : Str)) = false := by decide)
    (he : starEach (e :: es) X.env = (false, eval e X.env) :: starEach es X.env := by rfl) (hpl : (backTo pos (starEach es X.env)).any (·.1) = false := by rfl) : WB X (.Return (some (.Call (.Name x p) (e :: es) [] pos)) pos2 :: rest) D σ H := by
  cases h : res a with
  | ok z => exact wb_ret (ev_callX F hr hx a hp (R := f z) (by rw [h]; rfl) ha hg hdb he hpl) s (k1 z h)
  | error n => exact wb_retR (er_callX F hr hx a hp (ef := we n) (by rw [h]; rfl) ha hg hdb he hpl) s (k2 n h)
/-- the two ends of such a promise -/
theorem ends_ok {a : α} {B H : Hp} {Q : VK} {E : XK} (k : match toX we (res a) f with
  | .ok r => ∀ v B2 H2, Gr B H B2 H2 → r.p v B2 → Q v H2
  | .error e => Ends1 E H e) : (∀ z, res a = .ok z → ∀ v B2 H2, Gr B H B2 H2 → (f z).p v B2 → Q v H2) ∧ ∀ n, res a = .error n → Ends1 E H (we n) :=
  ⟨fun z h => by rw [h] at k; exact k, fun n h => by rw [h] at k; exact k⟩
theorem Ends1.on {E : XK} {H H2 : Hp} {e : XF} (k : Ends1 E H e) (s : Same H H2) : Ends1 E H2 e := fun d H3 s3 h3 => k d H3 (s.trans s3) h3
/-- a tuple of numbers, walked -/
theorem ei_tupN {tg : Expr} {xs : List Nat} (h : Ev X e σ B (rT (xs.map fun n => rN n))) (hl : xs.length ≤ LB) (hs : ∀ x, foldedSetIterable e X.env x = pure x := by intro _; rfl) : EvI X tg e σ B xs (fun n => rN n) :=
  ⟨hl, hs, _, pi_tup we_pe, fun H s R k => h H s _ fun v B2 H2 g ⟨q, ws, e1, h1, a1⟩ => by
    have a2 := vs_map a1
    exact ⟨q, e1, ⟨ws, SqT.of (g.bh _ _ h1)⟩, k _ _ _ B2 H2 g (by rw [← a2.len]; exact walk_tup) (fun H3 s3 => SqT.of (s3 _ _ h1)) fun i H3 x H4 hi s3 y => by
      obtain ⟨rfl, hx⟩ := y
      obtain ⟨a, ha, ra⟩ := a2.back hx
      exact ⟨a, B2, ha, Gr.refl s3, ra⟩⟩⟩
end
section
variable {P : Program} {w : World} {K : PySem.W.Frag} {mg : Str → Option Value} {base : Heap}
abbrev Wd := List (List Nat)
def rTo (p : Nat × String) : Rp := rT [rN p.1, rS (Str.ofString p.2)]
def resNW (a : Wd × List (Nat × String)) : Except Int Unit := ask (a.2.all fun p => decide (a.1.getD p.1 [] = Vbcrah.ascii p.2)) 1
def resNA (a : Wd × List Nat) : Except Int (List Nat) := (ask (!(a.2.map fun p => numI (a.1.getD p [])).contains (-1)) 1).bind fun _ => .ok (a.2.map fun p => (numI (a.1.getD p [])).toNat)
def resNR (a : Nat × Nat × Nat) : Except Int Unit := ask (decide (a.2.1 ≤ a.1) && decide (a.1 ≤ a.2.2)) 2
theorem wd_at {ws : Wd} {p : Nat} (h : p < ws.length) : ws[p]? = some (ws.getD p []) := by
  rw [List.getD_eq_getElem?_getD, List.getElem?_eq_getElem h]; rfl
theorem fn_need_words (T : Txt K mg) : Fn P w K mg base (CXN P w) "need_words" 4 ["words", "told"] (spX (fun a : Wd × List (Nat × String) => (∀ p ∈ a.2, p.1 < a.1.length) ∧ ∀ p ∈ a.2, (Vbcrah.ascii p.2).length ≤ LB) (fun a => [rL rBy a.1, rL rTo a.2]) (fun a => toX (wl K) (resNW a) rU)) := by
  obtain ⟨fd, F⟩ := T.d_need_words
  refine mkFn T.g_need_words F (b_need_words F) (ok_bodyC F sc_need_words (len_X fun _ => rfl) fun cdv A outer s H vs Q E hr q => ?_)
  obtain ⟨⟨ws, told⟩, B, hs, ⟨hp, hq⟩, hv, k⟩ := q
  obtain ⟨v1, v2, rfl, h1, h2⟩ := vs2 hv
  obtain ⟨kok, ker⟩ := ends_ok k
  refine wb_exprC (fn_need T) hr (L2N.passAt tkN) (told.all fun p => decide (ws.getD p.1 [] = Vbcrah.ascii p.2), 1) True.intro (ea_cons ((ev_all rfl T.f_all (xs := told.map fun p => decide (ws.getD p.1 [] = Vbcrah.ascii p.2)) (Ev.unF (ef_map2 2 3 (by decide) (ρ := fun p : Nat × String => rN p.1) (τ := fun p => rS (Str.ofString p.2)) (q := rB) (f := fun p => decide (ws.getD p.1 [] = Vbcrah.ascii p.2)) rfl sc_need_words.nd (ei_list (r := fun p : Nat × String => rT [rN p.1, rS (Str.ofString p.2)]) (ep_var 1 rfl h2).ev (ll h2)) (blkOk_by (N := N_need_words) (sc := defScope s_need_words) (by decide +kernel)) (fun _ _ _ _ _ => pg_tup rfl (pgs_cons (pg_name (i := 2) sc_need_words.nd rfl (Or.inl rfl)) (pgs_cons (pg_name (i := 3) sc_need_words.nd rfl (Or.inl rfl)) pgs_nil))) ?_))).is (by rw [List.all_map]; rfl)) (ea_one (ep_cI T.i_NO_FORM).ev)) hs (fun z hz v B2 H2 g r => wb_nil (kok z hz .non B2 H2 g rfl)) (fun n hn => ker n hn)
  intro p hpm v u B1 s1 r1 r2 _ _ _ _ _
  exact ev_eqL hr.units (ev_ix (r := rBy) (ep_var 0 rfl (up s1 h1)).ev (ep_var 2 rfl r1).ev (wd_at (hp p hpm))) ((ev_call (fn_bytes_of T) (hr.mono (by decide)) (Str.ofString p.2) (by rw [cps_of]; exact hq p hpm) (ea_one (ep_var 3 rfl r2).ev)).is (by rw [cps_of]))
theorem fn_need_range (T : Txt K mg) : Fn P w K mg base (CXN P w) "need_range" 4 ["number", "least", "greatest"] (spX (fun _ : Nat × Nat × Nat => True) (fun a => [rN a.1, rN a.2.1, rN a.2.2]) (fun a => toX (wl K) (resNR a) rU)) := by
  obtain ⟨fd, F⟩ := T.d_need_range
  refine mkFn T.g_need_range F (b_need_range F) (ok_bodyC F sc_need_range (len_X fun _ => rfl) fun cdv A outer s H vs Q E hr q => ?_)
  obtain ⟨⟨n, lo, hi⟩, B, hs, hp, hv, k⟩ := q
  obtain ⟨v1, v2, v3, rfl, h1, h2, h3⟩ := vs3 hv
  obtain ⟨kok, ker⟩ := ends_ok k
  exact wb_exprC (fn_need T) hr (L2N.passAt tkN) (decide (lo ≤ n) && decide (n ≤ hi), 2) True.intro (ea_cons ((ev_and (ev_le (ep_var 1 rfl h2).ev (ep_var 0 rfl h1).ev) fun _ => ev_le (ep_var 0 rfl h1).ev (ep_var 2 rfl h3).ev).is (by rw [dec_le, dec_le])) (ea_one (ep_cI T.i_OUT_OF_RANGE_reading).ev)) hs (fun z hz v B2 H2 g r => wb_nil (kok z hz .non B2 H2 g rfl)) (fun n hn => ker n hn)
end
end Fb
/-! FbX4: lines of stocks, of limits -/
namespace Fb
open PySem PySem.Spec PyProof.Rows L2
theorem bind_err {α β : Type} {r : Except Int α} {f : α → Except Int β} {n : Int} (h : r = .error n) : r.bind f = .error n := by rw [h]; rfl
theorem bind_ok {α β : Type} {r : Except Int α} {f : α → Except Int β} {z : α} (h : r = .ok z) : r.bind f = f z := by rw [h]; rfl
theorem ask_ok {b : Bool} {k : Int} {z : Unit} (h : ask b k = .ok z) : b = true := by
  cases b with
  | true => rfl
  | false => cases h
/-- w in (a, b), byte rows -/
def rInT (K : PySem.W.Frag) : R2 := fun x y H Q => ∃ d ds, Dp K H x d ∧ Dp K H y (.tuple ds) ∧ PyData.canLayAll0 ds = true ∧ d.canLay0 = true ∧ d.depth ≤ 8 ∧ Q (.bl (ds.any fun z => PyData.eqv z d)) H
theorem op_inT {X : Cx} (hu : X.A.units + 64 < cLine) : OpR X (compareOp .In) (rInT X.K) := by
  intro pins s σ H x y v u Q I rx ry h
  obtain ⟨d, ds, hd, he, cs, cd, dp, q⟩ := h
  obtain ⟨as, r1⟩ := Dp.reads I d x v hd rx
  obtain ⟨bs, r2⟩ := Dp.reads I (.tuple ds) y u he ry
  exact SeqAt.in_tuple_reads r2 r1 cs cd (by have : min (PyData.depthAll ds) d.depth ≤ d.depth := Nat.min_le_right _ _; omega) ⟨.bl _, H, I, rfl, q⟩
theorem lay_dB (l : List Nat) : (dB l).canLay0 = true := by
  unfold dB
  rw [PyData.canLay0]
  exact lay_ints l
theorem depth_dB (l : List Nat) : (dB l).depth ≤ 8 := by
  unfold dB
  rw [PyData.depth, depth_ints]
  decide
theorem ev_inL2 {X : Cx} {a b : Expr} {σ : L2.St} {B : Hp} {pos : Pos} {l m n : List Nat} (hu : X.A.units + 64 < cLine) (ha : Ev X a σ B (rBy l)) (hb : Ev X b σ B (rT [rBy m, rBy n])) (hm : behindInMarks .In b = false := by rfl) : Ev X (.Compare a [.In] [b] pos) σ B (rB (decide (m = l) || decide (n = l))) :=
  ev_cmp (op_inT hu) hm ha hb fun x y B2 H2 _ s r1 ⟨t, vs, e1, h1, z⟩ Q k => by
    obtain ⟨v1, v2, rfl, q1, q2⟩ := vs2 z
    refine ⟨dB l, [dB m, dB n], dp_dB s r1, by rw [e1]; exact .tup (SqT.of (s _ _ h1)) (.cons (dp_dB s q1) (.cons (dp_dB s q2) .nil)), ?_, lay_dB l, depth_dB l, ?_⟩
    · simp [PyData.canLayAll0, lay_dB]
    · have e : ([dB m, dB n].any fun z => PyData.eqv z (dB l)) = (decide (m = l) || decide (n = l)) := by
        simp [eqv_dB]
      rw [e]; exact k
def resEi (a : List Nat × String × String) : Except Int Bool := (ask (decide (Vbcrah.ascii a.2.1 = a.1) || decide (Vbcrah.ascii a.2.2 = a.1)) 1).bind fun _ => .ok (decide (a.1 = Vbcrah.ascii a.2.1))
def resStock (a : Vbcrah.Book × Wd) : Except Int Vbcrah.Book :=
  (ask (decide (a.2.length = 7) && Vbcrah.isName (a.2.getD 1 [])) 1).bind fun _ => (resNW (a.2, [(3, "day"), (5, "bags")])).bind fun _ => (resNA (a.2, [2, 4, 6])).bind fun ns =>
  (resNR (ns.getD 0 0, 1, 9999)).bind fun _ => (resNR (ns.getD 1 0, 0, 400)).bind fun _ => (resNR (ns.getD 2 0, 0, 60)).bind fun _ => (ask (decide (a.1.stocks.length < 8)) 4).bind fun _ =>
  .ok { a.1 with stocks := a.1.stocks ++ [⟨a.2.getD 1 [], ns.getD 0 0, ns.getD 1 0, ns.getD 2 0⟩] }
def resLim (a : Vbcrah.Book × Wd) : Except Int Vbcrah.Book :=
  (ask (decide (a.2.length = 5)) 1).bind fun _ => (resNW (a.2, [(1, "grind"), (3, "send")])).bind fun _ => (resNA (a.2, [2, 4])).bind fun ns =>
  (resNR (ns.getD 0 0, 0, 500)).bind fun _ => (resNR (ns.getD 1 0, 0, 500)).bind fun _ => .ok { a.1 with grind := ns.getD 0 0, send := ns.getD 1 0 }
section
variable {P : Program} {w : World} {K : PySem.W.Frag} {mg : Str → Option Value} {base : Heap}
theorem num_nat {l : List Nat} (h : numI l ≠ -1) : numI l = ((numI l).toNat : Nat) := by
  unfold numI at h ⊢
  split
  · rfl
  · rename_i e; rw [e] at h; exact absurd rfl h
theorem fn_numbers_at (T : Txt K mg) : Fn P w K mg base (CXN P w) "numbers_at" 4 ["words", "places"] (spX (fun a : Wd × List Nat => (∀ p ∈ a.2, p < a.1.length) ∧ a.2.length ≤ LB) (fun a => [rL rBy a.1, rT (a.2.map fun n => rN n)]) (fun a => toX (wl K) (resNA a) rBy)) := by
  obtain ⟨fd, F⟩ := T.d_numbers_at
  refine mkFn T.g_numbers_at F (b_numbers_at F) (ok_bodyC F sc_numbers_at (len_X fun _ => rfl) fun cdv A outer s H vs Q E hr q => ?_)
  obtain ⟨⟨ws, ps⟩, B, hs, ⟨hp, hl⟩, hv, k⟩ := q
  obtain ⟨v1, v2, rfl, h1, h2⟩ := vs2 hv
  obtain ⟨kok, ker⟩ := ends_ok k
  refine wb_map 2 3 (r := fun n : Nat => rN n) (q := fun i : Int => rI i) (f := fun p => numI (ws.getD p [])) rfl sc_numbers_at.nd (ei_tupN (xs := ps) (ep_var 1 rfl h2).ev hl) (blkOk_by (N := N_numbers_at) (sc := defScope s_numbers_at) (by decide +kernel)) (fun _ _ _ _ _ => pg_name sc_numbers_at.nd rfl (Or.inl rfl)) (fun p hpm v B1 s1 r1 _ _ _ _ _ => ev_call (fn_number_of T) (hr.mono (by decide)) (ws.getD p []) True.intro (ea_one (ev_ix (r := rBy) (ep_var 0 rfl (up s1 h1)).ev (ep_var 3 rfl r1).ev (wd_at (hp p hpm))))) hs fun u B2 H2 g r => ?_
  have r1 : (rL (fun i : Int => rI i) (ps.map fun p => numI (ws.getD p []))).p u B2 := r.1
  refine wb_exprC (fn_need T) hr (L2N.passAt tkN) (!(ps.map fun p => numI (ws.getD p [])).contains (-1), 1) True.intro (ea_cons (ev_ninI (ep_cI T.i_NO_NUMBER).ev (ep_var 2 rfl r1).ev) (ea_one (ep_cI T.i_NO_FORM).ev)) g.bh (fun z hz v B3 H3 g3 r3 => ?_) (fun n hn => (ker n (bind_err hn)).on g.hh)
  have hb := ask_ok hz
  refine wb_ret (ep_var 2 rfl (up g3.bb r1)).ev g3.bh fun v B4 H4 g4 r4 => kok _ (bind_ok hz) v B4 H4 ((g.trans g3).trans g4) ?_
  have e : ((ps.map fun p => (numI (ws.getD p [])).toNat).map fun n : Nat => (n : Int)) = ps.map fun p => numI (ws.getD p []) := by
    rw [List.map_map]
    refine List.map_congr_left fun p hpm => ?_
    show (((numI (ws.getD p [])).toNat : Nat) : Int) = numI (ws.getD p [])
    refine (num_nat fun z => ?_).symm
    rw [Bool.not_eq_true'] at hb
    have : (-1 : Int) ∈ ps.map fun p => numI (ws.getD p []) := List.mem_map.mpr ⟨p, hpm, z⟩
    rw [List.contains_eq_mem, decide_eq_false_iff_not] at hb
    exact hb this
  exact rL_nat.mpr (by rw [e]; exact r4)
theorem fn_either (T : Txt K mg) : Fn P w K mg base (CXN P w) "either" 4 ["word", "one", "other"] (spX (fun a : List Nat × String × String => (Vbcrah.ascii a.2.1).length ≤ LB ∧ (Vbcrah.ascii a.2.2).length ≤ LB) (fun a => [rBy a.1, rS (Str.ofString a.2.1), rS (Str.ofString a.2.2)]) (fun a => toX (wl K) (resEi a) rB)) := by
  obtain ⟨fd, F⟩ := T.d_either
  refine mkFn T.g_either F (b_either F) (ok_bodyC F sc_either (len_X fun _ => rfl) fun cdv A outer s H vs Q E hr q => ?_)
  obtain ⟨⟨l, s1, s2⟩, B, hs, ⟨hl1, hl2⟩, hv, k⟩ := q
  obtain ⟨v1, v2, v3, rfl, h1, h2, h3⟩ := vs3 hv
  obtain ⟨kok, ker⟩ := ends_ok k
  have b := fn_bytes_of (P := P) (w := w) (base := base) T
  refine wb_exprC (fn_need T) hr (L2N.passAt tkN) (decide (Vbcrah.ascii s1 = l) || decide (Vbcrah.ascii s2 = l), 1) True.intro (ea_cons (ev_inL2 hr.units (ep_var 0 rfl h1).ev (ev_tup (Rs := [rBy (Vbcrah.ascii s1), rBy (Vbcrah.ascii s2)]) (ea_cons ((ev_call b (hr.mono (by decide)) (Str.ofString s1) (by rw [cps_of]; exact hl1) (ea_one (ep_var 1 rfl h2).ev)).is (by rw [cps_of])) (ea_one ((ev_call b (hr.mono (by decide)) (Str.ofString s2) (by rw [cps_of]; exact hl2) (ea_one (ep_var 2 rfl h3).ev)).is (by rw [cps_of])))) (by show 2 ≤ LB; decide))) (ea_one (ep_cI T.i_NO_FORM).ev)) hs (fun z hz v B3 H3 g3 r3 => ?_) (fun n hn => ker n (bind_err hn))
  exact wb_ret (ev_eqL hr.units (ep_var 0 rfl (up g3.bb h1)).ev ((ev_call b (hr.mono (by decide)) (Str.ofString s1) (by rw [cps_of]; exact hl1) (ea_one (ep_var 1 rfl (up g3.bb h2)).ev)).is (by rw [cps_of]))) g3.bh fun v B4 H4 g4 r4 => kok _ (bind_ok hz) v B4 H4 (g3.trans g4) r4
theorem three {ns : List Nat} (h : ns.length = 3) : ns = [ns.getD 0 0, ns.getD 1 0, ns.getD 2 0] := by
  match ns, h with
  | [a, b, c], _ => rfl
theorem two {ns : List Nat} (h : ns.length = 2) : ns = [ns.getD 0 0, ns.getD 1 0] := by
  match ns, h with
  | [a, b], _ => rfl
theorem na_len {a : Wd × List Nat} {ns : List Nat} (h : resNA a = .ok ns) : ns.length = a.2.length := by
  unfold resNA at h
  cases hb : ask (!(a.2.map fun p => numI (a.1.getD p [])).contains (-1)) 1 with
  | error n => rw [hb] at h; cases h
  | ok z => rw [hb] at h; cases h; rw [List.length_map]
theorem row_at {l : List Nat} {v : V} {B : Hp} (h : (rBy l).p v B) : ∃ p, v = .ref p ∧ B p = some (.lst (vN l)) := by
  obtain ⟨p, vs, e, h1, _, a⟩ := h
  rw [all_vN a] at h1
  exact ⟨p, e, h1⟩
theorem fn_with_limits (T : Txt K mg) : Fn P w K mg base (CXN P w) "with_limits" 5 ["book", "words"] (spX (fun a : Vbcrah.Book × Wd => True) (fun a => [rBk K a.1, rL rBy a.2]) (fun a => toX (wl K) (resLim a) (rBk K))) := by
  obtain ⟨fd, F⟩ := T.d_with_limits
  refine mkFn T.g_with_limits F (b_with_limits F) (ok_bodyC F sc_with_limits (len_X fun _ => rfl) fun cdv A outer s H vs Q E hr q => ?_)
  obtain ⟨⟨b, ws⟩, B, hs, hp, hv, k⟩ := q
  obtain ⟨v1, v2, rfl, h1, h2⟩ := vs2 hv
  obtain ⟨kok, ker⟩ := ends_ok k
  refine wb_exprC (fn_need T) (hr.mono (by decide)) (L2N.passAt tkN) (decide (ws.length = 5), 1) True.intro (ea_cons ((ev_eq (ev_len T.f_len (ep_var 1 rfl h2).ev) (ep_cI T.i_LIMIT_WORDS).ev).is (congrArg rB (dec_eq ws.length 5))) (ea_one (ep_cI T.i_NO_FORM).ev)) hs (fun z1 hz1 v B2 H2 g2 r2 => ?_) (fun n hn => ker n (bind_err hn))
  have e1 := bind_ok (f := fun _ => (resNW (ws, [(1, "grind"), (3, "send")])).bind fun _ => (resNA (ws, [2, 4])).bind fun ns => (resNR (ns.getD 0 0, 0, 500)).bind fun _ => (resNR (ns.getD 1 0, 0, 500)).bind fun _ => (.ok { b with grind := ns.getD 0 0, send := ns.getD 1 0 } : Except Int Vbcrah.Book)) hz1
  have h5 : ws.length = 5 := of_decide_eq_true (ask_ok hz1)
  refine wb_exprC (fn_need_words T) hr (L2N.passAt tkN) (ws, [(1, "grind"), (3, "send")]) ⟨by show ∀ p ∈ [(1, "grind"), (3, "send")], p.1 < ws.length; rw [h5]; decide, by show ∀ p ∈ [(1, "grind"), (3, "send")], (Vbcrah.ascii p.2).length ≤ LB; decide⟩ (ea_cons (ep_var 1 rfl (up g2.bb h2)).ev (ea_one (ev_list (r := rTo) (xs := [(1, "grind"), (3, "send")]) (ea_cons (ev_tup (Rs := [rN 1, rS "grind"]) (ea_cons ep_int.ev (ea_one ep_str.ev)) (by show 2 ≤ LB; decide)) (ea_one (ev_tup (Rs := [rN 3, rS "send"]) (ea_cons ep_int.ev (ea_one ep_str.ev)) (by show 2 ≤ LB; decide)))) (by show 2 ≤ LB; decide)))) g2.bh (fun z2 hz2 v B3 H3 g3 r3 => ?_) (fun n hn => (ker n (e1.trans (bind_err hn))).on g2.hh)
  have e2 := e1.trans (bind_ok hz2)
  have g3' := g2.trans g3
  refine wb_asgC (fn_numbers_at T) hr (L2N.passAt tkN) (ws, [2, 4]) ⟨by show ∀ p ∈ [2, 4], p < ws.length; rw [h5]; decide, by show 2 ≤ LB; decide⟩ (ea_cons (ep_var 1 rfl (up g3'.bb h2)).ev (ea_one (ev_tup (Rs := [rN 2, rN 4]) (ea_cons ep_int.ev (ea_one ep_int.ev)) (by show 2 ≤ LB; decide)))) g3'.bh (pg_lst rfl (pgs_cons (pg_name (i := 2) sc_with_limits.nd rfl (Or.inl rfl)) (pgs_cons (pg_name (i := 3) sc_with_limits.nd rfl (Or.inl rfl)) pgs_nil))) (fun ns hz3 v B4 H4 g4 r4 => ?_) (fun n hn => (ker n (e2.trans (bind_err hn))).on g3'.hh)
  have e3 := e2.trans (bind_ok hz3)
  have g4' := g3'.trans g4
  obtain ⟨p, ev, hpv⟩ := row_at r4
  have en := two (na_len hz3)
  generalize ha : ns.getD 0 0 = na at *
  generalize hb : ns.getD 1 0 = nb at *
  subst en
  refine ⟨p, _, ev, SqL.of (g4.bh _ _ hpv), rfl, V.int na, _, rfl, V.int nb, _, rfl, rfl, ?_⟩
  refine wb_exprC (fn_need_range T) hr (L2N.passAt tkN) (na, 0, 500) True.intro (ea_cons (ep_var 2 rfl (R := rN na) rfl).ev (ea_cons ep_int.ev (ea_one (ep_cI T.i_MOST_LIMIT).ev))) g4'.bh (fun z4 hz4 v B5 H5 g5 r5 => ?_) (fun n hn => (ker n (e3.trans (bind_err hn))).on g4'.hh)
  have e4 := e3.trans (bind_ok hz4)
  have g5' := g4'.trans g5
  refine wb_exprC (fn_need_range T) hr (L2N.passAt tkN) (nb, 0, 500) True.intro (ea_cons (ep_var 3 rfl (R := rN nb) rfl).ev (ea_cons ep_int.ev (ea_one (ep_cI T.i_MOST_LIMIT).ev))) g5'.bh (fun z5 hz5 v B6 H6 g6 r6 => ?_) (fun n hn => (ker n (e4.trans (bind_err hn))).on g5'.hh)
  have e5 := e4.trans (bind_ok hz5)
  have g6' := g5'.trans g6
  have k1 := up g6'.bb h1
  exact wb_ret (ev_Book (bk := { b with grind := na, send := nb }) (ct_Book T) (hr.mono (by decide)) (ea_cons (ep_bk_stocks T (ep_var 0 rfl k1)).ev (ea_cons (ep_bk_orders T (ep_var 0 rfl k1)).ev (ea_cons (ep_var 2 rfl (R := rN na) rfl).ev (ea_one (ep_var 3 rfl (R := rN nb) rfl).ev))))) g6'.bh fun v B7 H7 g7 r7 => kok _ e5 v B7 H7 (g6'.trans g7) r7
end
end Fb
/-! FbX5: lines of stocks, of orders -/
namespace Fb
open PySem PySem.Spec PyProof.Rows L2
def resRep (ws : Wd) : Except Int (List Nat) := if ws.length = 14 then .ok [0, 1] else (resNW (ws, [(14, "every"), (16, "times")])).bind fun _ => resNA (ws, [15, 17])
def namesW (ws : Wd) (many : Nat) : Wd := if ws.length = 14 then [ws.getD 1 []] else (List.range many).map fun k => ws.getD 1 [] ++ Vbcrah.dec (k + 1)
structure OrA where
  ns : List Nat
  step : Nat
  many : Nat
  ev : Bool
def resOR (a : OrA) : Except Int Unit := (resNR (a.ns.getD 0 0, 1, 9999)).bind fun _ => (resNR (a.ns.getD 1 0, 1, 60)).bind fun _ => (resNR (a.ns.getD 2 0, 0, 400)).bind fun _ => (resNR (a.ns.getD 3 0, 0, 200)).bind fun _ => (resNR (a.ns.getD 4 0, a.ns.getD 3 0, 200)).bind fun _ =>
  if a.ev = true then (resNR (a.step, 1, 60)).bind fun _ => resNR (a.many, 2, 9) else .ok ()
section
variable {P : Program} {w : World} {K : PySem.W.Frag} {mg : Str → Option Value} {base : Heap}
theorem fn_with_stock (T : Txt K mg) : Fn P w K mg base (CXN P w) "with_stock" 5 ["book", "words"] (spX (fun a : Vbcrah.Book × Wd => a.1.stocks.length < LB) (fun a => [rBk K a.1, rL rBy a.2]) (fun a => toX (wl K) (resStock a) (rBk K))) := by
  obtain ⟨fd, F⟩ := T.d_with_stock
  refine mkFn T.g_with_stock F (b_with_stock F) (ok_bodyC F sc_with_stock (len_X fun _ => rfl) fun cdv A outer s H vs Q E hr q => ?_)
  obtain ⟨⟨b, ws⟩, B, hs, hp, hv, k⟩ := q
  obtain ⟨v1, v2, rfl, h1, h2⟩ := vs2 hv
  obtain ⟨kok, ker⟩ := ends_ok k
  have hp : b.stocks.length < LB := hp
  refine wb_exprC (fn_need T) (hr.mono (by decide)) (L2N.passAt tkN) (decide (ws.length = 7) && Vbcrah.isName (ws.getD 1 []), 1) True.intro (ea_cons (ev_and ((ev_eq (ev_len T.f_len (ep_var 1 rfl h2).ev) (ep_cI T.i_STOCK_WORDS).ev).is (congrArg rB (dec_eq ws.length 7))) fun hc => ev_call (fn_is_kind T) (hr.mono (by decide)) (ws.getD 1 []) True.intro (ea_one (ev_ix (r := rBy) (n := 1) (ep_var 1 rfl h2).ev ep_int.ev (wd_at (show 1 < ws.length by have : ws.length = 7 := of_decide_eq_true hc; omega))))) (ea_one (ep_cI T.i_NO_FORM).ev)) hs (fun z1 hz1 v B2 H2 g2 r2 => ?_) (fun n hn => ker n (bind_err hn))
  have e1 : resStock (b, ws) = _ := bind_ok hz1
  have c1 := ask_ok hz1
  rw [Bool.and_eq_true] at c1
  have h7 : ws.length = 7 := of_decide_eq_true c1.1
  refine wb_exprC (fn_need_words T) hr (L2N.passAt tkN) (ws, [(3, "day"), (5, "bags")]) ⟨by show ∀ p ∈ [(3, "day"), (5, "bags")], p.1 < ws.length; rw [h7]; decide, by show ∀ p ∈ [(3, "day"), (5, "bags")], (Vbcrah.ascii p.2).length ≤ LB; decide⟩ (ea_cons (ep_var 1 rfl (up g2.bb h2)).ev (ea_one (ev_list (r := rTo) (xs := [(3, "day"), (5, "bags")]) (ea_cons (ev_tup (Rs := [rN 3, rS "day"]) (ea_cons ep_int.ev (ea_one ep_str.ev)) (by show 2 ≤ LB; decide)) (ea_one (ev_tup (Rs := [rN 5, rS "bags"]) (ea_cons ep_int.ev (ea_one ep_str.ev)) (by show 2 ≤ LB; decide)))) (by show 2 ≤ LB; decide)))) g2.bh (fun z2 hz2 v B3 H3 g3 r3 => ?_) (fun n hn => (ker n (e1.trans (bind_err hn))).on g2.hh)
  have e2 := e1.trans (bind_ok hz2)
  have g3' := g2.trans g3
  refine wb_asgC (fn_numbers_at T) hr (L2N.passAt tkN) (ws, [2, 4, 6]) ⟨by show ∀ p ∈ [2, 4, 6], p < ws.length; rw [h7]; decide, by show 3 ≤ LB; decide⟩ (ea_cons (ep_var 1 rfl (up g3'.bb h2)).ev (ea_one (ev_tup (Rs := [rN 2, rN 4, rN 6]) (ea_cons ep_int.ev (ea_cons ep_int.ev (ea_one ep_int.ev))) (by show 3 ≤ LB; decide)))) g3'.bh (pg_lst rfl (pgs_cons (pg_name (i := 2) sc_with_stock.nd rfl (Or.inl rfl)) (pgs_cons (pg_name (i := 3) sc_with_stock.nd rfl (Or.inl rfl)) (pgs_cons (pg_name (i := 4) sc_with_stock.nd rfl (Or.inl rfl)) pgs_nil)))) (fun ns hz3 v B4 H4 g4 r4 => ?_) (fun n hn => (ker n (e2.trans (bind_err hn))).on g3'.hh)
  have e3 := e2.trans (bind_ok hz3)
  have g4' := g3'.trans g4
  obtain ⟨p, ev, hpv⟩ := row_at r4
  have en := three (na_len hz3)
  generalize ha : ns.getD 0 0 = na at *
  generalize hb : ns.getD 1 0 = nb at *
  generalize hc : ns.getD 2 0 = nc at *
  subst en
  refine ⟨p, _, ev, SqL.of (g4.bh _ _ hpv), rfl, V.int na, _, rfl, V.int nb, _, rfl, V.int nc, _, rfl, rfl, ?_⟩
  refine wb_exprC (fn_need_range T) hr (L2N.passAt tkN) (na, 1, 9999) True.intro (ea_cons (ep_var 2 rfl (R := rN na) rfl).ev (ea_cons ep_int.ev (ea_one (ep_cI T.i_MOST_SIZE).ev))) g4'.bh (fun z4 hz4 v B5 H5 g5 r5 => ?_) (fun n hn => (ker n (e3.trans (bind_err hn))).on g4'.hh)
  have e4 := e3.trans (bind_ok hz4)
  have g5' := g4'.trans g5
  refine wb_exprC (fn_need_range T) hr (L2N.passAt tkN) (nb, 0, 400) True.intro (ea_cons (ep_var 3 rfl (R := rN nb) rfl).ev (ea_cons ep_int.ev (ea_one (ep_cI T.i_LAST_DAY).ev))) g5'.bh (fun z5 hz5 v B6 H6 g6 r6 => ?_) (fun n hn => (ker n (e4.trans (bind_err hn))).on g5'.hh)
  have e5 := e4.trans (bind_ok hz5)
  have g6' := g5'.trans g6
  refine wb_exprC (fn_need_range T) hr (L2N.passAt tkN) (nc, 0, 60) True.intro (ea_cons (ep_var 4 rfl (R := rN nc) rfl).ev (ea_cons ep_int.ev (ea_one (ep_cI T.i_MOST_BAGS).ev))) g6'.bh (fun z6 hz6 v B7 H7 g7 r7 => ?_) (fun n hn => (ker n (e5.trans (bind_err hn))).on g6'.hh)
  have e6 := e5.trans (bind_ok hz6)
  have g7' := g6'.trans g7
  refine wb_exprC (fn_need T) (hr.mono (by decide)) (L2N.passAt tkN) (decide (b.stocks.length < 8), 4) True.intro (ea_cons ((ev_lt (ev_len T.f_len (ep_bk_stocks T (ep_var 0 rfl (up g7'.bb h1))).ev) (ep_cI T.i_MOST_STOCKS).ev).is (congrArg rB (dec_lt b.stocks.length 8))) (ea_one (ep_cI T.i_TOO_MANY).ev)) g7'.bh (fun z7 hz7 v B8 H8 g8 r8 => ?_) (fun n hn => (ker n (e6.trans (bind_err hn))).on g7'.hh)
  have e7 := e6.trans (bind_ok hz7)
  have g8' := g7'.trans g8
  have k1 := up g8'.bb h1
  have k2 := up g8'.bb h2
  exact wb_ret (ev_Book (bk := { b with stocks := b.stocks ++ [⟨ws.getD 1 [], na, nb, nc⟩] }) (ct_Book T) (hr.mono (by decide)) (ea_cons (ev_cat (r := rSt K) (ys := [⟨ws.getD 1 [], na, nb, nc⟩]) (ep_bk_stocks T (ep_var 0 rfl k1)).ev (ev_list (r := rSt K) (xs := [⟨ws.getD 1 [], na, nb, nc⟩]) (ea_one (ev_make (ct_Stock T) (hr.mono (by decide)) (⟨ws.getD 1 [], na, nb, nc⟩ : Vbcrah.Stock) True.intro (ea_cons (ev_ix (r := rBy) (n := 1) (ep_var 1 rfl k2).ev ep_int.ev (wd_at (show 1 < ws.length by omega))) (ea_cons (ep_var 2 rfl (R := rN na) rfl).ev (ea_cons (ep_var 3 rfl (R := rN nb) rfl).ev (ea_one (ep_var 4 rfl (R := rN nc) rfl).ev)))))) (by show 1 ≤ LB; decide)) (by show _ + 1 ≤ LB; omega)) (ea_cons (ep_bk_orders T (ep_var 0 rfl k1)).ev (ea_cons (ep_bk_grind T (ep_var 0 rfl k1)).ev (ea_one (ep_bk_send T (ep_var 0 rfl k1)).ev))))) g8'.bh fun v B9 H9 g9 r9 => kok _ e7 v B9 H9 (g8'.trans g9) r9
theorem fn_repeats (T : Txt K mg) : Fn P w K mg base (CXN P w) "repeats" 5 ["words"] (spX (fun a : Wd => a.length = 14 ∨ a.length = 18) (fun a => [rL rBy a]) (fun a => toX (wl K) (resRep a) rBy)) := by
  obtain ⟨fd, F⟩ := T.d_repeats
  refine mkFn T.g_repeats F (b_repeats F) (ok_bodyC F sc_repeats (len_X fun _ => rfl) fun cdv A outer s H vs Q E hr q => ?_)
  obtain ⟨ws, B, hs, hp, hv, k⟩ := q
  obtain ⟨v1, rfl, h1⟩ := vs1 hv
  obtain ⟨kok, ker⟩ := ends_ok k
  refine wb_when ((et_eq (ev_len T.f_len (ep_var 0 rfl h1).ev) (ep_cI T.i_ORDER_WORDS).ev).is (dec_eq ws.length 14)) hs (fun hc B2 H2 g2 => ?_) fun hc B2 H2 g2 => ?_
  · exact wb_ret (ev_list (r := rN) (xs := [0, 1]) (ea_cons ep_int.ev (ea_one ep_int.ev))) g2.bh fun v B3 H3 g3 r3 => kok [0, 1] (if_pos (of_decide_eq_true hc)) v B3 H3 (g2.trans g3) r3
  have h14 : ¬ ws.length = 14 := of_decide_eq_false hc
  have h18 : ws.length = 18 := hp.resolve_left h14
  have e0 : resRep ws = _ := if_neg h14
  refine wb_exprC (fn_need_words T) hr (L2N.passAt tkN) (ws, [(14, "every"), (16, "times")]) ⟨by show ∀ p ∈ [(14, "every"), (16, "times")], p.1 < ws.length; rw [h18]; decide, by show ∀ p ∈ [(14, "every"), (16, "times")], (Vbcrah.ascii p.2).length ≤ LB; decide⟩ (ea_cons (ep_var 0 rfl (up g2.bb h1)).ev (ea_one (ev_list (r := rTo) (xs := [(14, "every"), (16, "times")]) (ea_cons (ev_tup (Rs := [rN 14, rS "every"]) (ea_cons ep_int.ev (ea_one ep_str.ev)) (by show 2 ≤ LB; decide)) (ea_one (ev_tup (Rs := [rN 16, rS "times"]) (ea_cons ep_int.ev (ea_one ep_str.ev)) (by show 2 ≤ LB; decide)))) (by show 2 ≤ LB; decide)))) g2.bh (fun z2 hz2 v B3 H3 g3 r3 => ?_) (fun n hn => (ker n (e0.trans (bind_err hn))).on g2.hh)
  have e2 := e0.trans (bind_ok hz2)
  have g3' := g2.trans g3
  exact wb_retC (fn_numbers_at T) hr (L2N.passAt tkN) (ws, [15, 17]) ⟨by show ∀ p ∈ [15, 17], p < ws.length; rw [h18]; decide, by show 2 ≤ LB; decide⟩ (ea_cons (ep_var 0 rfl (up g3'.bb h1)).ev (ea_one (ev_tup (Rs := [rN 15, rN 17]) (ea_cons ep_int.ev (ea_one ep_int.ev)) (by show 2 ≤ LB; decide)))) g3'.bh (fun ns hz3 v B4 H4 g4 r4 => kok ns (e2.trans hz3) v B4 H4 (g3'.trans g4) r4) (fun n hn => (ker n (e2.trans hn)).on g3'.hh)
theorem fn_names_of (T : Txt K mg) : Fn P w K mg base CX0 "names_of" 2 ["words", "many"] (spP (fun a : Wd × Nat => 2 ≤ a.1.length ∧ a.2 ≤ 9999 ∧ (a.1.getD 1 []).length ≤ 2000) (fun a => [rL rBy a.1, rN a.2]) (fun a => rL rBy (namesW a.1 a.2))) := by
  obtain ⟨fd, F⟩ := T.d_names_of
  refine mkFn T.g_names_of F (b_names_of F) (ok_body F sc_names_of (len_P fun _ => rfl) fun cdv A outer s H vs Q E hr q => ?_)
  obtain ⟨⟨ws, n⟩, B, hs, ⟨hp, hn, hl⟩, hv, k⟩ := q
  obtain ⟨v1, v2, rfl, h1, h2⟩ := vs2 hv
  have hp : 2 ≤ ws.length := hp
  have hn : n ≤ 9999 := hn
  have hl : (ws.getD 1 []).length ≤ 2000 := hl
  have eLB : LB = 1000000 := rfl
  refine wb_when ((et_eq (ev_len T.f_len (ep_var 0 rfl h1).ev) (ep_cI T.i_ORDER_WORDS).ev).is (dec_eq ws.length 14)) hs (fun hc B2 H2 g2 => ?_) fun hc B2 H2 g2 => ?_
  · exact wb_ret (ev_list (r := rBy) (xs := [ws.getD 1 []]) (ea_one (ev_ix (r := rBy) (n := 1) (ep_var 0 rfl (up g2.bb h1)).ev ep_int.ev (wd_at (show 1 < ws.length by omega)))) (by show 1 ≤ LB; decide)) g2.bh fun v B3 H3 g3 r3 => k v B3 H3 (g2.trans g3) (Fb.cv (congrArg (rL rBy) (show [ws.getD 1 []] = namesW ws n from (if_pos (of_decide_eq_true hc)).symm)) r3)
  · refine wb_ret (Ev.unF (ef_map 2 (r := fun k : Nat => rN k) (q := rBy) (f := fun k => ws.getD 1 [] ++ Vbcrah.dec (k + 1)) rfl sc_names_of.nd (ei_range1 T.f_range (ep_var 1 rfl (up (R := rN n) g2.bb h2)).ev (by omega)) (blkOk_by (N := N_names_of) (sc := defScope s_names_of) (by decide +kernel)) (fun _ _ _ _ _ => pg_name sc_names_of.nd rfl (Or.inl rfl)) ?_)) g2.bh fun v B3 H3 g3 r3 => k v B3 H3 (g2.trans g3) (Fb.cv (congrArg (rL rBy) (show _ = namesW ws n from (if_neg (of_decide_eq_false hc)).symm)) r3)
    intro j hj v B1 s1 r1 _ _ _ _ _
    have hj := List.mem_range.mp hj
    have dl : (Vbcrah.dec (j + 1)).length ≤ 5 := by
      have := digits_le (v := ((j + 1 : Nat) : Int)) (by omega) (k := 5) (by decide) (by omega)
      have e : (asciiBytes (toString ((j + 1 : Nat) : Int))).length = (Vbcrah.dec (j + 1)).length := by
        unfold asciiBytes Vbcrah.dec
        rw [List.length_map, List.length_map]
        rfl
      omega
    have ll2 : ((j + 1 : Nat) : Int).natAbs.log2 < 1920 := by
      rw [Int.natAbs_natCast]
      exact Nat.lt_trans ((Nat.log2_lt (k := 14) (by omega)).mpr (by omega)) (by decide)
    exact ev_cat (ev_ix (r := rBy) (n := 1) (ep_var 0 rfl (up (g2.bb.trans s1) h1)).ev ep_int.ev (wd_at (show 1 < ws.length by omega))) ((ev_call (fn_bytes_of T) hr (Str.ofString (toString ((j + 1 : Nat) : Int))) (by rw [cps_dec]; omega) (ea_one (ev_strI T.f_str ((ev_add (ep_var 2 rfl r1).ev ep_int.ev).is (by show rI _ = rI _; congr 1)) ll2))).is (by rw [cps_dec])) (by omega)
theorem five {ns : List Nat} (h : ns.length = 5) : ns = [ns.getD 0 0, ns.getD 1 0, ns.getD 2 0, ns.getD 3 0, ns.getD 4 0] := by
  match ns, h with
  | [a, b, c, d, e], _ => rfl
theorem fn_need_order_ranges (T : Txt K mg) : Fn P w K mg base (CXN P w) "need_order_ranges" 5 ["numbers", "step", "many", "is_every"] (spX (fun a : OrA => a.ns.length = 5) (fun a => [rBy a.ns, rN a.step, rN a.many, rB a.ev]) (fun a => toX (wl K) (resOR a) rU)) := by
  obtain ⟨fd, F⟩ := T.d_need_order_ranges
  refine mkFn T.g_need_order_ranges F (b_need_order_ranges F) (ok_bodyC F sc_need_order_ranges (len_X fun _ => rfl) fun cdv A outer s H vs Q E hr q => ?_)
  obtain ⟨⟨ns, step, many, ev⟩, B, hs, hp, hv, k⟩ := q
  obtain ⟨v1, v2, v3, v4, rfl, h1, h2, h3, h4⟩ := vs4 hv
  obtain ⟨kok, ker⟩ := ends_ok k
  have en := five hp
  have ke : resOR ⟨ns, step, many, ev⟩ = (resNR (ns.getD 0 0, 1, 9999)).bind fun _ => (resNR (ns.getD 1 0, 1, 60)).bind fun _ => (resNR (ns.getD 2 0, 0, 400)).bind fun _ => (resNR (ns.getD 3 0, 0, 200)).bind fun _ => (resNR (ns.getD 4 0, ns.getD 3 0, 200)).bind fun _ =>
    if ev = true then (resNR (step, 1, 60)).bind fun _ => resNR (many, 2, 9) else .ok () := rfl
  generalize ha : ns.getD 0 0 = na at *
  generalize hb : ns.getD 1 0 = nb at *
  generalize hc : ns.getD 2 0 = nc at *
  generalize hd : ns.getD 3 0 = nd at *
  generalize he : ns.getD 4 0 = ne at *
  subst en
  refine wb_asg (ep_var 0 rfl h1).ev hs (pg_lst rfl (pgs_cons (pg_name (i := 4) sc_need_order_ranges.nd rfl (Or.inl rfl)) (pgs_cons (pg_name (i := 5) sc_need_order_ranges.nd rfl (Or.inl rfl)) (pgs_cons (pg_name (i := 6) sc_need_order_ranges.nd rfl (Or.inl rfl)) (pgs_cons (pg_name (i := 7) sc_need_order_ranges.nd rfl (Or.inl rfl)) (pgs_cons (pg_name (i := 8) sc_need_order_ranges.nd rfl (Or.inl rfl)) pgs_nil)))))) fun v B2 H2 g2 r2 => ?_
  obtain ⟨p, ev', hpv⟩ := row_at r2
  refine ⟨p, _, ev', SqL.of (g2.bh _ _ hpv), rfl, V.int na, _, rfl, V.int nb, _, rfl, V.int nc, _, rfl, V.int nd, _, rfl, V.int ne, _, rfl, rfl, ?_⟩
  refine wb_exprC (fn_need_range T) hr (L2N.passAt tkN) (na, 1, 9999) True.intro (ea_cons (ep_var 4 rfl (R := rN na) rfl).ev (ea_cons ep_int.ev (ea_one (ep_cI T.i_MOST_SIZE).ev))) g2.bh (fun z4 hz4 v B5 H5 g5 r5 => ?_) (fun n hn => (ker n (ke.trans (bind_err hn))).on g2.hh)
  have e4 := ke.trans (bind_ok hz4)
  have g5' := g2.trans g5
  refine wb_exprC (fn_need_range T) hr (L2N.passAt tkN) (nb, 1, 60) True.intro (ea_cons (ep_var 5 rfl (R := rN nb) rfl).ev (ea_cons ep_int.ev (ea_one (ep_cI T.i_MOST_BAGS).ev))) g5'.bh (fun z5 hz5 v B6 H6 g6 r6 => ?_) (fun n hn => (ker n (e4.trans (bind_err hn))).on g5'.hh)
  have e5 := e4.trans (bind_ok hz5)
  have g6' := g5'.trans g6
  refine wb_exprC (fn_need_range T) hr (L2N.passAt tkN) (nc, 0, 400) True.intro (ea_cons (ep_var 6 rfl (R := rN nc) rfl).ev (ea_cons ep_int.ev (ea_one (ep_cI T.i_LAST_DAY).ev))) g6'.bh (fun z6 hz6 v B7 H7 g7 r7 => ?_) (fun n hn => (ker n (e5.trans (bind_err hn))).on g6'.hh)
  have e6 := e5.trans (bind_ok hz6)
  have g7' := g6'.trans g7
  refine wb_exprC (fn_need_range T) hr (L2N.passAt tkN) (nd, 0, 200) True.intro (ea_cons (ep_var 7 rfl (R := rN nd) rfl).ev (ea_cons ep_int.ev (ea_one (ep_cI T.i_MOST_AGE).ev))) g7'.bh (fun z7 hz7 v B8 H8 g8 r8 => ?_) (fun n hn => (ker n (e6.trans (bind_err hn))).on g7'.hh)
  have e7 := e6.trans (bind_ok hz7)
  have g8' := g7'.trans g8
  refine wb_exprC (fn_need_range T) hr (L2N.passAt tkN) (ne, nd, 200) True.intro (ea_cons (ep_var 8 rfl (R := rN ne) rfl).ev (ea_cons (ep_var 7 rfl (R := rN nd) rfl).ev (ea_one (ep_cI T.i_MOST_AGE).ev))) g8'.bh (fun z8 hz8 v B9 H9 g9 r9 => ?_) (fun n hn => (ker n (e7.trans (bind_err hn))).on g8'.hh)
  have e8 := e7.trans (bind_ok hz8)
  have g9' := g8'.trans g9
  refine wb_when (et_val (ep_var 3 rfl (up g9'.bb h4)).ev) g9'.bh (fun hc Ba Ha ga => ?_) fun hc Ba Ha ga => ?_
  · have e9 := e8.trans (if_pos hc)
    have ga' := g9'.trans ga
    refine wb_exprC (fn_need_range T) hr (L2N.passAt tkN) (step, 1, 60) True.intro (ea_cons (ep_var 1 rfl (up (R := rN step) ga'.bb h2)).ev (ea_cons ep_int.ev (ea_one (ep_cI T.i_MOST_STEP).ev))) ga'.bh (fun zb hzb v Bb Hb gb rb => ?_) (fun n hn => (ker n (e9.trans (bind_err hn))).on ga'.hh)
    have eb := e9.trans (bind_ok hzb)
    have gb' := ga'.trans gb
    exact wb_exprC (fn_need_range T) hr (L2N.passAt tkN) (many, 2, 9) True.intro (ea_cons (ep_var 2 rfl (up (R := rN many) gb'.bb h3)).ev (ea_cons (ep_cI T.i_FEWEST_TIMES).ev (ea_one (ep_cI T.i_MOST_TIMES).ev))) gb'.bh (fun zc hzc v Bc Hc gc rc => wb_nil (wb_nil (kok zc (eb.trans hzc) .non Bc Hc (gb'.trans gc) rfl))) (fun n hn => (ker n (eb.trans hn)).on gb'.hh)
  · exact wb_nil (kok () (e8.trans (if_neg fun e => Bool.noConfusion (e.symm.trans hc))) .non Ba Ha (g9'.trans ga) rfl)
end
end Fb
/-! FbX6: lines of orders, any line -/
namespace Fb
open PySem PySem.Spec PyProof.Rows L2
def toldO : List (Nat × String) := [(4, "bags"), (6, "due"), (8, "fresh"), (10, "to")]
def mkO (w2 : List Nat) (ns : List Nat) (g h : Bool) (nm : List Nat) : Vbcrah.Order := ⟨nm, w2, ns.getD 0 0, ns.getD 1 0, ns.getD 2 0, ns.getD 3 0, ns.getD 4 0, g, h⟩
def moreO (w2 : List Nat) (ns : List Nat) (g h : Bool) (step : Nat) (nms : Wd) : List Vbcrah.Order := nms.zipIdx.map fun z => { mkO w2 ns g h z.1 with due := ns.getD 2 0 + step * z.2 }
def isEv (ws : Wd) : Bool := decide (ws.length = 18)
def resOrd (a : Vbcrah.Book × Wd) : Except Int Vbcrah.Book :=
  (ask (isEv a.2 || decide (a.2.length = 14)) 1).bind fun _ => (ask (Vbcrah.isName (a.2.getD 2 []) && (if isEv a.2 = true then Vbcrah.isName (a.2.getD 1 []) else Vbcrah.isOrderName (a.2.getD 1 []))) 1).bind fun _ =>
  (resNW (a.2, toldO)).bind fun _ => (resNA (a.2, [3, 5, 7, 9, 11])).bind fun ns => (resEi (a.2.getD 12 [], "ground", "beans")).bind fun g => (resEi (a.2.getD 13 [], "whole", "parts")).bind fun h =>
  (resRep a.2).bind fun st => (resOR ⟨ns, st.getD 0 0, st.getD 1 0, isEv a.2⟩).bind fun _ => (ask ((namesW a.2 (st.getD 1 0)).all fun nm => decide (placeOf a.1 nm < 0)) 3).bind fun _ =>
  (ask (decide (a.1.orders.length + st.getD 1 0 ≤ 8)) 4).bind fun _ => (ask (decide ((ns.getD 2 0 : Int) + st.getD 0 0 * ((st.getD 1 0 : Int) - 1) ≤ 400)) 5).bind fun _ =>
  .ok { a.1 with orders := a.1.orders ++ moreO (a.2.getD 2 []) ns g h (st.getD 0 0) (namesW a.2 (st.getD 1 0)) }
theorem rep_len {ws : Wd} {st : List Nat} (h : resRep ws = .ok st) : st.length = 2 := by
  unfold resRep at h
  split at h
  · cases h; rfl
  · cases hb : resNW (ws, [(14, "every"), (16, "times")]) with
    | error n => rw [hb] at h; cases h
    | ok z => rw [hb] at h; exact na_len h
theorem nr_ok {a : Nat × Nat × Nat} {z : Unit} (h : resNR a = .ok z) : a.2.1 ≤ a.1 ∧ a.1 ≤ a.2.2 := by
  have := ask_ok h
  rw [Bool.and_eq_true] at this
  exact ⟨of_decide_eq_true this.1, of_decide_eq_true this.2⟩
theorem bind_inv {α β : Type} {r : Except Int α} {f : α → Except Int β} {z : β} (h : r.bind f = .ok z) : ∃ x, r = .ok x ∧ f x = .ok z := by
  cases r with
  | error n => cases h
  | ok x => exact ⟨x, rfl, h⟩
theorem or_many {a : OrA} {z : Unit} (h : resOR a = .ok z) : a.ev = true → a.step ≤ 60 ∧ a.many ≤ 9 := by
  intro he
  unfold resOR at h
  obtain ⟨_, _, h⟩ := bind_inv h
  obtain ⟨_, _, h⟩ := bind_inv h
  obtain ⟨_, _, h⟩ := bind_inv h
  obtain ⟨_, _, h⟩ := bind_inv h
  obtain ⟨_, _, h⟩ := bind_inv h
  rw [if_pos he] at h
  obtain ⟨_, h1, h⟩ := bind_inv h
  exact ⟨(nr_ok h1).2, (nr_ok h).2⟩
theorem kind_len {l : List Nat} (h : Vbcrah.isName l = true) : l.length ≤ 8 := by
  unfold Vbcrah.isName at h
  rw [Bool.and_eq_true] at h
  have := of_decide_eq_true h.1
  omega
theorem oname_len {l : List Nat} (h : Vbcrah.isOrderName l = true) : l.length ≤ 9 := by
  rw [name_eq] at h
  rw [Bool.or_eq_true, Bool.and_eq_true] at h
  rcases h with h | ⟨h, _⟩
  · have := kind_len h; omega
  · have := kind_len h
    rw [List.length_take] at this
    omega
theorem zi_lt {α : Type} {xs : List α} {z : α × Nat} (h : z ∈ xs.zipIdx) : z.2 < xs.length := by
  have := List.mem_zipIdx h
  omega
theorem names_len {ws : Wd} {n : Nat} : (namesW ws n).length ≤ n + 1 := by
  unfold namesW
  split
  · simp
  · rw [List.length_map, List.length_range]; omega
section
variable {P : Program} {w : World} {K : PySem.W.Frag} {mg : Str → Option Value} {base : Heap}
theorem fn_with_orders_reading (T : Txt K mg) : Fn P w K mg base (CXN P w) "with_orders_reading" 6 ["book", "words"] (spX (fun a : Vbcrah.Book × Wd => True) (fun a => [rBk K a.1, rL rBy a.2]) (fun a => toX (wl K) (resOrd a) (rBk K))) := by
  obtain ⟨fd, F⟩ := T.d_with_orders
  refine mkFn T.g_with_orders_reading F (b_with_orders F) (ok_bodyC F sc_with_orders (len_X fun _ => rfl) fun cdv A outer s H vs Q E hr q => ?_)
  obtain ⟨⟨b, ws⟩, B, hs, hp, hv, k⟩ := q
  obtain ⟨v1, v2, rfl, h1, h2⟩ := vs2 hv
  obtain ⟨kok, ker⟩ := ends_ok k
  have eLB : LB = 1000000 := rfl
  refine wb_set 2 ((ev_eq (ev_len T.f_len (ep_var 1 rfl h2).ev) (ep_cI T.i_EVERY_WORDS).ev).is (congrArg rB (dec_eq ws.length 18))) hs (fun u3 B0 H0 g0 r0 => ?_) sc_with_orders.nd
  cases (show u3 = V.bl (isEv ws) from r0)
  have j2 := up g0.bb h2
  refine wb_exprC (fn_need T) (hr.mono (by decide)) (L2N.passAt tkN) (isEv ws || decide (ws.length = 14), 1) True.intro (ea_cons (ev_or (ep_var 2 rfl (R := rB (isEv ws)) rfl).ev fun _ => (ev_eq (ev_len T.f_len (ep_var 1 rfl j2).ev) (ep_cI T.i_ORDER_WORDS).ev).is (congrArg rB (dec_eq ws.length 14))) (ea_one (ep_cI T.i_NO_FORM).ev)) g0.bh (fun z1 hz1 v B2 H2 g2 r2 => ?_) (fun n hn => (ker n (bind_err hn)).on g0.hh)
  have e1 : resOrd (b, ws) = _ := bind_ok hz1
  have c1 := ask_ok hz1
  have hlen : ws.length = 14 ∨ ws.length = 18 := by
    rw [Bool.or_eq_true] at c1
    exact c1.elim (fun h => .inr (of_decide_eq_true h)) fun h => .inl (of_decide_eq_true h)
  have h14 : 14 ≤ ws.length := by omega
  have g2' := g0.trans g2
  have j2 := up g2'.bb h2
  refine wb_exprC (fn_need T) (hr.mono (by decide)) (L2N.passAt tkN) (Vbcrah.isName (ws.getD 2 []) && (if isEv ws = true then Vbcrah.isName (ws.getD 1 []) else Vbcrah.isOrderName (ws.getD 1 [])), 1) True.intro (ea_cons (ev_and (ev_call (fn_is_kind T) (hr.mono (by decide)) (ws.getD 2 []) True.intro (ea_one (ev_ix (r := rBy) (n := 2) (ep_var 1 rfl j2).ev ep_int.ev (wd_at (show 2 < ws.length by omega))))) fun _ =>
    ev_ite (et_val (ep_var 2 rfl (R := rB (isEv ws)) rfl).ev) (fun he => (ev_call (fn_is_kind T) (hr.mono (by decide)) (ws.getD 1 []) True.intro (ea_one (ev_ix (r := rBy) (n := 1) (ep_var 1 rfl j2).ev ep_int.ev (wd_at (show 1 < ws.length by omega))))).is (by rw [if_pos he])) fun he => (ev_call (fn_is_name T) (hr.mono (by decide)) (ws.getD 1 []) True.intro (ea_one (ev_ix (r := rBy) (n := 1) (ep_var 1 rfl j2).ev ep_int.ev (wd_at (show 1 < ws.length by omega))))).is (by rw [if_neg (by rw [he]; decide)])) (ea_one (ep_cI T.i_NO_FORM).ev)) g2'.bh (fun z2 hz2 v B3 H3 g3 r3 => ?_) (fun n hn => (ker n (e1.trans (bind_err hn))).on g2'.hh)
  have e2 := e1.trans (bind_ok hz2)
  have c2 := ask_ok hz2
  rw [Bool.and_eq_true] at c2
  have nl : (ws.getD 1 []).length ≤ 2000 := by
    have := c2.2
    split at this
    · have := kind_len this; omega
    · have := oname_len this; omega
  have g3' := g2'.trans g3
  have j2 := up g3'.bb h2
  refine wb_exprC (fn_need_words T) (hr.mono (by decide)) (L2N.passAt tkN) (ws, toldO) ⟨fun p hp => Nat.lt_of_lt_of_le ((by decide : ∀ p ∈ toldO, p.1 < 14) p hp) h14, by show ∀ p ∈ toldO, (Vbcrah.ascii p.2).length ≤ LB; decide⟩ (ea_cons (ep_var 1 rfl j2).ev (ea_one (ev_list (r := rTo) (xs := toldO) (ea_cons (ev_tup (Rs := [rN 4, rS "bags"]) (ea_cons ep_int.ev (ea_one ep_str.ev)) (by show 2 ≤ LB; decide)) (ea_cons (ev_tup (Rs := [rN 6, rS "due"]) (ea_cons ep_int.ev (ea_one ep_str.ev)) (by show 2 ≤ LB; decide)) (ea_cons (ev_tup (Rs := [rN 8, rS "fresh"]) (ea_cons ep_int.ev (ea_one ep_str.ev)) (by show 2 ≤ LB; decide)) (ea_one (ev_tup (Rs := [rN 10, rS "to"]) (ea_cons ep_int.ev (ea_one ep_str.ev)) (by show 2 ≤ LB; decide)))))) (by show 4 ≤ LB; decide)))) g3'.bh (fun z3 hz3 v B4 H4 g4 r4 => ?_) (fun n hn => (ker n (e2.trans (bind_err hn))).on g3'.hh)
  have e3 := e2.trans (bind_ok hz3)
  have g4' := g3'.trans g4
  have j2 := up g4'.bb h2
  refine wb_setC 3 (fn_numbers_at T) (hr.mono (by decide)) (L2N.passAt tkN) (ws, [3, 5, 7, 9, 11]) ⟨fun p hp => Nat.lt_of_lt_of_le ((by decide : ∀ p ∈ [3, 5, 7, 9, 11], p < 14) p hp) h14, by show 5 ≤ LB; decide⟩ (ea_cons (ep_var 1 rfl j2).ev (ea_one (ev_tup (Rs := [rN 3, rN 5, rN 7, rN 9, rN 11]) (ea_cons ep_int.ev (ea_cons ep_int.ev (ea_cons ep_int.ev (ea_cons ep_int.ev (ea_one ep_int.ev))))) (by show 5 ≤ LB; decide)))) g4'.bh (fun ns hz4 vn B5 H5 g5 rn => ?_) (fun n hn => (ker n (e3.trans (bind_err hn))).on g4'.hh) sc_with_orders.nd
  have e4 := e3.trans (bind_ok hz4)
  have nsl : ns.length = 5 := na_len hz4
  have g5' := g4'.trans g5
  have j2 := up g5'.bb h2
  refine wb_setC 4 (fn_either T) (hr.mono (by decide)) (L2N.passAt tkN) (ws.getD 12 [], "ground", "beans") ⟨by show (Vbcrah.ascii "ground").length ≤ LB; decide, by show (Vbcrah.ascii "beans").length ≤ LB; decide⟩ (ea_cons (ev_ix (r := rBy) (n := 12) (ep_var 1 rfl j2).ev ep_int.ev (wd_at (show 12 < ws.length by omega))) (ea_cons ep_str.ev (ea_one ep_str.ev))) g5'.bh (fun gg hz5 vg B6 H6 g6 rg => ?_) (fun n hn => (ker n (e4.trans (bind_err hn))).on g5'.hh) sc_with_orders.nd
  have e5 := e4.trans (bind_ok hz5)
  have g6' := g5'.trans g6
  have j2 := up g6'.bb h2
  cases (show vg = V.bl gg from rg)
  refine wb_setC 5 (fn_either T) (hr.mono (by decide)) (L2N.passAt tkN) (ws.getD 13 [], "whole", "parts") ⟨by show (Vbcrah.ascii "whole").length ≤ LB; decide, by show (Vbcrah.ascii "parts").length ≤ LB; decide⟩ (ea_cons (ev_ix (r := rBy) (n := 13) (ep_var 1 rfl j2).ev ep_int.ev (wd_at (show 13 < ws.length by omega))) (ea_cons ep_str.ev (ea_one ep_str.ev))) g6'.bh (fun hh hz6 vh B7 H7 g7 rh => ?_) (fun n hn => (ker n (e5.trans (bind_err hn))).on g6'.hh) sc_with_orders.nd
  have e6 := e5.trans (bind_ok hz6)
  have g7' := g6'.trans g7
  have j2 := up g7'.bb h2
  cases (show vh = V.bl hh from rh)
  refine wb_asgC (fn_repeats T) hr (L2N.passAt tkN) ws hlen (ea_one (ep_var 1 rfl j2).ev) g7'.bh (pg_lst rfl (pgs_cons (pg_name (i := 6) sc_with_orders.nd rfl (by first | exact Or.inl rfl | exact Or.inr rfl)) (pgs_cons (pg_name (i := 7) sc_with_orders.nd rfl (by first | exact Or.inl rfl | exact Or.inr rfl)) pgs_nil))) (fun st hz7 v B8 H8 g8 r8 => ?_) (fun n hn => (ker n (e6.trans (bind_err hn))).on g7'.hh)
  have e7 := e6.trans (bind_ok hz7)
  have g8' := g7'.trans g8
  obtain ⟨p, ev', hpv⟩ := row_at r8
  have en := two (rep_len hz7)
  have hz7' := hz7
  generalize ha : st.getD 0 0 = step at *
  generalize hb : st.getD 1 0 = many at *
  subst en
  refine ⟨p, _, ev', SqL.of (g8.bh _ _ hpv), rfl, V.int step, _, rfl, V.int many, _, rfl, rfl, ?_⟩
  have rn8 := up (R := rBy ns) ((g6.bb.trans g7.bb).trans g8.bb) rn
  have j2 := up g8'.bb h2
  refine wb_exprC (fn_need_order_ranges T) hr (L2N.passAt tkN) ⟨ns, step, many, isEv ws⟩ nsl (ea_cons (ep_var 3 rfl rn8).ev (ea_cons (ep_var 6 rfl (R := rN step) rfl).ev (ea_cons (ep_var 7 rfl (R := rN many) rfl).ev (ea_one (ep_var 2 rfl (R := rB (isEv ws)) rfl).ev)))) g8'.bh (fun z8 hz8 v B9 H9 g9 r9 => ?_) (fun n hn => (ker n (e7.trans (bind_err hn))).on g8'.hh)
  have e8 := e7.trans (bind_ok hz8)
  have g9' := g8'.trans g9
  have hmany : many ≤ 9 := by
    cases hev : isEv ws with
    | true => exact (or_many hz8 hev).2
    | false =>
      have h14' : ws.length = 14 := hlen.resolve_right (of_decide_eq_false hev)
      unfold resRep at hz7'
      rw [if_pos h14'] at hz7'
      cases hz7'
      decide
  have j1 := up g9'.bb h1
  have j2 := up g9'.bb h2
  refine wb_set 8 (ev_call (fn_names_of T) (hr.mono (by decide)) (ws, many) ⟨by show 2 ≤ ws.length; omega, by show many ≤ 9999; omega, nl⟩ (ea_cons (ep_var 1 rfl j2).ev (ea_one (ep_var 7 rfl (R := rN many) rfl).ev))) g9'.bh (fun un Ba Ha ga ra => ?_) sc_with_orders.nd
  have ga' := g9'.trans ga
  have j1 := up ga'.bb h1
  have j2 := up ga'.bb h2
  have ra : (rL rBy (namesW ws many)).p un Ba := ra
  refine wb_exprC (fn_need T) (hr.mono (by decide)) (L2N.passAt tkN) ((namesW ws many).all fun nm => decide (placeOf b nm < 0), 3) True.intro (ea_cons ((ev_all rfl T.f_all (xs := (namesW ws many).map fun nm => decide (placeOf b nm < 0)) (Ev.unF (ef_map 11 (r := rBy) (q := rB) (f := fun nm => decide (placeOf b nm < 0)) rfl sc_with_orders.nd (ei_list (ep_var 8 rfl ra).ev (ll ra)) (blkOk_by (N := N_with_orders) (sc := defScope s_with_orders) (by decide +kernel)) (fun _ _ _ _ _ => pg_name sc_with_orders.nd rfl (Or.inl rfl)) ?_))).is (by rw [List.all_map]; rfl)) (ea_one (ep_cI T.i_THERE_ALREADY).ev)) ga'.bh (fun z9 hz9 v Bb Hb gb rb => ?_) (fun n hn => (ker n (e8.trans (bind_err hn))).on ga'.hh)
  · intro nm hnm v B1 s1 r1 _ _ _ _ _
    exact ev_lt (ev_meth T.c_Book (mt_name_place T) (hr.mono (by decide)) (b, nm) True.intro (ep_var 0 rfl (up s1 j1)).ev (ea_one (ep_var 11 rfl r1).ev) rfl rfl) ep_int.ev
  have e9 := e8.trans (bind_ok hz9)
  have gb' := ga'.trans gb
  have j1 := up gb'.bb h1
  refine wb_exprC (fn_need T) (hr.mono (by decide)) (L2N.passAt tkN) (decide (b.orders.length + many ≤ 8), 4) True.intro (ea_cons ((ev_le (ev_add (ev_len T.f_len (ep_bk_orders T (ep_var 0 rfl j1)).ev) (ep_var 7 rfl (R := rN many) rfl).ev) (ep_cI T.i_MOST_ORDERS).ev).is (congrArg rB (dec_le2 b.orders.length many 8))) (ea_one (ep_cI T.i_TOO_MANY).ev)) gb'.bh (fun za hza v Bc Hc gc rc => ?_) (fun n hn => (ker n (e9.trans (bind_err hn))).on gb'.hh)
  have ea := e9.trans (bind_ok hza)
  have hall : b.orders.length + many ≤ 8 := of_decide_eq_true (ask_ok hza)
  have gc' := gb'.trans gc
  have rnc := up (R := rBy ns) (((g9.bb.trans ga.bb).trans gb.bb).trans gc.bb) rn8
  refine wb_exprC (fn_need T) (hr.mono (by decide)) (L2N.passAt tkN) (decide ((ns.getD 2 0 : Int) + step * ((many : Int) - 1) ≤ 400), 5) True.intro (ea_cons (ev_le (ev_add (ev_ix (r := rN) (n := 2) (ep_var 3 rfl rnc).ev ep_int.ev (getD_nat (by omega))) (ev_mul (ep_var 6 rfl (R := rN step) rfl).ev (ev_sub (ep_var 7 rfl (R := rN many) rfl).ev ep_int.ev) (.inr ⟨by omega, by omega⟩))) (ep_cI T.i_LAST_DAY).ev) (ea_one (ep_cI T.i_TOO_LATE).ev)) gc'.bh (fun zb hzb v Bd Hd gd rd => ?_) (fun n hn => (ker n (ea.trans (bind_err hn))).on gc'.hh)
  have eb := ea.trans (bind_ok hzb)
  have gd' := gc'.trans gd
  have j1 := up gd'.bb h1
  have j2 := up gd'.bb h2
  have rnd := up (R := rBy ns) gd.bb rnc
  have rad := up (R := rL rBy (namesW ws many)) ((gb.bb.trans gc.bb).trans gd.bb) ra
  refine wb_map 9 11 (r := rBy) (q := rOd K) (f := mkO (ws.getD 2 []) ns gg hh) rfl sc_with_orders.nd (ei_list (ep_var 8 rfl rad).ev (ll ra)) (blkOk_by (N := N_with_orders) (sc := defScope s_with_orders) (by decide +kernel)) (fun _ _ _ _ _ => pg_name sc_with_orders.nd rfl (Or.inl rfl)) ?_ gd'.bh fun uo Be He ge re => ?_
  · intro nm hnm v B1 s1 r1 _ _ _ _ _
    refine ev_make (ct_Order T) (hr.mono (by decide)) (mkO (ws.getD 2 []) ns gg hh nm) True.intro (ea_cons (ep_var 11 rfl r1).ev (ea_cons (ev_ix (r := rBy) (n := 2) (ep_var 1 rfl (up s1 j2)).ev ep_int.ev (wd_at (show 2 < ws.length by omega))) (ea_cons (Ev.is (ep_var 3 rfl (up s1 rnd)).ev (congrArg rBy (five nsl))) (ea_cons (ep_var 4 rfl (R := rB gg) rfl).ev (ea_one (ep_var 5 rfl (R := rB hh) rfl).ev)))))
  have re1 : (rL (rOd K) ((namesW ws many).map (mkO (ws.getD 2 []) ns gg hh))).p uo Be := re.1
  have ge' := gd'.trans ge
  refine wb_map2 10 12 13 (by decide) (ρ := fun z : Vbcrah.Order × Nat => rN z.2) (τ := fun z => rOd K z.1) (q := rOd K) (f := fun z => { z.1 with due := z.1.due + step * z.2 }) rfl sc_with_orders.nd (ei_enum T.f_enumerate (ep_var 9 rfl re1).ev (ll re1)) (blkOk_by (N := N_with_orders) (sc := defScope s_with_orders) (by decide +kernel)) (fun _ _ _ _ _ => pg_tup rfl (pgs_cons (pg_name (i := 12) sc_with_orders.nd rfl (Or.inl rfl)) (pgs_cons (pg_name (i := 13) sc_with_orders.nd rfl (Or.inl rfl)) pgs_nil))) ?_ ge'.bh fun um Bf Hf gf rf => ?_
  · intro z hz v u B1 s1 h4 h5 _ _ _ _ _
    have hk := zi_lt hz
    rw [List.length_map] at hk
    have := names_len (ws := ws) (n := many)
    exact ev_meth T.c_Order (mt_with_due T) (hr.mono (by decide)) (z.1, z.1.due + step * z.2) True.intro (ep_var 13 rfl h5).ev (ea_one ((ev_add (ep_od_due T (ep_var 13 rfl h5)).ev (ev_mul (ep_var 6 rfl (R := rN step) rfl).ev (ep_var 12 rfl h4).ev (.inr ⟨by omega, by omega⟩))).is (by show rI _ = rI _; congr 1))) rfl rfl
  have gf' := ge'.trans gf
  have j1 := up gf'.bb h1
  have rf1 : (rL (rOd K) (moreO (ws.getD 2 []) ns gg hh step (namesW ws many))).p um Bf := Fb.cv (congrArg (rL (rOd K)) (by
    unfold moreO
    rw [List.zipIdx_map, List.map_map]
    rfl)) rf.1
  have ml : (moreO (ws.getD 2 []) ns gg hh step (namesW ws many)).length ≤ 10 := by
    unfold moreO
    rw [List.length_map, List.length_zipIdx]
    have := names_len (ws := ws) (n := many)
    omega
  exact wb_ret (ev_Book (bk := { b with orders := b.orders ++ moreO (ws.getD 2 []) ns gg hh step (namesW ws many) }) (ct_Book T) (hr.mono (by decide)) (ea_cons (ep_bk_stocks T (ep_var 0 rfl j1)).ev (ea_cons (ev_cat (r := rOd K) (ep_bk_orders T (ep_var 0 rfl j1)).ev (ep_var 10 rfl rf1).ev (by show b.orders.length + _ ≤ LB; omega)) (ea_cons (ep_bk_grind T (ep_var 0 rfl j1)).ev (ea_one (ep_bk_send T (ep_var 0 rfl j1)).ev))))) gf'.bh fun v Bg Hg gg' rg => kok _ eb v Bg Hg (gf'.trans gg') rg
end
end Fb
/-! FbX7: any line -/
namespace Fb
open PySem PySem.Spec PyProof.Rows L2
def dL (l : Wd) : PyData := .list (l.map dB)
theorem lay_LL : ∀ l : Wd, PyData.canLayAll0 (l.map dB) = true
  | [] => by simp [PyData.canLayAll0]
  | x :: l => by
    rw [List.map_cons, PyData.canLayAll0, lay_dB, lay_LL l]; rfl
theorem depth_LL : ∀ l : Wd, PyData.depthAll (l.map dB) ≤ 1
  | [] => by simp [PyData.depthAll]
  | x :: l => by
    rw [List.map_cons, PyData.depthAll]
    have h1 := depth_LL l
    have h2 : (dB x).depth ≤ 1 := by
      unfold dB
      rw [PyData.depth, depth_ints]
      decide
    omega
theorem shaped_dL (l : Wd) : SeqAt.shaped (dL l) = true := by
  unfold SeqAt.shaped dL
  rw [Bool.and_eq_true]
  refine ⟨by rw [PyData.canLay0]; exact lay_LL l, ?_⟩
  rw [PyData.depth]
  have := depth_LL l
  simp
  omega
theorem dp_LL {K : PySem.W.Frag} {H B : Hp} (s : Same B H) : ∀ {l : Wd} {vs : List V}, All2 (fun n v => (rBy n).p v B) l vs → DpAll K H vs (l.map dB)
  | _, _, .nil => .nil
  | _, _, .cons h t => .cons (dp_dB s h) (dp_LL s t)
theorem dp_dL {K : PySem.W.Frag} {B H : Hp} {l : Wd} {v : V} (s : Same B H) (h : (rL rBy l).p v B) : Dp K H v (dL l) := by
  obtain ⟨p, vs, rfl, h1, _, a⟩ := h
  exact .lst (sq_of s h1) (dp_LL s a)
theorem eqv_nil (l : Wd) : PyData.eqv (dL l) (dL []) = decide (l = []) := by
  unfold dL
  rw [PyData.eqv]
  cases l with
  | nil => simp [PyData.eqvAll]
  | cons x l => simp [PyData.eqvAll]
theorem et_noW {X : Cx} {a b : Expr} {σ : L2.St} {B : Hp} {pos : Pos} {l : Wd} (hu : X.A.units + 64 < cLine) (ha : Ev X a σ B (rL rBy l)) (hb : Ev X b σ B (rL rBy [])) : EvT X (.Compare a [.Eq] [b] pos) σ B (decide (l = [])) :=
  et_cmp (op_eqD hu) (nomark _) ha hb fun x y B2 H2 _ s r1 r2 Q q => ⟨dL l, dL [], dp_dL s r1, dp_dL s r2, shaped_dL _, shaped_dL _, by rw [eqv_nil]; exact q⟩
def resLine (a : Vbcrah.Book × List Nat) : Except Int Vbcrah.Book := if Vbcrah.wordsOf a.2 = [] then .ok a.1 else if (Vbcrah.wordsOf a.2).getD 0 [] = Vbcrah.ascii "stock" then resStock (a.1, Vbcrah.wordsOf a.2) else if (Vbcrah.wordsOf a.2).getD 0 [] = Vbcrah.ascii "order" then resOrd (a.1, Vbcrah.wordsOf a.2) else
  (ask (decide ((Vbcrah.wordsOf a.2).getD 0 [] = Vbcrah.ascii "limits")) 1).bind fun _ => resLim (a.1, Vbcrah.wordsOf a.2)
section
variable {P : Program} {w : World} {K : PySem.W.Frag} {mg : Str → Option Value} {base : Heap}
theorem fn_with_line (T : Txt K mg) : Fn P w K mg base (CXN P w) "with_line" 7 ["book", "line"] (spX (fun a : Vbcrah.Book × List Nat => a.1.stocks.length < LB ∧ a.2.length < LB) (fun a => [rBk K a.1, rBy a.2]) (fun a => toX (wl K) (resLine a) (rBk K))) := by
  obtain ⟨fd, F⟩ := T.d_with_line
  refine mkFn T.g_with_line F (b_with_line F) (ok_bodyC F sc_with_line (len_X fun _ => rfl) fun cdv A outer s H vs Q E hr q => ?_)
  obtain ⟨⟨b, line⟩, B, hs, ⟨hp, hl⟩, hv, k⟩ := q
  obtain ⟨v1, v2, rfl, h1, h2⟩ := vs2 hv
  obtain ⟨kok, ker⟩ := ends_ok k
  refine wb_set 2 (ev_call (fn_words_of T) (hr.mono (by decide)) line hl (ea_one (ep_var 1 rfl h2).ev)) hs (fun u B2 H2 g r => ?_) sc_with_line.nd
  have r : (rL rBy (Vbcrah.wordsOf line)).p u B2 := r
  have e0 : resLine (b, line) = if Vbcrah.wordsOf line = [] then .ok b else if (Vbcrah.wordsOf line).getD 0 [] = Vbcrah.ascii "stock" then resStock (b, Vbcrah.wordsOf line) else if (Vbcrah.wordsOf line).getD 0 [] = Vbcrah.ascii "order" then resOrd (b, Vbcrah.wordsOf line) else
    (ask (decide ((Vbcrah.wordsOf line).getD 0 [] = Vbcrah.ascii "limits")) 1).bind fun _ => resLim (b, Vbcrah.wordsOf line) := rfl
  generalize Vbcrah.wordsOf line = ws at *
  have by_ := fn_bytes_of (P := P) (w := w) (base := base) T
  refine wb_when (et_noW hr.units (ep_var 2 rfl r).ev (ev_list (r := rBy) (xs := []) ea_nil)) g.bh (fun hc B3 H3 g3 => ?_) fun hc B3 H3 g3 => ?_
  · exact wb_ret (ep_var 0 rfl (up (g.bb.trans g3.bb) h1)).ev g3.bh fun v B4 H4 g4 r4 => kok b (e0.trans (if_pos (of_decide_eq_true hc))) v B4 H4 ((g.trans g3).trans g4) r4
  have hne : ws ≠ [] := of_decide_eq_false hc
  have hlen : 0 < ws.length := List.length_pos_iff.mpr hne
  have e1 := e0.trans (if_neg hne)
  have g3' := g.trans g3
  have r3 := up g3.bb r
  refine wb_when (et_eqL hr.units (ev_ix (r := rBy) (n := 0) (ep_var 2 rfl r3).ev ep_int.ev (wd_at hlen)) (ev_bytes by_ (hr.mono (by decide)))) g3'.bh (fun hc B4 H4 g4 => ?_) fun hc B4 H4 g4 => ?_
  · have e2 := e1.trans (if_pos (of_decide_eq_true hc))
    have g4' := g3'.trans g4
    exact wb_retC (fn_with_stock T) (hr.mono (by decide)) (L2N.passAt tkN) (b, ws) hp (ea_cons (ep_var 0 rfl (up g4'.bb h1)).ev (ea_one (ep_var 2 rfl (up g4.bb r3)).ev)) g4'.bh (fun z hz v B5 H5 g5 r5 => kok z (e2.trans hz) v B5 H5 (g4'.trans g5) r5) (fun n hn => (ker n (e2.trans hn)).on g4'.hh)
  have e2 := e1.trans (if_neg (of_decide_eq_false hc))
  have g4' := g3'.trans g4
  have r4 := up g4.bb r3
  refine wb_when (et_eqL hr.units (ev_ix (r := rBy) (n := 0) (ep_var 2 rfl r4).ev ep_int.ev (wd_at hlen)) (ev_bytes by_ (hr.mono (by decide)))) g4'.bh (fun hc B5 H5 g5 => ?_) fun hc B5 H5 g5 => ?_
  · have e3 := e2.trans (if_pos (of_decide_eq_true hc))
    have g5' := g4'.trans g5
    exact wb_retC (fn_with_orders_reading T) hr (L2N.passAt tkN) (b, ws) True.intro (ea_cons (ep_var 0 rfl (up g5'.bb h1)).ev (ea_one (ep_var 2 rfl (up g5.bb r4)).ev)) g5'.bh (fun z hz v B6 H6 g6 r6 => kok z (e3.trans hz) v B6 H6 (g5'.trans g6) r6) (fun n hn => (ker n (e3.trans hn)).on g5'.hh)
  have e3 := e2.trans (if_neg (of_decide_eq_false hc))
  have g5' := g4'.trans g5
  have r5 := up g5.bb r4
  refine wb_exprC (fn_need T) (hr.mono (by decide)) (L2N.passAt tkN) (decide (ws.getD 0 [] = Vbcrah.ascii "limits"), 1) True.intro (ea_cons (ev_eqL hr.units (ev_ix (r := rBy) (n := 0) (ep_var 2 rfl r5).ev ep_int.ev (wd_at hlen)) (ev_bytes by_ (hr.mono (by decide)))) (ea_one (ep_cI T.i_NO_FORM).ev)) g5'.bh (fun z1 hz1 v B6 H6 g6 r6 => ?_) (fun n hn => (ker n (e3.trans (bind_err hn))).on g5'.hh)
  have e4 := e3.trans (bind_ok hz1)
  have g6' := g5'.trans g6
  exact wb_retC (fn_with_limits T) (hr.mono (by decide)) (L2N.passAt tkN) (b, ws) True.intro (ea_cons (ep_var 0 rfl (up g6'.bb h1)).ev (ea_one (ep_var 2 rfl (up g6.bb r5)).ev)) g6'.bh (fun z hz v B7 H7 g7 r7 => kok z (e4.trans hz) v B7 H7 (g6'.trans g7) r7) (fun n hn => (ker n (e4.trans hn)).on g6'.hh)
end
end Fb
/-! FbX8: try: body, except C as e: a suite that raises -/
namespace Fb
open PySem PySem.Spec PyProof.Rows L2
section
variable {X : Cx} {pins : List (Addr × Obj)} {σ : L2.St} {H : Hp} {s : Shared} {i : Nat} {n : Str}
/-- the name of a clause is gone: the state, with the names' own object changed -/
theorem inv_gone {m : Str → Option Value} {h' : Heap} {v : Option Value} {t' : Nat} (I : Inv X pins σ H s) (hN : X.N.Nodup) (hi : X.N[i]? = some n)
    (hlk : ∀ (i : Nat) (y : Str) (v : V), X.N[i]? = some y → σ[i]? = some (some v) → Vis X.env.scope y → ∃ u, RelV v u ∧ Look X.env s.heap m y u)
    (hn' : h'.Ns X.env.locals (fun x => if x = n then v else m x)) (hs : Heap.SameBut X.env.locals s.heap h') : Inv X pins (σ.set i none) H { s with heap := h', toks := t' } := by
  have far : ∀ b o, X.s_0.heap.get? b = some o → b ≠ X.env.locals := fun b o e => Nat.ne_of_lt (Nat.lt_of_lt_of_le (Heap.lt_size e) I.ok.above)
  have base : Un X.fs X.ex X.H_0 H X.s_0.heap h' := {
    keep := fun b o e n hb hx => (hs.2 b (far b o e)).trans (I.base.keep b o e n hb hx)
    slot := fun b o e n hb hx => by
      obtain ⟨sl, q⟩ := I.base.slot b o e n hb hx
      exact ⟨sl, (hs.2 b (far b o e)).trans q⟩
    free := I.base.free
    there := fun b o e hx => by
      obtain ⟨o', q⟩ := I.base.there b o e hx
      exact ⟨o', (hs.2 b (far b o e)).trans q⟩
    tups := I.base.tups
    frzs := I.base.frzs
    tbls := I.base.tbls }
  refine { ok := I.ok, os := I.os, bare := I.bare, base := base, loc := ⟨_, hn', fun j y z e1 e2 e3 => ?_⟩, cell := fun y c e => ?_, free := I.free, freeC := I.freeC, pin := fun p hp => ?_, hok := fun b o e => ?_, len := by rw [List.length_set]; exact I.len }
  · have hj : j ≠ i := fun q => by
      subst q
      rw [List.getElem?_set] at e2
      simp at e2
    rw [List.getElem?_set_ne (Ne.symm hj)] at e2
    obtain ⟨u, r, q⟩ := hlk j y z e1 e2 e3
    refine ⟨u, r, ?_⟩
    rcases q with ⟨k, e⟩ | ⟨k, c, e, q⟩
    · exact .inl ⟨k, (if_neg fun w => hj (nodup_ix hN e1 (by rw [w]; exact hi))).trans e⟩
    · exact .inr ⟨k, c, e, q.sameBut hs (I.cne y c e)⟩
  · obtain ⟨w, q⟩ := I.cell y c e
    exact ⟨w, q.sameBut hs (I.cne y c e)⟩
  · obtain ⟨q, r⟩ := I.pin p hp
    exact ⟨(hs.2 p.1 r.2.1).trans q, r⟩
  · refine (I.hok b o e).stay (fun c w hc q => (hs.2 c fun z => ?_).trans q) (fun _ q => q) fun _ _ q => q
    subst z
    rcases hc with hc | hc
    · rw [← hc, I.free] at e; cases e
    · rw [I.free] at hc; cases hc
end
/-- an error in the air is noted -/
theorem sky_note {M : Model} {A : Around} {E₁ : Value → Shared → Prop} {env : Env} {outer : List Env} {L a : Addr} {Z : Obj → Prop} {B : Heap} {s : Shared} {Q : Unit → Shared → Prop} (hZ : HandSPX.Steady Z) (hfr : A.frames = some (env :: outer)) (hf : env.frame = some L)
    (x : L2.Sky B (env :: outer) a Z L s.heap) (hQ : ∀ h', HandSPX.HeldZ B (env :: outer) a Z L h' → s.heap.UpToSlots h' → Q () { s with heap := h' }) : wpAny M A (noteFrame (.ref a) env) Q E₁ s := by
  rcases x with ⟨hB, hn, hl, oe, vs, he, hz, hd, h1⟩ | fl | hh
  · exact HandSPX.look_newZ hZ hfr hl hf he hB hn hd h1 hz hQ
  · exact HandSPX.looks_onZ hZ hfr hf fl hQ
  · exact HandSPX.againZ hf hh.2.2.2 (hQ s.heap hh (Heap.UpToSlots.refl _))
theorem traced_but {h h' B : Heap} {a L : Addr} {Z : Obj → Prop} {fl : Value} {m : Str → Option Value} (x : HandSPX.TracedZ h B a Z fl) (hn : h.Ns L m) (hs : Heap.SameBut L h h') : HandSPX.TracedZ h' B a Z fl := by
  obtain ⟨oe, vs, T, oT, ts, he, hz, hd, h1, hnT, hTe, hT, hdT, h3⟩ := x
  obtain ⟨oL, es, ep, hoL, hdL, _⟩ := hn
  have ne : ∀ {b : Addr} {o : Obj} {vs : Array Value}, h.get? b = some o → o.data = .fields vs → b ≠ L := fun {b o vs} e d q => by
    rw [q, hoL] at e
    cases e
    rw [hdL] at d
    cases d
  exact ⟨oe, vs, T, oT, ts, (hs.2 a (ne he hd)).trans he, hz, hd, h1, hnT, hTe, (hs.2 T (ne hT hdT)).trans hT, hdT, h3⟩
/-- the suite's context -/
abbrev suiteE (X : Cx) (a : Addr) (pn : List (Addr × Obj)) (xe : Value → Shared → Prop) : Cx := { X with A := X.A.mark (some (.ref a)), calm := false, pn := pn, xe := xe }
section
variable {X : Cx} {pins : List (Addr × Obj)} {σ : L2.St} {H : Hp} {s : Shared} {i : Nat} {n : Str}
theorem suiteE_of {a : Addr} {pn pn' : List (Addr × Obj)} {xe : Value → Shared → Prop} (I : Inv (X.suite a pn) pn' σ H s) : Inv (suiteE X a pn xe) pn' σ H s := I.wish xe
theorem unsuiteE {a : Addr} {q : Addr × Obj} {pn' : List (Addr × Obj)} {xe : Value → Shared → Prop} (I : Inv (suiteE X a (q :: (X.pn ++ pins)) xe) pn' σ H s) (ok : X.Ok) : Inv X pins σ H s :=
  Inv.unsuite (X := X) (a := a) (q := q) (pn' := pn') (show Inv (X.suite a (q :: (X.pn ++ pins))) pn' σ H s from I.wish fun _ _ => False) ok
/-- behind the suite: the name goes, the error goes on -/
theorem tail_ok {A' : Around} {M : Model} {a : Addr} {B : Heap} {sI : Shared} {cls : Value} {d : Option Addr} {pos : Pos} {Wout : WX} {E₁ E₂ : Value → Shared → Prop} {Er : Value → Shared → Prop}
    (hs : X.stack = X.env :: X.outer) (hf : X.env.frame = some X.env.locals) (hN : X.N.Nodup) (hi : X.N[i]? = some n) (hln : X.env.kindOf n = some .local) (hfr : A'.frames = some (X.env :: X.outer))
    (J : Inv X pins σ H sI) (nb : ∀ b o, sI.heap.get? b = some o → b ∉ frs X.stack → B.get? b = some o) (up : sI.heap.UpToSlots s.heap) (sky : L2.Sky B (X.env :: X.outer) a (Zc cls d) X.env.locals s.heap) (na : H a = none) (os : s.os = sI.os) (ag : AllBare s.gens) (w : Wout cls d (σ.set i none) H)
    (hE : ∀ s', L2.XE X Wout (.ref a) s' → Er (.ref a) s') :
    wpAny M A' (noteFrame (.ref a) X.env) (fun _ s₃ => wpAny M A' (do bindName X.env n .none; unbindBehindTheSuite X.env n pos) (fun _ s₄ => wpAny M A' (passOn "try.except-as" (.ref a) X.env : Sem Flow) (fun _ _ => False) Er s₄) E₂ s₃) E₁ s := by
  refine sky_note Zc.steady hfr hf sky fun h3 hd3 up3 => ?_
  obtain ⟨mI, hnI, hlk⟩ := id J.loc
  obtain ⟨oL, es, ep, hoL, hdL, hkeys⟩ := id hnI
  have upA := up.trans up3
  obtain ⟨sl, ho3⟩ := upA X.env.locals oL hoL (fun vs z => by rw [hdL] at z; cases z)
  have hn3 : h3.Ns X.env.locals mI := ⟨_, es, ep, ho3, hdL, hkeys⟩
  have hcls : (X.env.scope.kind == .class || (X.env.scope.kind == .module && X.env.locals != X.env.globals)) = false := by rw [J.ok.kind]; rfl
  refine wpAny_nameGoes_keeps hln hn3 hcls fun h4 v hn4 hs4 => ?_
  obtain ⟨b1, b0, f1, t1⟩ := hd3
  have hbL : B.get? X.env.locals = none := (f1.mem (List.mem_filterMap.mpr ⟨X.env, List.mem_cons_self, hf⟩)).1
  have b4 : B.StaysIn h4 := fun b o e => (hs4.2 b fun q => by rw [q, hbL] at e; cases e).trans (b1 b o e)
  have f4 : h4.FunFrames B (X.env :: X.outer) := Heap.FunFrames.sameBut hs4 hn4 f1
  have t4 := traced_but t1 hn3 hs4
  -- the state without the error
  obtain ⟨o4, es4, ep4, ho4, hd4, hk4⟩ := id hn4
  have hG : (sI.heap.update X.env.locals fun _ => o4).get? X.env.locals = some o4 := Heap.get?_update_self (fun _ => o4) hoL (Obj.isFreed_of_dict hd4)
  have hGo : Heap.SameBut X.env.locals sI.heap (sI.heap.update X.env.locals fun _ => o4) := Heap.SameBut.update _ _ _
  have JG : Inv X pins (σ.set i none) H { sI with heap := sI.heap.update X.env.locals fun _ => o4, toks := sI.toks } := inv_gone J hN hi hlk ⟨o4, es4, ep4, hG, hd4, hk4⟩ hGo
  have upG : (sI.heap.update X.env.locals fun _ => o4).UpToSlots h4 := fun b o e hnf => by
    by_cases hb : b = X.env.locals
    · subst hb
      rw [hG] at e
      cases e
      exact ⟨o4.slots, ho4⟩
    · rw [hGo.2 b hb] at e
      obtain ⟨sl2, q⟩ := upA b o e hnf
      exact ⟨sl2, (hs4.2 b hb).trans q⟩
  have nbG : ∀ b o, (sI.heap.update X.env.locals fun _ => o4).get? b = some o → b ∉ frs X.stack → B.get? b = some o := fun b o e hb => by
    have hbL2 : b ≠ X.env.locals := fun q => hb (by rw [q, hs]; exact List.mem_filterMap.mpr ⟨X.env, List.mem_cons_self, hf⟩)
    rw [hGo.2 b hbL2] at e
    exact nb b o e hb
  obtain ⟨oe, vs, T, oT, ts, he, hz, hd, h1, hr⟩ := id t4
  unfold PySem.passOn
  refine wpAny_bind (wpAny_field he hd h1 ?_)
  rw [if_neg (show ¬ ((Value.ref T == Value.none) = true) from by simp)]
  have fin : wpAny M A' (setFlight (.ref a) X.env.frame) (fun _ s5 => wpAny M A' (throw (.ref a) : Sem Flow) (fun _ _ => False) Er s5) Er { s with heap := h4, toks := s.toks + 1 } := by
    rw [hf]
    refine HandSPX.setFlight_anyZ b4 f4 t4 fun h5 k1 k2 k3 up5 => wpAny_throw (hE _ ?_)
    exact ⟨a, B, _, pins, _, H, cls, d, rfl, JG, nbG, upG.trans up5, .inr (.inr (by rw [hs]; exact ⟨k1, b0, k2, k3⟩)), na, os, ag, w⟩
  first
    | exact wpAny_bind (wpAny_pure (wpAny_bind fin))
    | exact wpAny_bind fin
end
end Fb
/-! FbX9: the rule of try with a suite that raises -/
namespace Fb
open PySem PySem.Spec PyProof.Rows L2
def noEnds : L2.Ends := { nx := fun _ _ => False, rt := fun _ _ => False }
/-- what the clause wishes of an error of the body: it's the named one -/
def wRe (K : PySem.W.Frag) (c : Value) (i : Nat) (ts : Addr → Value → Option Addr → TS) : WX := fun cls d σ H => PySem.W.exmOne K cls c = some true ∧ ∀ a, H a = none → ts a cls d noEnds (σ.set i (some (.ref a))) H
section
variable {X : Cx} {x n : Str} {c : Value} {i : Nat} {body suite : List Stmt} {b₀ : Stmt} {np pos pos' : Pos} {tb : WX → TS} {ts : Addr → Value → Option Addr → TS} {Wout : WX}
theorem ps_try_asE (hs : X.stack = X.env :: X.outer) (hf : X.env.frame = some X.env.locals) (hN : X.N.Nodup) (hi : X.N[i]? = some n) (hln : X.env.kindOf n = some .local) (hc : Names X x c)
    (hpa : ∀ hd : Option Value, PassesOwnAt (model X.prog X.w) (X.A.mark hd) X.A X.env X.xe) (tk : L2.Takes X Wout)
    (hb : ∀ (W : WX) (pn : List (Addr × Obj)) (xe : Value → Shared → Prop), L2N.Takes (X.tr pn xe) W → PassesOwn (model X.prog X.w) X.A X.env xe → PSs (X.tr pn xe) body (tb W))
    (hsu : ∀ (a : Addr) (oe : Obj) (cls : Value) (d : Option Addr) (pn : List (Addr × Obj)) (xe : Value → Shared → Prop), L2N.Zn cls d oe → (∃ vs, oe.data = .fields vs) → L2.Takes (suiteE X a ((a, oe) :: pn) xe) (fun cls d σ H => Wout cls d (σ.set i none) H) →
      L2H.HotC (suiteE X a ((a, oe) :: pn) xe) → PSs (suiteE X a ((a, oe) :: pn) xe) (b₀ :: suite) (ts a cls d)) :
    PS X (.Try body [.ExceptHandler (some (.Name x np)) (some n) (b₀ :: suite) pos'] [] [] pos) (fun D σ H => tb (wRe X.K c i ts) D σ H) := by
  refine ⟨fun pins s σ H D I h => ?_⟩
  have ok := I.ok
  have hfr : X.A.frames = some (X.env :: X.outer) := by rw [ok.frames, hs]
  have hloc : Loc X.env.scope n := .inl hln
  refine wpAny_Try_except ?_
  refine wpAny_mono ((hb (wRe X.K c i ts) (X.pn ++ pins) (fun e s₁ => wpAny (model X.prog X.w) X.A (noteFrame e X.env) (fun _ s₂ => wpAny (model X.prog X.w) X.A (setFlight e none) (fun _ s₃ =>
    wpAny (model X.prog X.w) X.A (handleBy e X.env [.ExceptHandler (some (.Name x np)) (some n) (b₀ :: suite) pos']) (SP X pins D) X.xe s₃) X.xe s₂) X.xe s₁) (fun u s' xx => ?_) PassesOwn.looking).run [] s σ H D (I.toTry _) h) (fun f s1 z => ?_) (fun e s1 he => he)
  · obtain ⟨a, B, sI, pins', σ', H', cls, d, rfl, J', nb, up, sky, na, os, ag, hb1, hyes⟩ := xx
    have J : Inv X pins σ' H' sI := J'.ofTry ok
    have sky' : L2.Sky B (X.env :: X.outer) a (L2N.Zn cls d) X.env.locals s'.heap := by rw [← hs]; exact sky
    show wpAny (model X.prog X.w) X.A (noteFrame (.ref a) X.env) _ _ _
    refine L2N.Sky.land L2N.Zn.steady hfr hf sky' fun h3 fl3 up3 => ?_
    have J3 : Inv X pins σ' H' { s' with heap := h3 } := J.landed nb fl3.1 (up.trans up3) os ag
    obtain ⟨oe3, vs3, he3, hz3, hd3⟩ := fl3.there
    have nfr : a ∉ frs (X.env :: X.outer) := fun hm => by
      obtain ⟨_, o', e', hnf⟩ := fl3.2.2.1.mem hm
      rw [he3] at e'
      cases e'
      exact hnf _ hd3
    have nL : a ≠ X.env.locals := fun z => nfr (List.mem_filterMap.mpr ⟨X.env, List.mem_cons_self, by rw [hf, z]⟩)
    have nF : a ∉ X.fs := fun hm => by
      obtain ⟨e, he, q⟩ := List.mem_filterMap.mp hm
      exact nfr (List.mem_filterMap.mpr ⟨e, List.mem_cons_of_mem _ he, q⟩)
    have S3 := J3.suite he3 hd3 na nL nF
    refine wpAny_handleBy_cons (codeAny_handlers_test ?_) (by intro q; cases q)
    have LT : PySem.W.Looks (model X.prog X.w) h3 (typeOf (.ref a)) cls := fun A Q E s k q => wpAny_typeOf_ref (k _ _ he3) (by rw [hz3.1]; exact q)
    have LM := PySem.W.exm_one (M := model X.prog X.w) J3.kIn LT hb1
    have test : ∀ {Q : Value → Shared → Prop} {E : Value → Shared → Prop}, Q c { s' with heap := h3 } → wpAny (model X.prog X.w) (X.A.mark (some (.ref a))) (eval (.Name x np) X.env) Q E { s' with heap := h3 } := fun {Q E} q => by
      obtain ⟨hg, hdbg, hm | ⟨hm, hv, hnn⟩⟩ := hc
      · exact ld_glob (X := X.suite a ((a, oe3) :: (X.pn ++ pins))) S3 hg hm q hdbg
      · exact ld_blt (X := X.suite a ((a, oe3) :: (X.pn ++ pins))) S3 hg hm hv q hnn hdbg
    refine test (LM.here ?_)
    refine codeAny_handlers_suite_as ?_
    refine HandSPX.lands_againZ fl3 fun h4 fl4 up4 => ?_
    have J4 : Inv X pins σ' H' { s' with heap := h4 } := J.landed nb fl4.1 ((up.trans up3).trans up4) os ag
    obtain ⟨oe4, vs4, he4, hz4, hd4⟩ := fl4.there
    have S4 := J4.suite he4 hd4 na nL nF
    refine store_ok (X := X.suite a ((a, oe4) :: (X.pn ++ pins))) (v := .ref a) S4 hN hi hloc rfl (fun s5 S5 => ?_) (.inr hln)
    have hot : ∀ xe, L2H.HotC (suiteE X a ((a, oe4) :: (X.pn ++ pins)) xe) := fun xe => ⟨(a, oe4), ⟨rfl, vs4, hd4, hz4.2.2 vs4 hd4⟩, List.mem_cons_self⟩
    have tkS : L2.Takes (suiteE X a ((a, oe4) :: (X.pn ++ pins)) (L2.XE (suiteE X a ((a, oe4) :: (X.pn ++ pins)) fun _ _ => False) fun cls d σ H => Wout cls d (σ.set i none) H)) (fun cls d σ H => Wout cls d (σ.set i none) H) := fun u2 s2 x2 => by
      obtain ⟨a2, B2, sI2, pn2, slotsB, H2, cls2, d2, e2, I2, r2⟩ := x2
      exact ⟨a2, B2, sI2, pn2, slotsB, H2, cls2, d2, e2, Inv.wish (X := suiteE X a ((a, oe4) :: (X.pn ++ pins)) (L2.XE (suiteE X a ((a, oe4) :: (X.pn ++ pins)) fun _ _ => False) fun cls d σ H => Wout cls d (σ.set i none) H)) I2 (fun _ _ => False), r2⟩
    refine wpAny_mono ((hsu a oe4 cls d (X.pn ++ pins) _ hz4 ⟨_, hd4⟩ tkS (hot _)).run [] s5 _ H' _ (suiteE_of S5) (hyes a na)) (fun f s6 z => ?_) (fun e6 s6 z => ?_)
    · cases f with
      | next => obtain ⟨_, _, _, z⟩ := z; exact z.elim
      | brk => obtain ⟨_, _, _, z⟩ := z; exact z.elim
      | cont => obtain ⟨_, _, _, z⟩ := z; exact z.elim
      | ret u => obtain ⟨_, _, _, _, _, z⟩ := z; exact z.elim
    · obtain ⟨a2, B2, sI2, pn2, slotsB, H2, cls2, d2, rfl, I2, nb2, up2, sky2, na2, os2, ag2, w2⟩ := z
      have J2 : Inv X pins slotsB H2 sI2 := unsuiteE I2 ok
      have sky2' : L2.Sky B2 (X.env :: X.outer) a2 (Zc cls2 d2) X.env.locals s6.heap := by rw [← hs]; exact sky2
      exact tail_ok hs hf hN hi hln hfr J2 nb2 up2 sky2' na2 os2 ag2 w2 fun s7 x7 => hpa (some (.ref a)) _ s7 (tk _ _ x7)
  · cases f with
    | next =>
      obtain ⟨σ', H', J', q⟩ := z
      exact wpAny_execs_nil ⟨σ', H', J'.ofTry ok, q⟩
    | brk =>
      obtain ⟨σ', H', J', q⟩ := z
      exact ⟨σ', H', J'.ofTry ok, q⟩
    | cont =>
      obtain ⟨σ', H', J', q⟩ := z
      exact ⟨σ', H', J'.ofTry ok, q⟩
    | ret u =>
      obtain ⟨v, σ', H', J', r, q⟩ := z
      exact ⟨v, σ', H', J'.ofTry ok, r, q⟩
end
end Fb
/-! FbX10: with_text -/
namespace Fb
open PySem PySem.Spec PyProof.Rows L2
section
variable {X : Cx} {x n : Str} {c : Value} {body suite : List Stmt} {b₀ : Stmt} {np pos pos' : Pos} {Wout : WX} {rest : List Stmt} {D : L2.Ends} {σ : L2.St} {H : Hp}
/-- what the suite has to do -/
def tsE (X : Cx) (Wout : WX) (i : Nat) (suite : List Stmt) : Addr → Value → Option Addr → TS := fun a cls d D σ H => ∀ (oe : Obj) (pn : List (Addr × Obj)) (xe : Value → Shared → Prop), L2N.Zn cls d oe → (∃ vs, oe.data = .fields vs) →
  L2.Takes (suiteE X a ((a, oe) :: pn) xe) (fun cls d σ H => Wout cls d (σ.set i none) H) → L2H.HotC (suiteE X a ((a, oe) :: pn) xe) → WB (suiteE X a ((a, oe) :: pn) xe) suite D σ H
theorem wb_tryE (i : Nat) (hN : X.N.Nodup) (tk : L2.Takes X Wout) (hpa : ∀ hd : Option Value, PassesOwnAt (model X.prog X.w) (X.A.mark hd) X.A X.env X.xe) (hc : Names X x c)
    (h : ∀ (pn : List (Addr × Obj)) (xe : Value → Shared → Prop), L2N.Takes (X.tr pn xe) (wRe X.K c i (tsE X Wout i (b₀ :: suite))) → WB (X.tr pn xe) body { D with nx := WB X rest D } σ H)
    (hs : X.stack = X.env :: X.outer := by rfl) (hf : X.env.frame = some X.env.locals := by rfl) (hi : X.N[i]? = some n := by rfl) (hln : X.env.kindOf n = some .local := by rfl) :
    WB X (.Try body [.ExceptHandler (some (.Name x np)) (some n) (b₀ :: suite) pos'] [] [] pos :: rest) D σ H :=
  wb_cons (ps_try_asE (tb := fun W D σ H => ∀ (pn : List (Addr × Obj)) (xe : Value → Shared → Prop), L2N.Takes (X.tr pn xe) W → WB (X.tr pn xe) body D σ H) (ts := tsE X Wout i (b₀ :: suite)) hs hf hN hi hln hc hpa tk
    (fun W pn xe tkW _ => ⟨fun pins s σ H D I q => q pn xe tkW pins s I⟩)
    (fun a oe cls d pn xe hz hd tkS hot => ⟨fun pins s σ H D I q => q oe pn xe hz hd tkS hot pins s I⟩)) h
theorem pe_suiteE {a : Addr} {pn : List (Addr × Obj)} {xe : Value → Shared → Prop} {e : Expr} {t : TE} (p : PE (X.suite a pn) e t) : PE (suiteE X a pn xe) e t :=
  ⟨fun pins s σ H Q I h => wpAny_mono (p.run pins s σ H Q (Inv.wish (X := suiteE X a pn xe) I fun _ _ => False) h) (fun u s' ⟨v, H', I', r, q⟩ => ⟨v, H', Inv.wish (X := X.suite a pn) I' xe, r, q⟩) (fun _ _ z => z.elim)⟩
end
section
variable {P : Program} {w : World} {K : PySem.W.Frag} {mg : Str → Option Value} {base : Heap}
abbrev flt (K : PySem.W.Frag) (k l : Int) : XF := (ga K "Fault", [("line", .int l), ("kind", .int k)])
def runL : Nat → Vbcrah.Book → List (List Nat) → Except (Int × Int) Vbcrah.Book
  | _, b, [] => .ok b
  | n, b, l :: ls => match resLine (b, l) with
    | .error k => .error (k, (n : Nat))
    | .ok c => runL (n + 1) c ls
def toF (K : PySem.W.Frag) (r : Except (Int × Int) Vbcrah.Book) : Except XF Rp := match r with
  | .ok z => .ok (rBk K z)
  | .error e => .error (flt K e.1 e.2)
theorem runL_ok {n : Nat} {b c : Vbcrah.Book} {l : List Nat} {ls : List (List Nat)} (h : resLine (b, l) = .ok c) : runL n b (l :: ls) = runL (n + 1) c ls := by
  rw [runL, h]
theorem runL_err {n : Nat} {b : Vbcrah.Book} {l : List Nat} {ls : List (List Nat)} {k : Int} (h : resLine (b, l) = .error k) : runL n b (l :: ls) = .error (k, (n : Int)) := by
  rw [runL, h]
theorem stock_few {a : Vbcrah.Book × Wd} {z : Vbcrah.Book} (h : resStock a = .ok z) : z.stocks.length ≤ 8 := by
  unfold resStock at h
  obtain ⟨_, _, h⟩ := bind_inv h
  obtain ⟨_, _, h⟩ := bind_inv h
  obtain ⟨_, _, h⟩ := bind_inv h
  obtain ⟨_, _, h⟩ := bind_inv h
  obtain ⟨_, _, h⟩ := bind_inv h
  obtain ⟨_, _, h⟩ := bind_inv h
  obtain ⟨_, h1, h⟩ := bind_inv h
  have := of_decide_eq_true (ask_ok h1)
  cases h
  show (a.1.stocks ++ [_]).length ≤ 8
  rw [List.length_append, List.length_singleton]
  omega
theorem ord_stocks {a : Vbcrah.Book × Wd} {z : Vbcrah.Book} (h : resOrd a = .ok z) : z.stocks = a.1.stocks := by
  unfold resOrd at h
  obtain ⟨_, _, h⟩ := bind_inv h
  obtain ⟨_, _, h⟩ := bind_inv h
  obtain ⟨_, _, h⟩ := bind_inv h
  obtain ⟨_, _, h⟩ := bind_inv h
  obtain ⟨_, _, h⟩ := bind_inv h
  obtain ⟨_, _, h⟩ := bind_inv h
  obtain ⟨_, _, h⟩ := bind_inv h
  obtain ⟨_, _, h⟩ := bind_inv h
  obtain ⟨_, _, h⟩ := bind_inv h
  obtain ⟨_, _, h⟩ := bind_inv h
  obtain ⟨_, _, h⟩ := bind_inv h
  cases h
  rfl
theorem lim_stocks {a : Vbcrah.Book × Wd} {z : Vbcrah.Book} (h : resLim a = .ok z) : z.stocks = a.1.stocks := by
  unfold resLim at h
  obtain ⟨_, _, h⟩ := bind_inv h
  obtain ⟨_, _, h⟩ := bind_inv h
  obtain ⟨_, _, h⟩ := bind_inv h
  obtain ⟨_, _, h⟩ := bind_inv h
  obtain ⟨_, _, h⟩ := bind_inv h
  cases h
  rfl
theorem line_few {a : Vbcrah.Book × List Nat} {z : Vbcrah.Book} (h : resLine a = .ok z) (h8 : a.1.stocks.length ≤ 8) : z.stocks.length ≤ 8 := by
  unfold resLine at h
  split at h
  · cases h; exact h8
  · split at h
    · exact stock_few h
    · split at h
      · rw [ord_stocks h]; exact h8
      · obtain ⟨_, _, h⟩ := bind_inv h
        rw [lim_stocks h]; exact h8
theorem fn_with_text (T : Txt K mg) : Fn P w K mg base (L2.CX P w) "with_text" 8 ["book", "text"] (spX (fun a : Vbcrah.Book × List Nat => a.1.stocks.length ≤ 8 ∧ a.2.length < 10000) (fun a => [rBk K a.1, rBy a.2]) (fun a => toF K (runL 1 a.1 (Vbcrah.split 10 a.2)))) := by
  obtain ⟨fd, F⟩ := T.d_with_text
  refine mkFn T.g_with_text F (b_with_text F) (ok_bodyC F sc_with_text (len_X fun _ => rfl) fun cdv A outer s H vs Q E hr q => ?_)
  obtain ⟨⟨b, text⟩, B, hs, ⟨hp, hl⟩, hv, k⟩ := q
  obtain ⟨v1, v2, rfl, h1, h2⟩ := vs2 hv
  have hl : text.length < 10000 := hl
  have eLB : LB = 1000000 := rfl
  have sl := split_len 10 text
  have kok : ∀ z, runL 1 b (Vbcrah.split 10 text) = .ok z → ∀ v B2 H2, Gr B H B2 H2 → (rBk K z).p v B2 → Q v H2 := fun z e => by
    have k : match toF K (runL 1 b (Vbcrah.split 10 text)) with
      | .ok r => ∀ v B2 H2, Gr B H B2 H2 → r.p v B2 → Q v H2
      | .error e => Ends1 E H e := k
    rw [e] at k; exact k
  have ker : ∀ z, runL 1 b (Vbcrah.split 10 text) = .error z → Ends1 E H (flt K z.1 z.2) := fun z e => by
    have k : match toF K (runL 1 b (Vbcrah.split 10 text)) with
      | .ok r => ∀ v B2 H2, Gr B H B2 H2 → r.p v B2 → Q v H2
      | .error e => Ends1 E H e := k
    rw [e] at k; exact k
  clear k
  refine wb_forG (ei_enum T.f_enumerate (ev_call (fn_parts_of T) (hr.mono (by decide)) (text, 10) (by show text.length < LB; omega) (ea_cons (ep_var 1 rfl h2).ev (ea_one (ep_cI T.i_LINE_END).ev))) (by show (Vbcrah.split 10 text).length ≤ LB; omega)) (pg_tup rfl (pgs_cons (pg_name (i := 2) sc_with_text.nd rfl (Or.inl rfl)) (pgs_cons (pg_name (i := 3) sc_with_text.nd rfl (Or.inl rfl)) pgs_nil))) hs
    (fun Bk j σ' H' => Gr B H Bk H' ∧ ∃ bk vb y z e, (rBk K bk).p vb Bk ∧ bk.stocks.length ≤ 8 ∧ runL 1 b (Vbcrah.split 10 text) = runL (1 + j) bk ((Vbcrah.split 10 text).drop j) ∧ σ' = [some vb, some v2, y, z, e]) (L2.passes_of rfl) rfl
    (fun B2 H2 g2 => ⟨g2, b, v1, none, none, none, up g2.bb h1, hp, rfl, rfl⟩) (fun Bk j σ' H' z => z.1.bh) ?_ ?_
  · rintro Bk j ⟨line, j'⟩ v σ' H' B4 H4 sB hz ⟨gk, bk, vb, y, z, e, hbk, hb8, hrun, rfl⟩ g4 ⟨t, ws, ev, ht, hw⟩
    obtain ⟨ho, ej⟩ := zi_back hz
    have ej : j = j' := ej.symm
    subst ej
    have ho : (Vbcrah.split 10 text)[j]? = some line := ho
    obtain ⟨w1, w2, rfl, q1, q2⟩ := vs2 hw
    have gg := gk.trans g4
    have hdrop : (Vbcrah.split 10 text).drop j = line :: (Vbcrah.split 10 text).drop (j + 1) := by
      obtain ⟨hj, ej⟩ := List.getElem?_eq_some_iff.mp ho
      rw [List.drop_eq_getElem_cons hj, ej]
    have hll : line.length < LB := by
      have := split_part 10 text line (List.mem_of_getElem? ho)
      omega
    cases (show w1 = V.int (j : Nat) from q1)
    refine ⟨_, gn_pair ev ht g4.bh, wb_tryE 4 sc_with_text.nd (Wout := fun cls d _ H => E cls d H) tkX (L2H.passesAt_of rfl) (c := .ref (ga K "WrongLine")) ⟨rfl, by decide, .inl T.g_WrongLine⟩ fun pn xe tkW => ?_⟩
    refine wb_setC 0 (fn_with_line T) hr (L2N.passAt tkW) (bk, line) ⟨by show bk.stocks.length < LB; omega, hll⟩ (ea_cons (ep_var 0 rfl (up g4.bb hbk)).ev (ea_one (ep_var 3 rfl q2).ev)) gg.bh (fun z2 hz2 vz B5 H5 g5 r5 => ?_) (fun kk hk => ?_) sc_with_text.nd
    · refine wb_nil (wb_nil ⟨B5, g4.bb.trans g5.bb, gg.trans g5, z2, vz, some (.int (j : Nat)), some w2, e, r5, line_few hz2 hb8, ?_, rfl⟩)
      rw [hrun, hdrop, runL_ok hz2]; rfl
    · intro dd H5 s5 h5
      refine ⟨T.x_WrongLine.me, fun a ha oe pn2 xe2 hzn hfl tkS hot => ?_⟩
      obtain ⟨fd5, hm5, hb5, G5⟩ := (xt_Fault (P := P) (w := w) (base := base) T).ex
      have xc := T.x_Fault
      have hfin : Ends1 E H (flt K kk ((j : Int) + 1)) := by
        have := ker (kk, ((1 + j : Nat) : Int)) (by
          rw [hrun, hdrop, runL_err hk])
        have e2 : ((1 + j : Nat) : Int) = (j : Int) + 1 := by omega
        rw [e2] at this
        exact this
      refine wb_cons (L2H.ps_raiseHN hot tkS (L2H.pmk5_oexH xc.o xc.ini xc.tI G5 (L2H.roomH_mark (hr.mono (by decide)) _) hot hb5 pass0 rfl hm5 (pa_cons (pe_suiteE (pe_xf T.x_WrongLine.f T.n_WrongLine_kind hzn.zc hfl we_pe)) (pa_cons we_pe pa_nil)))) ?_
      show WE _ (.Name _ _) _ _ _
      refine wv 4 rfl ?_
      refine ⟨rfl, rfl, dd, _, .int kk, rfl, h5, rfl, ?_⟩
      show WE _ (.BinOp _ _ _ _) _ _ _
      refine (ev_add (B := H5) (ep_var 2 rfl (R := rN j) rfl).ev ep_int.ev) H5 (Same.refl H5) _ fun v9 B9 H9 g9 r9 => ?_
      cases (show v9 = V.int ((j : Int) + 1) from r9)
      refine ⟨by show 2 ≤ 1000; decide, fun az haz => ⟨az, kk, (j : Int) + 1, rfl, upd_same, fun dx n1 n2 => ?_⟩⟩
      rw [upd_ne n2] at n1
      refine ⟨rfl, dx, [("line", .int ((j : Int) + 1)), ("kind", .int kk)], by rw [upd_ne (Ne.symm n2), upd_same], upd_same, n1, ?_⟩
      exact (hfin.on ((gg.hh.trans s5).trans g9.hh)) dx _ (mk_same haz n1 fun b1 m1 m2 => by rw [upd_ne m2, upd_ne m1, upd_ne m2, upd_ne m1]) upd_same
  · rintro Bk σ' H' sB ⟨gk, bk, vb, y, z, e, hbk, hb8, hrun, rfl⟩
    rw [List.length_zipIdx, List.drop_length] at hrun
    exact wb_ret (ep_var 0 rfl hbk).ev gk.bh fun v B7 H7 g7 r => kok bk hrun v B7 H7 (gk.trans g7) r
end
end Fb
/-! FbY1: orders: what is wanted of numbers and rows -/
namespace Fb
open PySem PySem.Spec PyProof.Rows L2
/-- two defs of different full names do not stand at one place -/
theorem fun_apart {K : PySem.W.Frag} {n1 n2 q1 q2 : Str} {s1 s2 : Stmt} {f : Addr} {fd1 fd2 : FuncData} (F : Fun K n1 q1 s1 f fd1) (G : Fun K n2 q2 s2 f fd2) : q1 = q2 := by
  obtain ⟨oc, od, kV, doc, pm, an, cdv, ct, osl, rfl, lk, hcd⟩ := F.ex
  obtain ⟨oc2, od2, kV2, doc2, pm2, an2, cdv2, ct2, osl2, rfl, lk2, hcd2⟩ := G.ex
  rw [lk] at lk2
  have e := Option.some.inj lk2
  injection e with e1 e2 e3 e4
  injection e3 with e5
  unfold PySem.W.fnOf at e5
  injection e5
def rDk (K : PySem.W.Frag) (b : Vbcrah.Book) : Rp := rO (ga K "Desk") [("book", rBk K b)]
section
variable {P : Program} {w : World} {K : PySem.W.Frag} {mg : Str → Option Value} {base : Heap}
theorem ap_Book (T : Txt K mg) : ga K "Book" ≠ ga K "Desk" := fun e => by
  obtain ⟨_, F⟩ := T.d_Book_init
  obtain ⟨_, G⟩ := T.d_Desk_init
  have e2 : He.fAd K ("Book", some "__init__") = He.fAd K ("Desk", some "__init__") := by
    show ma K (ga K "Book") "__init__" = ma K (ga K "Desk") "__init__"
    rw [e]
  rw [e2] at F
  exact absurd (fun_apart F G) (by decide)
theorem ap_Stock (T : Txt K mg) : ga K "Stock" ≠ ga K "Desk" := fun e => by
  obtain ⟨_, F⟩ := T.d_Stock_init
  obtain ⟨_, G⟩ := T.d_Desk_init
  have e2 : He.fAd K ("Stock", some "__init__") = He.fAd K ("Desk", some "__init__") := by
    show ma K (ga K "Stock") "__init__" = ma K (ga K "Desk") "__init__"
    rw [e]
  rw [e2] at F
  exact absurd (fun_apart F G) (by decide)
theorem ap_Order (T : Txt K mg) : ga K "Order" ≠ ga K "Desk" := fun e => by
  obtain ⟨_, F⟩ := T.d_Order_init
  obtain ⟨_, G⟩ := T.d_Desk_init
  have e2 : He.fAd K ("Order", some "__init__") = He.fAd K ("Desk", some "__init__") := by
    show ma K (ga K "Order") "__init__" = ma K (ga K "Desk") "__init__"
    rw [e]
  rw [e2] at F
  exact absurd (fun_apart F G) (by decide)
theorem er_By {C : Addr} {l : List Nat} : Er C (rBy l) := er_L fun _ => er_V
theorem er_St (T : Txt K mg) (s : Vbcrah.Stock) : Er (ga K "Desk") (rSt K s) := er_O (ap_Stock T) fun r hr => by
  simp only [List.mem_cons, List.not_mem_nil, or_false] at hr
  rcases hr with rfl | rfl | rfl | rfl
  · exact er_By
  all_goals exact er_V
theorem er_Od (T : Txt K mg) (o : Vbcrah.Order) : Er (ga K "Desk") (rOd K o) := er_O (ap_Order T) fun r hr => by
  simp only [List.mem_cons, List.not_mem_nil, or_false] at hr
  rcases hr with rfl | rfl | rfl | rfl | rfl | rfl | rfl | rfl | rfl
  · exact er_By
  · exact er_By
  all_goals exact er_V
theorem er_Bk (T : Txt K mg) (b : Vbcrah.Book) : Er (ga K "Desk") (rBk K b) := er_O (ap_Book T) fun r hr => by
  simp only [List.mem_cons, List.not_mem_nil, or_false] at hr
  rcases hr with rfl | rfl | rfl | rfl
  · exact er_L fun s => er_St T s
  · exact er_L fun o => er_Od T o
  all_goals exact er_V
def inI (n lo hi : Int) : Bool := decide (lo ≤ n) && decide (n ≤ hi)
def resWR (a : Int × Int × Int) : Except Int Unit := ask (inI a.1 a.2.1 a.2.2) (-1)
def rowOk (row : List Int) (long : Nat) (g : Int) : Bool := decide (row.length ≤ long) && row.all fun n => inI n 0 g
def resWL (a : List Int × Nat × Int) : Except Int Unit := ask (rowOk a.1 a.2.1 a.2.2) (-1)
theorem fn_want_range (T : Txt K mg) : Fn P w K mg base (L2.CX P w) "want_range" 4 ["number", "least", "greatest"] (spX (fun _ : Int × Int × Int => True) (fun a => [rI a.1, rI a.2.1, rI a.2.2]) (fun a => toX (rf K) (resWR a) rU)) := by
  obtain ⟨fd, F⟩ := T.d_want_range
  refine mkFn T.g_want_range F (b_want_range F) (ok_bodyC F sc_want_range (len_X fun _ => rfl) fun cdv A outer s H vs Q E hr q => ?_)
  obtain ⟨⟨n, lo, hi⟩, B, hs, hp, hv, k⟩ := q
  obtain ⟨v1, v2, v3, rfl, h1, h2, h3⟩ := vs3 hv
  obtain ⟨kok, ker⟩ := ends_ok k
  exact wb_exprC (fn_want T) hr (L2.passAt tkX) (inI n lo hi, -1) True.intro (ea_cons (ev_and (ev_le (ep_var 1 rfl h2).ev (ep_var 0 rfl h1).ev) fun _ => ev_le (ep_var 0 rfl h1).ev (ep_var 2 rfl h3).ev) (ea_one (ep_cI T.i_OUT_OF_RANGE_orders).ev)) hs (fun z hz v B2 H2 g r => wb_nil (kok z hz .non B2 H2 g rfl)) (fun n hn => ker n hn)
theorem fn_want_list (T : Txt K mg) : Fn P w K mg base (L2.CX P w) "want_list" 4 ["row", "longest", "greatest"] (spX (fun _ : List Int × Nat × Int => True) (fun a => [rL rI a.1, rN a.2.1, rI a.2.2]) (fun a => toX (rf K) (resWL a) rU)) := by
  obtain ⟨fd, F⟩ := T.d_want_list
  refine mkFn T.g_want_list F (b_want_list F) (ok_bodyC F sc_want_list (len_X fun _ => rfl) fun cdv A outer s H vs Q E hr q => ?_)
  obtain ⟨⟨row, long, gr⟩, B, hs, hp, hv, k⟩ := q
  obtain ⟨v1, v2, v3, rfl, h1, h2, h3⟩ := vs3 hv
  obtain ⟨kok, ker⟩ := ends_ok k
  refine wb_exprC (fn_want T) hr (L2.passAt tkX) (rowOk row long gr, -1) True.intro (ea_cons (ev_and ((ev_le (ev_len T.f_len (ep_var 0 rfl h1).ev) (ep_var 1 rfl h2).ev).is (by rw [dec_le])) fun _ => (ev_all rfl T.f_all (xs := row.map fun n => inI n 0 gr) (Ev.unF (ef_map 3 (r := fun i : Int => rI i) (q := rB) (f := fun n => inI n 0 gr) rfl sc_want_list.nd (ei_list (ep_var 0 rfl h1).ev (ll h1)) (blkOk_by (N := N_want_list) (sc := defScope s_want_list) (by decide +kernel)) (fun _ _ _ _ _ => pg_name sc_want_list.nd rfl (Or.inl rfl)) ?_))).is (by rw [List.all_map]; rfl)) (ea_one (ep_cI T.i_OUT_OF_RANGE_orders).ev)) hs (fun z hz v B2 H2 g r => wb_nil (kok z hz .non B2 H2 g rfl)) (fun n hn => ker n hn)
  intro n hn v B1 s1 r1 _ _ _ _ _
  exact ev_and (ev_le ep_int.ev (ep_var 3 rfl r1).ev) fun _ => ev_le (ep_var 3 rfl r1).ev (ep_var 2 rfl (up (R := rI gr) s1 h3)).ev
theorem fn_listed (T : Txt K mg) : Fn P w K mg base CX0 "listed" 1 ["row"] (spP (fun a : List Nat => a.length < LB) (fun a => [rBy a]) (fun a => rBy (a.length :: a))) := by
  obtain ⟨fd, F⟩ := T.d_listed
  refine mkFn T.g_listed F (b_listed F) (ok_body F sc_listed (len_P fun _ => rfl) fun cdv A outer s H vs Q E hr q => ?_)
  obtain ⟨l, B, hs, hp, hv, k⟩ := q
  obtain ⟨v1, rfl, h1⟩ := vs1 hv
  have hp : l.length < LB := hp
  exact wb_ret (ev_cat (r := rN) (xs := [l.length]) (ys := l) (ev_list (r := rN) (xs := [l.length]) (ea_one (ev_len T.f_len (ep_var 0 rfl h1).ev)) (by show 1 ≤ LB; decide)) (ep_var 0 rfl h1).ev (by show 1 + l.length ≤ LB; omega)) hs k
end
end Fb
/-! FbY2: the desk's wishes -/
namespace Fb
open PySem PySem.Spec PyProof.Rows L2
section
variable {X : Cx} {e o : Expr} {es : List Expr} {σ : L2.St} {B H : Hp} {pos pos2 apos p2 : Pos} {rest : List Stmt} {D : L2.Ends} {W : WX} {y m : Str} {k : Nat} {ps : List Str} {α β : Type} {pre : α → Prop} {args : α → List Rp} {we : Int → XF} {res : α → Except Int β} {f : β → Rp} {CX : CXT} {C0 : Addr} {rs : List (Str × Rp)} {Rs : List Rp} {pl : Sem Bool}
theorem wb_exprM (cl : Cls X.K C0) (F : Mt X.prog X.w X.K X.mg X.base CX C0 m k ps (spX pre args (fun a => toX we (res a) f))) (hr : Room k X.A) (hx : ∀ σ, PassesAt CX X σ (L2.WE W σ)) (a : α) (hp : pre a) (ho : Ev X o σ B (rO C0 rs)) (ha : EvA X (e :: es) σ B Rs) (hz : args a = rO C0 rs :: Rs) (s : Same B H)
    (k1 : ∀ z, res a = .ok z → ∀ v B2 H2, Gr B H B2 H2 → (f z).p v B2 → WB X rest D σ H2) (k2 : ∀ n, res a = .error n → Ends1 (fun c d H => W c d σ H) H (we n)) (hm : rs.lookup m = none := by rfl) (ht : Dispatch X o m apos (e :: es) pos pl := by rfl)
    (he : starEach (e :: es) X.env = (false, eval e X.env) :: starEach es X.env := by rfl) (hpl : (backTo pos (starEach es X.env)).any (·.1) = false := by rfl) (hs : swapsWith (.Call (.Attribute o m apos) (e :: es) [] pos) none pos2.line X.env = pure false := by rfl) : WB X (.Expr (.Call (.Attribute o m apos) (e :: es) [] pos) pos2 :: rest) D σ H := by
  cases h : res a with
  | ok z => exact wb_expr (ev_methX cl F hr hx a hp (R := f z) (by rw [h]; rfl) ho ha hz hm ht he hpl) s (k1 z h) hs
  | error n => exact wb_exprR (er_methX cl F hr hx a hp (ef := we n) (by rw [h]; rfl) ho ha hz hm ht he hpl) s (k2 n h) hs
theorem wb_setM (i : Nat) (cl : Cls X.K C0) (F : Mt X.prog X.w X.K X.mg X.base CX C0 m k ps (spX pre args (fun a => toX we (res a) f))) (hr : Room k X.A) (hx : ∀ σ, PassesAt CX X σ (L2.WE W σ)) (a : α) (hp : pre a) (ho : Ev X o σ B (rO C0 rs)) (ha : EvA X (e :: es) σ B Rs) (hz : args a = rO C0 rs :: Rs) (s : Same B H)
    (k1 : ∀ z, res a = .ok z → ∀ v B2 H2, Gr B H B2 H2 → (f z).p v B2 → WB X rest D (σ.set i (some v)) H2) (k2 : ∀ n, res a = .error n → Ends1 (fun c d H => W c d σ H) H (we n)) (hN : X.N.Nodup) (hi : X.N[i]? = some y := by rfl) (hy : Loc X.env.scope y := by first | exact Or.inl rfl | exact Or.inr rfl)
    (hf : X.fn y = true ∨ X.env.scope.names.lookup y = some .local := by first | exact .inl rfl | exact .inr rfl) (hm : rs.lookup m = none := by rfl) (ht : Dispatch X o m apos (e :: es) pos pl := by rfl)
    (he : starEach (e :: es) X.env = (false, eval e X.env) :: starEach es X.env := by rfl) (hpl : (backTo pos (starEach es X.env)).any (·.1) = false := by rfl) (hs : swapsWithSole [.Name y p2] (.Call (.Attribute o m apos) (e :: es) [] pos) pos2.line X.env = pure false := by rfl)
    (hw : swappedStores [.Name y p2] (.Call (.Attribute o m apos) (e :: es) [] pos) X.env = pure none := by rfl) (h1 : (assignEach [.Name y p2] X.env).map (·.2) = [assign (.Name y p2) X.env] := by rfl) : WB X (.Assign [.Name y p2] (.Call (.Attribute o m apos) (e :: es) [] pos) pos2 :: rest) D σ H := by
  cases h : res a with
  | ok z => exact wb_set i (ev_methX cl F hr hx a hp (R := f z) (by rw [h]; rfl) ho ha hz hm ht he hpl) s (k1 z h) hN hi hy hf hs hw h1
  | error n => exact wb_setR (er_methX cl F hr hx a hp (ef := we n) (by rw [h]; rfl) ho ha hz hm ht he hpl) s (k2 n h) (pg_name hN hi hy hf) hs hw h1
end
section
variable {K : PySem.W.Frag} {mg : Str → Option Value} {X : Cx} {e : Expr} {σ : L2.St} {B : Hp} {pos : Pos} {b : Vbcrah.Book}
theorem ep_dk_book (T : Txt K mg) (h : EvP X e σ B (rDk K b)) (hb : attributeBase e "book" X.env (eval e X.env) = eval e X.env := by rfl) (hK : X.K = K := by rfl) : EvP X (.Attribute e "book" pos) σ B (rBk K b) := by subst hK; exact ep_fld T.c_Desk T.n_Desk_book h rfl hb
end
section
variable {P : Program} {w : World} {K : PySem.W.Frag} {mg : Str → Option Value} {base : Heap}
def resWS (a : Vbcrah.Book × Int) : Except Int Unit := (resWR (a.2, 0, 7)).bind fun _ => ask (decide (a.2 < (a.1.stocks.length : Int))) (-3)
def resWO (a : Vbcrah.Book × Int) : Except Int Unit := (resWR (a.2, 0, 7)).bind fun _ => ask (decide (a.2 < (a.1.orders.length : Int))) (-4)
def sorted8 (row : List Int) : List Nat := (List.range 8).filter fun j => (Vbcrah.nats row).contains j
def resSet (a : Vbcrah.Book × List Int) : Except Int (List Nat) := (resWL (a.2, 8, 7)).bind fun _ => (ask (a.2.all fun n => decide (n < (a.1.orders.length : Int))) (-4)).bind fun _ => .ok (sorted8 a.2)
theorem mt_want_stock (T : Txt K mg) : Mt P w K mg base (L2.CX P w) (ga K "Desk") "want_stock" 5 ["self", "i"] (spX (fun _ : Vbcrah.Book × Int => True) (fun a => [rDk K a.1, rI a.2]) (fun a => toX (rf K) (resWS a) rU)) := by
  obtain ⟨fd, F⟩ := T.d_Desk_want_stock
  refine mkMt T.m_Desk_want_stock (b_Desk_want_stock F) (ok_bodyC F sc_Desk_want_stock (len_X fun _ => rfl) fun cdv A outer s H vs Q E hr q => ?_)
  obtain ⟨⟨b, n⟩, B, hs, hp, hv, k⟩ := q
  obtain ⟨v1, v2, rfl, h1, h2⟩ := vs2 hv
  obtain ⟨kok, ker⟩ := ends_ok k
  refine wb_exprC (fn_want_range T) hr (L2.passAt tkX) (n, 0, 7) True.intro (ea_cons (ep_var 1 rfl h2).ev (ea_cons ep_int.ev (ea_one (ep_cI T.i_LAST_NUMBER).ev))) hs (fun z1 hz1 v B2 H2 g2 r2 => ?_) (fun n hn => ker n (bind_err hn))
  have e1 : resWS (b, n) = _ := bind_ok hz1
  exact wb_exprC (fn_want T) (hr.mono (by decide)) (L2.passAt tkX) (decide (n < (b.stocks.length : Int)), -3) True.intro (ea_cons (ev_lt (ep_var 1 rfl (up (R := rI n) g2.bb h2)).ev (ev_len T.f_len (ep_bk_stocks T (ep_dk_book T (ep_var 0 rfl (up g2.bb h1)))).ev)) (ea_one (ep_cI T.i_NO_STOCK).ev)) g2.bh (fun z2 hz2 v B3 H3 g3 r3 => wb_nil (kok z2 (e1.trans hz2) .non B3 H3 (g2.trans g3) rfl)) (fun n hn => (ker n (e1.trans hn)).on g2.hh)
theorem mt_want_order (T : Txt K mg) : Mt P w K mg base (L2.CX P w) (ga K "Desk") "want_order" 5 ["self", "j"] (spX (fun _ : Vbcrah.Book × Int => True) (fun a => [rDk K a.1, rI a.2]) (fun a => toX (rf K) (resWO a) rU)) := by
  obtain ⟨fd, F⟩ := T.d_Desk_want_order
  refine mkMt T.m_Desk_want_order (b_Desk_want_order F) (ok_bodyC F sc_Desk_want_order (len_X fun _ => rfl) fun cdv A outer s H vs Q E hr q => ?_)
  obtain ⟨⟨b, n⟩, B, hs, hp, hv, k⟩ := q
  obtain ⟨v1, v2, rfl, h1, h2⟩ := vs2 hv
  obtain ⟨kok, ker⟩ := ends_ok k
  refine wb_exprC (fn_want_range T) hr (L2.passAt tkX) (n, 0, 7) True.intro (ea_cons (ep_var 1 rfl h2).ev (ea_cons ep_int.ev (ea_one (ep_cI T.i_LAST_NUMBER).ev))) hs (fun z1 hz1 v B2 H2 g2 r2 => ?_) (fun n hn => ker n (bind_err hn))
  have e1 : resWO (b, n) = _ := bind_ok hz1
  exact wb_exprC (fn_want T) (hr.mono (by decide)) (L2.passAt tkX) (decide (n < (b.orders.length : Int)), -4) True.intro (ea_cons (ev_lt (ep_var 1 rfl (up (R := rI n) g2.bb h2)).ev (ev_len T.f_len (ep_bk_orders T (ep_dk_book T (ep_var 0 rfl (up g2.bb h1)))).ev)) (ea_one (ep_cI T.i_NO_ORDER).ev)) g2.bh (fun z2 hz2 v B3 H3 g3 r3 => wb_nil (kok z2 (e1.trans hz2) .non B3 H3 (g2.trans g3) rfl)) (fun n hn => (ker n (e1.trans hn)).on g2.hh)
theorem row_nats {row : List Int} {long : Nat} {g : Int} (h : rowOk row long g = true) : (Vbcrah.nats row).map (fun n : Nat => (n : Int)) = row ∧ row.length ≤ long ∧ ∀ j ∈ Vbcrah.nats row, (j : Int) ≤ g := by
  unfold rowOk at h
  rw [Bool.and_eq_true] at h
  have h2 := List.all_eq_true.mp h.2
  have h3 : ∀ n ∈ row, 0 ≤ n ∧ n ≤ g := fun n hn => by
    have := h2 n hn
    unfold inI at this
    rw [Bool.and_eq_true] at this
    exact ⟨of_decide_eq_true this.1, of_decide_eq_true this.2⟩
  refine ⟨?_, of_decide_eq_true h.1, fun j hj => ?_⟩
  · unfold Vbcrah.nats
    rw [List.map_map]
    conv => rhs; rw [← List.map_id row]
    refine List.map_congr_left fun n hn => ?_
    have := (h3 n hn).1
    show ((n.toNat : Nat) : Int) = n
    omega
  · unfold Vbcrah.nats at hj
    obtain ⟨n, hn, rfl⟩ := List.mem_map.mp hj
    have := h3 n hn
    omega
theorem rI_nats {row : List Int} {long : Nat} {g : Int} {v : V} {B : Hp} (h : rowOk row long g = true) (r : (rL rI row).p v B) : (rBy (Vbcrah.nats row)).p v B := rL_nat.mpr (by rw [(row_nats h).1]; exact r)
theorem rng_rise {n : Nat} {p : Nat → Bool} : ((List.range n).filter p).Pairwise (· < ·) := List.pairwise_lt_range.filter _
theorem mt_set_of (T : Txt K mg) : Mt P w K mg base (L2.CX P w) (ga K "Desk") "set_of" 5 ["self", "row"] (spX (fun _ : Vbcrah.Book × List Int => True) (fun a => [rDk K a.1, rL rI a.2]) (fun a => toX (rf K) (resSet a) rBy)) := by
  obtain ⟨fd, F⟩ := T.d_Desk_set_of
  refine mkMt T.m_Desk_set_of (b_Desk_set_of F) (ok_bodyC F sc_Desk_set_of (len_X fun _ => rfl) fun cdv A outer s H vs Q E hr q => ?_)
  obtain ⟨⟨b, row⟩, B, hs, hp, hv, k⟩ := q
  obtain ⟨v1, v2, rfl, h1, h2⟩ := vs2 hv
  obtain ⟨kok, ker⟩ := ends_ok k
  refine wb_exprC (fn_want_list T) hr (L2.passAt tkX) (row, 8, 7) True.intro (ea_cons (ep_var 1 rfl h2).ev (ea_cons (ep_cI T.i_MOST_TOLD).ev (ea_one (ep_cI T.i_LAST_NUMBER).ev))) hs (fun z1 hz1 v B2 H2 g2 r2 => ?_) (fun n hn => ker n (bind_err hn))
  have e1 : resSet (b, row) = _ := bind_ok hz1
  have hrow := ask_ok hz1
  obtain ⟨en, ln, gn⟩ := row_nats (row := row) (long := 8) (g := 7) hrow
  refine wb_exprC (fn_want T) (hr.mono (by decide)) (L2.passAt tkX) (row.all fun n => decide (n < (b.orders.length : Int)), -4) True.intro (ea_cons ((ev_all rfl T.f_all (xs := row.map fun n => decide (n < (b.orders.length : Int))) (Ev.unF (ef_map 2 (r := fun i : Int => rI i) (q := rB) (f := fun n => decide (n < (b.orders.length : Int))) rfl sc_Desk_set_of.nd (ei_list (ep_var 1 rfl (up g2.bb h2)).ev (ll h2)) (blkOk_by (N := N_Desk_set_of) (sc := defScope s_Desk_set_of) (by decide +kernel)) (fun _ _ _ _ _ => pg_name sc_Desk_set_of.nd rfl (Or.inl rfl)) (fun n hn v B1 s1 r1 _ _ _ _ _ => ev_lt (ep_var 2 rfl r1).ev (ev_len T.f_len (ep_bk_orders T (ep_dk_book T (ep_var 0 rfl (up (g2.bb.trans s1) h1)))).ev))))).is (by rw [List.all_map]; rfl)) (ea_one (ep_cI T.i_NO_ORDER).ev)) g2.bh (fun z2 hz2 v B3 H3 g3 r3 => ?_) (fun n hn => (ker n (e1.trans (bind_err hn))).on g2.hh)
  have e2 := e1.trans (bind_ok hz2)
  have g3' := g2.trans g3
  refine wb_ret (ev_sortset (xs := Vbcrah.nats row) (l := sorted8 row) rfl T.f_sorted T.f_set (ep_var 1 rfl (rI_nats hrow (up (R := rL rI row) g3'.bb h2))).ev (by unfold Vbcrah.nats; rw [List.length_map]; omega) ?_ (by unfold sorted8; have := List.length_filter_le (fun j => (Vbcrah.nats row).contains j) (List.range 8); rw [List.length_range] at this; unfold LB; omega)) g3'.bh fun v B4 H4 g4 r4 => kok _ e2 v B4 H4 (g3'.trans g4) r4
  intro ns hn hm
  refine FbM.rise_uniq hn (FbM.map_rise rng_rise) fun k => (hm k).trans ?_
  rw [List.mem_map, List.mem_map]
  constructor
  · rintro ⟨j, hj, rfl⟩
    refine ⟨j, List.mem_filter.mpr ⟨List.mem_range.mpr ?_, List.contains_iff_mem.mpr hj⟩, rfl⟩
    have := gn j hj
    omega
  · rintro ⟨j, hj, rfl⟩
    exact ⟨j, List.contains_iff_mem.mp (List.mem_filter.mp hj).2, rfl⟩
end
end Fb
/-! FbY3: asks that leave the desk alone -/
namespace Fb
open PySem PySem.Spec PyProof.Rows L2
/-- a book that can be held -/
structure BV (b : Vbcrah.Book) : Prop where
  ok : BkOk b
  bags : ∀ o ∈ b.orders, o.bags ≤ 60
theorem BV.ns {b : Vbcrah.Book} (h : BV b) : b.stocks.length ≤ 8 := h.ok.ns
theorem BV.no {b : Vbcrah.Book} (h : BV b) : b.orders.length ≤ 8 := h.ok.no
theorem BV.ful {b : Vbcrah.Book} (h : BV b) : FulOk b := ⟨h.no, fun k => by
  unfold Vbcrah.wants
  rw [List.getD_eq_getElem?_getD, List.getElem?_map]
  cases e : b.orders[k]? with
  | none => show (0 : Nat) < 256; decide
  | some o =>
    have := h.bags o (List.mem_of_getElem? e)
    show o.bags < 256
    omega⟩
structure AskA where
  b : Vbcrah.Book
  ns : List Int
  row : List Int
abbrev AskOk (k : Nat) (a : AskA) : Prop := BV a.b ∧ a.ns.length = k ∧ a.row.length ≤ 100000
abbrev askArgs (K : PySem.W.Frag) (a : AskA) : List Rp := [rDk K a.b, rL rI a.ns, rL rI a.row]
abbrev AskR := AskA → Except Int (List Int)
abbrev spA (K : PySem.W.Frag) (k : Nat) (res : AskR) : Sp := spX (AskOk k) (askArgs K) (fun a => toX (rf K) (res a) (rL rI))
abbrev iN (l : List Nat) : List Int := l.map fun n : Nat => (n : Int)
theorem toI {l : List Nat} {v : V} {B : Hp} (h : (rBy l).p v B) : (rL rI (iN l)).p v B := rL_nat.mp h
theorem ev_toI {X : Cx} {e : Expr} {σ : L2.St} {B : Hp} {l : List Nat} (h : Ev X e σ B (rBy l)) : Ev X e σ B (rL rI (iN l)) := h.imp fun v H r => toI r
theorem ofI {n : Int} (h : 0 ≤ n) : rI n = rN n.toNat := by
  show rI n = rI ((n.toNat : Nat) : Int)
  congr 1
  omega
theorem ws_ok {b : Vbcrah.Book} {n : Int} {z : Unit} (h : resWS (b, n) = .ok z) : 0 ≤ n ∧ n.toNat < b.stocks.length := by
  obtain ⟨_, h1, h2⟩ := bind_inv h
  have := ask_ok h1
  unfold inI at this
  rw [Bool.and_eq_true] at this
  have a : 0 ≤ n := of_decide_eq_true this.1
  have c : n < (b.stocks.length : Int) := of_decide_eq_true (ask_ok h2)
  omega
theorem wo_ok {b : Vbcrah.Book} {n : Int} {z : Unit} (h : resWO (b, n) = .ok z) : 0 ≤ n ∧ n.toNat < b.orders.length := by
  obtain ⟨_, h1, h2⟩ := bind_inv h
  have := ask_ok h1
  unfold inI at this
  rw [Bool.and_eq_true] at this
  have a : 0 ≤ n := of_decide_eq_true this.1
  have c : n < (b.orders.length : Int) := of_decide_eq_true (ask_ok h2)
  omega
def n0 (a : AskA) : Int := a.ns.getD 0 0
def n1 (a : AskA) : Int := a.ns.getD 1 0
def rAskShown : AskR := fun a => .ok (iN (Vbcrah.shown a.b))
def rAskStock : AskR := fun a => (resWS (a.b, n0 a)).bind fun _ => .ok (iN (((Vbcrah.stockAt a.b (n0 a).toNat).kind.length :: (Vbcrah.stockAt a.b (n0 a).toNat).kind) ++ [(Vbcrah.stockAt a.b (n0 a).toNat).size, (Vbcrah.stockAt a.b (n0 a).toNat).day, (Vbcrah.stockAt a.b (n0 a).toNat).bags]))
def rAskServed : AskR := fun a => .ok (iN (Vbcrah.served a.b))
def rAskFullest : AskR := fun a => .ok (iN (Vbcrah.fullest a.b))
def rAskMost : AskR := fun a => .ok (iN ([Vbcrah.most a.b, (Vbcrah.wants a.b).sum] ++ toldRow a.b (Vbcrah.wants a.b)))
section
variable {X : Cx} {e : Expr} {es : List Expr} {σ : L2.St} {B : Hp} {p pos : Pos}
theorem ev_Ways {b : Vbcrah.Book} (M : Ct X.prog X.w X.K X.mg X.base "Ways" (ga X.K "Ways") 3 ["self", "book"] (spWyI X.K)) (hr : Room 4 X.A) (h8 : b.orders.length ≤ 8) (h : Ev X e σ B (rBk X.K b)) (hg : Gl X "Ways" := by rfl)
    (he : starEach (e :: []) X.env = (false, eval e X.env) :: starEach [] X.env := by rfl) : Ev X (.Call (.Name "Ways" p) [e] [] pos) σ B (rWy X.K b) := ev_make M hr b h8 (ea_one h he) hg (by decide) he (by rfl)
end
section
variable {P : Program} {w : World} {K : PySem.W.Frag} {mg : Str → Option Value} {base : Heap}
theorem fn_ask_shown (T : Txt K mg) : Fn P w K mg base (L2.CX P w) "ask_shown" 5 ["desk", "numbers", "row"] (spA K 0 rAskShown) := by
  obtain ⟨fd, F⟩ := T.d_ask_shown
  refine mkFn T.g_ask_shown F (b_ask_shown F) (ok_bodyC F sc_ask_shown (len_X fun _ => rfl) fun cdv A outer s H vs Q E hr q => ?_)
  obtain ⟨⟨b, ns, row⟩, B, hs, ⟨hb, hn, hrw⟩, hv, k⟩ := q
  obtain ⟨v1, v2, v3, rfl, h1, h2, h3⟩ := vs3 hv
  obtain ⟨kok, ker⟩ := ends_ok (res := rAskShown) (a := ⟨b, ns, row⟩) (f := fun l => rL rI l) (we := rf K) (E := E) k
  exact wb_ret (ev_toI (ev_call (fn_shown T) hr b hb.ok (ea_one (ep_dk_book T (ep_var 0 rfl h1)).ev))) hs fun v B2 H2 g r => kok _ rfl v B2 H2 g r
theorem fn_ask_stock (T : Txt K mg) : Fn P w K mg base (L2.CX P w) "ask_stock" 6 ["desk", "numbers", "row"] (spA K 1 rAskStock) := by
  obtain ⟨fd, F⟩ := T.d_ask_stock
  refine mkFn T.g_ask_stock F (b_ask_stock F) (ok_bodyC F sc_ask_stock (len_X fun _ => rfl) fun cdv A outer s H vs Q E hr q => ?_)
  obtain ⟨⟨b, ns, row⟩, B, hs, ⟨hb, hn, hrw⟩, hv, k⟩ := q
  obtain ⟨v1, v2, v3, rfl, h1, h2, h3⟩ := vs3 hv
  obtain ⟨kok, ker⟩ := ends_ok (res := rAskStock) (a := ⟨b, ns, row⟩) (f := fun l => rL rI l) (we := rf K) (E := E) k
  have hn : ns.length = 1 := hn
  have i0 := getD_at (ns := ns) (p := 0) (by omega)
  refine wb_exprM T.c_Desk (mt_want_stock T) hr (L2.passAt tkX) (b, ns.getD 0 0) True.intro (ep_var 0 rfl h1).ev (ea_one (ev_ix (r := rI) (n := 0) (ep_var 1 rfl h2).ev ep_int.ev i0)) rfl hs (fun z1 hz1 v B2 H2 g2 r2 => ?_) (fun n hn => ker n (bind_err hn))
  obtain ⟨p0, plt⟩ := ws_ok hz1
  have j1 := up g2.bb h1
  have j2 := up g2.bb h2
  refine wb_set 3 (ev_ix (r := rSt K) (n := (ns.getD 0 0).toNat) (ep_bk_stocks T (ep_dk_book T (ep_var 0 rfl j1))).ev (Ev.is (ev_ix (r := rI) (n := 0) (ep_var 1 rfl j2).ev ep_int.ev i0) (ofI p0)) (st_at plt)) g2.bh (fun u B3 H3 g3 r3 => ?_) sc_ask_stock.nd
  have stk : (Vbcrah.stockAt b (ns.getD 0 0).toNat).kind.length ≤ 10 := (hb.ok.st _ (List.mem_of_getElem? (st_at plt))).kind
  exact wb_ret (ev_toI (ev_cat (r := rN) (ev_call (fn_listed T) (hr.mono (by decide)) (Vbcrah.stockAt b (ns.getD 0 0).toNat).kind (by show _ < LB; unfold LB; omega) (ea_one (ep_st_kind T (ep_var 3 rfl r3)).ev)) (ev_list (r := rN) (xs := [(Vbcrah.stockAt b (ns.getD 0 0).toNat).size, (Vbcrah.stockAt b (ns.getD 0 0).toNat).day, (Vbcrah.stockAt b (ns.getD 0 0).toNat).bags]) (ea_cons (ep_st_size T (ep_var 3 rfl r3)).ev (ea_cons (ep_st_day T (ep_var 3 rfl r3)).ev (ea_one (ep_st_bags T (ep_var 3 rfl r3)).ev))) (by show 3 ≤ LB; decide)) (by rw [List.length_cons]; show _ + 3 ≤ LB; unfold LB; omega))) g3.bh fun v B4 H4 g4 r4 => kok _ (bind_ok hz1) v B4 H4 ((g2.trans g3).trans g4) r4
theorem fn_ask_served (T : Txt K mg) : Fn P w K mg base (L2.CX P w) "ask_served" 8 ["desk", "numbers", "row"] (spA K 0 rAskServed) := by
  obtain ⟨fd, F⟩ := T.d_ask_served
  refine mkFn T.g_ask_served F (b_ask_served F) (ok_bodyC F sc_ask_served (len_X fun _ => rfl) fun cdv A outer s H vs Q E hr q => ?_)
  obtain ⟨⟨b, ns, row⟩, B, hs, ⟨hb, hn, hrw⟩, hv, k⟩ := q
  obtain ⟨v1, v2, v3, rfl, h1, h2, h3⟩ := vs3 hv
  obtain ⟨kok, ker⟩ := ends_ok (res := rAskServed) (a := ⟨b, ns, row⟩) (f := fun l => rL rI l) (we := rf K) (E := E) k
  exact wb_ret (ev_toI (ev_call (fn_served T) hr b hb.no (ea_one (ev_Ways (ct_Ways T) (hr.mono (by decide)) hb.no (ep_dk_book T (ep_var 0 rfl h1)).ev)))) hs fun v B2 H2 g r => kok _ rfl v B2 H2 g r
theorem fn_ask_fullest (T : Txt K mg) : Fn P w K mg base (L2.CX P w) "ask_fullest" 8 ["desk", "numbers", "row"] (spA K 0 rAskFullest) := by
  obtain ⟨fd, F⟩ := T.d_ask_fullest
  refine mkFn T.g_ask_fullest F (b_ask_fullest F) (ok_bodyC F sc_ask_fullest (len_X fun _ => rfl) fun cdv A outer s H vs Q E hr q => ?_)
  obtain ⟨⟨b, ns, row⟩, B, hs, ⟨hb, hn, hrw⟩, hv, k⟩ := q
  obtain ⟨v1, v2, v3, rfl, h1, h2, h3⟩ := vs3 hv
  obtain ⟨kok, ker⟩ := ends_ok (res := rAskFullest) (a := ⟨b, ns, row⟩) (f := fun l => rL rI l) (we := rf K) (E := E) k
  exact wb_ret (ev_toI (ev_call (fn_fullest T) hr b hb.ful (ea_one (ev_Ways (ct_Ways T) (hr.mono (by decide)) hb.no (ep_dk_book T (ep_var 0 rfl h1)).ev)))) hs fun v B2 H2 g r => kok _ rfl v B2 H2 g r
end
end Fb
/-! FbY4: more asks that leave the desk alone. Printed by gen_ask.py from FbY4.in -/
namespace Fb
open PySem PySem.Spec PyProof.Rows L2
def odOf (a : AskA) (n : Int) : Vbcrah.Order := Vbcrah.orderAt a.b n.toNat
def rAskOrder : AskR := fun a => (resWO (a.b, n0 a)).bind fun _ => .ok (iN (((odOf a (n0 a)).name.length :: (odOf a (n0 a)).name) ++ ((odOf a (n0 a)).kind.length :: (odOf a (n0 a)).kind) ++ numsO (odOf a (n0 a))) ++ [Vbcrah.bit (odOf a (n0 a)).ground, Vbcrah.bit (odOf a (n0 a)).whole])
def rAskSizes : AskR := fun a => .ok (iN [a.b.stocks.length, a.b.orders.length, a.b.grind, a.b.send, (a.b.stocks.map fun s => s.bags).sum])
def rAskAlone : AskR := fun a => (resWO (a.b, n0 a)).bind fun _ => .ok (iN [Vbcrah.mostBy a.b (Vbcrah.wantOnly a.b [(n0 a).toNat])])
def rAskWhole : AskR := fun a => (ask (decide (a.b.orders.length ≤ 7)) (-9)).bind fun _ => .ok (iN ((mwW a.b).length :: mwW a.b))
theorem mw_mem (b : Vbcrah.Book) : ∀ (l : List (List Nat)) (f : List Nat), (∀ x ∈ l, x.length ≤ b.orders.length) → f.length ≤ b.orders.length → (l.foldl (stepMw b) f).length ≤ b.orders.length
  | [], _, _, h => h
  | x :: l, f, hl, h => by
    rw [List.foldl_cons]
    refine mw_mem b l _ (fun y hy => hl y (by simp [hy])) ?_
    unfold stepMw
    split
    · exact hl x (by simp)
    · exact h
theorem mw_len {b : Vbcrah.Book} (h : b.orders.length ≤ 8) : (mwW b).length < LB := by
  have := mw_mem b (setsOf b) [] (fun x hx => sets_size hx) (Nat.zero_le _)
  unfold mwW LB
  omega
section
variable {P : Program} {w : World} {K : PySem.W.Frag} {mg : Str → Option Value} {base : Heap}
theorem fn_ask_sizes (T : Txt K mg) : Fn P w K mg base (L2.CX P w) "ask_sizes" 1 ["desk", "numbers", "row"] (spA K 0 rAskSizes) := by
  obtain ⟨fd, F⟩ := T.d_ask_sizes
  refine mkFn T.g_ask_sizes F (b_ask_sizes F) (ok_bodyC F sc_ask_sizes (len_X fun _ => rfl) fun cdv A outer s H vs Q E hr q => ?_)
  obtain ⟨⟨b, ns, row⟩, B, hs, ⟨hb, hn, hrw⟩, hv, k⟩ := q
  obtain ⟨v1, v2, v3, rfl, h1, h2, h3⟩ := vs3 hv
  obtain ⟨kok, ker⟩ := ends_ok (res := rAskSizes) (a := ⟨b, ns, row⟩) (f := fun l => rL rI l) (we := rf K) (E := E) k
  have hn : ns.length = 0 := hn
  have hno : b.orders.length ≤ 8 := hb.no
  have hns : b.stocks.length ≤ 8 := hb.ns
  refine wb_set 3 (ep_dk_book T (ep_var 0 rfl h1)).ev hs (fun u B2 H2 g r => ?_) sc_ask_sizes.nd
  exact wb_ret (ev_toI (ev_list (r := rN) (xs := [b.stocks.length, b.orders.length, b.grind, b.send, (b.stocks.map fun s => s.bags).sum]) (ea_cons (ev_len T.f_len (ep_bk_stocks T (ep_var 3 rfl r)).ev) (ea_cons (ev_len T.f_len (ep_bk_orders T (ep_var 3 rfl r)).ev) (ea_cons (ep_bk_grind T (ep_var 3 rfl r)).ev (ea_cons (ep_bk_send T (ep_var 3 rfl r)).ev (ea_one (ev_sumN rfl T.f_sum (Ev.unF (ef_map 4 (r := rSt K) (q := rN) (f := fun s => s.bags) rfl sc_ask_sizes.nd (ei_list (ep_bk_stocks T (ep_var 3 rfl r)).ev (show b.stocks.length ≤ LB by unfold LB; omega)) (blkOk_by (N := N_ask_sizes) (sc := defScope s_ask_sizes) (by decide +kernel)) (fun _ _ _ _ _ => pg_name sc_ask_sizes.nd rfl (Or.inl rfl)) (fun st hst v B1 s1 r1 _ _ _ _ _ => (ep_st_bags T (ep_var 4 rfl r1)).ev))))))))) (by show 5 ≤ LB; decide))) g.bh fun v B3 H3 g3 r3 => kok _ rfl v B3 H3 (g.trans g3) r3
theorem fn_ask_alone (T : Txt K mg) : Fn P w K mg base (L2.CX P w) "ask_alone" 7 ["desk", "numbers", "row"] (spA K 1 rAskAlone) := by
  obtain ⟨fd, F⟩ := T.d_ask_alone
  refine mkFn T.g_ask_alone F (b_ask_alone F) (ok_bodyC F sc_ask_alone (len_X fun _ => rfl) fun cdv A outer s H vs Q E hr q => ?_)
  obtain ⟨⟨b, ns, row⟩, B, hs, ⟨hb, hn, hrw⟩, hv, k⟩ := q
  obtain ⟨v1, v2, v3, rfl, h1, h2, h3⟩ := vs3 hv
  obtain ⟨kok, ker⟩ := ends_ok (res := rAskAlone) (a := ⟨b, ns, row⟩) (f := fun l => rL rI l) (we := rf K) (E := E) k
  have hn : ns.length = 1 := hn
  have hno : b.orders.length ≤ 8 := hb.no
  have hns : b.stocks.length ≤ 8 := hb.ns
  have i0 := getD_at (ns := ns) (p := 0) (by omega)
  refine wb_exprM T.c_Desk (mt_want_order T) (hr.mono (by decide)) (L2.passAt tkX) (b, ns.getD 0 0) True.intro (ep_var 0 rfl h1).ev (ea_one (ev_ix (r := rI) (n := 0) (ep_var 1 rfl h2).ev ep_int.ev i0)) rfl hs (fun z1 hz1 v B2 H2 g2 r2 => ?_) (fun n hn => ker n (bind_err hn))
  obtain ⟨p0, plt⟩ := wo_ok hz1
  have j1 := up g2.bb h1
  have j2 := up g2.bb h2
  exact wb_ret (ev_toI (ev_list (r := rN) (xs := [Vbcrah.mostBy b (Vbcrah.wantOnly b [(ns.getD 0 0).toNat])]) (ea_one (ev_call (fn_most T) hr (b, Vbcrah.wantOnly b [(ns.getD 0 0).toNat]) (only_len b _) (ea_cons (ev_Ways (ct_Ways T) (hr.mono (by decide)) hno (ep_dk_book T (ep_var 0 rfl j1)).ev) (ea_one (ev_call (fn_wants_of T) (hr.mono (by decide)) (b, [(ns.getD 0 0).toNat]) True.intro (ea_cons (ep_dk_book T (ep_var 0 rfl j1)).ev (ea_one (ev_list (r := rN) (xs := [(ns.getD 0 0).toNat]) (ea_one (Ev.is (ev_ix (r := rI) (n := 0) (ep_var 1 rfl j2).ev ep_int.ev i0) (ofI p0))) (by show 1 ≤ LB; decide))))))))) (by show 1 ≤ LB; decide))) g2.bh fun v B4 H4 g4 r4 => kok _ (bind_ok hz1) v B4 H4 (g2.trans g4) r4
theorem fn_ask_whole (T : Txt K mg) : Fn P w K mg base (L2.CX P w) "ask_whole" 9 ["desk", "numbers", "row"] (spA K 0 rAskWhole) := by
  obtain ⟨fd, F⟩ := T.d_ask_whole
  refine mkFn T.g_ask_whole F (b_ask_whole F) (ok_bodyC F sc_ask_whole (len_X fun _ => rfl) fun cdv A outer s H vs Q E hr q => ?_)
  obtain ⟨⟨b, ns, row⟩, B, hs, ⟨hb, hn, hrw⟩, hv, k⟩ := q
  obtain ⟨v1, v2, v3, rfl, h1, h2, h3⟩ := vs3 hv
  obtain ⟨kok, ker⟩ := ends_ok (res := rAskWhole) (a := ⟨b, ns, row⟩) (f := fun l => rL rI l) (we := rf K) (E := E) k
  have hn : ns.length = 0 := hn
  have hno : b.orders.length ≤ 8 := hb.no
  have hns : b.stocks.length ≤ 8 := hb.ns
  refine wb_exprC (fn_want T) (hr.mono (by decide)) (L2.passAt tkX) (decide (b.orders.length ≤ 7), -9) True.intro (ea_cons ((ev_le (ev_len T.f_len (ep_bk_orders T (ep_dk_book T (ep_var 0 rfl h1))).ev) (ep_cI T.i_MOST_TRIED).ev).is (congrArg rB (dec_le b.orders.length 7))) (ea_one (ep_cI T.i_TOO_MANY_ORDERS).ev)) hs (fun z1 hz1 v B2 H2 g2 r2 => ?_) (fun n hn => ker n (bind_err hn))
  have j1 := up g2.bb h1
  exact wb_ret (ev_toI (ev_call (fn_listed T) (hr.mono (by decide)) (mwW b) (mw_len hno) (ea_one (ev_call (fn_most_whole T) hr b True.intro (ea_one (ev_Ways (ct_Ways T) (hr.mono (by decide)) hno (ep_dk_book T (ep_var 0 rfl j1)).ev)))))) g2.bh fun v B4 H4 g4 r4 => kok _ (bind_ok hz1) v B4 H4 (g2.trans g4) r4
end
end Fb
/-! FbY5: more asks that leave the desk alone. Printed by gen_ask.py from FbY5.in -/
namespace Fb
open PySem PySem.Spec PyProof.Rows L2
def rAskTogether : AskR := fun a => (resSet (a.b, a.row)).bind fun l => .ok ((if Vbcrah.mostBy a.b (Vbcrah.wantOnly a.b l) = (Vbcrah.wantOnly a.b l).sum then 1 else 0) :: iN [(Vbcrah.wantOnly a.b l).sum, Vbcrah.mostBy a.b (Vbcrah.wantOnly a.b l)])
def rAskFind : AskR := fun a => (resWL (a.row, 9, 255)).bind fun _ => .ok (if placeOf a.b (Vbcrah.nats a.row) < 0 then [0] else [1, placeOf a.b (Vbcrah.nats a.row)])
section
variable {P : Program} {w : World} {K : PySem.W.Frag} {mg : Str → Option Value} {base : Heap}
theorem ev_int1 {X : Cx} {e : Expr} {σ : L2.St} {B : Hp} {p pos : Pos} {x y : Nat} (hm : X.mg "int" = none) (h : Ev X e σ B (rB (decide ((x : Int) = (y : Int))))) (hg : Gl X "int" := by rfl)
    (he : starEach (e :: []) X.env = (false, eval e X.env) :: starEach [] X.env := by rfl) : Ev X (.Call (.Name "int" p) [e] [] pos) σ B (rI (if x = y then 1 else 0)) :=
  (ev_intB hm h hg he).is (by
    rw [dec_eq]
    by_cases q : x = y
    · rw [decide_eq_true q, if_pos q]; rfl
    · rw [decide_eq_false q, if_neg q]; rfl)
theorem fn_ask_find (T : Txt K mg) : Fn P w K mg base (L2.CX P w) "ask_find" 5 ["desk", "numbers", "row"] (spA K 0 rAskFind) := by
  obtain ⟨fd, F⟩ := T.d_ask_find
  refine mkFn T.g_ask_find F (b_ask_find F) (ok_bodyC F sc_ask_find (len_X fun _ => rfl) fun cdv A outer s H vs Q E hr q => ?_)
  obtain ⟨⟨b, ns, row⟩, B, hs, ⟨hb, hn, hrw⟩, hv, k⟩ := q
  obtain ⟨v1, v2, v3, rfl, h1, h2, h3⟩ := vs3 hv
  obtain ⟨kok, ker⟩ := ends_ok (res := rAskFind) (a := ⟨b, ns, row⟩) (f := fun l => rL rI l) (we := rf K) (E := E) k
  have hn : ns.length = 0 := hn
  have hno : b.orders.length ≤ 8 := hb.no
  have hns : b.stocks.length ≤ 8 := hb.ns
  refine wb_exprC (fn_want_list T) hr (L2.passAt tkX) (row, 9, 255) True.intro (ea_cons (ep_var 2 rfl h3).ev (ea_cons (ep_cI T.i_LONGEST_NAME).ev (ea_one (ep_cI T.i_GREATEST_BYTE).ev))) hs (fun z1 hz1 v B2 H2 g2 r2 => ?_) (fun n hn => ker n (bind_err hn))
  have hrow : rowOk row 9 255 = true := ask_ok hz1
  have j1 := up g2.bb h1
  have j3 := rI_nats hrow (up (R := rL rI row) g2.bb h3)
  refine wb_set 3 (ev_meth T.c_Book (mt_name_place T) (hr.mono (by decide)) (b, Vbcrah.nats row) True.intro (ep_dk_book T (ep_var 0 rfl j1)).ev (ea_one (ep_var 2 rfl j3).ev) rfl rfl) g2.bh (fun u B3 H3 g3 r3 => ?_) sc_ask_find.nd
  cases (show u = V.int (placeOf b (Vbcrah.nats row)) from r3)
  refine wb_ret (ev_ite (R := rL rI (if placeOf b (Vbcrah.nats row) < 0 then [0] else [1, placeOf b (Vbcrah.nats row)])) (et_lt (ep_var 3 rfl (R := rI _) rfl).ev ep_int.ev) (fun hc => (ev_list (r := rI) (xs := [0]) (ea_one ep_int.ev) (by show 1 ≤ LB; decide)).is (by rw [if_pos (of_decide_eq_true hc)])) fun hc => (ev_list (r := rI) (xs := [1, placeOf b (Vbcrah.nats row)]) (ea_cons ep_int.ev (ea_one (ep_var 3 rfl (R := rI _) rfl).ev)) (by show 2 ≤ LB; decide)).is (by rw [if_neg (of_decide_eq_false hc)])) g3.bh fun v B4 H4 g4 r4 => kok _ (bind_ok hz1) v B4 H4 ((g2.trans g3).trans g4) r4
end
end Fb
/-! FbY6: suits, order. Printed by gen_ask.py from FbY6.in -/
namespace Fb
open PySem PySem.Spec PyProof.Rows L2
def stOf (a : AskA) (n : Int) : Vbcrah.Stock := Vbcrah.stockAt a.b n.toNat
def rAskSuits : AskR := fun a => (resWR (n0 a, 0, 7)).bind fun _ => (resWR (n1 a, 0, 7)).bind fun _ => (resWS (a.b, n0 a)).bind fun _ => (resWO (a.b, n1 a)).bind fun _ => .ok [Vbcrah.bit (Vbcrah.suits (stOf a (n0 a)) (odOf a (n1 a))), (stOf a (n0 a)).day + (odOf a (n1 a)).lo, (stOf a (n0 a)).day + (odOf a (n1 a)).hi]
section
variable {P : Program} {w : World} {K : PySem.W.Frag} {mg : Str → Option Value} {base : Heap}
theorem fn_ask_suits (T : Txt K mg) : Fn P w K mg base (L2.CX P w) "ask_suits" 6 ["desk", "numbers", "row"] (spA K 2 rAskSuits) := by
  obtain ⟨fd, F⟩ := T.d_ask_suits
  refine mkFn T.g_ask_suits F (b_ask_suits F) (ok_bodyC F sc_ask_suits (len_X fun _ => rfl) fun cdv A outer s H vs Q E hr q => ?_)
  obtain ⟨⟨b, ns, row⟩, B, hs, ⟨hb, hn, hrw⟩, hv, k⟩ := q
  obtain ⟨v1, v2, v3, rfl, h1, h2, h3⟩ := vs3 hv
  obtain ⟨kok, ker⟩ := ends_ok (res := rAskSuits) (a := ⟨b, ns, row⟩) (f := fun l => rL rI l) (we := rf K) (E := E) k
  have hn : ns.length = 2 := hn
  have hno : b.orders.length ≤ 8 := hb.no
  have hns : b.stocks.length ≤ 8 := hb.ns
  have i0 := getD_at (ns := ns) (p := 0) (by omega)
  have i1 := getD_at (ns := ns) (p := 1) (by omega)
  refine wb_exprC (fn_want_range T) (hr.mono (by decide)) (L2.passAt tkX) (ns.getD 0 0, 0, 7) True.intro (ea_cons (ev_ix (r := rI) (n := 0) (ep_var 1 rfl h2).ev ep_int.ev i0) (ea_cons ep_int.ev (ea_one (ep_cI T.i_LAST_NUMBER).ev))) hs (fun z1 hz1 v B2 H2 g2 r2 => ?_) (fun n hn => ker n (bind_err hn))
  have e1 : rAskSuits ⟨b, ns, row⟩ = _ := bind_ok hz1
  refine wb_exprC (fn_want_range T) (hr.mono (by decide)) (L2.passAt tkX) (ns.getD 1 0, 0, 7) True.intro (ea_cons (ev_ix (r := rI) (n := 1) (ep_var 1 rfl (up g2.bb h2)).ev ep_int.ev i1) (ea_cons ep_int.ev (ea_one (ep_cI T.i_LAST_NUMBER).ev))) g2.bh (fun z2 hz2 v B3 H3 g3 r3 => ?_) (fun n hn => (ker n (e1.trans (bind_err hn))).on g2.hh)
  have e2 := e1.trans (bind_ok hz2)
  have g3' := g2.trans g3
  refine wb_exprM T.c_Desk (mt_want_stock T) hr (L2.passAt tkX) (b, ns.getD 0 0) True.intro (ep_var 0 rfl (up g3'.bb h1)).ev (ea_one (ev_ix (r := rI) (n := 0) (ep_var 1 rfl (up g3'.bb h2)).ev ep_int.ev i0)) rfl g3'.bh (fun z3 hz3 v B4 H4 g4 r4 => ?_) (fun n hn => (ker n (e2.trans (bind_err hn))).on g3'.hh)
  have e3 := e2.trans (bind_ok hz3)
  have g4' := g3'.trans g4
  refine wb_exprM T.c_Desk (mt_want_order T) hr (L2.passAt tkX) (b, ns.getD 1 0) True.intro (ep_var 0 rfl (up g4'.bb h1)).ev (ea_one (ev_ix (r := rI) (n := 1) (ep_var 1 rfl (up g4'.bb h2)).ev ep_int.ev i1)) rfl g4'.bh (fun z4 hz4 v B5 H5 g5 r5 => ?_) (fun n hn => (ker n (e3.trans (bind_err hn))).on g4'.hh)
  have e4 := e3.trans (bind_ok hz4)
  have g5' := g4'.trans g5
  obtain ⟨p0, plt⟩ := ws_ok hz3
  obtain ⟨q0, qlt⟩ := wo_ok hz4
  have j1 := up g5'.bb h1
  have j2 := up g5'.bb h2
  refine wb_par 3 4 (ea_cons (ev_ix (r := rSt K) (n := (ns.getD 0 0).toNat) (ep_bk_stocks T (ep_dk_book T (ep_var 0 rfl j1))).ev (Ev.is (ev_ix (r := rI) (n := 0) (ep_var 1 rfl j2).ev ep_int.ev i0) (ofI p0)) (st_at plt)) (ea_one (ev_ix (r := rOd K) (n := (ns.getD 1 0).toNat) (ep_bk_orders T (ep_dk_book T (ep_var 0 rfl j1))).ev (Ev.is (ev_ix (r := rI) (n := 1) (ep_var 1 rfl j2).ev ep_int.ev i1) (ofI q0)) (od_at qlt)))) g5'.bh (fun x y B6 H6 g6 r6 r7 => ?_) sc_ask_suits.nd
  exact wb_ret (ev_list (r := rI) (xs := [Vbcrah.bit (Vbcrah.suits (Vbcrah.stockAt b (ns.getD 0 0).toNat) (Vbcrah.orderAt b (ns.getD 1 0).toNat)), (Vbcrah.stockAt b (ns.getD 0 0).toNat).day + (Vbcrah.orderAt b (ns.getD 1 0).toNat).lo, (Vbcrah.stockAt b (ns.getD 0 0).toNat).day + (Vbcrah.orderAt b (ns.getD 1 0).toNat).hi]) (ea_cons (ev_intB T.f_int (ev_call (fn_is_right T) (hr.mono (by decide)) (Vbcrah.stockAt b (ns.getD 0 0).toNat, Vbcrah.orderAt b (ns.getD 1 0).toNat) True.intro (ea_cons (ep_var 3 rfl r6).ev (ea_one (ep_var 4 rfl r7).ev)))) (ea_cons (ev_add (ep_st_day T (ep_var 3 rfl r6)).ev (ep_od_least T (ep_var 4 rfl r7)).ev) (ea_one (ev_add (ep_st_day T (ep_var 3 rfl r6)).ev (ep_od_most T (ep_var 4 rfl r7)).ev)))) (by show 3 ≤ LB; decide)) g6.bh fun v B7 H7 g7 r8 => kok _ e4 v B7 H7 ((g5'.trans g6).trans g7) r8
end
end Fb
/-! FbY7: order. Printed by gen_ask.py from FbY7.in -/
namespace Fb
open PySem PySem.Spec PyProof.Rows L2
section
variable {P : Program} {w : World} {K : PySem.W.Frag} {mg : Str → Option Value} {base : Heap}
theorem fn_ask_order (T : Txt K mg) : Fn P w K mg base (L2.CX P w) "ask_order" 6 ["desk", "numbers", "row"] (spA K 1 rAskOrder) := by
  obtain ⟨fd, F⟩ := T.d_ask_order
  refine mkFn T.g_ask_order F (b_ask_order F) (ok_bodyC F sc_ask_order (len_X fun _ => rfl) fun cdv A outer s H vs Q E hr q => ?_)
  obtain ⟨⟨b, ns, row⟩, B, hs, ⟨hb, hn, hrw⟩, hv, k⟩ := q
  obtain ⟨v1, v2, v3, rfl, h1, h2, h3⟩ := vs3 hv
  obtain ⟨kok, ker⟩ := ends_ok (res := rAskOrder) (a := ⟨b, ns, row⟩) (f := fun l => rL rI l) (we := rf K) (E := E) k
  have hn : ns.length = 1 := hn
  have hno : b.orders.length ≤ 8 := hb.no
  have hns : b.stocks.length ≤ 8 := hb.ns
  have i0 := getD_at (ns := ns) (p := 0) (by omega)
  refine wb_exprM T.c_Desk (mt_want_order T) hr (L2.passAt tkX) (b, ns.getD 0 0) True.intro (ep_var 0 rfl h1).ev (ea_one (ev_ix (r := rI) (n := 0) (ep_var 1 rfl h2).ev ep_int.ev i0)) rfl hs (fun z1 hz1 v B2 H2 g2 r2 => ?_) (fun n hn => ker n (bind_err hn))
  obtain ⟨p0, plt⟩ := wo_ok hz1
  have j1 := up g2.bb h1
  have j2 := up g2.bb h2
  have e1 : rAskOrder ⟨b, ns, row⟩ = .ok (iN (((Vbcrah.orderAt b (ns.getD 0 0).toNat).name.length :: (Vbcrah.orderAt b (ns.getD 0 0).toNat).name) ++ ((Vbcrah.orderAt b (ns.getD 0 0).toNat).kind.length :: (Vbcrah.orderAt b (ns.getD 0 0).toNat).kind) ++ numsO (Vbcrah.orderAt b (ns.getD 0 0).toNat)) ++ [Vbcrah.bit (Vbcrah.orderAt b (ns.getD 0 0).toNat).ground, Vbcrah.bit (Vbcrah.orderAt b (ns.getD 0 0).toNat).whole]) := bind_ok hz1
  have hod := od_at plt
  have hv1 := hb.ok.od _ (List.mem_of_getElem? hod)
  generalize Vbcrah.orderAt b (ns.getD 0 0).toNat = o at *
  have ln := hv1.name
  have lk := hv1.kind
  refine wb_set 3 (ev_ix (r := rOd K) (n := (ns.getD 0 0).toNat) (ep_bk_orders T (ep_dk_book T (ep_var 0 rfl j1))).ev (Ev.is (ev_ix (r := rI) (n := 0) (ep_var 1 rfl j2).ev ep_int.ev i0) (ofI p0)) hod) g2.bh (fun u B3 H3 g3 r3 => ?_) sc_ask_order.nd
  refine wb_set 4 (ev_cat (r := rN) (ys := numsO o) (ev_cat (r := rN) (ev_call (fn_listed T) (hr.mono (by decide)) o.name (by show _ < LB; unfold LB; omega) (ea_one (ep_od_name T (ep_var 3 rfl r3)).ev)) (ev_call (fn_listed T) (hr.mono (by decide)) o.kind (by show _ < LB; unfold LB; omega) (ea_one (ep_od_kind T (ep_var 3 rfl r3)).ev)) (by rw [List.length_cons, List.length_cons]; unfold LB; omega)) (ev_meth0 T.c_Order (mt_numbers T) (hr.mono (by decide)) o True.intro (ep_var 3 rfl r3).ev rfl rfl) (by rw [List.length_append, List.length_cons, List.length_cons]; show _ + 5 ≤ LB; unfold LB; omega)) g3.bh (fun u4 B4 H4 g4 r4 => ?_) sc_ask_order.nd
  have r3' := up (R := rOd K o) g4.bb r3
  exact wb_ret (ev_cat (r := rI) (ys := [Vbcrah.bit o.ground, Vbcrah.bit o.whole]) (ep_var 4 rfl (toI r4)).ev (ev_list (r := rI) (xs := [Vbcrah.bit o.ground, Vbcrah.bit o.whole]) (ea_cons (ev_intB T.f_int (ep_od_ground T (ep_var 3 rfl r3')).ev) (ea_one (ev_intB T.f_int (ep_od_whole T (ep_var 3 rfl r3')).ev))) (by show 2 ≤ LB; decide)) (by rw [List.length_map, List.length_append, List.length_append, List.length_cons, List.length_cons]; show _ + 5 + 2 ≤ LB; unfold LB; omega)) g4.bh fun v B5 H5 g5 r5 => kok _ e1 v B5 H5 (((g2.trans g3).trans g4).trans g5) r5
end
end Fb
/-! FbY8: most, plans. Printed by gen_ask.py from FbY8.in -/
namespace Fb
open PySem PySem.Spec PyProof.Rows L2
section
variable {P : Program} {w : World} {K : PySem.W.Frag} {mg : Str → Option Value} {base : Heap}
theorem fn_ask_most (T : Txt K mg) : Fn P w K mg base (L2.CX P w) "ask_most" 7 ["desk", "numbers", "row"] (spA K 0 rAskMost) := by
  obtain ⟨fd, F⟩ := T.d_ask_most
  refine mkFn T.g_ask_most F (b_ask_most F) (ok_bodyC F sc_ask_most (len_X fun _ => rfl) fun cdv A outer s H vs Q E hr q => ?_)
  obtain ⟨⟨b, ns, row⟩, B, hs, ⟨hb, hn, hrw⟩, hv, k⟩ := q
  obtain ⟨v1, v2, v3, rfl, h1, h2, h3⟩ := vs3 hv
  obtain ⟨kok, ker⟩ := ends_ok (res := rAskMost) (a := ⟨b, ns, row⟩) (f := fun l => rL rI l) (we := rf K) (E := E) k
  have hn : ns.length = 0 := hn
  have hno : b.orders.length ≤ 8 := hb.no
  have hns : b.stocks.length ≤ 8 := hb.ns
  refine wb_set 3 (Ev.unF (ef_meth0 T.c_Book (mt_wants T) (hr.mono (by decide)) b True.intro (ep_dk_book T (ep_var 0 rfl h1)).ev rfl rfl)) hs (fun u B2 H2 g r => ?_) sc_ask_most.nd
  have r : (rBy (Vbcrah.wants b)).p u B2 := r
  refine wb_asg (ev_call (fn_bound_told T) hr (b, Vbcrah.wants b) ⟨wants_len b, hno⟩ (ea_cons (ev_Ways (ct_Ways T) (hr.mono (by decide)) hno (ep_dk_book T (ep_var 0 rfl (up g.bb h1))).ev) (ea_one (ep_var 3 rfl r).ev))) g.bh (pg_tup rfl (pgs_cons (pg_name (i := 4) sc_ask_most.nd rfl (Or.inl rfl)) (pgs_cons (pg_name (i := 5) sc_ask_most.nd rfl (Or.inl rfl)) pgs_nil))) fun v B3 H3 g3 r3 => ?_
  obtain ⟨t, us, e1, ht, hu⟩ := r3
  obtain ⟨u1, u2, rfl, q1, q2⟩ := vs2 hu
  refine gn_pair e1 ht g3.bh _ ?_
  have tl : (toldRow b (Vbcrah.wants b)).length ≤ LB := ll q2
  have tl2 : (toldRow b (Vbcrah.wants b)).length ≤ 100 := by
    unfold toldRow
    rw [List.length_cons, List.length_append, List.length_map, List.length_map]
    have := sets_size (least_mem b (Vbcrah.wants b))
    have := FbM.days_len b
    omega
  exact wb_ret (ev_toI (ev_cat (r := rN) (xs := [Vbcrah.most b, (Vbcrah.wants b).sum]) (ev_list (r := rN) (xs := [Vbcrah.most b, (Vbcrah.wants b).sum]) (ea_cons (ep_var 4 rfl q1).ev (ea_one (ev_sumN rfl T.f_sum (ep_var 3 rfl (up g3.bb r)).ev))) (by show 2 ≤ LB; decide)) (ep_var 5 rfl q2).ev (show 2 + (toldRow b (Vbcrah.wants b)).length ≤ LB by unfold LB; omega))) g3.bh fun v B4 H4 g4 r4 => kok _ rfl v B4 H4 ((g.trans g3).trans g4) r4
end
end Fb
/-! FbY9: arguments that raise -/
namespace Fb
open PySem PySem.Spec PyProof.Rows L2
/-- an argument list in which one raises -/
def EvAR (X : Cx) (W : WX) (es : List Expr) (σ : L2.St) (B : Hp) (ef : XF) : Prop := ∀ H, Same B H → ∀ Q : List V → Hp → Prop, (∀ d H2, Same H H2 → H2 d = some (.xd ef.2) → W (.ref ef.1) (some d) σ H2) → WA X es σ H Q
section
variable {X : Cx} {W : WX} {e : Expr} {es : List Expr} {σ : L2.St} {B : Hp} {ef : XF} {R : Rp} {p pos : Pos} {x : Str} {k : Nat} {ps : List Str} {sp : Sp}
theorem ear_here (h : EvR X W e σ B ef) (hs : starEach (e :: es) X.env = (false, eval e X.env) :: starEach es X.env := by rfl) : EvAR X W (e :: es) σ B ef := fun H s Q k => wa_of (pa_cons we_pe wa_pa hs) (h H s _ k)
theorem EvAR.mo {C : Hp} (h : EvAR X W es σ B ef) (bc : Same B C) : EvAR X W es σ C ef := fun H s Q k => h H (bc.trans s) Q k
theorem ear_next (h : Ev X e σ B R) (t : EvAR X W es σ B ef) (hs : starEach (e :: es) X.env = (false, eval e X.env) :: starEach es X.env := by rfl) : EvAR X W (e :: es) σ B ef := fun H s Q k =>
  wa_of (pa_cons we_pe wa_pa hs) (h H s _ fun v B2 H2 g r => (t.mo g.bb) H2 g.bh _ fun d H3 s3 h3 => k d H3 (g.hh.trans s3) h3)
theorem er_call (F : Fn X.prog X.w X.K X.mg X.base CX0 x k ps sp) (hr : Room k X.A) (ha : EvAR X W (e :: es) σ B ef) (hg : Gl X x := by rfl) (hdb : (x == ("__debug__" : Str)) = false := by decide)
    (he : starEach (e :: es) X.env = (false, eval e X.env) :: starEach es X.env := by rfl) (hpl : (backTo pos (starEach es X.env)).any (·.1) = false := by rfl) : EvR X W (.Call (.Name x p) (e :: es) [] pos) σ B ef := fun H s Q kk => by
  obtain ⟨f, fd, hm, hk, hb, G⟩ := F.ex
  exact we_of (pe_call G hr hg hm hk hb .nil pass0 wa_pa hdb he hpl) (ha H s _ kk)
end
end Fb
/-! FbY10: together. Printed by gen_ask.py from FbY10.in -/
namespace Fb
open PySem PySem.Spec PyProof.Rows L2
section
variable {P : Program} {w : World} {K : PySem.W.Frag} {mg : Str → Option Value} {base : Heap}
theorem fn_ask_together (T : Txt K mg) : Fn P w K mg base (L2.CX P w) "ask_together" 7 ["desk", "numbers", "row"] (spA K 0 rAskTogether) := by
  obtain ⟨fd, F⟩ := T.d_ask_together
  refine mkFn T.g_ask_together F (b_ask_together F) (ok_bodyC F sc_ask_together (len_X fun _ => rfl) fun cdv A outer s H vs Q E hr q => ?_)
  obtain ⟨⟨b, ns, row⟩, B, hs, ⟨hb, hn, hrw⟩, hv, k⟩ := q
  obtain ⟨v1, v2, v3, rfl, h1, h2, h3⟩ := vs3 hv
  obtain ⟨kok, ker⟩ := ends_ok (res := rAskTogether) (a := ⟨b, ns, row⟩) (f := fun l => rL rI l) (we := rf K) (E := E) k
  have hn : ns.length = 0 := hn
  have hno : b.orders.length ≤ 8 := hb.no
  have hns : b.stocks.length ≤ 8 := hb.ns
  cases hS : resSet (b, row) with
  | error n => exact wb_setR (er_call (fn_wants_of T) (hr.mono (by decide)) (ear_next (ep_dk_book T (ep_var 0 rfl h1)).ev (ear_here (er_methX (W := fun cls d _ H => E cls d H) T.c_Desk (mt_set_of T) (hr.mono (by decide)) (L2.passAt tkX) (b, row) True.intro (ef := rf K n) (by rw [hS]; rfl) (ep_var 0 rfl h1).ev (ea_one (ep_var 2 rfl h3).ev) rfl rfl)))) hs (ker n (bind_err hS)) (pg_name (i := 3) sc_ask_together.nd rfl (Or.inl rfl))
  | ok l =>
    have e1 : rAskTogether ⟨b, ns, row⟩ = _ := bind_ok hS
    refine wb_set 3 (ev_call (fn_wants_of T) (hr.mono (by decide)) (b, l) True.intro (ea_cons (ep_dk_book T (ep_var 0 rfl h1)).ev (ea_one (ev_methX (W := fun cls d _ H => E cls d H) T.c_Desk (mt_set_of T) (hr.mono (by decide)) (L2.passAt tkX) (b, row) True.intro (R := rBy l) (by rw [hS]; rfl) (ep_var 0 rfl h1).ev (ea_one (ep_var 2 rfl h3).ev) rfl rfl)))) hs (fun u B2 H2 g r => ?_) sc_ask_together.nd
    have r : (rBy (Vbcrah.wantOnly b l)).p u B2 := r
    refine wb_set 4 (ev_call (fn_most T) hr (b, Vbcrah.wantOnly b l) (only_len b l) (ea_cons (ev_Ways (ct_Ways T) (hr.mono (by decide)) hno (ep_dk_book T (ep_var 0 rfl (up g.bb h1))).ev) (ea_one (ep_var 3 rfl r).ev))) g.bh (fun u2 B3 H3 g3 r3 => ?_) sc_ask_together.nd
    have r' := up g3.bb r
    exact wb_ret (ev_list (r := rI) (xs := [if Vbcrah.mostBy b (Vbcrah.wantOnly b l) = (Vbcrah.wantOnly b l).sum then 1 else 0, ((Vbcrah.wantOnly b l).sum : Nat), (Vbcrah.mostBy b (Vbcrah.wantOnly b l) : Nat)]) (ea_cons (ev_int1 T.f_int (ev_eq (ep_var 4 rfl r3).ev (ev_sumN rfl T.f_sum (ep_var 3 rfl r').ev))) (ea_cons (ev_sumN rfl T.f_sum (ep_var 3 rfl r').ev) (ea_one (ep_var 4 rfl r3).ev))) (by show 3 ≤ LB; decide)) g3.bh fun v B4 H4 g4 r4 => kok _ e1 v B4 H4 ((g.trans g3).trans g4) r4
end
end Fb
/-! FbY11: plans told. Printed by gen_ask.py from FbY11.in -/
namespace Fb
open PySem PySem.Spec PyProof.Rows L2
def planRow (ts : List Vbcrah.Take) : List Nat := ts.flatMap fun t => [t.order, t.stock, t.bags]
def rAskPlan : AskR := fun a => .ok (iN (planRow (planW a.b (Vbcrah.served a.b))))
def rAskFullplan : AskR := fun a => .ok (iN (planRow (planW a.b (Vbcrah.fullest a.b))))
theorem plan_few {b : Vbcrah.Book} {had : List Nat} (h8 : b.stocks.length ≤ 8) (hno : b.orders.length ≤ 8) (hh : had.length = b.orders.length) : (planW b had).length ≤ 64 := by
  have := (plS_inv h8 hh b.orders.length (Nat.le_refl _)).t
  unfold planW
  omega
section
variable {P : Program} {w : World} {K : PySem.W.Frag} {mg : Str → Option Value} {base : Heap}
theorem fn_plan_told (T : Txt K mg) : Fn P w K mg base CX0 "plan_told" 4 ["ways", "had"] (spP PlOk (fun a => [rWy K a.1, rBy a.2]) (fun a => rBy (planRow (planW a.1 a.2)))) := by
  obtain ⟨fd, F⟩ := T.d_plan_told
  refine mkFn T.g_plan_told F (b_plan_told F) (ok_body F sc_plan_told (len_P fun _ => rfl) fun cdv A outer s H vs Q E hr q => ?_)
  obtain ⟨⟨b, had⟩, B, hs, hp, hv, k⟩ := q
  obtain ⟨v1, v2, rfl, h1, h2⟩ := vs2 hv
  have few : (planW b had).length ≤ 64 := plan_few hp.s hp.n hp.h
  have eS := LB_line
  have eLB : LB = 1000000 := rfl
  refine wb_set 2 (ef_list (r := rN) (xs := []) ea_nil) hs (fun v B2 H2 g r => ?_) sc_plan_told.nd
  obtain ⟨f, vs, rfl, a0, al⟩ := acc_of hs g r fun x v C q => q
  cases al
  have l1 : ((planW b had).flatMap fun t : Vbcrah.Take => [t.order, t.stock, t.bags]).length ≤ 64 * 3 := Nat.le_trans (flat_len (n := 3) fun t _ => Nat.le_refl 3) (Nat.mul_le_mul few (Nat.le_refl _))
  refine wb_forG (r := rTk K) (ei_list (ev_call (fn_plan T) hr (b, had) hp (ea_cons (ep_var 0 rfl h1).ev (ea_one (ep_var 1 rfl h2).ev))) (show (planW b had).length ≤ LB by omega)) (pg_name (i := 3) sc_plan_told.nd rfl (Or.inl rfl)) a0.g.bh (fun Bk j σ' H' => ∃ cv vb, Acc B H Bk H' f cv ∧ All2 (fun (x : Nat) v => (rN x).p v Bk) (((planW b had).take j).flatMap fun t => [t.order, t.stock, t.bags]) cv ∧ σ' = [some v1, some v2, some (.ref f), vb]) PassesOwn.never rfl ?_ ?_ ?_ ?_
  · intro B3 H3 g3
    exact ⟨[], none, a0.step g3, .nil, rfl⟩
  · rintro Bk j σ' H' ⟨cv, vb, a, _⟩
    exact a.g.bh
  · rintro Bk j x v σ' H' B4 H4 sB ha ⟨cv, vb, a, ac, rfl⟩ g4 r4
    refine ⟨_, gn_name, ?_⟩
    have a4 := a.step g4
    have hx : (((planW b had).take j).flatMap fun t : Vbcrah.Take => [t.order, t.stock, t.bags]).length ≤ 64 * 3 := Nat.le_trans (flat_len (n := 3) fun t _ => Nat.le_refl 3) (Nat.mul_le_mul (by rw [List.length_take]; omega) (Nat.le_refl _))
    refine wb_extend (r := rN) (ys := [x.order, x.stock, x.bags]) (at_var 2 rfl) a4.at_ a4.bf (by rw [ac.len]; show _ + 3 ≤ sizeLine; omega) (ev_list (r := rN) (xs := [x.order, x.stock, x.bags]) (ea_cons (ep_tk_order T (ep_var 3 rfl r4)).ev (ea_cons (ep_tk_stock T (ep_var 3 rfl r4)).ev (ea_one (ep_tk_bags T (ep_var 3 rfl r4)).ev))) (by show 3 ≤ LB; decide)) g4.bh fun us B6 H6 g6 r6 n6 => wb_nil ?_
    exact ⟨B6, g4.bb.trans g6.bb, _, some v, (a4.step g6).put (ws := cv ++ us), by rw [flat_take ha]; exact All2.app ac r6, rfl⟩
  · rintro Bk σ' H' sB ⟨cv, vb, a, ac, rfl⟩
    rw [List.take_length] at ac
    obtain ⟨g9, r9⟩ := a.close (r := rN) (xs := planRow (planW b had)) ac (by unfold planRow; omega)
    exact wb_ret (ep_var 2 rfl r9).ev g9.bh fun v B7 H7 g7 r => k v B7 H7 (g9.trans g7) r
theorem served_len (b : Vbcrah.Book) : (Vbcrah.served b).length = b.orders.length := by
  rw [← srv_all]
  exact (srv_inv b _ (Nat.le_refl _)).len
theorem fullest_len {b : Vbcrah.Book} (h : ∀ k, (Vbcrah.wants b).getD k 0 < 256) : (Vbcrah.fullest b).length = b.orders.length := by
  rw [← ful_all h]
  exact (ful_inv h _ (Nat.le_refl _)).len
theorem fn_ask_plan (T : Txt K mg) : Fn P w K mg base (L2.CX P w) "ask_plan" 8 ["desk", "numbers", "row"] (spA K 0 rAskPlan) := by
  obtain ⟨fd, F⟩ := T.d_ask_plan
  refine mkFn T.g_ask_plan F (b_ask_plan F) (ok_bodyC F sc_ask_plan (len_X fun _ => rfl) fun cdv A outer s H vs Q E hr q => ?_)
  obtain ⟨⟨b, ns, row⟩, B, hs, ⟨hb, hn, hrw⟩, hv, k⟩ := q
  obtain ⟨v1, v2, v3, rfl, h1, h2, h3⟩ := vs3 hv
  obtain ⟨kok, ker⟩ := ends_ok (res := rAskPlan) (a := ⟨b, ns, row⟩) (f := fun l => rL rI l) (we := rf K) (E := E) k
  have hn : ns.length = 0 := hn
  have hno : b.orders.length ≤ 8 := hb.no
  have hns : b.stocks.length ≤ 8 := hb.ns
  refine wb_set 3 (ev_Ways (ct_Ways T) (hr.mono (by decide)) hno (ep_dk_book T (ep_var 0 rfl h1)).ev) hs (fun u B2 H2 g r => ?_) sc_ask_plan.nd
  exact wb_ret (ev_toI (ev_call (fn_plan_told T) (hr.mono (by decide)) (b, Vbcrah.served b) ⟨hno, hns, served_len b⟩ (ea_cons (ep_var 3 rfl r).ev (ea_one (ev_call (fn_served T) hr b hno (ea_one (ep_var 3 rfl r).ev)))))) g.bh fun v B4 H4 g4 r4 => kok _ rfl v B4 H4 (g.trans g4) r4
theorem fn_ask_fullplan (T : Txt K mg) : Fn P w K mg base (L2.CX P w) "ask_fullplan" 8 ["desk", "numbers", "row"] (spA K 0 rAskFullplan) := by
  obtain ⟨fd, F⟩ := T.d_ask_fullplan
  refine mkFn T.g_ask_fullplan F (b_ask_fullplan F) (ok_bodyC F sc_ask_fullplan (len_X fun _ => rfl) fun cdv A outer s H vs Q E hr q => ?_)
  obtain ⟨⟨b, ns, row⟩, B, hs, ⟨hb, hn, hrw⟩, hv, k⟩ := q
  obtain ⟨v1, v2, v3, rfl, h1, h2, h3⟩ := vs3 hv
  obtain ⟨kok, ker⟩ := ends_ok (res := rAskFullplan) (a := ⟨b, ns, row⟩) (f := fun l => rL rI l) (we := rf K) (E := E) k
  have hn : ns.length = 0 := hn
  have hno : b.orders.length ≤ 8 := hb.no
  have hns : b.stocks.length ≤ 8 := hb.ns
  refine wb_set 3 (ev_Ways (ct_Ways T) (hr.mono (by decide)) hno (ep_dk_book T (ep_var 0 rfl h1)).ev) hs (fun u B2 H2 g r => ?_) sc_ask_fullplan.nd
  exact wb_ret (ev_toI (ev_call (fn_plan_told T) (hr.mono (by decide)) (b, Vbcrah.fullest b) ⟨hno, hns, fullest_len hb.ful.w⟩ (ea_cons (ep_var 3 rfl r).ev (ea_one (ev_call (fn_fullest T) hr b hb.ful (ea_one (ep_var 3 rfl r).ev)))))) g.bh fun v B4 H4 g4 r4 => kok _ rfl v B4 H4 (g.trans g4) r4
end
end Fb
namespace Fb
/-! FbZ1: lines read (plain) -/
def cvE {α : Type} (r : Except Nat α) : Except Int α := match r with
  | .error k => .error (k : Int)
  | .ok c => .ok c
abbrev nm0 (l : List Nat) : Nat := (Vbcrah.numOf l).getD 0
def good (xs : Wd) : Bool := xs.all fun x => (Vbcrah.numOf x).isSome
theorem numI_some {l : List Nat} (h : (Vbcrah.numOf l).isSome = true) : numI l = (nm0 l : Nat) := by
  unfold numI nm0
  cases e : Vbcrah.numOf l with
  | none => rw [e] at h; cases h
  | some n => rfl
theorem numI_none {l : List Nat} (h : (Vbcrah.numOf l).isSome = false) : numI l = -1 := by
  unfold numI
  cases e : Vbcrah.numOf l with
  | none => rfl
  | some n => rw [e] at h; cases h
theorem na_eq (ws : Wd) (ps : List Nat) : resNA (ws, ps) = if good (ps.map fun p => ws.getD p []) = true then .ok (ps.map fun p => nm0 (ws.getD p [])) else .error 1 := by
  unfold resNA
  by_cases h : good (ps.map fun p => ws.getD p []) = true
  · have ha : ∀ p ∈ ps, (Vbcrah.numOf (ws.getD p [])).isSome = true := fun p hp => List.all_eq_true.mp h _ (List.mem_map.mpr ⟨p, hp, rfl⟩)
    have e : (ps.map fun p => numI (ws.getD p [])).contains (-1) = false := by
      cases c : (ps.map fun p => numI (ws.getD p [])).contains (-1) with
      | false => rfl
      | true =>
        obtain ⟨p, hp, e⟩ := List.mem_map.mp (List.contains_iff_mem.mp c)
        rw [numI_some (ha p hp)] at e
        omega
    rw [if_pos h, e]
    show Except.ok _ = _
    congr 1
    refine List.map_congr_left fun p hp => ?_
    rw [numI_some (ha p hp)]
    rfl
  · rw [if_neg h]
    have e : (ps.map fun p => numI (ws.getD p [])).contains (-1) = true := by
      refine List.contains_iff_mem.mpr ?_
      unfold good at h
      rw [Bool.not_eq_true, List.all_eq_false] at h
      obtain ⟨x, hx, hn⟩ := h
      obtain ⟨p, hp, rfl⟩ := List.mem_map.mp hx
      exact List.mem_map.mpr ⟨p, hp, numI_none (by simpa using hn)⟩
    rw [e]
    rfl
theorem nums_eq : ∀ l : List (Nat × Nat × List Nat), Vbcrah.numbers l = if good (l.map fun x => x.2.2) = true then some (l.map fun x => nm0 x.2.2, l.all fun x => decide (x.1 ≤ nm0 x.2.2) && decide (nm0 x.2.2 ≤ x.2.1)) else none
  | [] => rfl
  | x :: l => by
    unfold Vbcrah.numbers
    rw [nums_eq l]
    by_cases h : good (l.map fun x => x.2.2) = true
    · rw [if_pos h]
      cases e : Vbcrah.numOf x.2.2 with
      | none =>
        rw [if_neg]
        unfold good
        rw [List.map_cons, List.all_cons, e]
        simp
      | some n =>
        rw [if_pos]
        · simp [nm0, e, Bool.and_assoc]
        · unfold good at h ⊢
          rw [List.map_cons, List.all_cons, h, e]
          rfl
    · rw [if_neg h, if_neg]
      · cases Vbcrah.numOf x.2.2 <;> rfl
      · unfold good at h ⊢
        rw [List.map_cons, List.all_cons]
        intro z
        rw [Bool.and_eq_true] at z
        exact h z.2
/-- what is asked, as an if -/
theorem ask_bind {α : Type} (c : Bool) (k : Int) (f : Unit → Except Int α) : (ask c k).bind f = if c = true then f () else .error k := by
  unfold ask
  cases c <;> rfl
theorem ite_bind {α β : Type} (c : Prop) [Decidable c] (x : Except Int α) (k : Int) (f : α → Except Int β) : (if c then x else .error k).bind f = if c then x.bind f else .error k := by
  split <;> rfl
theorem ok_bind {α β : Type} (x : α) (f : α → Except Int β) : (Except.ok x : Except Int α).bind f = f x := rfl
theorem beq_dec (a b : List Nat) : (a == b) = decide (a = b) := by
  by_cases h : a = b
  · subst h; simp
  · rw [decide_eq_false h, beq_eq_false_iff_ne]; exact h
theorem len7 {ws : Wd} (h : ws.length = 7) : ∃ a b c d e f g, ws = [a, b, c, d, e, f, g] := by
  match ws, h with
  | [a, b, c, d, e, f, g], _ => exact ⟨a, b, c, d, e, f, g, rfl⟩
theorem len5 {ws : Wd} (h : ws.length = 5) : ∃ a b c d e, ws = [a, b, c, d, e] := by
  match ws, h with
  | [a, b, c, d, e], _ => exact ⟨a, b, c, d, e, rfl⟩
theorem stock_law (b : Vbcrah.Book) (k sz d dn g n : List Nat) : resStock (b, [Vbcrah.ascii "stock", k, sz, d, dn, g, n]) = cvE (Vbcrah.lineOf b [Vbcrah.ascii "stock", k, sz, d, dn, g, n]) := by
  unfold resStock Vbcrah.lineOf resNW resNR
  simp only [na_eq, nums_eq, ask_bind, ite_bind, ok_bind]
  simp only [List.map_cons, List.map_nil, List.all_cons, List.all_nil, Bool.and_true, List.getD_cons_zero, List.getD_cons_succ, List.length_cons, List.length_nil, beq_self_eq_true, Bool.true_and, beq_dec]
  by_cases h1 : Vbcrah.isName k = true
  case neg => simp [h1, cvE]
  by_cases h2 : d = Vbcrah.ascii "day"
  case neg => simp [h1, h2, cvE]
  by_cases h3 : g = Vbcrah.ascii "bags"
  case neg => simp [h1, h2, h3, cvE]
  by_cases h4 : good [sz, dn, n] = true
  case neg => simp [h1, h2, h3, h4, cvE]
  simp only [h1, h2, h3, h4, decide_true, Bool.and_self, if_true]
  by_cases h5 : (1 ≤ nm0 sz ∧ nm0 sz ≤ 9999)
  case neg => simp [h5, cvE]
  by_cases h6 : (nm0 dn ≤ 400)
  case neg => simp [h5, h6, cvE, Vbcrah.DAYS]
  by_cases h7 : (nm0 n ≤ 60)
  case neg => simp [h5, h6, h7, cvE, Vbcrah.DAYS, Vbcrah.BAGS]
  by_cases h8 : b.stocks.length < 8
  · have h9 : ¬ 8 ≤ b.stocks.length := by omega
    simp [h5, h6, h7, h8, h9, cvE, Vbcrah.STOCKS, Vbcrah.BAGS, Vbcrah.DAYS]
  · have h9 : 8 ≤ b.stocks.length := by omega
    simp [h5, h6, h7, h8, h9, cvE, Vbcrah.STOCKS, Vbcrah.BAGS, Vbcrah.DAYS]
theorem lim_law (b : Vbcrah.Book) (g gn s sn : List Nat) : resLim (b, [Vbcrah.ascii "limits", g, gn, s, sn]) = cvE (Vbcrah.lineOf b [Vbcrah.ascii "limits", g, gn, s, sn]) := by
  unfold resLim Vbcrah.lineOf resNW resNR
  simp only [na_eq, nums_eq, ask_bind, ite_bind, ok_bind]
  simp only [List.map_cons, List.map_nil, List.all_cons, List.all_nil, Bool.and_true, List.getD_cons_zero, List.getD_cons_succ, List.length_cons, List.length_nil, beq_self_eq_true, Bool.true_and, beq_dec]
  by_cases h2 : g = Vbcrah.ascii "grind"
  case neg => simp [h2, cvE]
  by_cases h3 : s = Vbcrah.ascii "send"
  case neg => simp [h2, h3, cvE]
  by_cases h4 : good [gn, sn] = true
  case neg => simp [h2, h3, h4, cvE]
  simp only [h2, h3, h4, decide_true, Bool.and_self, if_true]
  by_cases h6 : (nm0 gn ≤ 500)
  case neg => simp [h6, cvE, Vbcrah.LIMIT]
  by_cases h7 : (nm0 sn ≤ 500)
  case neg => simp [h6, h7, cvE, Vbcrah.LIMIT]
  simp [h6, h7, cvE, Vbcrah.LIMIT]
/-- names that are there -/
theorem there_eq (b : Vbcrah.Book) (os : List Vbcrah.Order) : ((os.map fun o => o.name).all fun nm => decide (placeOf b nm < 0)) = !(os.any fun o => b.orders.any fun x => x.name == o.name) := by
  induction os with
  | nil => rfl
  | cons o os ih =>
    rw [List.map_cons, List.all_cons, List.any_cons, ih, Bool.not_or]
    congr 1
    unfold placeOf
    cases e : b.orders.findIdx? fun x => x.name == o.name with
    | none =>
      rw [List.findIdx?_eq_none_iff] at e
      have : (b.orders.any fun x => x.name == o.name) = false := List.any_eq_false.mpr fun x hx => by rw [e x hx]; decide
      rw [this]; rfl
    | some j =>
      have : (b.orders.any fun x => x.name == o.name) = true := by
        rw [List.findIdx?_eq_some_iff_getElem] at e
        obtain ⟨hj, e1, _⟩ := e
        exact List.any_eq_true.mpr ⟨_, List.getElem_mem hj, e1⟩
      rw [this]
      show decide (((j : Nat) : Int) < 0) = false
      exact decide_eq_false (by omega)
theorem ei_eq (g : List Nat) (x y : String) : resEi (g, x, y) = if (g == Vbcrah.ascii y || g == Vbcrah.ascii x) = true then .ok (g == Vbcrah.ascii x) else .error 1 := by
  unfold resEi
  rw [ask_bind, beq_dec, beq_dec, Bool.or_comm]
  have e : ∀ z : String, decide (Vbcrah.ascii z = g) = decide (g = Vbcrah.ascii z) := fun z => by
    by_cases h : g = Vbcrah.ascii z
    · rw [decide_eq_true h, decide_eq_true h.symm]
    · rw [decide_eq_false h, decide_eq_false (fun q => h q.symm)]
  rw [e, e]
/-- one order, from its words -/
def ord1 (w k : List Nat) (ns : List Nat) (g h : List Nat) : Vbcrah.Order := ⟨w, k, ns.getD 0 0, ns.getD 1 0, ns.getD 2 0, ns.getD 3 0, ns.getD 4 0, g == Vbcrah.ascii "ground", h == Vbcrah.ascii "whole"⟩
theorem or_eq (a : OrA) : resOR a = if (decide (1 ≤ a.ns.getD 0 0) && decide (a.ns.getD 0 0 ≤ 9999) && (decide (1 ≤ a.ns.getD 1 0) && decide (a.ns.getD 1 0 ≤ 60)) && (decide (a.ns.getD 2 0 ≤ 400)) && (decide (a.ns.getD 3 0 ≤ 200)) && (decide (a.ns.getD 3 0 ≤ a.ns.getD 4 0) && decide (a.ns.getD 4 0 ≤ 200)) && (!a.ev || (decide (1 ≤ a.step) && decide (a.step ≤ 60) && (decide (2 ≤ a.many) && decide (a.many ≤ 9))))) = true then .ok () else .error 2 := by
  unfold resOR resNR
  simp only [ask_bind]
  generalize a.ns.getD 0 0 = x0
  generalize a.ns.getD 1 0 = x1
  generalize a.ns.getD 2 0 = x2
  generalize a.ns.getD 3 0 = x3
  generalize a.ns.getD 4 0 = x4
  by_cases h0 : 1 ≤ x0 ∧ x0 ≤ 9999
  case neg => rw [if_neg (by simpa using h0), if_neg (by simp only [Bool.and_eq_true, decide_eq_true_eq]; intro z; exact h0 z.1.1.1.1.1)]
  by_cases h1 : 1 ≤ x1 ∧ x1 ≤ 60
  case neg => rw [if_pos (by simpa using h0), if_neg (by simpa using h1), if_neg (by simp only [Bool.and_eq_true, decide_eq_true_eq]; intro z; exact h1 z.1.1.1.1.2)]
  by_cases h2 : x2 ≤ 400
  case neg => rw [if_pos (by simpa using h0), if_pos (by simpa using h1), if_neg (by simpa using h2), if_neg (by simp only [Bool.and_eq_true, decide_eq_true_eq]; intro z; exact h2 z.1.1.1.2)]
  by_cases h3 : x3 ≤ 200
  case neg => rw [if_pos (by simpa using h0), if_pos (by simpa using h1), if_pos (by simpa using h2), if_neg (by simpa using h3), if_neg (by simp only [Bool.and_eq_true, decide_eq_true_eq]; intro z; exact h3 z.1.1.2)]
  by_cases h4 : x3 ≤ x4 ∧ x4 ≤ 200
  case neg => rw [if_pos (by simpa using h0), if_pos (by simpa using h1), if_pos (by simpa using h2), if_pos (by simpa using h3), if_neg (by simpa using h4), if_neg (by simp only [Bool.and_eq_true, decide_eq_true_eq]; intro z; exact h4 z.1.2)]
  rw [if_pos (by simpa using h0), if_pos (by simpa using h1), if_pos (by simpa using h2), if_pos (by simpa using h3), if_pos (by simpa using h4)]
  cases he : a.ev with
  | false => simp [h0, h1, h2, h3, h4]
  | true =>
    by_cases h5 : 1 ≤ a.step ∧ a.step ≤ 60
    · by_cases h6 : 2 ≤ a.many ∧ a.many ≤ 9
      · simp [h0, h1, h2, h3, h4, h5, h6, ask]
      · simp [h0, h1, h2, h3, h4, h5, h6, ask]
    · simp [h0, h1, h2, h3, h4, h5]
abbrev rgO (sz n d lo hi : List Nat) : Bool := decide (1 ≤ nm0 sz) && decide (nm0 sz ≤ 9999) && (decide (1 ≤ nm0 n) && decide (nm0 n ≤ 60)) && (decide (nm0 d ≤ 400)) && (decide (nm0 lo ≤ 200)) && (decide (nm0 lo ≤ nm0 hi) && decide (nm0 hi ≤ 200))
theorem orderOf_eq (w k sz n d lo hi g h : List Nat) : Vbcrah.orderOf w k sz n d lo hi g h = if (Vbcrah.isOrderName w && (Vbcrah.isName k && ((g == Vbcrah.ascii "beans" || g == Vbcrah.ascii "ground") && (h == Vbcrah.ascii "whole" || h == Vbcrah.ascii "parts")))) = true ∧ good [sz, n, d, lo, hi] = true then (if rgO sz n d lo hi = true then .ok (ord1 w k [nm0 sz, nm0 n, nm0 d, nm0 lo, nm0 hi] g h) else .error 2) else .error 1 := by
  unfold Vbcrah.orderOf
  generalize (Vbcrah.isOrderName w && (Vbcrah.isName k && ((g == Vbcrah.ascii "beans" || g == Vbcrah.ascii "ground") && (h == Vbcrah.ascii "whole" || h == Vbcrah.ascii "parts")))) = c
  cases c with
  | false => simp
  | true =>
    rw [nums_eq]
    by_cases hg : good [sz, n, d, lo, hi] = true
    · have hg2 : good ([(1, 9999, sz), (1, Vbcrah.BAGS, n), (0, Vbcrah.DAYS, d), (0, 200, lo), (0, 200, hi)].map fun x => x.2.2) = true := hg
      rw [if_neg (by simp), if_pos hg2, if_pos ⟨rfl, hg⟩]
      show (if _ ∨ nm0 hi < nm0 lo then _ else _) = _
      by_cases hr : rgO sz n d lo hi = true
      · rw [if_pos hr, if_neg]
        · rfl
        · unfold rgO at hr
          simp only [Bool.and_eq_true, decide_eq_true_eq] at hr
          simp [Vbcrah.BAGS, Vbcrah.DAYS]
          omega
      · rw [if_neg hr, if_pos]
        unfold rgO at hr
        simp only [Bool.and_eq_true, decide_eq_true_eq] at hr
        simp [Vbcrah.BAGS, Vbcrah.DAYS]
        omega
    · have hg2 : ¬ good ([(1, 9999, sz), (1, Vbcrah.BAGS, n), (0, Vbcrah.DAYS, d), (0, 200, lo), (0, 200, hi)].map fun x => x.2.2) = true := hg
      rw [if_neg (by simp), if_neg hg2, if_neg (fun z => hg z.2)]
theorem add_law (b : Vbcrah.Book) (os : List Vbcrah.Order) (late : Bool) (hl : (os.any fun o => decide (400 < o.due)) = !late) : cvE (Vbcrah.addOrders b os) = if ((os.map fun o => o.name).all fun nm => decide (placeOf b nm < 0)) = true then (if decide (b.orders.length + os.length ≤ 8) = true then (if late = true then .ok { b with orders := b.orders ++ os } else .error 5) else .error 4) else .error 3 := by
  unfold Vbcrah.addOrders Vbcrah.ORDERS Vbcrah.DAYS
  rw [there_eq, hl]
  generalize (os.any fun o => b.orders.any fun x => x.name == o.name) = t
  cases t with
  | true => rfl
  | false =>
    simp only [Bool.false_eq_true, if_false, Bool.not_false, if_true]
    by_cases h : b.orders.length + os.length ≤ 8
    · rw [if_neg (by omega), if_pos (decide_eq_true h)]
      cases late <;> rfl
    · rw [if_pos (by omega), if_neg (by rw [decide_eq_false h]; decide)]
      rfl
theorem more_one (k : List Nat) (ns : List Nat) (g h : List Nat) (w : List Nat) : moreO k ns (g == Vbcrah.ascii "ground") (h == Vbcrah.ascii "whole") 0 [w] = [ord1 w k ns g h] := by
  show [_] = [_]
  unfold mkO ord1
  simp
theorem ord_law14 (b : Vbcrah.Book) (w k sz bg n du d fr lo to hi g h : List Nat) : resOrd (b, [Vbcrah.ascii "order", w, k, sz, bg, n, du, d, fr, lo, to, hi, g, h]) = cvE (Vbcrah.lineOf b [Vbcrah.ascii "order", w, k, sz, bg, n, du, d, fr, lo, to, hi, g, h]) := by
  unfold resOrd Vbcrah.lineOf resNW isEv resRep namesW toldO
  simp only [na_eq, orderOf_eq, ei_eq, ask_bind, ite_bind, ok_bind, or_eq]
  simp only [List.map_cons, List.map_nil, List.all_cons, List.all_nil, Bool.and_true, List.getD_cons_zero, List.getD_cons_succ, List.length_cons, List.length_nil, beq_self_eq_true, Bool.true_and, ← beq_dec]
  simp only [show ¬ (13 + 1 = 18) by decide, decide_false, decide_true, Bool.false_or, if_true, if_false, Bool.false_eq_true, Bool.not_false, Bool.true_or, Bool.and_true]
  generalize hC : (bg == Vbcrah.ascii "bags" && (du == Vbcrah.ascii "due" && (fr == Vbcrah.ascii "fresh" && to == Vbcrah.ascii "to"))) = C
  rw [Bool.or_comm (h == Vbcrah.ascii "whole")]
  generalize (g == Vbcrah.ascii "beans" || g == Vbcrah.ascii "ground") = G1
  generalize (h == Vbcrah.ascii "parts" || h == Vbcrah.ascii "whole") = H1
  generalize good [sz, n, d, lo, hi] = GD
  generalize Vbcrah.isName k = NK
  generalize Vbcrah.isOrderName w = NW
  cases NK <;> cases NW <;> cases C <;> cases G1 <;> cases H1 <;> cases GD <;> try (simp [cvE]; done)
  simp only [Bool.and_self, if_true, Bool.true_eq_false, if_false, and_self]
  show (if rgO sz n d lo hi = true then _ else _) = _
  by_cases hr : rgO sz n d lo hi = true
  case neg => simp [hr, cvE]
  rw [if_pos hr, if_pos hr]
  show _ = cvE (Vbcrah.addOrders b [_])
  have hd : nm0 d ≤ 400 := by
    unfold rgO at hr
    simp only [Bool.and_eq_true, decide_eq_true_eq] at hr
    exact hr.1.1.2
  rw [add_law b _ true (by
    show (decide (400 < nm0 d) || false) = false
    rw [Bool.or_false]
    exact decide_eq_false (by omega))]
  rw [← more_one]
  have e5 : decide ((nm0 d : Int) + ((([0, 1] : List Nat).getD 0 0 : Nat) : Int) * (((([0, 1] : List Nat).getD 1 0 : Nat) : Int) - 1) ≤ 400) = true := by
    refine decide_eq_true ?_
    show (nm0 d : Int) + 0 * (1 - 1) ≤ 400
    omega
  rw [e5]
  rfl
theorem zi_rng {α : Type} (f : Nat → α) (n : Nat) : ((List.range n).map f).zipIdx = (List.range n).map fun i => (f i, i) := by
  refine List.ext_getElem? fun i => ?_
  rw [List.getElem?_zipIdx, List.getElem?_map, List.getElem?_map]
  cases h : (List.range n)[i]? with
  | none => rfl
  | some j =>
    have := List.getElem?_eq_some_iff.mp h
    obtain ⟨hi, e⟩ := this
    rw [List.getElem_range] at e
    subst e
    simp
theorem more_again (k : List Nat) (ns : List Nat) (g h : List Nat) (w : List Nat) (p t : Nat) : moreO k ns (g == Vbcrah.ascii "ground") (h == Vbcrah.ascii "whole") p ((List.range t).map fun i => w ++ Vbcrah.dec (i + 1)) = Vbcrah.again (ord1 w k ns g h) p t := by
  unfold moreO Vbcrah.again
  rw [zi_rng, List.map_map]
  rfl
theorem names_again (o : Vbcrah.Order) (p t : Nat) : ((Vbcrah.again o p t).map fun o => o.name) = (List.range t).map fun i => o.name ++ Vbcrah.dec (i + 1) := by
  unfold Vbcrah.again
  rw [List.map_map]
  rfl
theorem late_again (o : Vbcrah.Order) (p t : Nat) (ht : 2 ≤ t) : ((Vbcrah.again o p t).any fun o => decide (400 < o.due)) = !decide ((o.due : Int) + (p : Int) * ((t : Int) - 1) ≤ 400) := by
  unfold Vbcrah.again
  obtain ⟨m, rfl⟩ : ∃ m, t = m + 1 := ⟨t - 1, by omega⟩
  have e : (o.due : Int) + (p : Int) * (((m + 1 : Nat) : Int) - 1) = ((o.due + p * m : Nat) : Int) := by
    rw [show (((m + 1 : Nat) : Int) - 1) = (m : Int) by omega, Int.natCast_add, Int.natCast_mul]
  rw [e]
  by_cases h : o.due + p * m ≤ 400
  · rw [decide_eq_true (by omega), List.any_eq_false.mpr]
    · rfl
    · intro x hx
      obtain ⟨i, hi, rfl⟩ := List.mem_map.mp hx
      have hi := List.mem_range.mp hi
      have : p * i ≤ p * m := Nat.mul_le_mul_left p (by omega)
      simp only [decide_eq_true_eq]
      omega
  · rw [decide_eq_false (by omega), List.any_eq_true.mpr]
    · rfl
    · refine ⟨_, List.mem_map.mpr ⟨m, List.mem_range.mpr (by omega), rfl⟩, ?_⟩
      simp only [decide_eq_true_eq]
      omega
theorem len_again (o : Vbcrah.Order) (p t : Nat) : (Vbcrah.again o p t).length = t := by
  unfold Vbcrah.again
  rw [List.length_map, List.length_range]
theorem nw2 (ws : Wd) (i j : Nat) (x y : String) : resNW (ws, [(i, x), (j, y)]) = if (ws.getD i [] == Vbcrah.ascii x && ws.getD j [] == Vbcrah.ascii y) = true then .ok () else .error 1 := by
  unfold resNW ask
  rw [beq_dec, beq_dec]
  simp only [List.all_cons, List.all_nil, Bool.and_true]
theorem isName_order {w : List Nat} (h : Vbcrah.isName w = true) : Vbcrah.isOrderName w = true := by
  unfold Vbcrah.isOrderName
  rw [h]
  rfl
theorem ord_law18 (b : Vbcrah.Book) (w k sz bg n du d fr lo to hi g h ev p ti t : List Nat) : resOrd (b, [Vbcrah.ascii "order", w, k, sz, bg, n, du, d, fr, lo, to, hi, g, h, ev, p, ti, t]) = cvE (Vbcrah.lineOf b [Vbcrah.ascii "order", w, k, sz, bg, n, du, d, fr, lo, to, hi, g, h, ev, p, ti, t]) := by
  unfold resOrd Vbcrah.lineOf isEv resRep namesW toldO
  simp only [nw2]
  unfold resNW
  simp only [na_eq, nums_eq, orderOf_eq, ei_eq, ask_bind, ite_bind, ok_bind, or_eq]
  simp only [List.map_cons, List.map_nil, List.all_cons, List.all_nil, Bool.and_true, List.getD_cons_zero, List.getD_cons_succ, List.length_cons, List.length_nil, beq_self_eq_true, Bool.true_and, ← beq_dec]
  simp only [show ¬ (17 + 1 = 14) by decide, decide_false, decide_true, Bool.true_or, if_true, if_false, Bool.false_eq_true, Bool.not_true, Bool.false_or, Bool.and_true]
  rw [Bool.or_comm (h == Vbcrah.ascii "whole")]
  generalize hC : (bg == Vbcrah.ascii "bags") = C1
  generalize hC : (du == Vbcrah.ascii "due") = C2
  generalize hC : (fr == Vbcrah.ascii "fresh") = C3
  generalize hC : (to == Vbcrah.ascii "to") = C4
  generalize hC : (ev == Vbcrah.ascii "every") = C5
  generalize hC : (ti == Vbcrah.ascii "times") = C6
  generalize (g == Vbcrah.ascii "beans" || g == Vbcrah.ascii "ground") = G1
  generalize (h == Vbcrah.ascii "parts" || h == Vbcrah.ascii "whole") = H1
  generalize good [sz, n, d, lo, hi] = GD
  generalize good [p, t] = GP
  generalize Vbcrah.isName k = NK
  cases hn : Vbcrah.isName w with
  | false => simp [cvE]
  | true =>
  rw [isName_order hn]
  clear hC hn
  cases NK with
  | false => cases C1 <;> cases C2 <;> cases C3 <;> cases C4 <;> cases C5 <;> cases C6 <;> cases GP <;> simp [cvE]
  | true =>
  cases C1 with
  | false => simp [cvE]
  | true =>
  cases C2 with
  | false => simp [cvE]
  | true =>
  cases C3 with
  | false => simp [cvE]
  | true =>
  cases C4 with
  | false => simp [cvE]
  | true =>
  cases C5 with
  | false => cases GD <;> cases G1 <;> cases H1 <;> simp [cvE] <;> rfl
  | true =>
  cases C6 with
  | false => cases GD <;> cases G1 <;> cases H1 <;> simp [cvE] <;> rfl
  | true =>
  cases GP with
  | false => cases GD <;> cases G1 <;> cases H1 <;> simp [cvE] <;> rfl
  | true =>
  cases GD with
  | false => simp [cvE]
  | true =>
  cases G1 with
  | false => simp [cvE]
  | true =>
  cases H1 with
  | false => simp [cvE]
  | true =>
  simp only [Bool.and_self, if_true, Bool.true_eq_false, if_false, and_self]
  rw [ok_bind]
  show (if (rgO sz n d lo hi && (decide (1 ≤ nm0 p) && decide (nm0 p ≤ 60) && (decide (2 ≤ nm0 t) && decide (nm0 t ≤ 9)))) = true then _ else _) = _
  by_cases hr : rgO sz n d lo hi = true
  case neg => simp [hr, cvE]
  rw [hr, Bool.true_and, if_pos rfl]
  by_cases ho : (decide (1 ≤ nm0 p) && decide (nm0 p ≤ 60) && (decide (2 ≤ nm0 t) && decide (nm0 t ≤ 9))) = true
  case neg => rw [if_neg ho]; simp [ho, cvE]
  rw [if_pos ho]
  rw [ho]
  show _ = cvE (Vbcrah.addOrders b (Vbcrah.again (ord1 w k [nm0 sz, nm0 n, nm0 d, nm0 lo, nm0 hi] g h) (nm0 p) (nm0 t)))
  have ht : 2 ≤ nm0 t := by
    simp only [Bool.and_eq_true, decide_eq_true_eq] at ho
    exact ho.2.1
  rw [add_law b _ _ (late_again _ _ _ ht), names_again, len_again, ← more_again]
  rfl
theorem line_other (b : Vbcrah.Book) (ws : Wd) (h5 : ws.length ≠ 5) (h7 : ws.length ≠ 7) (h14 : ws.length ≠ 14) (h18 : ws.length ≠ 18) : Vbcrah.lineOf b ws = .error 1 := by
  unfold Vbcrah.lineOf
  split <;> first | rfl | (exfalso; first | exact h5 rfl | exact h7 rfl | exact h14 rfl | exact h18 rfl)
theorem line_bad (b : Vbcrah.Book) (l : List Nat) (ws : Wd) (h1 : l ≠ Vbcrah.ascii "stock" ∨ ws.length ≠ 6) (h2 : l ≠ Vbcrah.ascii "limits" ∨ ws.length ≠ 4) (h3 : l ≠ Vbcrah.ascii "order" ∨ (ws.length ≠ 13 ∧ ws.length ≠ 17)) : Vbcrah.lineOf b (l :: ws) = .error 1 := by
  have e : ∀ {x y : List Nat}, x ≠ y → (x == y) = false := fun h => beq_eq_false_iff_ne.mpr h
  unfold Vbcrah.lineOf
  split
  · rename_i q
    injection q with q1 q2
    subst q1 q2
    rcases h1 with h | h
    · rw [e h]; rfl
    · exact absurd rfl h
  · rename_i q
    injection q with q1 q2
    subst q1 q2
    rcases h2 with h | h
    · rw [e h]; rfl
    · exact absurd rfl h
  · rename_i q
    injection q with q1 q2
    subst q1 q2
    rcases h3 with h | h
    · rw [e h]; rfl
    · exact absurd rfl h.1
  · rename_i q
    injection q with q1 q2
    subst q1 q2
    rcases h3 with h | h
    · rw [e h]; rfl
    · exact absurd rfl h.2
  · rfl
theorem stock_bad (b : Vbcrah.Book) (ws : Wd) (h : ws.length ≠ 7) : resStock (b, ws) = .error 1 := by
  unfold resStock
  rw [ask_bind, decide_eq_false h]
  rfl
theorem lim_bad (b : Vbcrah.Book) (ws : Wd) (h : ws.length ≠ 5) : resLim (b, ws) = .error 1 := by
  unfold resLim
  rw [ask_bind, decide_eq_false h]
  rfl
theorem ord_bad (b : Vbcrah.Book) (ws : Wd) (h : ws.length ≠ 14) (h2 : ws.length ≠ 18) : resOrd (b, ws) = .error 1 := by
  unfold resOrd isEv
  rw [ask_bind, decide_eq_false h, decide_eq_false h2]
  rfl
theorem len13 {ws : Wd} (h : ws.length = 13) : ∃ w k sz bg n du d fr lo to hi g h, ws = [w, k, sz, bg, n, du, d, fr, lo, to, hi, g, h] := by
  match ws, h with
  | [w, k, sz, bg, n, du, d, fr, lo, to, hi, g, h], _ => exact ⟨w, k, sz, bg, n, du, d, fr, lo, to, hi, g, h, rfl⟩
theorem len17 {ws : Wd} (h : ws.length = 17) : ∃ w k sz bg n du d fr lo to hi g h ev p ti t, ws = [w, k, sz, bg, n, du, d, fr, lo, to, hi, g, h, ev, p, ti, t] := by
  match ws, h with
  | [w, k, sz, bg, n, du, d, fr, lo, to, hi, g, h, ev, p, ti, t], _ => exact ⟨w, k, sz, bg, n, du, d, fr, lo, to, hi, g, h, ev, p, ti, t, rfl⟩
theorem len6 {ws : Wd} (h : ws.length = 6) : ∃ b c d e f g, ws = [b, c, d, e, f, g] := by
  match ws, h with
  | [b, c, d, e, f, g], _ => exact ⟨b, c, d, e, f, g, rfl⟩
theorem len4 {ws : Wd} (h : ws.length = 4) : ∃ b c d e, ws = [b, c, d, e] := by
  match ws, h with
  | [b, c, d, e], _ => exact ⟨b, c, d, e, rfl⟩
theorem line_law (b : Vbcrah.Book) (line : List Nat) : resLine (b, line) = match Vbcrah.wordsOf line with
    | [] => .ok b
    | ws => cvE (Vbcrah.lineOf b ws) := by
  unfold resLine
  show (if Vbcrah.wordsOf line = [] then _ else _) = _
  cases hw : Vbcrah.wordsOf line with
  | nil => rw [if_pos rfl]
  | cons l ws =>
    rw [if_neg (by simp)]
    simp only [List.getD_cons_zero]
    have so : Vbcrah.ascii "stock" ≠ Vbcrah.ascii "order" := by decide
    have sl : Vbcrah.ascii "stock" ≠ Vbcrah.ascii "limits" := by decide
    have ol : Vbcrah.ascii "order" ≠ Vbcrah.ascii "limits" := by decide
    by_cases h1 : l = Vbcrah.ascii "stock"
    · subst h1
      rw [if_pos rfl]
      by_cases q : ws.length = 6
      · obtain ⟨k, sz, d, dn, g, n, rfl⟩ := len6 q
        exact stock_law b k sz d dn g n
      · rw [stock_bad b _ (by rw [List.length_cons]; omega), line_bad b _ ws (.inr q) (.inl sl) (.inl so)]
        rfl
    · rw [if_neg h1]
      by_cases h2 : l = Vbcrah.ascii "order"
      · subst h2
        rw [if_pos rfl]
        by_cases q : ws.length = 13
        · obtain ⟨w, k, sz, bg, n, du, d, fr, lo, to, hi, g, h, rfl⟩ := len13 q
          exact ord_law14 ..
        · by_cases q2 : ws.length = 17
          · obtain ⟨w, k, sz, bg, n, du, d, fr, lo, to, hi, g, h, ev, p, ti, t, rfl⟩ := len17 q2
            exact ord_law18 ..
          · rw [ord_bad b _ (by rw [List.length_cons]; omega) (by rw [List.length_cons]; omega), line_bad b _ ws (.inl h1) (.inl ol) (.inr ⟨q, q2⟩)]
            rfl
      · rw [if_neg h2, ask_bind]
        by_cases h3 : l = Vbcrah.ascii "limits"
        · subst h3
          rw [if_pos (decide_eq_true rfl)]
          by_cases q : ws.length = 4
          · obtain ⟨g, gn, s, sn, rfl⟩ := len4 q
            exact lim_law ..
          · rw [lim_bad b _ (by rw [List.length_cons]; omega), line_bad b _ ws (.inl h1) (.inr q) (.inl h2)]
            rfl
        · rw [if_neg (by rw [decide_eq_false h3]; decide), line_bad b _ ws (.inl h1) (.inl h3) (.inl h2)]
          rfl
def cvF (r : Except Vbcrah.Fault Vbcrah.Book) : Except (Int × Int) Vbcrah.Book := match r with
  | .ok b => .ok b
  | .error e => .error ((e.1 : Int), (e.2 : Int))
theorem run_law : ∀ (ls : List (List Nat)) (n : Nat) (b : Vbcrah.Book), runL n b ls = cvF (Vbcrah.linesFrom n b ls)
  | [], _, _ => rfl
  | l :: ls, n, b => by
    unfold runL Vbcrah.linesFrom
    rw [line_law]
    cases hw : Vbcrah.wordsOf l with
    | nil => exact run_law ls (n + 1) b
    | cons x xs =>
      show (match cvE (Vbcrah.lineOf b (x :: xs)) with
        | .error k => .error (k, (n : Int))
        | .ok c => runL (n + 1) c ls) = cvF (match Vbcrah.lineOf b (x :: xs) with
        | .error k => .error (k, n)
        | .ok c => Vbcrah.linesFrom (n + 1) c ls)
      cases Vbcrah.lineOf b (x :: xs) with
      | error k => rfl
      | ok c => exact run_law ls (n + 1) c
end Fb
namespace Fb
/-! FbZ2: books read can be held (plain) -/
theorem nums_ok {l : List (Nat × Nat × List Nat)} {ns : List Nat} {ok : Bool} (h : Vbcrah.numbers l = some (ns, ok)) (hk : ok = true) : ns = (l.map fun x => nm0 x.2.2) ∧ ∀ x ∈ l, x.1 ≤ nm0 x.2.2 ∧ nm0 x.2.2 ≤ x.2.1 := by
  rw [nums_eq] at h
  split at h
  · injection h with h
    injection h with h1 h2
    refine ⟨h1.symm, fun x hx => ?_⟩
    rw [hk] at h2
    have := List.all_eq_true.mp h2 x hx
    rw [Bool.and_eq_true] at this
    exact ⟨of_decide_eq_true this.1, of_decide_eq_true this.2⟩
  · cases h
structure OdV (o : Vbcrah.Order) : Prop where
  name : o.name.length ≤ 9
  kind : o.kind.length ≤ 8
  size : o.size ≤ 9999
  bags : o.bags ≤ 60
  due : o.due ≤ 400
  lo : o.lo ≤ 200
  hi : o.hi ≤ 200
theorem orderOf_v {w k sz n d lo hi g h : List Nat} {o : Vbcrah.Order} (e : Vbcrah.orderOf w k sz n d lo hi g h = .ok o) : OdV o ∧ o.name = w := by
  rw [orderOf_eq] at e
  split at e
  · rename_i c
    split at e
    · rename_i r
      injection e with e
      subst e
      unfold rgO at r
      simp only [Bool.and_eq_true, decide_eq_true_eq] at r c
      refine ⟨⟨oname_len c.1.1, kind_len c.1.2.1, ?_, ?_, ?_, ?_, ?_⟩, rfl⟩
      · exact r.1.1.1.1.2
      · exact r.1.1.1.2.2
      · exact r.1.1.2
      · exact r.1.2
      · exact r.2.2
    · cases e
  · cases e
theorem add_v {b c : Vbcrah.Book} {os : List Vbcrah.Order} (e : Vbcrah.addOrders b os = .ok c) (h : BV b) (hv : ∀ o ∈ os, OdOk o ∧ o.bags ≤ 60) : BV c := by
  unfold Vbcrah.addOrders at e
  split at e
  · cases e
  · split at e
    · cases e
    · rename_i n8
      split at e
      · cases e
      · injection e with e
        subst e
        unfold Vbcrah.ORDERS at n8
        refine ⟨⟨h.ok.ns, ?_, h.ok.st, fun o ho => ?_, h.ok.grind, h.ok.send⟩, fun o ho => ?_⟩
        · show (b.orders ++ os).length ≤ 8
          rw [List.length_append]; omega
        · rcases List.mem_append.mp ho with q | q
          · exact h.ok.od o q
          · exact (hv o q).1
        · rcases List.mem_append.mp ho with q | q
          · exact h.bags o q
          · exact (hv o q).2
theorem dec_one : ∀ i, i < 9 → (Vbcrah.dec (i + 1)).length ≤ 1 := by decide +kernel
theorem line_v {b c : Vbcrah.Book} {ws : List (List Nat)} (e : Vbcrah.lineOf b ws = .ok c) (h : BV b) : BV c := by
  unfold Vbcrah.lineOf at e
  split at e
  · rename_i l k sz d dn g n
    split at e
    · cases e
    · rename_i c1
      simp only [Bool.and_eq_false_iff, not_or, Bool.not_eq_false] at c1
      split at e
      · rename_i x y z ok hn
        split at e
        · cases e
        · rename_i hok
          obtain ⟨q1, q2⟩ := nums_ok hn (by simpa using hok)
          split at e
          · cases e
          · rename_i n8
            injection e with e
            subst e
            unfold Vbcrah.STOCKS at n8
            have e1 : x = nm0 sz := by injection q1
            have e2 : y = nm0 dn := by injection q1 with _ q1; injection q1
            have e3 : z = nm0 n := by injection q1 with _ q1; injection q1 with _ q1; injection q1
            have r1 : 1 ≤ nm0 sz ∧ nm0 sz ≤ 9999 := q2 (1, 9999, sz) (by simp)
            have r2 : 0 ≤ nm0 dn ∧ nm0 dn ≤ 400 := q2 (0, Vbcrah.DAYS, dn) (by simp)
            have r3 : 0 ≤ nm0 n ∧ nm0 n ≤ 60 := q2 (0, Vbcrah.BAGS, n) (by simp)
            refine ⟨⟨?_, h.ok.no, fun s hs => ?_, h.ok.od, h.ok.grind, h.ok.send⟩, h.bags⟩
            · show (b.stocks ++ [_]).length ≤ 8
              rw [List.length_append, List.length_singleton]; omega
            · rcases List.mem_append.mp hs with q | q
              · exact h.ok.st s q
              · rw [List.mem_singleton] at q
                subst q
                have hk := kind_len c1.2.1
                refine ⟨?_, ?_, ?_, ?_⟩
                · show k.length ≤ 10; omega
                · show x ≤ 9999; omega
                · show y ≤ 9999; omega
                · show z ≤ 9999; omega
      · cases e
  · rename_i l g gn s sn
    split at e
    · cases e
    · split at e
      · rename_i x y ok hn
        split at e
        · cases e
        · rename_i hok
          obtain ⟨q1, q2⟩ := nums_ok hn (by simpa using hok)
          injection e with e
          subst e
          have e1 : x = nm0 gn := by injection q1
          have e2 : y = nm0 sn := by injection q1 with _ q1; injection q1
          have r1 : 0 ≤ nm0 gn ∧ nm0 gn ≤ 500 := q2 (0, Vbcrah.LIMIT, gn) (by simp)
          have r2 : 0 ≤ nm0 sn ∧ nm0 sn ≤ 500 := q2 (0, Vbcrah.LIMIT, sn) (by simp)
          exact ⟨⟨h.ok.ns, h.ok.no, h.ok.st, h.ok.od, by show x ≤ 9999; omega, by show y ≤ 9999; omega⟩, h.bags⟩
      · cases e
  · split at e
    · cases e
    · split at e
      · cases e
      · rename_i o ho
        obtain ⟨v, _⟩ := orderOf_v ho
        refine add_v e h fun o' ho' => ?_
        rw [List.mem_singleton] at ho'
        subst ho'
        have := v.name; have := v.kind; have := v.size; have := v.bags; have := v.due; have := v.lo; have := v.hi
        exact ⟨⟨by omega, by omega, by omega, by omega, by omega, by omega, by omega⟩, by omega⟩
  · rename_i l w k sz bg n du d fr lo to hi g hh ev p ti t
    split at e
    · cases e
    · rename_i c1
      simp only [Bool.and_eq_false_iff, not_or, Bool.not_eq_false] at c1
      split at e
      · rename_i x y ok hn
        split at e
        · cases e
        · rename_i o ho
          obtain ⟨v, hw⟩ := orderOf_v ho
          split at e
          · cases e
          · rename_i hok
            obtain ⟨q1, q2⟩ := nums_ok hn (by simpa using hok)
            have e1 : x = nm0 p := by injection q1
            have e2 : y = nm0 t := by injection q1 with _ q1; injection q1
            have r1 := q2 (1, 60, p) (by simp)
            have r2 := q2 (2, 9, t) (by simp)
            refine add_v e h fun o' ho' => ?_
            unfold Vbcrah.again at ho'
            obtain ⟨i, hi', rfl⟩ := List.mem_map.mp ho'
            have hi' := List.mem_range.mp hi'
            have hw8 := kind_len c1.2.1
            have hy : y ≤ 9 := by rw [e2]; exact r2.2
            have hd := dec_one i (by omega)
            have := v.kind; have := v.size; have := v.bags; have := v.due; have := v.lo; have := v.hi
            have hx : x ≤ 60 := by rw [e1]; exact r1.2
            have hm : x * i ≤ 60 * 9 := Nat.mul_le_mul hx (by omega)
            refine ⟨⟨?_, by show o.kind.length ≤ 10; omega, by show o.size ≤ 9999; omega, by show o.bags ≤ 9999; omega, by show o.due + x * i ≤ 9999; omega, by show o.lo ≤ 9999; omega, by show o.hi ≤ 9999; omega⟩, by show o.bags ≤ 60; omega⟩
            show (o.name ++ Vbcrah.dec (i + 1)).length ≤ 10
            rw [List.length_append, hw]
            omega
      · cases e
  · cases e
theorem lines_v : ∀ (ls : List (List Nat)) {n : Nat} {b c : Vbcrah.Book}, Vbcrah.linesFrom n b ls = .ok c → BV b → BV c
  | [], _, _, _, e, h => by injection e with e; subst e; exact h
  | l :: ls, n, b, c, e, h => by
    unfold Vbcrah.linesFrom at e
    cases hw : Vbcrah.wordsOf l with
    | nil => rw [hw] at e; exact lines_v ls e h
    | cons x xs =>
      rw [hw] at e
      have e : (match Vbcrah.lineOf b (x :: xs) with
        | .error k => Except.error (k, n)
        | .ok c => Vbcrah.linesFrom (n + 1) c ls) = Except.ok c := e
      cases hl : Vbcrah.lineOf b (x :: xs) with
      | error k => rw [hl] at e; cases e
      | ok c' => rw [hl] at e; exact lines_v ls e (line_v hl h)
end Fb
namespace Fb
/-! FbZ3: whole ones, what more would do, without some (plain) -/
theorem stepMw_many (b : Vbcrah.Book) (m : Nat) : ∀ (ws : List (List Nat)) (f : List Nat), (∀ w ∈ ws, w.length = m) → f.length ≤ m → ws.foldl (stepMw b) f = if f.length < m then (ws.find? (Vbcrah.together b)).getD f else f
  | [], f, _, _ => by simp
  | w :: ws, f, h, hf => by
    have hw := h w (by simp)
    have h2 : ∀ w ∈ ws, w.length = m := fun x hx => h x (by simp [hx])
    rw [List.foldl_cons, List.find?_cons]
    by_cases hm : f.length < m
    · rw [if_pos hm]
      cases ht : Vbcrah.together b w with
      | true =>
        have e : stepMw b f w = w := by
          unfold stepMw
          rw [if_pos]
          rw [Bool.and_eq_true]
          exact ⟨decide_eq_true (by omega), ht⟩
        rw [e, stepMw_many b m ws w h2 (by omega), if_neg (by omega)]
        rfl
      | false =>
        have e : stepMw b f w = f := by
          unfold stepMw
          rw [if_neg]
          rw [Bool.and_eq_true]
          rintro ⟨_, z⟩
          have z : Vbcrah.together b w = true := z
          rw [ht] at z; cases z
        rw [e, stepMw_many b m ws f h2 hf, if_pos hm]
    · have e : stepMw b f w = f := by
        unfold stepMw
        rw [if_neg]
        rw [Bool.and_eq_true]
        rintro ⟨z, _⟩
        have := of_decide_eq_true z
        omega
      rw [e, stepMw_many b m ws f h2 hf, if_neg hm, if_neg hm]
theorem mw_upto (b : Vbcrah.Book) (n : Nat) : ∀ m, ((List.range m).flatMap fun k => Vbcrah.choices k (List.range n)).foldl (stepMw b) [] = (((List.range m).reverse.flatMap fun k => Vbcrah.choices k (List.range n)).find? (Vbcrah.together b)).getD [] ∧
    ((((List.range m).reverse.flatMap fun k => Vbcrah.choices k (List.range n)).find? (Vbcrah.together b)).getD []).length ≤ m - 1
  | 0 => ⟨rfl, Nat.le_refl _⟩
  | m + 1 => by
    obtain ⟨h1, h2⟩ := mw_upto b n m
    have e : (((List.range (m + 1)).reverse.flatMap fun k => Vbcrah.choices k (List.range n)).find? (Vbcrah.together b)).getD [] = ((Vbcrah.choices m (List.range n)).find? (Vbcrah.together b)).getD ((((List.range m).reverse.flatMap fun k => Vbcrah.choices k (List.range n)).find? (Vbcrah.together b)).getD []) := by
      rw [List.range_succ, List.reverse_append, List.reverse_singleton, List.singleton_append, List.flatMap_cons, List.find?_append]
      cases (Vbcrah.choices m (List.range n)).find? (Vbcrah.together b) <;> rfl
    constructor
    · rw [e, List.range_succ, List.flatMap_append, List.foldl_append, h1, List.flatMap_cons, List.flatMap_nil, List.append_nil, stepMw_many b m _ _ (fun w hw => choices_len m _ w hw) (by omega)]
      generalize hf : (((List.range m).reverse.flatMap fun k => Vbcrah.choices k (List.range n)).find? (Vbcrah.together b)).getD [] = f
      rw [hf] at h2
      split
      · rfl
      · have e0 : m = 0 := by omega
        subst e0
        have ef : f = [] := List.length_eq_zero_iff.mp (by omega)
        subst ef
        cases q : (Vbcrah.choices 0 (List.range n)).find? (Vbcrah.together b) with
        | none => rfl
        | some w =>
          have := choices_len 0 _ w (List.mem_of_find?_eq_some q)
          exact (List.length_eq_zero_iff.mp this).symm
    · rw [e]
      cases q : (Vbcrah.choices m (List.range n)).find? (Vbcrah.together b) with
      | none => show _ ≤ m; simp only [Option.getD_none]; omega
      | some w =>
        have := choices_len m _ w (List.mem_of_find?_eq_some q)
        show w.length ≤ m + 1 - 1
        omega
theorem mw_law (b : Vbcrah.Book) : mwW b = Vbcrah.mostWhole b := (mw_upto b b.orders.length (b.orders.length + 1)).1
/-! sums -/
theorem sum_filter {α : Type} (p : α → Bool) (f : α → Nat) : ∀ l : List α, ((l.filter p).map f).sum = (l.map fun x => if p x = true then f x else 0).sum
  | [] => rfl
  | x :: l => by
    rw [List.filter_cons, List.map_cons, List.sum_cons, ← sum_filter p f l]
    split <;> simp
theorem stock_sum (b : Vbcrah.Book) (w : List Nat) : (((Vbcrah.stockTable b).filter fun s => s.2.any w.contains).map fun s => s.1).sum = (b.stocks.map fun s => if ((List.range b.orders.length).filter fun j => Vbcrah.suits s (Vbcrah.orderAt b j)).any w.contains = true then s.bags else 0).sum := by
  unfold Vbcrah.stockTable
  rw [sum_filter, List.map_map]
  rfl
/-! the most, by all bounds -/
theorem fold_min_iff {α : Type} {F : α → Nat} {t : Nat} : ∀ (ws : List α) (z : Nat), t ≤ ws.foldl (fun m w => min m (F w)) z ↔ t ≤ z ∧ ∀ w ∈ ws, t ≤ F w
  | [], z => by simp
  | w :: ws, z => by
    rw [List.foldl_cons, fold_min_iff ws]
    simp only [List.mem_cons, forall_eq_or_imp]
    constructor
    · rintro ⟨h1, h2⟩
      exact ⟨by omega, by omega, h2⟩
    · rintro ⟨h1, h2, h3⟩
      exact ⟨by omega, h3⟩
theorem sets_nil (n : Nat) : [] ∈ Vbcrah.sets n := List.mem_of_getElem? (sets_zero n)
theorem most_ge {b : Vbcrah.Book} {want : List Nat} {t : Nat} : t ≤ Vbcrah.mostBy b want ↔ ∀ w ∈ setsOf b, t ≤ boundW b want w := by
  rw [most_fold, fold_min_iff]
  exact ⟨fun h => h.2, fun h => ⟨h [] (sets_nil _), h⟩⟩
/-- orders of some days, each day once, are no more than all -/
theorem days_sum (f : Nat → Nat) (due : Nat → Nat) : ∀ (ds js : List Nat), ds.Nodup → (ds.map fun d => ((js.filter fun j => due j == d).map f).sum).sum ≤ (js.map f).sum
  | [], js, _ => Nat.zero_le _
  | d :: ds, js, h => by
    obtain ⟨h1, h2⟩ := List.nodup_cons.mp h
    have ih := days_sum f due ds (js.filter fun j => !(due j == d)) h2
    have e : ∀ e ∈ ds, ((js.filter fun j => !(due j == d)).filter fun j => due j == e) = js.filter fun j => due j == e := fun e he => by
      rw [List.filter_filter]
      refine List.filter_congr fun j _ => ?_
      by_cases q : due j = e
      · subst q
        have : (due j == d) = false := beq_eq_false_iff_ne.mpr fun z => h1 (by rw [← z]; exact he)
        rw [this]; simp
      · rw [beq_eq_false_iff_ne.mpr q]; rfl
    have e2 : (ds.map fun d' => (((js.filter fun j => !(due j == d)).filter fun j => due j == d').map f).sum) = ds.map fun d' => ((js.filter fun j => due j == d').map f).sum := List.map_congr_left fun x hx => by rw [e x hx]
    rw [e2] at ih
    have e3 : (js.map f).sum = ((js.filter fun j => due j == d).map f).sum + ((js.filter fun j => !(due j == d)).map f).sum := by
      rw [sum_filter, sum_filter]
      clear ih e e2
      induction js with
      | nil => rfl
      | cons j js ih2 =>
        simp only [List.map_cons, List.sum_cons]
        rw [ih2]
        cases due j == d <;> simp <;> omega
    rw [List.map_cons, List.sum_cons, e3]
    omega
theorem sum_map_le {α : Type} {f g : α → Nat} : ∀ {l : List α}, (∀ x ∈ l, f x ≤ g x) → (l.map f).sum ≤ (l.map g).sum
  | [], _ => Nat.le_refl _
  | x :: l, h => by
    have := h x (by simp)
    have := sum_map_le (l := l) fun y hy => h y (by simp [hy])
    simp only [List.map_cons, List.sum_cons]
    omega
theorem rng_sum (want : List Nat) : ((List.range want.length).map fun j => want.getD j 0).sum = want.sum := by
  congr 1
  refine List.ext_getElem? fun i => ?_
  rw [List.getElem?_map]
  by_cases h : i < want.length
  · rw [List.getElem?_range h, List.getElem?_eq_getElem h]
    simp [h]
  · rw [List.getElem?_eq_none (by rw [List.length_range]; omega), List.getElem?_eq_none (by omega)]
    rfl
theorem day_two (p q : Nat → Bool) (f : Nat → Nat) : ∀ js : List Nat, ((js.filter fun j => p j && q j).map f).sum + ((js.filter fun j => p j && !q j).map f).sum = ((js.filter p).map f).sum
  | [] => rfl
  | j :: js => by
    have ih := day_two p q f js
    simp only [List.filter_cons]
    cases p j <;> cases q j <;> simp <;> omega
theorem others_nil (l : List Nat) : othersOf l [] = l := by
  unfold othersOf
  exact List.filter_eq_self.mpr fun x _ => by simp
/-- no more than is wanted -/
theorem most_le {b : Vbcrah.Book} {want : List Nat} (hl : want.length = b.orders.length) : Vbcrah.mostBy b want ≤ want.sum := by
  have h1 : Vbcrah.mostBy b want ≤ boundW b want [] := by
    rw [most_fold]
    exact fold_min_le _ _
  refine Nat.le_trans h1 ?_
  rw [← bound_eq (b := b) (want := want) (w := []) (fun j hj => by cases hj)]
  have e0 : rightOf b [] = [] := by
    unfold rightOf
    exact List.filter_eq_nil_iff.mpr fun i _ => by simp
  rw [e0]
  show 0 + daysB b want [] ≤ _
  rw [Nat.zero_add, ← rng_sum want, hl]
  unfold daysB
  refine Nat.le_trans (sum_map_le (g := fun d => (((List.range b.orders.length).filter fun j => (Vbcrah.orderAt b j).due == d).map fun j => want.getD j 0).sum) fun d _ => ?_) (days_sum (fun j => want.getD j 0) (fun j => (Vbcrah.orderAt b j).due) (Vbcrah.daysOf b) (List.range b.orders.length) ((FbM.days_rise b).imp fun {a b} z => Nat.ne_of_lt z))
  have := day_two (fun j => (Vbcrah.orderAt b j).due == d) (fun j => (Vbcrah.orderAt b j).ground) (fun j => want.getD j 0) (List.range b.orders.length)
  unfold putUp restOf sumN
  rw [others_nil, others_nil]
  unfold groundOn beansOn
  show min b.send (_ + min b.grind _) ≤ _
  dsimp only
  omega
theorem can_iff {b : Vbcrah.Book} {want : List Nat} (hl : want.length = b.orders.length) : Vbcrah.can b want = true ↔ ∀ w ∈ setsOf b, want.sum ≤ boundW b want w := by
  unfold Vbcrah.can
  rw [← most_ge, beq_iff_eq]
  have := most_le hl
  omega
/-! more bags -/
theorem more_bound (b : Vbcrah.Book) (st : Vbcrah.Stock) (n : Nat) (want w : List Nat) (hw : ∀ j ∈ w, j < b.orders.length) : boundW (Vbcrah.moreBags b st n) want w = boundW b want w + if (w.any fun j => Vbcrah.suits st (Vbcrah.orderAt b j)) = true then n else 0 := by
  have ed : Vbcrah.dayTable (Vbcrah.moreBags b st n) = Vbcrah.dayTable b := rfl
  have es : Vbcrah.stockTable (Vbcrah.moreBags b st n) = Vbcrah.stockTable b ++ [(n, (List.range b.orders.length).filter fun j => Vbcrah.suits st (Vbcrah.orderAt b j))] := by
    unfold Vbcrah.stockTable Vbcrah.moreBags
    rw [List.map_append]
    rfl
  unfold boundW Vbcrah.boundBy
  rw [ed, es, List.filter_append, List.map_append, List.sum_append]
  have e1 : ((List.filter (fun s : Nat × List Nat => s.2.any w.contains) [(n, (List.range b.orders.length).filter fun j => Vbcrah.suits st (Vbcrah.orderAt b j))]).map fun s => s.1).sum = if (w.any fun j => Vbcrah.suits st (Vbcrah.orderAt b j)) = true then n else 0 := by
    rw [← any_table hw, List.filter_cons]
    split <;> simp
  rw [e1]
  show _ + _ + ((Vbcrah.dayTable b).map fun d => min b.send (_ + min b.grind _)).sum = _ + ((Vbcrah.dayTable b).map fun d => min b.send (_ + min b.grind _)).sum + _
  omega
theorem fold_max_iff {α : Type} {F : α → Int} {t : Int} : ∀ (ws : List α) (z : Int), ws.foldl (fun m w => max m (F w)) z ≤ t ↔ z ≤ t ∧ ∀ w ∈ ws, F w ≤ t
  | [], z => by simp
  | w :: ws, z => by
    rw [List.foldl_cons, fold_max_iff ws]
    simp only [List.mem_cons, forall_eq_or_imp]
    constructor
    · rintro ⟨h1, h2⟩
      exact ⟨by omega, by omega, h2⟩
    · rintro ⟨h1, h2, h3⟩
      exact ⟨by omega, h3⟩
theorem wants_len' (b : Vbcrah.Book) : (Vbcrah.wants b).length = b.orders.length := List.length_map ..
theorem met_iff (b : Vbcrah.Book) (st : Vbcrah.Stock) (n : Nat) : Vbcrah.allMet (Vbcrah.moreBags b st n) = true ↔ ∀ w ∈ setsOf b, lackI b w ≤ if (w.any fun j => Vbcrah.suits st (Vbcrah.orderAt b j)) = true then (n : Int) else 0 := by
  unfold Vbcrah.allMet
  have ew : Vbcrah.wants (Vbcrah.moreBags b st n) = Vbcrah.wants b := rfl
  rw [ew, can_iff (b := Vbcrah.moreBags b st n) (wants_len' b)]
  refine forall_congr' fun w => ?_
  refine forall_congr' fun hw => ?_
  rw [more_bound b st n _ w (sets_lt hw)]
  unfold lackI
  split <;> omega
theorem extra_law {b : Vbcrah.Book} (st : Vbcrah.Stock) (h : (Vbcrah.wants b).sum < 4096) : match Vbcrah.extra b st with
    | none => fewI b st = -1
    | some n => fewI b st = (n : Int) := by
  unfold Vbcrah.extra
  dsimp only
  by_cases hb : (setsOf b).any (badW b st) = true
  · have e : ¬ Vbcrah.allMet (Vbcrah.moreBags b st (Vbcrah.wants b).sum) = true := by
      rw [met_iff]
      intro z
      obtain ⟨w, hw, q⟩ := List.any_eq_true.mp hb
      unfold badW at q
      rw [Bool.and_eq_true, Bool.not_eq_true'] at q
      have a := z w hw
      rw [q.2] at a
      have := of_decide_eq_true q.1
      simp at a
      omega
    rw [if_neg e]
    show fewI b st = -1
    unfold fewI
    rw [if_pos hb]
  · have nb : ∀ w ∈ setsOf b, 0 < lackI b w → (w.any fun j => Vbcrah.suits st (Vbcrah.orderAt b j)) = true := fun w hw q => by
      cases c : w.any fun j => Vbcrah.suits st (Vbcrah.orderAt b j) with
      | true => rfl
      | false =>
        refine absurd (List.any_eq_true.mpr ⟨w, hw, ?_⟩) hb
        unfold badW
        rw [c, decide_eq_true q]; rfl
    have mi : ∀ n : Nat, Vbcrah.allMet (Vbcrah.moreBags b st n) = true ↔ (setsOf b).foldl (fun n w => max n (lackI b w)) 0 ≤ (n : Int) := fun n => by
      rw [met_iff, fold_max_iff]
      constructor
      · intro z
        refine ⟨by omega, fun w hw => ?_⟩
        have := z w hw
        split at this <;> omega
      · rintro ⟨_, z⟩ w hw
        have := z w hw
        split
        · exact this
        · rename_i c
          by_cases q : 0 < lackI b w
          · exact absurd (nb w hw q) c
          · omega
    have top : Vbcrah.allMet (Vbcrah.moreBags b st (Vbcrah.wants b).sum) = true := by
      rw [mi, fold_max_iff]
      refine ⟨by omega, fun w _ => ?_⟩
      unfold lackI
      omega
    rw [if_pos top]
    have hM := (mi _).mp top
    have h0 : 0 ≤ (setsOf b).foldl (fun n w => max n (lackI b w)) 0 := ((fold_max_iff _ _).mp (Int.le_refl _)).1
    unfold fewI
    rw [if_neg hb]
    generalize (setsOf b).foldl (fun n w => max n (lackI b w)) 0 = M at *
    show M = ((Vbcrah.leastUp _ 12 0 _ : Nat) : Int)
    rw [leastUp_eq (m := M.toNat) 12 0 (Vbcrah.wants b).sum (by omega) (by omega) (by omega) (fun t _ _ => by rw [mi]; omega)]
    omega
/-! without some -/
theorem kept_law (b : Vbcrah.Book) (gone : List Nat) (want : List Nat) : Vbcrah.mostBy (keptOnes b gone) want = Vbcrah.mostBy (Vbcrah.without b gone) want := by
  have e : ∀ w, boundW (keptOnes b gone) want w = boundW (Vbcrah.without b gone) want w := fun w => by
    unfold boundW Vbcrah.boundBy
    have ed : Vbcrah.dayTable (keptOnes b gone) = Vbcrah.dayTable (Vbcrah.without b gone) := rfl
    have es : (((Vbcrah.stockTable (keptOnes b gone)).filter fun s => s.2.any w.contains).map fun s => s.1).sum = (((Vbcrah.stockTable (Vbcrah.without b gone)).filter fun s => s.2.any w.contains).map fun s => s.1).sum := by
      rw [stock_sum, stock_sum]
      unfold keptOnes Vbcrah.without
      dsimp only
      have eo1 : ∀ j, Vbcrah.orderAt { b with stocks := (b.stocks.zipIdx.filter fun z => !gone.contains z.2).map fun z => z.1 } j = Vbcrah.orderAt b j := fun _ => rfl
      have eo2 : ∀ j, Vbcrah.orderAt { b with stocks := b.stocks.zipIdx.map fun s => if gone.contains s.2 = true then { s.1 with bags := 0 } else s.1 } j = Vbcrah.orderAt b j := fun _ => rfl
      simp only [eo1, eo2]
      rw [List.map_map, List.map_map, sum_filter (fun z : Vbcrah.Stock × Nat => !gone.contains z.2)]
      congr 1
      refine List.map_congr_left fun z _ => ?_
      cases c : gone.contains z.2 with
      | true =>
        simp only [Function.comp, c, Bool.not_true, Bool.false_eq_true, if_false, if_true, ite_self]
      | false =>
        simp only [Function.comp, c]
        rfl
    rw [ed]
    dsimp only
    rw [es]
    rfl
  rw [most_fold, most_fold]
  have e2 : (fun m w => min m (boundW (keptOnes b gone) want w)) = fun m w => min m (boundW (Vbcrah.without b gone) want w) := by
    funext m w
    rw [e]
  rw [e2, e]
  rfl
end Fb
namespace Fb
/-! FbZ4: bounds by any set, told rows, takes (plain) -/
theorem rest_wanted (b : Vbcrah.Book) (want w : List Nat) (d : Nat) (p : Nat → Bool) : restOf want w ((List.range b.orders.length).filter p) = (((Vbcrah.others b w).filter p).map fun j => want.getD j 0).sum := by
  unfold restOf sumN othersOf Vbcrah.others
  rw [List.filter_filter, List.filter_filter]
  congr 2
  refine List.filter_congr fun j _ => ?_
  rw [Bool.and_comm]
theorem rest_ground (b : Vbcrah.Book) (want w : List Nat) (d : Nat) : restOf want w (groundOn b d) = Vbcrah.wanted b want (Vbcrah.others b w) d true := by
  unfold groundOn Vbcrah.wanted
  rw [rest_wanted b want w d]
  congr 2
  refine List.filter_congr fun j _ => ?_
  cases (Vbcrah.orderAt b j).ground <;> rfl
theorem rest_beans (b : Vbcrah.Book) (want w : List Nat) (d : Nat) : restOf want w (beansOn b d) = Vbcrah.wanted b want (Vbcrah.others b w) d false := by
  unfold beansOn Vbcrah.wanted
  rw [rest_wanted b want w d]
  congr 2
  refine List.filter_congr fun j _ => ?_
  cases (Vbcrah.orderAt b j).ground <;> rfl
theorem bound_spec {b : Vbcrah.Book} {want w : List Nat} (hw : ∀ j ∈ w, j < b.orders.length) : Vbcrah.bound b want w = boundW b want w := by
  rw [← bound_eq hw, stock_part hw, stock_sum]
  unfold Vbcrah.bound
  congr 1
  · unfold Vbcrah.supply
    rw [sum_filter]
    congr 1
    refine List.map_congr_left fun s _ => ?_
    rw [any_table hw]
  · unfold daysB
    congr 1
    refine List.map_congr_left fun d _ => ?_
    unfold Vbcrah.dayLets putUp
    rw [rest_ground, rest_beans]
theorem bound_same {b : Vbcrah.Book} {want w w' : List Nat} (h : ∀ j, j ∈ w ↔ j ∈ w') : Vbcrah.bound b want w = Vbcrah.bound b want w' := by
  have e1 : ∀ p : Nat → Bool, w.any p = w'.any p := fun p => by
    rw [Bool.eq_iff_iff, List.any_eq_true, List.any_eq_true]
    exact ⟨fun ⟨j, hj, q⟩ => ⟨j, (h j).mp hj, q⟩, fun ⟨j, hj, q⟩ => ⟨j, (h j).mpr hj, q⟩⟩
  have e2 : Vbcrah.others b w = Vbcrah.others b w' := by
    unfold Vbcrah.others
    refine List.filter_congr fun j _ => ?_
    congr 1
    rw [Bool.eq_iff_iff, List.contains_iff_mem, List.contains_iff_mem]
    exact h j
  unfold Vbcrah.bound Vbcrah.supply
  rw [e2]
  congr 3
  exact List.filter_congr fun s _ => e1 _
theorem only_same {b : Vbcrah.Book} {w w' : List Nat} (h : ∀ j, j ∈ w ↔ j ∈ w') : Vbcrah.wantOnly b w = Vbcrah.wantOnly b w' := by
  unfold Vbcrah.wantOnly
  refine List.map_congr_left fun j _ => ?_
  have : w.contains j = w'.contains j := by
    rw [Bool.eq_iff_iff, List.contains_iff_mem, List.contains_iff_mem]
    exact h j
  rw [this]
theorem held_spec (b : Vbcrah.Book) (want w : List Nat) (d : Nat) : heldOn b want w (groundOn b d, beansOn b d) = Vbcrah.holds b want (Vbcrah.others b w) d := by
  unfold heldOn Vbcrah.holds putUp
  dsimp only
  rw [rest_ground, rest_beans]
theorem told_spec (b : Vbcrah.Book) (want : List Nat) : toldRow b want = (Vbcrah.leastBound b want).2.length :: ((Vbcrah.leastBound b want).2 ++ (Vbcrah.daysOf b).map (Vbcrah.holds b want (Vbcrah.others b (Vbcrah.leastBound b want).2))) := by
  unfold toldRow duesOf
  rw [List.map_map]
  congr 2
  refine List.map_congr_left fun d _ => ?_
  exact held_spec b want _ d
/-! takes -/
theorem takes_eq : ∀ (m : Nat) (l : List Nat), l.length = 3 * m → Vbcrah.takesIn l = (List.range m).map fun k => ⟨l.getD (3 * k) 0, l.getD (3 * k + 1) 0, l.getD (3 * k + 2) 0⟩
  | 0, l, h => by
    have : l = [] := List.length_eq_zero_iff.mp (by omega)
    subst this
    rfl
  | m + 1, [], h => by simp at h
  | m + 1, [a], h => by simp at h; omega
  | m + 1, [a, c], h => by simp at h; omega
  | m + 1, a :: c :: d :: l, h => by
    have ih := takes_eq m l (by simp at h; omega)
    rw [Vbcrah.takesIn, ih, List.range_succ_eq_map, List.map_cons, List.map_map]
    congr 1
theorem zip_rng {α : Type} (f : Nat → Nat) (xs : List α) : ((List.range xs.length).map f).zip xs = xs.zipIdx.map fun z => (f z.2, z.1) := by
  refine List.ext_getElem? fun i => ?_
  rw [List.getElem?_map, List.getElem?_zipIdx]
  by_cases h : i < xs.length
  · have e1 : ((List.range xs.length).map f)[i]? = some (f i) := by
      rw [List.getElem?_map, List.getElem?_range h]; rfl
    have e2 : xs[i]? = some xs[i] := List.getElem?_eq_getElem h
    rw [List.getElem?_zip_eq_some (z := (f i, xs[i])) |>.mpr ⟨e1, e2⟩, e2]
    simp
  · rw [List.getElem?_eq_none (by rw [List.length_zip]; omega), List.getElem?_eq_none (by omega)]
    rfl
theorem all_not {α : Type} (p : α → Bool) (l : List α) : (!(l.any p)) = l.all fun x => !p x := by
  rw [← List.not_any_eq_all_not]
theorem zip_rng2 {α : Type} (f : Nat → Nat) (xs : List α) : xs.zip ((List.range xs.length).map f) = xs.zipIdx.map fun z => (z.1, f z.2) := by
  refine List.ext_getElem? fun i => ?_
  rw [List.getElem?_map, List.getElem?_zipIdx]
  by_cases h : i < xs.length
  · have e1 : ((List.range xs.length).map f)[i]? = some (f i) := by
      rw [List.getElem?_map, List.getElem?_range h]; rfl
    have e2 : xs[i]? = some xs[i] := List.getElem?_eq_getElem h
    rw [List.getElem?_zip_eq_some (z := (xs[i], f i)) |>.mpr ⟨e2, e1⟩, e2]
    simp
  · rw [List.getElem?_eq_none (by rw [List.length_zip]; omega), List.getElem?_eq_none (by omega)]
    rfl
/-- what one take gives to some orders -/
theorem one_take (os : List Vbcrah.Order) (p : Vbcrah.Order → Bool) (t n : Nat) : ∀ (k : Nat), (((os.zipIdx k).filter fun z => p z.1).map fun z => if t == z.2 then n else 0).sum = if (decide (k ≤ t) && (os[t - k]?).any p) = true then n else 0 := by
  induction os with
  | nil => intro k; simp
  | cons o os ih =>
    intro k
    have ih := ih (k + 1)
    have hd : ((List.filter (fun z : Vbcrah.Order × Nat => p z.1) ((o, k) :: os.zipIdx (k + 1))).map fun z => if t == z.2 then n else 0).sum = (if (p o && t == k) = true then n else 0) + (((os.zipIdx (k + 1)).filter fun z => p z.1).map fun z => if t == z.2 then n else 0).sum := by
      rw [List.filter_cons]
      cases hp : p o with
      | true => simp only [hp, if_true, List.map_cons, List.sum_cons, Bool.true_and]
      | false => simp only [hp, Bool.false_and, Bool.false_eq_true, if_false, Nat.zero_add]
    rw [List.zipIdx_cons, hd, ih]
    by_cases h : t = k
    · subst h
      have e1 : decide (t + 1 ≤ t) = false := decide_eq_false (by omega)
      have e2 : decide (t ≤ t) = true := decide_eq_true (by omega)
      have e3 : (t == t) = true := beq_self_eq_true t
      rw [e1, e2, e3, Nat.sub_self, List.getElem?_cons_zero, Option.any_some, Bool.and_true, Bool.true_and, Bool.false_and]
      rfl
    · have hb : (t == k) = false := beq_eq_false_iff_ne.mpr h
      rw [hb, Bool.and_false]
      by_cases h2 : k + 1 ≤ t
      · have e : (o :: os)[t - k]? = os[t - (k + 1)]? := by
          rw [show t - k = (t - (k + 1)) + 1 by omega, List.getElem?_cons_succ]
        have e1 : decide (k + 1 ≤ t) = true := decide_eq_true h2
        have e2 : decide (k ≤ t) = true := decide_eq_true (by omega)
        rw [e, e1, e2]
        simp
      · have e1 : decide (k + 1 ≤ t) = false := decide_eq_false h2
        have e2 : decide (k ≤ t) = false := decide_eq_false (by omega)
        rw [e1, e2]
        rfl
theorem order_cons (t : Vbcrah.Take) (ts : List Vbcrah.Take) (j : Nat) : Vbcrah.byOrder (t :: ts) j = (if t.order == j then t.bags else 0) + Vbcrah.byOrder ts j := by
  unfold Vbcrah.byOrder
  rw [List.filter_cons]
  split <;> simp
theorem sum_add {α : Type} (f g : α → Nat) : ∀ l : List α, (l.map fun x => f x + g x).sum = (l.map f).sum + (l.map g).sum
  | [] => rfl
  | x :: l => by
    have := sum_add f g l
    simp only [List.map_cons, List.sum_cons]
    omega
theorem by_orders (os : List Vbcrah.Order) (p : Vbcrah.Order → Bool) : ∀ ts : List Vbcrah.Take, ((os.zipIdx.filter fun z => p z.1).map fun z => Vbcrah.byOrder ts z.2).sum = ((ts.filter fun t => (os[t.order]?).any p).map fun t => t.bags).sum
  | [] => by
    have : ∀ l : List (Vbcrah.Order × Nat), (l.map fun z => Vbcrah.byOrder [] z.2).sum = 0 := fun l => by
      induction l with
      | nil => rfl
      | cons x l ih => rw [List.map_cons, List.sum_cons, ih]; rfl
    exact this _
  | t :: ts => by
    have ih := by_orders os p ts
    simp only [order_cons]
    rw [sum_add (fun z : Vbcrah.Order × Nat => if t.order == z.2 then t.bags else 0), ih]
    have e := one_take os p t.order t.bags 0
    rw [e]
    rw [List.filter_cons]
    simp only [Nat.zero_le, decide_true, Bool.true_and, Nat.sub_zero]
    split <;> simp
theorem on_day (b : Vbcrah.Book) (ts : List Vbcrah.Take) (d : Nat) : onDay b (hads b ts) d = (b.orders.zipIdx.filter fun z => z.1.due == d).map fun z => (z.1, Vbcrah.byOrder ts z.2) := by
  unfold onDay hads
  rw [zip_rng2, List.filter_map]
  rfl
theorem keep_law (b : Vbcrah.Book) (ts : List Vbcrah.Take) : keepAll b ts = Vbcrah.keepsParts b ts := by
  unfold keepAll Vbcrah.keepsParts
  congr 1
  congr 1
  · unfold gives
    rw [all_not, zip_rng, List.all_map]
    congr 1
    funext z
    show (!decide (z.1.bags < Vbcrah.byStock ts z.2)) = decide (Vbcrah.byStock ts z.2 ≤ z.1.bags)
    by_cases h : z.1.bags < Vbcrah.byStock ts z.2
    · rw [decide_eq_true h, decide_eq_false (by omega)]; rfl
    · rw [decide_eq_false h, decide_eq_true (by omega)]; rfl
  congr 1
  · unfold hads
    rw [all_not, zip_rng, List.all_map]
    congr 1
    funext z
    show (!decide (z.1.bags < Vbcrah.byOrder ts z.2)) = decide (Vbcrah.byOrder ts z.2 ≤ z.1.bags)
    by_cases h : z.1.bags < Vbcrah.byOrder ts z.2
    · rw [decide_eq_true h, decide_eq_false (by omega)]; rfl
    · rw [decide_eq_false h, decide_eq_true (by omega)]; rfl
  · congr 1
    funext d
    have e1 : ((onDay b (hads b ts) d).map fun z => z.2).sum = Vbcrah.byDay b ts d false := by
      rw [on_day, List.map_map]
      have := by_orders b.orders (fun o => o.due == d) ts
      refine Eq.trans this ?_
      unfold Vbcrah.byDay
      congr 2
      refine List.filter_congr fun t _ => ?_
      congr 1
      funext o
      simp
    have e2 : (((onDay b (hads b ts) d).filter fun z => z.1.ground).map fun z => z.2).sum = Vbcrah.byDay b ts d true := by
      rw [on_day, List.filter_map, List.map_map, List.filter_filter]
      have := by_orders b.orders (fun o => o.ground && (o.due == d)) ts
      refine Eq.trans this ?_
      unfold Vbcrah.byDay
      congr 2
      refine List.filter_congr fun t _ => ?_
      congr 1
      funext o
      simp [Bool.and_comm]
    unfold dayOk
    rw [e1, e2]
    by_cases h1 : b.grind < Vbcrah.byDay b ts d true
    · have e : decide (Vbcrah.byDay b ts d true ≤ b.grind ∧ Vbcrah.byDay b ts d false ≤ b.send) = false := decide_eq_false (fun z => by omega)
      rw [decide_eq_true h1, e]; rfl
    · by_cases h2 : b.send < Vbcrah.byDay b ts d false
      · have e : decide (Vbcrah.byDay b ts d true ≤ b.grind ∧ Vbcrah.byDay b ts d false ≤ b.send) = false := decide_eq_false (fun z => by omega)
        rw [decide_eq_true h2, e, Bool.or_true]; rfl
      · have e : decide (Vbcrah.byDay b ts d true ≤ b.grind ∧ Vbcrah.byDay b ts d false ≤ b.send) = true := decide_eq_true ⟨by omega, by omega⟩
        rw [decide_eq_false h1, decide_eq_false h2, e]; rfl
theorem whole_law (b : Vbcrah.Book) (ts : List Vbcrah.Take) : (keepAll b ts && keepWhole b ts) = Vbcrah.keeps b ts := by
  unfold Vbcrah.keeps
  rw [keep_law]
  congr 1
  unfold keepWhole hads
  rw [zip_rng, List.all_map]
  rfl
end Fb
namespace Fb
/-! FbZ5: plans (plain) -/
def leII (p q : Nat × Nat) : Bool := !(if q.1 = p.1 then decide (q.2 < p.2) else decide (q.1 < p.1))
theorem leII_eq (p q : Nat × Nat) : PySem.W.dataLe false encII p q = leII p q := by
  rw [PySem.W.dataLe_eq]
  show (!PySem.W.dataLt (encII q) (encII p)) = _
  unfold encII leII
  rw [PySem.W.dataLt_pair (by simp [PySem.W.alike]) (by simp [PySem.W.alike]), PySem.W.dataLt_int, PySem.W.dataLt_int, PySem.PyData.eqv, PySem.PyData.eqv, dec_lt, dec_lt]
  congr 1
  by_cases h : q.1 = p.1
  · have h' : ((q.1 : Int) == (p.1 : Int)) = true := by rw [h]; exact beq_self_eq_true _
    rw [if_pos h', if_pos h]
    by_cases k : q.2 = p.2
    · have k' : ((q.2 : Int) == (p.2 : Int)) = true := by rw [k]; exact beq_self_eq_true _
      rw [if_pos k', decide_eq_false (by omega)]
    · have k' : ¬ ((q.2 : Int) == (p.2 : Int)) = true := by rw [beq_iff_eq]; omega
      rw [if_neg k']
  · have h' : ¬ ((q.1 : Int) == (p.1 : Int)) = true := by rw [beq_iff_eq]; omega
    rw [if_neg h', if_neg h]
theorem inTurn_le (b : Vbcrah.Book) (o : Vbcrah.Order) : inTurn b o = ((turnPairs b o).mergeSort leII).map fun p => p.2 := by
  have e : PySem.W.dataLe false encII = leII := by
    funext p q
    exact leII_eq p q
  unfold inTurn
  rw [e]
theorem leII_iff {p q : Nat × Nat} : leII p q = true ↔ p.1 < q.1 ∨ (p.1 = q.1 ∧ p.2 ≤ q.2) := by
  unfold leII
  by_cases h : q.1 = p.1
  · rw [if_pos h]
    simp only [Bool.not_eq_true', decide_eq_false_iff_not]
    omega
  · rw [if_neg h]
    simp only [Bool.not_eq_true', decide_eq_false_iff_not]
    omega
theorem leII_anti {p q : Nat × Nat} (h1 : leII p q = true) (h2 : leII q p = true) : p = q := by
  rw [leII_iff] at h1 h2
  obtain ⟨a, b⟩ := p
  obtain ⟨c, d⟩ := q
  simp only at h1 h2
  have e1 : a = c := by omega
  have e2 : b = d := by omega
  rw [e1, e2]
theorem leII_sorted (l : List (Nat × Nat)) : (l.mergeSort leII).Pairwise fun p q => leII p q = true := by
  refine List.pairwise_mergeSort (le := leII) (fun a b c h1 h2 => ?_) (fun a b => ?_) l
  · rw [leII_iff] at *; omega
  · rw [Bool.or_eq_true, leII_iff, leII_iff]; omega
abbrev insD (day : Nat → Nat) (l : List Nat) (i : Nat) : List Nat := (l.filter fun k => decide (day k ≤ day i)) ++ (i :: l.filter fun k => decide (day i < day k))
theorem filter_split (day : Nat → Nat) (i : Nat) : ∀ l : List Nat, ((l.filter fun k => decide (day k ≤ day i)) ++ l.filter fun k => decide (day i < day k)).Perm l
  | [] => List.Perm.refl _
  | k :: l => by
    have ih := filter_split day i l
    rw [List.filter_cons, List.filter_cons]
    by_cases h : day k ≤ day i
    · rw [if_pos (decide_eq_true h), if_neg (by rw [decide_eq_false (by omega)]; decide)]
      exact List.Perm.cons k ih
    · rw [if_neg (by rw [decide_eq_false h]; decide), if_pos (decide_eq_true (by omega))]
      exact List.perm_middle.trans (List.Perm.cons k ih)
theorem ins_all (day : Nat → Nat) : ∀ (is R : List Nat), (R.Pairwise fun a c => leII (day a, a) (day c, c) = true) → (∀ a ∈ R, ∀ i ∈ is, a < i) → is.Pairwise (· < ·) →
    ((is.foldl (insD day) R).Pairwise fun a c => leII (day a, a) (day c, c) = true) ∧ (is.foldl (insD day) R).Perm (is ++ R)
  | [], R, h, _, _ => ⟨h, List.Perm.refl _⟩
  | i :: is, R, h, hl, hp => by
    obtain ⟨p1, p2⟩ := List.pairwise_cons.mp hp
    have q : (insD day R i).Perm (i :: R) := List.perm_middle.trans (List.Perm.cons i (filter_split day i R))
    obtain ⟨r1, r2⟩ := ins_all day is (insD day R i) (by
      refine List.pairwise_append.mpr ⟨h.filter _, List.pairwise_cons.mpr ⟨fun c hc => ?_, h.filter _⟩, fun a ha c hc => ?_⟩
      · have := of_decide_eq_true (List.mem_filter.mp hc).2
        rw [leII_iff]
        exact .inl this
      · have h1 := of_decide_eq_true (List.mem_filter.mp ha).2
        have h2 := hl a (List.mem_filter.mp ha).1 i (by simp)
        rw [leII_iff]
        rcases List.mem_cons.mp hc with e | e
        · subst e
          show day a < day c ∨ (day a = day c ∧ a ≤ c)
          omega
        · have h3 := of_decide_eq_true (List.mem_filter.mp e).2
          show day a < day c ∨ (day a = day c ∧ a ≤ c)
          omega) (fun a ha k hk => by
      rcases List.mem_cons.mp (q.mem_iff.mp ha) with e | e
      · subst e; exact p1 k hk
      · exact hl a e k (by simp [hk])) p2
    refine ⟨r1, ?_⟩
    rw [List.foldl_cons]
    exact r2.trans ((List.Perm.append_left is q).trans List.perm_middle)
theorem turn_pairs (b : Vbcrah.Book) (o : Vbcrah.Order) : turnPairs b o = ((List.range b.stocks.length).filter fun i => Vbcrah.suits (Vbcrah.stockAt b i) o).map fun i => ((Vbcrah.stockAt b i).day, i) := by
  unfold turnPairs
  rw [zi_eq Vbcrah.noStock_, List.filter_map, List.map_map]
  rfl
theorem turn_law (b : Vbcrah.Book) (j : Nat) : inTurn b (Vbcrah.orderAt b j) = Vbcrah.oldest b j := by
  rw [inTurn_le]
  have h := ins_all (fun i => (Vbcrah.stockAt b i).day) ((List.range b.stocks.length).filter fun i => Vbcrah.suits (Vbcrah.stockAt b i) (Vbcrah.orderAt b j)) [] List.Pairwise.nil (fun a ha => by cases ha) (List.pairwise_lt_range.filter _)
  rw [List.append_nil] at h
  have e : (turnPairs b (Vbcrah.orderAt b j)).mergeSort leII = (Vbcrah.oldest b j).map fun i => ((Vbcrah.stockAt b i).day, i) := by
    refine List.Perm.eq_of_pairwise (le := fun p q => leII p q = true) (fun a b _ _ => leII_anti) (leII_sorted _) ?_ ((List.mergeSort_perm _ _).trans ?_)
    · exact List.pairwise_map.mpr h.1
    · rw [turn_pairs]
      exact (h.2.map _).symm
  rw [e, List.map_map]
  exact List.map_id' _
/-! the book with other numbers of bags -/
def withL (b : Vbcrah.Book) (lefts : List Nat) : Vbcrah.Book := { b with stocks := List.zipWith (fun s n => { s with bags := n }) b.stocks lefts }
theorem withL_len {b : Vbcrah.Book} {lefts : List Nat} (h : lefts.length = b.stocks.length) : (withL b lefts).stocks.length = b.stocks.length := by
  unfold withL
  simp [h]
theorem withL_at {b : Vbcrah.Book} {lefts : List Nat} (h : lefts.length = b.stocks.length) {i : Nat} (hi : i < b.stocks.length) : Vbcrah.stockAt (withL b lefts) i = { Vbcrah.stockAt b i with bags := lefts.getD i 0 } := by
  unfold Vbcrah.stockAt withL
  rw [List.getD_eq_getElem?_getD, List.getElem?_zipWith, List.getD_eq_getElem?_getD, List.getD_eq_getElem?_getD, List.getElem?_eq_getElem hi, List.getElem?_eq_getElem (by omega)]
  rfl
theorem withL_start (b : Vbcrah.Book) : withL b (b.stocks.map fun s => s.bags) = b := by
  unfold withL
  have : List.zipWith (fun (s : Vbcrah.Stock) n => { s with bags := n }) b.stocks (b.stocks.map fun s => s.bags) = b.stocks := by
    induction b.stocks with
    | nil => rfl
    | cons s l ih => rw [List.map_cons, List.zipWith_cons_cons, ih]
  rw [this]
theorem withL_taken {b : Vbcrah.Book} {lefts : List Nat} (h : lefts.length = b.stocks.length) {i n : Nat} (hi : i < b.stocks.length) : Vbcrah.taken (withL b lefts) i n = withL b (lefts.set i (lefts.getD i 0 - n)) := by
  unfold Vbcrah.taken withL
  congr 1
  dsimp only
  refine List.ext_getElem? fun k => ?_
  rw [List.getElem?_modify, List.getElem?_zipWith, List.getElem?_zipWith, List.getElem?_set]
  by_cases hk : i = k
  · subst hk
    simp only [if_true]
    rw [if_pos (by omega), List.getD_eq_getElem?_getD, List.getElem?_eq_getElem hi, List.getElem?_eq_getElem (by omega)]
    rfl
  · simp only [if_neg hk]
    cases b.stocks[k]? <;> cases lefts[k]? <;> rfl
theorem withL_bags {b : Vbcrah.Book} {lefts : List Nat} (h : lefts.length = b.stocks.length) : (withL b lefts).stocks.map (fun s => s.bags) = lefts := by
  unfold withL
  rw [List.map_zipWith]
  refine List.ext_getElem? fun k => ?_
  rw [List.getElem?_zipWith]
  by_cases hk : k < b.stocks.length
  · rw [List.getElem?_eq_getElem hk, List.getElem?_eq_getElem (by omega)]
  · rw [List.getElem?_eq_none (by omega), List.getElem?_eq_none (by omega)]
theorem withL_suits {b : Vbcrah.Book} {lefts : List Nat} (h : lefts.length = b.stocks.length) {i : Nat} (hi : i < b.stocks.length) (o : Vbcrah.Order) : Vbcrah.suits (Vbcrah.stockAt (withL b lefts) i) o = Vbcrah.suits (Vbcrah.stockAt b i) o := by
  rw [withL_at h hi]
  rfl
theorem withL_right {b : Vbcrah.Book} {lefts : List Nat} (h : lefts.length = b.stocks.length) (w : List Nat) : rightOf (withL b lefts) w = rightOf b w := by
  unfold rightOf
  rw [withL_len h]
  refine List.filter_congr fun i hi => ?_
  have hi := List.mem_range.mp hi
  congr 1
  funext j
  exact withL_suits h hi _
theorem foldl_eq {α β : Type} {f g : β → α → β} : ∀ {l : List α} {z : β}, (∀ z, ∀ x ∈ l, f z x = g z x) → l.foldl f z = l.foldl g z
  | [], _, _ => rfl
  | x :: l, z, h => by
    rw [List.foldl_cons, List.foldl_cons, h z x (by simp)]
    exact foldl_eq fun z y hy => h z y (by simp [hy])
theorem withL_oldest {b : Vbcrah.Book} {lefts : List Nat} (h : lefts.length = b.stocks.length) (j : Nat) : Vbcrah.oldest (withL b lefts) j = Vbcrah.oldest b j := by
  rw [← turn_law, ← turn_law, inTurn_le, inTurn_le, turn_pairs, turn_pairs, withL_len h]
  have e1 : ((List.range b.stocks.length).filter fun i => Vbcrah.suits (Vbcrah.stockAt (withL b lefts) i) (Vbcrah.orderAt (withL b lefts) j)) = (List.range b.stocks.length).filter fun i => Vbcrah.suits (Vbcrah.stockAt b i) (Vbcrah.orderAt b j) :=
    List.filter_congr fun i hi => withL_suits h (List.mem_range.mp hi) _
  rw [e1]
  congr 2
  refine List.map_congr_left fun i hi => ?_
  rw [withL_at h (mem_rng hi)]
/-! what can be spared -/
theorem sp_fold (lefts wants : List Nat) (j i : Nat) (mine : List Nat → Bool) (su : List Nat → Nat) (R : List Nat → List Nat) : ∀ (ws : List (List Nat)) (n : Int) (m : Nat), (∀ w ∈ ws, (R w).contains i = mine w ∧ sumN lefts (R w) = su w) → n.toNat = m →
    ((ws.zip (ws.map R)).foldl (stepSp lefts wants j i) n).toNat = (ws.filter fun w => !w.contains j && mine w).foldl (fun n w => min n (su w - (w.map fun k => wants.getD k 0).sum)) m
  | [], n, m, _, h => h
  | w :: ws, n, m, hw, h => by
    rw [List.map_cons, List.zip_cons_cons, List.foldl_cons, List.filter_cons]
    obtain ⟨h1, h2⟩ := hw w (by simp)
    have hs : ∀ x ∈ ws, (R x).contains i = mine x ∧ sumN lefts (R x) = su x := fun x hx => hw x (by simp [hx])
    by_cases c : (!w.contains j && mine w) = true
    · rw [if_pos c, List.foldl_cons]
      refine sp_fold lefts wants j i mine su R ws _ _ hs ?_
      unfold stepSp
      dsimp only
      rw [h1, if_pos c, h2]
      unfold sumN
      omega
    · rw [if_neg c]
      refine sp_fold lefts wants j i mine su R ws _ _ hs ?_
      unfold stepSp
      dsimp only
      rw [h1, if_neg c]
      exact h
theorem min_fold {α : Type} (F : α → Nat) : ∀ (ws : List α) (a m : Nat), ws.foldl (fun n w => min n (F w)) (min a m) = min a (ws.foldl (fun n w => min n (F w)) m)
  | [], _, _ => rfl
  | w :: ws, a, m => by
    rw [List.foldl_cons, List.foldl_cons, ← min_fold F ws, Nat.min_assoc]
theorem mine_at {b : Vbcrah.Book} {i : Nat} (hi : i < b.stocks.length) : ((Vbcrah.stockTable b).getD i (0, [])).2 = (List.range b.orders.length).filter fun j => Vbcrah.suits (Vbcrah.stockAt b i) (Vbcrah.orderAt b j) := by
  unfold Vbcrah.stockTable
  rw [List.getD_eq_getElem?_getD, List.getElem?_map, st_at hi]
  rfl
theorem right_has {b : Vbcrah.Book} {w : List Nat} {i : Nat} (hi : i < b.stocks.length) (hw : ∀ j ∈ w, j < b.orders.length) : (rightOf b w).contains i = ((List.range b.orders.length).filter fun j => Vbcrah.suits (Vbcrah.stockAt b i) (Vbcrah.orderAt b j)).any w.contains := by
  rw [any_table hw, Bool.eq_iff_iff, List.contains_iff_mem]
  unfold rightOf
  rw [List.mem_filter]
  exact ⟨fun h => h.2, fun h => ⟨List.mem_range.mpr hi, h⟩⟩
theorem take_law {b : Vbcrah.Book} {S : PlS} {i j : Nat} (hl : S.lefts.length = b.stocks.length) (hi : i < b.stocks.length) : (bagsI b j S i).toNat = Vbcrah.takeFrom (withL b S.lefts) S.wants j i := by
  unfold Vbcrah.takeFrom
  dsimp only
  rw [withL_at hl hi]
  have hi' : i < (withL b S.lefts).stocks.length := by rw [withL_len hl]; exact hi
  rw [mine_at hi', min_fold]
  have e1 : (spareI b S.lefts S.wants j i).toNat = ((Vbcrah.sets (withL b S.lefts).orders.length).filter fun w => !w.contains j && ((List.range (withL b S.lefts).orders.length).filter fun j => Vbcrah.suits (Vbcrah.stockAt (withL b S.lefts) i) (Vbcrah.orderAt (withL b S.lefts) j)).any w.contains).foldl
      (fun n w => min n ((((Vbcrah.stockTable (withL b S.lefts)).filter fun s => s.2.any w.contains).map fun s => s.1).sum - (w.map fun k => S.wants.getD k 0).sum)) (S.lefts.getD i 0) := by
    unfold spareI
    refine sp_fold S.lefts S.wants j i _ _ (rightOf b) (setsOf b) _ _ (fun w hw => ?_) (Int.toNat_natCast _)
    have hw' : ∀ j ∈ w, j < (withL b S.lefts).orders.length := sets_lt hw
    rw [← withL_right hl w]
    refine ⟨right_has hi' hw', ?_⟩
    have := stock_part (b := withL b S.lefts) hw'
    rw [withL_bags hl] at this
    exact this
  unfold bagsI
  rw [← e1]
  omega
/-- the state of the plan, as the specification has it -/
theorem steps_law {b : Vbcrah.Book} {j : Nat} : ∀ (is : List Nat) (S : PlS), S.lefts.length = b.stocks.length → (∀ i ∈ is, i < b.stocks.length) →
    (is.foldl (stepT b j) S).ts = S.ts ++ (Vbcrah.takesOf j is (withL b S.lefts) S.wants).1 ∧ (is.foldl (stepT b j) S).lefts.length = b.stocks.length ∧
    (Vbcrah.takesOf j is (withL b S.lefts) S.wants).2.1 = withL b (is.foldl (stepT b j) S).lefts ∧ (Vbcrah.takesOf j is (withL b S.lefts) S.wants).2.2 = (is.foldl (stepT b j) S).wants
  | [], S, hl, _ => ⟨by simp [Vbcrah.takesOf], hl, rfl, rfl⟩
  | i :: is, S, hl, hi => by
    have h0 := hi i (by simp)
    have hs : ∀ k ∈ is, k < b.stocks.length := fun k hk => hi k (by simp [hk])
    have et := take_law (S := S) (i := i) (j := j) hl h0
    rw [Vbcrah.takesOf, List.foldl_cons]
    dsimp only
    rw [← et, withL_taken hl h0]
    have es : (stepT b j S i).lefts = S.lefts.set i (S.lefts.getD i 0 - (bagsI b j S i).toNat) ∧ (stepT b j S i).wants = S.wants.set j (S.wants.getD j 0 - (bagsI b j S i).toNat) ∧ (stepT b j S i).ts = S.ts ++ if (bagsI b j S i).toNat = 0 then [] else [⟨j, i, (bagsI b j S i).toNat⟩] := by
      unfold stepT
      by_cases h : 0 < bagsI b j S i
      · rw [if_pos h, if_neg (by omega)]
        exact ⟨rfl, rfl, rfl⟩
      · have z : (bagsI b j S i).toNat = 0 := by omega
        have sl : ∀ (l : List Nat) (k : Nat), l.set k (l.getD k 0) = l := fun l k => by
          refine List.ext_getElem? fun m => ?_
          rw [List.getElem?_set]
          by_cases e : k = m
          · subst e
            rw [if_pos rfl]
            by_cases q : k < l.length
            · rw [if_pos q, List.getD_eq_getElem?_getD, List.getElem?_eq_getElem q]; rfl
            · rw [if_neg q, List.getElem?_eq_none (by omega)]
          · rw [if_neg e]
        rw [if_neg h, z, if_pos rfl, Nat.sub_zero, Nat.sub_zero, sl, sl, List.append_nil]
        exact ⟨rfl, rfl, rfl⟩
    rw [← es.1, ← es.2.1]
    have hl2 : (stepT b j S i).lefts.length = b.stocks.length := by rw [es.1, List.length_set]; exact hl
    obtain ⟨r1, r2, r3, r4⟩ := steps_law is (stepT b j S i) hl2 hs
    refine ⟨?_, r2, r3, r4⟩
    rw [r1, es.2.2, List.append_assoc]
theorem orders_law {b : Vbcrah.Book} : ∀ (js : List Nat) (S : PlS), S.lefts.length = b.stocks.length → (js.foldl (orderT b) S).ts = S.ts ++ Vbcrah.planFrom js (withL b S.lefts) S.wants
  | [], S, _ => by simp [Vbcrah.planFrom]
  | j :: js, S, hl => by
    rw [List.foldl_cons, Vbcrah.planFrom]
    rw [withL_oldest hl, ← turn_law]
    obtain ⟨r1, r2, r3, r4⟩ := steps_law (j := j) (inTurn b (Vbcrah.orderAt b j)) S hl turn_lt
    rw [r3, r4]
    have := orders_law js (orderT b S j) r2
    rw [this, ← List.append_assoc]
    congr 1
theorem plan_law (b : Vbcrah.Book) (had : List Nat) : planW b had = Vbcrah.planFor b had := by
  unfold planW plS Vbcrah.planFor
  rw [List.take_of_length_le (by rw [List.length_range]; exact Nat.le_refl _), orders_law _ _ (by unfold startT; exact List.length_map ..)]
  show [] ++ Vbcrah.planFrom _ (withL b (b.stocks.map fun s => s.bags)) had = _
  rw [withL_start, List.nil_append]
end Fb
/-! FbY12: check, gone. Printed by gen_ask.py from FbY12.in -/
namespace Fb
open PySem PySem.Spec PyProof.Rows L2
theorem sub_choices {l m : List Nat} (h : m.Sublist l) : m ∈ Vbcrah.choices m.length l := by
  induction h with
  | slnil => unfold Vbcrah.choices; simp
  | @cons m l a s ih =>
    cases m with
    | nil => unfold Vbcrah.choices; simp
    | cons x m =>
      show x :: m ∈ Vbcrah.choices (m.length + 1) (a :: l)
      rw [Vbcrah.choices]
      exact List.mem_append_right _ ih
  | @cons_cons m l a s ih =>
    show a :: m ∈ Vbcrah.choices (m.length + 1) (a :: l)
    rw [Vbcrah.choices]
    exact List.mem_append_left _ (List.mem_map.mpr ⟨m, ih, rfl⟩)
theorem sub_sets {n : Nat} {m : List Nat} (h : m.Sublist (List.range n)) : m ∈ Vbcrah.sets n := by
  have hl := h.length_le
  rw [List.length_range] at hl
  exact List.mem_flatMap.mpr ⟨m.length, List.mem_range.mpr (by omega), sub_choices h⟩
theorem sorted_in {n : Nat} {row : List Int} (h8 : n ≤ 8) (h : ∀ j ∈ Vbcrah.nats row, j < n) : sorted8 row ∈ Vbcrah.sets n := by
  have e : sorted8 row = (List.range n).filter fun j => (Vbcrah.nats row).contains j := by
    have e1 : List.range 8 = List.range n ++ (List.range (8 - n)).map (n + ·) := by
      rw [← List.range_add]
      congr 1
      omega
    unfold sorted8
    rw [e1, List.filter_append]
    have : ((List.range (8 - n)).map (n + ·)).filter (fun j => (Vbcrah.nats row).contains j) = [] := by
      rw [List.filter_eq_nil_iff]
      intro j hj
      obtain ⟨i, _, rfl⟩ := List.mem_map.mp hj
      intro z
      have := h _ (List.contains_iff_mem.mp z)
      omega
    rw [this, List.append_nil]
  rw [e]
  exact sub_sets (List.filter_sublist ..)
theorem set_ok {b : Vbcrah.Book} {row : List Int} {l : List Nat} (h : resSet (b, row) = .ok l) : l = sorted8 row ∧ (∀ j ∈ Vbcrah.nats row, j < b.orders.length) ∧ rowOk row 8 7 = true := by
  obtain ⟨_, h1, h⟩ := bind_inv h
  obtain ⟨_, h2, h⟩ := bind_inv h
  have hr : rowOk row 8 7 = true := ask_ok h1
  have ha : (row.all fun n => decide (n < (b.orders.length : Int))) = true := ask_ok h2
  refine ⟨(Except.ok.inj h).symm, fun j hj => ?_, hr⟩
  have e := (row_nats hr).1
  have : ((j : Nat) : Int) ∈ row := by
    rw [← e]
    exact List.mem_map.mpr ⟨j, hj, rfl⟩
  have := of_decide_eq_true (List.all_eq_true.mp ha _ this)
  omega
/-! l.index(x), rows of numbers -/
theorem eqv_rows (l : List (List Nat)) (j : Nat) (m : List Nat) : (l.map dB)[j]? = (l[j]?).map dB := List.getElem?_map
section
variable {X : Cx} {e o : Expr} {σ : L2.St} {B : Hp} {pos apos : Pos} {l : Wd} {m : List Nat} {j : Nat}
theorem ev_indexL (hu : X.A.units + 65 < cLine) (ho : Ev X o σ B (rL rBy l)) (ha : Ev X e σ B (rBy m)) (hj : l[j]? = some m) (hno : ∀ i, i < j → l[i]? ≠ some m)
    (hbase : attributeBase o "index" X.env (eval o X.env) = eval o X.env := by rfl)
    (hfew : ((backTo pos (starEach (e :: []) X.env)).all (fun x => !x.1) && (backToKw pos (keywordEach [] X.env)).all (fun x => x.1.isSome) && decide ((e :: []).length + ([] : List Keyword).length + (if ([] : List Keyword).isEmpty then 0 else 1) < 30)) = true := by rfl)
    (hline : (apos.endLine == pos.line) = true := by rfl) (hs : starEach (e :: []) X.env = (false, eval e X.env) :: starEach [] X.env := by rfl) (hplain : (backTo pos (starEach [] X.env)).any (·.1) = false := by rfl) :
    Ev X (.Call (.Attribute o "index" apos) [e] [] pos) σ B (rN j) := fun H s Q k =>
  we_of (pe_bm PySem.F.plainAttrs_list PySem.F.slot_list_index PySem.F.type_list_index (mt_indexD hu) we_pe wa_pa hbase hfew hline hs hplain) (ho H s _ fun v B2 H2 g r => by
    obtain ⟨p, vs, rfl, hp, hl, al⟩ := id r
    refine ⟨.inl ⟨rfl, _, SqL.of (g.bh _ _ hp)⟩, ((ea_one ha hs).mo g.bb) H2 g.bh _ fun us B3 H3 g3 r3 => ?_⟩
    obtain ⟨y, rfl, ry⟩ := r3.one
    refine ⟨p, y, dB m, l.map dB, j, dB m, rfl, rfl, dp_dL g3.bh (up (R := rL rBy l) g3.bb r), dp_dB g3.bh ry, shaped_dL l, shaped_dB m, by rw [List.getElem?_map, hj]; rfl, by rw [eqv_dB]; exact decide_eq_true rfl, fun i z hi hz => ?_, k _ B3 H3 (g.trans g3) rfl⟩
    rw [List.getElem?_map] at hz
    cases q : l[i]? with
    | none => rw [q] at hz; cases hz
    | some x =>
      rw [q] at hz
      cases hz
      rw [eqv_dB]
      exact decide_eq_false fun z => hno i hi (by rw [q, z]))
end
theorem idx_at {l : Wd} {m : List Nat} (h : m ∈ l) : l[l.idxOf m]? = some m ∧ (∀ i, i < l.idxOf m → l[i]? ≠ some m) ∧ l.idxOf m < l.length := by
  have hl := List.idxOf_lt_length_of_mem h
  refine ⟨by rw [List.getElem?_eq_getElem hl, List.getElem_idxOf], fun i hi q => ?_, hl⟩
  have hil : i < l.length := by omega
  rw [List.getElem?_eq_getElem hil] at q
  have hi2 : i < l.findIdx (· == m) := hi
  have h2 := List.not_of_lt_findIdx hi2
  rw [Option.some.inj q] at h2
  simp at h2
def rAskCheck : AskR := fun a => (resSet (a.b, a.row)).bind fun l => .ok [(boundW a.b (Vbcrah.wants a.b) l : Nat), if boundW a.b (Vbcrah.wants a.b) l = Vbcrah.most a.b then 1 else 0]
def rAskGone : AskR := fun a => (resWL (a.row, 8, 7)).bind fun _ => (ask (a.row.all fun n => decide (n < (a.b.stocks.length : Int))) (-3)).bind fun _ => .ok (iN [Vbcrah.mostBy (keptOnes a.b (Vbcrah.nats a.row)) (Vbcrah.wants a.b)])
section
variable {P : Program} {w : World} {K : PySem.W.Frag} {mg : Str → Option Value} {base : Heap}
theorem fn_ask_check (T : Txt K mg) : Fn P w K mg base (L2.CX P w) "ask_check" 7 ["desk", "numbers", "row"] (spA K 0 rAskCheck) := by
  obtain ⟨fd, F⟩ := T.d_ask_check
  refine mkFn T.g_ask_check F (b_ask_check F) (ok_bodyC F sc_ask_check (len_X fun _ => rfl) fun cdv A outer s H vs Q E hr q => ?_)
  obtain ⟨⟨b, ns, row⟩, B, hs, ⟨hb, hn, hrw⟩, hv, k⟩ := q
  obtain ⟨v1, v2, v3, rfl, h1, h2, h3⟩ := vs3 hv
  obtain ⟨kok, ker⟩ := ends_ok (res := rAskCheck) (a := ⟨b, ns, row⟩) (f := fun l => rL rI l) (we := rf K) (E := E) k
  have hn : ns.length = 0 := hn
  have hno : b.orders.length ≤ 8 := hb.no
  have hns : b.stocks.length ≤ 8 := hb.ns
  refine wb_setM 3 T.c_Desk (mt_set_of T) (hr.mono (by decide)) (L2.passAt tkX) (b, row) True.intro (ep_var 0 rfl h1).ev (ea_one (ep_var 2 rfl h3).ev) rfl hs (fun l hS v B2 H2 g2 r2 => ?_) (fun n hn => ker n (bind_err hn)) sc_ask_check.nd
  have e1 : rAskCheck ⟨b, ns, row⟩ = _ := bind_ok hS
  obtain ⟨el, hlt, _⟩ := set_ok hS
  have hmem : l ∈ setsOf b := by rw [el]; exact sorted_in hno hlt
  obtain ⟨i1, i2, i3⟩ := idx_at hmem
  have eAt : setAt b ((setsOf b).idxOf l) = l := by
    have := set_at i3
    rw [i1] at this
    exact (Option.some.inj this).symm
  have j1 := up g2.bb h1
  refine wb_set 4 (ev_Ways (ct_Ways T) (hr.mono (by decide)) hno (ep_dk_book T (ep_var 0 rfl j1)).ev) g2.bh (fun u B3 H3 g3 r3 => ?_) sc_ask_check.nd
  have j1 := up g3.bb j1
  have r2' := up (R := rBy l) g3.bb r2
  have hu : ∀ {Z : Around}, Room 6 Z → Z.units + 65 < cLine := fun q => by have := q.un; omega
  refine wb_set 5 (ev_call (fn_bound T) (hr.mono (by decide)) ⟨b, Vbcrah.wants b, (setsOf b).idxOf l⟩ ⟨wants_len b, i3⟩ (ea_cons (ep_var 4 rfl r3).ev (ea_cons (Ev.unF (ef_meth0 T.c_Book (mt_wants T) (hr.mono (by decide)) b True.intro (ep_dk_book T (ep_var 0 rfl j1)).ev rfl rfl)) (ea_one (ev_indexL (hu hr) (ep_wy_sets T (ep_var 4 rfl r3)).ev (ep_var 3 rfl r2').ev i1 i2))))) g3.bh (fun u5 B4 H4 g4 r4 => ?_) sc_ask_check.nd
  dsimp only at r4
  rw [eAt] at r4
  have j1 := up g4.bb j1
  have r3' := up (R := rWy K b) g4.bb r3
  exact wb_ret (ev_list (r := rI) (xs := [((boundW b (Vbcrah.wants b) l : Nat) : Int), if boundW b (Vbcrah.wants b) l = Vbcrah.most b then 1 else 0]) (ea_cons (ep_var 5 rfl r4).ev (ea_one (ev_int1 T.f_int (ev_eq (ep_var 5 rfl r4).ev (ev_call (fn_most T) hr (b, Vbcrah.wants b) (wants_len b) (ea_cons (ep_var 4 rfl r3').ev (ea_one (Ev.unF (ef_meth0 T.c_Book (mt_wants T) (hr.mono (by decide)) b True.intro (ep_dk_book T (ep_var 0 rfl j1)).ev rfl rfl))))))))) (by show 2 ≤ LB; decide)) g4.bh fun v B5 H5 g5 r5 => kok _ e1 v B5 H5 (((g2.trans g3).trans g4).trans g5) r5
theorem fn_ask_gone (T : Txt K mg) : Fn P w K mg base (L2.CX P w) "ask_gone" 7 ["desk", "numbers", "row"] (spA K 0 rAskGone) := by
  obtain ⟨fd, F⟩ := T.d_ask_gone
  refine mkFn T.g_ask_gone F (b_ask_gone F) (ok_bodyC F sc_ask_gone (len_X fun _ => rfl) fun cdv A outer s H vs Q E hr q => ?_)
  obtain ⟨⟨b, ns, row⟩, B, hs, ⟨hb, hn, hrw⟩, hv, k⟩ := q
  obtain ⟨v1, v2, v3, rfl, h1, h2, h3⟩ := vs3 hv
  obtain ⟨kok, ker⟩ := ends_ok (res := rAskGone) (a := ⟨b, ns, row⟩) (f := fun l => rL rI l) (we := rf K) (E := E) k
  have hn : ns.length = 0 := hn
  have hno : b.orders.length ≤ 8 := hb.no
  have hns : b.stocks.length ≤ 8 := hb.ns
  refine wb_exprC (fn_want_list T) (hr.mono (by decide)) (L2.passAt tkX) (row, 8, 7) True.intro (ea_cons (ep_var 2 rfl h3).ev (ea_cons (ep_cI T.i_MOST_TOLD).ev (ea_one (ep_cI T.i_LAST_NUMBER).ev))) hs (fun z1 hz1 v B2 H2 g2 r2 => ?_) (fun n hn => ker n (bind_err hn))
  have e1 : rAskGone ⟨b, ns, row⟩ = _ := bind_ok hz1
  have hrow : rowOk row 8 7 = true := ask_ok hz1
  refine wb_exprC (fn_want T) (hr.mono (by decide)) (L2.passAt tkX) (row.all fun n => decide (n < (b.stocks.length : Int)), -3) True.intro (ea_cons ((ev_all rfl T.f_all (xs := row.map fun n => decide (n < (b.stocks.length : Int))) (Ev.unF (ef_map 3 (r := fun i : Int => rI i) (q := rB) (f := fun n => decide (n < (b.stocks.length : Int))) rfl sc_ask_gone.nd (ei_list (ep_var 2 rfl (up g2.bb h3)).ev (ll h3)) (blkOk_by (N := N_ask_gone) (sc := defScope s_ask_gone) (by decide +kernel)) (fun _ _ _ _ _ => pg_name sc_ask_gone.nd rfl (Or.inl rfl)) (fun n hn v B1 s1 r1 _ _ _ _ _ => ev_lt (ep_var 3 rfl r1).ev (ev_len T.f_len (ep_bk_stocks T (ep_dk_book T (ep_var 0 rfl (up (g2.bb.trans s1) h1)))).ev))))).is (by rw [List.all_map]; rfl)) (ea_one (ep_cI T.i_NO_STOCK).ev)) g2.bh (fun z2 hz2 v B3 H3 g3 r3 => ?_) (fun n hn => (ker n (e1.trans (bind_err hn))).on g2.hh)
  have e2 := e1.trans (bind_ok hz2)
  have g3' := g2.trans g3
  have j1 := up g3'.bb h1
  have j3 := rI_nats hrow (up (R := rL rI row) g3'.bb h3)
  exact wb_ret (ev_toI (ev_list (r := rN) (xs := [Vbcrah.mostBy (keptOnes b (Vbcrah.nats row)) (Vbcrah.wants b)]) (ea_one (ev_call (fn_most T) hr (keptOnes b (Vbcrah.nats row), Vbcrah.wants b) (wants_len b) (ea_cons (ev_Ways (ct_Ways T) (hr.mono (by decide)) hno (ev_call (fn_without_stocks T) (hr.mono (by decide)) (b, Vbcrah.nats row) True.intro (ea_cons (ep_dk_book T (ep_var 0 rfl j1)).ev (ea_one (ep_var 2 rfl j3).ev)))) (ea_one (Ev.unF (ef_meth0 T.c_Book (mt_wants T) (hr.mono (by decide)) b True.intro (ep_dk_book T (ep_var 0 rfl j1)).ev rfl rfl)))))) (by show 1 ≤ LB; decide))) g3'.bh fun v B4 H4 g4 r4 => kok _ e2 v B4 H4 (g3'.trans g4) r4
end
end Fb
/-! FbY13: keeps. Printed by gen_ask.py from FbY13.in -/
namespace Fb
open PySem PySem.Spec PyProof.Rows L2
theorem small3 {j m : Int} (e : Builtin.Range.rangeSize 0 j 3 = m) (h0 : 0 ≤ m) (h1 : m ≤ 1000) (h2 : 0 ≤ j) (h3 : j ≤ 3000) : Builtin.Range.small 0 j 3 = true := by
  unfold Builtin.Range.small
  rw [e]
  simp only [Builtin.Range.rangeFitsLong, Bool.and_eq_true, Bool.or_eq_true, decide_eq_true_eq, beq_iff_eq, show (3 : Int) > 0 by decide, if_true]
  omega
theorem rg3 {m : Nat} (h : m ≤ 1000) : RgC 0 ((3 * m : Nat) : Int) 3 m := by
  have e : Builtin.Range.rangeSize 0 ((3 * m : Nat) : Int) 3 = (m : Int) := by
    rw [PyProof.Rows.rangeSize_pos (by omega) (by omega)]
    omega
  exact ⟨by decide, by decide, small3 e (by omega) (by omega) (by omega) (by omega), e⟩
section
variable {X : Cx} {a b c tg : Expr} {σ : L2.St} {B : Hp} {p pos : Pos}
theorem ei_range3 {m : Nat} (hm : X.mg "range" = none) (ha : Ev X a σ B (rI 0)) (hb : Ev X b σ B (rN (3 * m))) (hc : Ev X c σ B (rI 3)) (hl : m ≤ 1000) (hg : Gl X "range" := by rfl)
    (he : starEach (a :: [b, c]) X.env = (false, eval a X.env) :: starEach [b, c] X.env := by rfl) (he2 : starEach (b :: [c]) X.env = (false, eval b X.env) :: starEach [c] X.env := by rfl) (he3 : starEach (c :: []) X.env = (false, eval c X.env) :: starEach [] X.env := by rfl)
    (hpl : (backTo pos (starEach [b, c] X.env)).any (·.1) = false := by rfl) (hs : ∀ x, foldedSetIterable (.Call (.Name "range" p) [a, b, c] [] pos) X.env x = pure x := by intro _; rfl) :
    EvI X tg (.Call (.Name "range" p) [a, b, c] [] pos) σ B (List.range m) (fun k => rN (3 * k)) :=
  ⟨by rw [List.length_range]; unfold LB; omega, hs, _, pi_range3 hg hm wa_pa he hpl, fun H s R k => (ea_cons ha (ea_cons hb (ea_one hc he3) he2) he) H s _ fun vs B2 H2 g rv => by
    obtain ⟨v1, v2, v3, rfl, e1, e2, e3⟩ := vs3 rv
    refine ⟨0, ((3 * m : Nat) : Int), 3, m, by rw [e1, e2, e3], rg3 hl, ?_⟩
    refine k _ _ _ B2 H2 g (by rw [List.length_range]; exact walk_rangeC) (fun H3 s3 => True.intro) fun i H3 x H4 hi s3 y => ?_
    obtain ⟨rfl, rfl⟩ := y
    rw [List.length_range] at hi
    refine ⟨i, B2, by rw [List.getElem?_range hi], Gr.refl s3, ?_⟩
    show V.int (0 + (i : Nat) * 3) = V.int ((3 * i : Nat) : Int)
    congr 1
    omega⟩
end
def tkAt (l : List Nat) (k : Nat) : Vbcrah.Take := ⟨l.getD (3 * k) 0, l.getD (3 * k + 1) 0, l.getD (3 * k + 2) 0⟩
def rAskKeeps : AskR := fun a => (resWL (a.row, 300, 999)).bind fun _ => (ask (decide ((a.row.length : Int) % 3 = 0)) (-1)).bind fun _ =>
  .ok [if keepAll a.b (Vbcrah.takesIn (Vbcrah.nats a.row)) then 1 else 0, if keepAll a.b (Vbcrah.takesIn (Vbcrah.nats a.row)) && keepWhole a.b (Vbcrah.takesIn (Vbcrah.nats a.row)) then 1 else 0, (((Vbcrah.takesIn (Vbcrah.nats a.row)).map fun t => t.bags).sum : Nat)]
section
variable {P : Program} {w : World} {K : PySem.W.Frag} {mg : Str → Option Value} {base : Heap}
theorem fn_ask_keeps (T : Txt K mg) : Fn P w K mg base (L2.CX P w) "ask_keeps" 5 ["desk", "numbers", "row"] (spA K 0 rAskKeeps) := by
  obtain ⟨fd, F⟩ := T.d_ask_keeps
  refine mkFn T.g_ask_keeps F (b_ask_keeps F) (ok_bodyC F sc_ask_keeps (len_X fun _ => rfl) fun cdv A outer s H vs Q E hr q => ?_)
  obtain ⟨⟨b, ns, row⟩, B, hs, ⟨hb, hn, hrw⟩, hv, k⟩ := q
  obtain ⟨v1, v2, v3, rfl, h1, h2, h3⟩ := vs3 hv
  obtain ⟨kok, ker⟩ := ends_ok (res := rAskKeeps) (a := ⟨b, ns, row⟩) (f := fun l => rL rI l) (we := rf K) (E := E) k
  have hn : ns.length = 0 := hn
  have hno : b.orders.length ≤ 8 := hb.no
  have hns : b.stocks.length ≤ 8 := hb.ns
  refine wb_exprC (fn_want_list T) hr (L2.passAt tkX) (row, 300, 999) True.intro (ea_cons (ep_var 2 rfl h3).ev (ea_cons (ep_cI T.i_MOST_TAKES).ev (ea_one (ep_cI T.i_MOST_IN_TAKES).ev))) hs (fun z1 hz1 v B2 H2 g2 r2 => ?_) (fun n hn => ker n (bind_err hn))
  have e1 : rAskKeeps ⟨b, ns, row⟩ = _ := bind_ok hz1
  have hrow : rowOk row 300 999 = true := ask_ok hz1
  refine wb_exprC (fn_want T) (hr.mono (by decide)) (L2.passAt tkX) (decide ((row.length : Int) % 3 = 0), -1) True.intro (ea_cons (ev_eq (ev_mod (ev_len T.f_len (ep_var 2 rfl (up (R := rL rI row) g2.bb h3)).ev) ep_int.ev (by decide)) ep_int.ev) (ea_one (ep_cI T.i_OUT_OF_RANGE_orders).ev)) g2.bh (fun z2 hz2 v B3 H3 g3 r3 => ?_) (fun n hn => (ker n (e1.trans (bind_err hn))).on g2.hh)
  have e2 := e1.trans (bind_ok hz2)
  have g3' := g2.trans g3
  have j1 := up g3'.bb h1
  have h3' := up (R := rL rI row) g3'.bb h3
  have j3 := rI_nats hrow h3'
  have h30 : row.length ≤ 300 := (row_nats hrow).2.1
  have hd : (row.length : Int) % 3 = 0 := of_decide_eq_true (ask_ok hz2)
  obtain ⟨m, hm⟩ : ∃ m, row.length = 3 * m := ⟨row.length / 3, by omega⟩
  have hln : (Vbcrah.nats row).length = row.length := by unfold Vbcrah.nats; rw [List.length_map]
  have hln3 : (Vbcrah.nats row).length = 3 * m := by rw [hln]; exact hm
  have et : Vbcrah.takesIn (Vbcrah.nats row) = (List.range m).map (tkAt (Vbcrah.nats row)) := takes_eq m _ hln3
  rw [et] at e2
  have hm1 : m ≤ 1000 := by omega
  generalize hx : Vbcrah.nats row = xs at *
  refine wb_map 3 5 (q := rTk K) (f := tkAt xs) rfl sc_ask_keeps.nd (ei_range3 (m := m) T.f_range ep_int.ev ((ev_len T.f_len (ep_var 2 rfl j3).ev).is (by rw [hln3])) ep_int.ev hm1) (blkOk_by (N := N_ask_keeps) (sc := defScope s_ask_keeps) (by decide +kernel)) (fun _ _ _ _ _ => pg_name sc_ask_keeps.nd rfl (Or.inl rfl)) (fun k hk v B1 s1 r1 _ _ _ _ _ => ?_) g3'.bh fun u B4 H4 g4 r4 => ?_
  · have hk := List.mem_range.mp hk
    have a0 : xs[3 * k]? = some (xs.getD (3 * k) 0) := getD_nat (by omega)
    have a1 : xs[3 * k + 1]? = some (xs.getD (3 * k + 1) 0) := getD_nat (by omega)
    have a2 : xs[3 * k + 2]? = some (xs.getD (3 * k + 2) 0) := getD_nat (by omega)
    have j3' := up (R := rBy xs) s1 j3
    exact ev_make (ct_Take T) (hr.mono (by decide)) (tkAt xs k) True.intro (ea_cons (ev_ix (r := rN) (n := 3 * k) (ep_var 2 rfl j3').ev (ep_var 5 rfl r1).ev a0) (ea_cons (ev_ix (r := rN) (n := 3 * k + 1) (ep_var 2 rfl j3').ev (ev_add (ep_var 5 rfl r1).ev ep_int.ev) a1) (ea_one (ev_ix (r := rN) (n := 3 * k + 2) (ep_var 2 rfl j3').ev (ev_add (ep_var 5 rfl r1).ev ep_int.ev) a2))))
  have r4 : (rL (rTk K) ((List.range m).map (tkAt xs))).p u B4 := r4.1
  generalize (List.range m).map (tkAt xs) = ts at *
  have j1 := up g4.bb j1
  refine wb_set 4 (ev_call (fn_keep_all T) (hr.mono (by decide)) (b, ts) ⟨hno, hns⟩ (ea_cons (ep_dk_book T (ep_var 0 rfl j1)).ev (ea_one (ep_var 3 rfl r4).ev))) g4.bh (fun u5 B5 H5 g5 r5 => ?_) sc_ask_keeps.nd
  have j1 := up g5.bb j1
  have r4 := up (R := rL (rTk K) ts) g5.bb r4
  exact wb_ret (ev_list (r := rI) (xs := [if keepAll b ts then 1 else 0, if keepAll b ts && keepWhole b ts then 1 else 0, ((ts.map fun t => t.bags).sum : Nat)]) (ea_cons (ev_intB T.f_int (ep_var 4 rfl r5).ev) (ea_cons (ev_intB T.f_int (ev_and (ep_var 4 rfl r5).ev fun _ => ev_call (fn_keep_whole T) (hr.mono (by decide)) (b, ts) hno (ea_cons (ep_dk_book T (ep_var 0 rfl j1)).ev (ea_one (ep_var 3 rfl r4).ev)))) (ea_one (ev_sumN rfl T.f_sum (Ev.unF (ef_map 6 (r := rTk K) (q := rN) (f := fun t => t.bags) rfl sc_ask_keeps.nd (ei_list (ep_var 3 rfl r4).ev (ll r4)) (blkOk_by (N := N_ask_keeps) (sc := defScope s_ask_keeps) (by decide +kernel)) (fun _ _ _ _ _ => pg_name sc_ask_keeps.nd rfl (Or.inl rfl)) (fun t ht v B1 s1 r1 _ _ _ _ _ => (ep_tk_bags T (ep_var 6 rfl r1)).ev))))))) (by show 3 ≤ LB; decide)) g5.bh fun v B6 H6 g6 r6 => kok _ e2 v B6 H6 (((g3'.trans g4).trans g5).trans g6) r6
end
end Fb
/-! FbY14: why, extra. Printed by gen_ask.py from FbY14.in -/
namespace Fb
open PySem PySem.Spec PyProof.Rows L2
theorem why_row (b : Vbcrah.Book) (j : Nat) (h : j < b.orders.length) : (Vbcrah.served b).take j ++ [(Vbcrah.orderAt b j).bags] ++ List.replicate (b.orders.length - j - 1) 0 = Vbcrah.wantFor b j := by
  unfold Vbcrah.wantFor
  have sl := served_len b
  dsimp only
  refine List.ext_getElem? fun i => ?_
  rw [List.getElem?_map]
  by_cases hi : i < b.orders.length
  · rw [List.getElem?_range hi]
    by_cases h1 : i < j
    · rw [List.append_assoc, List.getElem?_append_left (by rw [List.length_take]; omega), List.getElem?_take, if_pos h1]
      show _ = some (if i < j then _ else _)
      rw [if_pos h1, List.getD_eq_getElem?_getD, List.getElem?_eq_getElem (by omega)]
      rfl
    · by_cases h2 : i = j
      · subst h2
        rw [List.append_assoc, List.getElem?_append_right (by rw [List.length_take]; omega), List.length_take, show i - min i (Vbcrah.served b).length = 0 by omega]
        show some _ = some (if i < i then _ else if i = i then _ else _)
        rw [if_neg h1, if_pos rfl]
      · rw [List.getElem?_append_right (by rw [List.length_append, List.length_take, List.length_singleton]; omega), List.getElem?_replicate, if_pos (by rw [List.length_append, List.length_take, List.length_singleton]; omega)]
        show some _ = some (if i < j then _ else if i = j then _ else _)
        rw [if_neg h1, if_neg h2]
  · rw [List.getElem?_eq_none (by rw [List.length_append, List.length_append, List.length_take, List.length_singleton, List.length_replicate]; omega), List.getElem?_eq_none (by rw [List.length_range]; omega)]
    rfl
theorem wantFor_len (b : Vbcrah.Book) (j : Nat) : (Vbcrah.wantFor b j).length = b.orders.length := by
  unfold Vbcrah.wantFor
  dsimp only
  rw [List.length_map, List.length_range]
def whyOf (b : Vbcrah.Book) (j : Nat) : List Nat := if (Vbcrah.served b).getD j 0 = (Vbcrah.orderAt b j).bags then [0] else [1, (Vbcrah.served b).getD j 0, (Vbcrah.wantFor b j).sum, Vbcrah.mostBy b (Vbcrah.wantFor b j)] ++ toldRow b (Vbcrah.wantFor b j)
def rAskWhy : AskR := fun a => (resWO (a.b, n0 a)).bind fun _ => .ok (iN (whyOf a.b (n0 a).toNat))
def stEx (a : AskA) : Vbcrah.Stock := ⟨Vbcrah.nats a.row, (n0 a).toNat, (n1 a).toNat, 0⟩
def rAskExtra : AskR := fun a => (resWR (n0 a, 1, 9999)).bind fun _ => (resWR (n1 a, 0, 400)).bind fun _ => (resWL (a.row, 8, 255)).bind fun _ => (ask (Vbcrah.isName (Vbcrah.nats a.row)) (-7)).bind fun _ =>
  .ok (if fewI a.b (stEx a) < 0 then [0] else [1, fewI a.b (stEx a)])
theorem wr_ok {n lo hi : Int} {z : Unit} (h : resWR (n, lo, hi) = .ok z) : lo ≤ n ∧ n ≤ hi := by
  have := ask_ok h
  unfold inI at this
  rw [Bool.and_eq_true] at this
  exact ⟨of_decide_eq_true this.1, of_decide_eq_true this.2⟩
theorem told_len {b : Vbcrah.Book} (h : b.orders.length ≤ 8) (want : List Nat) : (toldRow b want).length ≤ 100 := by
  unfold toldRow
  rw [List.length_cons, List.length_append, List.length_map, List.length_map]
  have := sets_size (least_mem b want)
  have := FbM.days_len b
  omega
theorem row_two {ns : List Int} {v : V} {B : Hp} (h : (rL rI ns).p v B) (h2 : ns.length = 2) : ∃ p, v = .ref p ∧ B p = some (.lst [V.int (ns.getD 0 0), V.int (ns.getD 1 0)]) := by
  obtain ⟨p, vs, e, hp, _, a⟩ := h
  have ev : vs = (ns.map fun i => i).map V.int := vints a
  rw [List.map_id'] at ev
  match ns, h2 with
  | [a0, a1], _ => exact ⟨p, e, by rw [hp, ev]; rfl⟩
section
variable {P : Program} {w : World} {K : PySem.W.Frag} {mg : Str → Option Value} {base : Heap}
theorem fn_ask_why (T : Txt K mg) : Fn P w K mg base (L2.CX P w) "ask_why" 8 ["desk", "numbers", "row"] (spA K 1 rAskWhy) := by
  obtain ⟨fd, F⟩ := T.d_ask_why
  refine mkFn T.g_ask_why F (b_ask_why F) (ok_bodyC F sc_ask_why (len_X fun _ => rfl) fun cdv A outer s H vs Q E hr q => ?_)
  obtain ⟨⟨b, ns, row⟩, B, hs, ⟨hb, hn, hrw⟩, hv, k⟩ := q
  obtain ⟨v1, v2, v3, rfl, h1, h2, h3⟩ := vs3 hv
  obtain ⟨kok, ker⟩ := ends_ok (res := rAskWhy) (a := ⟨b, ns, row⟩) (f := fun l => rL rI l) (we := rf K) (E := E) k
  have hn : ns.length = 1 := hn
  have hno : b.orders.length ≤ 8 := hb.no
  have hns : b.stocks.length ≤ 8 := hb.ns
  have i0 := getD_at (ns := ns) (p := 0) (by omega)
  refine wb_exprM T.c_Desk (mt_want_order T) (hr.mono (by decide)) (L2.passAt tkX) (b, ns.getD 0 0) True.intro (ep_var 0 rfl h1).ev (ea_one (ev_ix (r := rI) (n := 0) (ep_var 1 rfl h2).ev ep_int.ev i0)) rfl hs (fun z1 hz1 v B2 H2 g2 r2 => ?_) (fun n hn => ker n (bind_err hn))
  obtain ⟨p0, plt⟩ := wo_ok hz1
  have e1 : rAskWhy ⟨b, ns, row⟩ = .ok (iN (whyOf b (ns.getD 0 0).toNat)) := bind_ok hz1
  have j1 := up g2.bb h1
  have j2 := up g2.bb h2
  have eN := ofI p0
  generalize (ns.getD 0 0).toNat = j at *
  have sl := served_len b
  have hod := od_at plt
  refine wb_set 3 ((ev_ix (r := rI) (n := 0) (ep_var 1 rfl j2).ev ep_int.ev i0).is eN) g2.bh (fun u3 B3 H3 g3 r3 => ?_) sc_ask_why.nd
  have j1 := up g3.bb j1
  refine wb_set 4 (ev_Ways (ct_Ways T) (hr.mono (by decide)) hno (ep_dk_book T (ep_var 0 rfl j1)).ev) g3.bh (fun u4 B4 H4 g4 r4 => ?_) sc_ask_why.nd
  have j1 := up g4.bb j1
  have r3 := up (R := rN j) g4.bb r3
  refine wb_set 5 (ev_call (fn_served T) hr b hno (ea_one (ep_var 4 rfl r4).ev)) g4.bh (fun u5 B5 H5 g5 r5 => ?_) sc_ask_why.nd
  have j1 := up g5.bb j1
  have r3 := up (R := rN j) g5.bb r3
  have r4 := up (R := rWy K b) g5.bb r4
  have r5 : (rBy (Vbcrah.served b)).p u5 B5 := r5
  refine wb_set 6 (ev_od_bags T (ev_ix (r := rOd K) (n := j) (ep_bk_orders T (ep_dk_book T (ep_var 0 rfl j1))).ev (ep_var 3 rfl r3).ev hod)) g5.bh (fun u6 B6 H6 g6 r6 => ?_) sc_ask_why.nd
  have r3 := up (R := rN j) g6.bb r3
  have r4 := up (R := rWy K b) g6.bb r4
  have r5 := up (R := rBy (Vbcrah.served b)) g6.bb r5
  have gg := ((((g2.trans g3).trans g4).trans g5).trans g6)
  have hs5 : (Vbcrah.served b)[j]? = some ((Vbcrah.served b).getD j 0) := getD_nat (by omega)
  refine wb_when (et_eq (ev_ix (r := rN) (n := j) (ep_var 5 rfl r5).ev (ep_var 3 rfl r3).ev hs5) (ep_var 6 rfl r6).ev) gg.bh (fun hc B7 H7 g7 => ?_) fun hc B7 H7 g7 => ?_
  · have hc : (Vbcrah.served b).getD j 0 = (Vbcrah.orderAt b j).bags := by have := of_decide_eq_true hc; omega
    refine wb_ret (ev_toI (ev_list (r := rN) (xs := [0]) (ea_one ep_int.ev) (by show 1 ≤ LB; decide))) g7.bh fun v B8 H8 g8 r8 => kok (iN [0]) (by rw [e1]; unfold whyOf; rw [if_pos hc]) v B8 H8 ((gg.trans g7).trans g8) r8
  · have hc : ¬ (Vbcrah.served b).getD j 0 = (Vbcrah.orderAt b j).bags := by have := of_decide_eq_false hc; omega
    have r3 := up (R := rN j) g7.bb r3
    have r4 := up (R := rWy K b) g7.bb r4
    have r5 := up (R := rBy (Vbcrah.served b)) g7.bb r5
    have r6 := up (R := rN (Vbcrah.orderAt b j).bags) g7.bb r6
    have lt : ((Vbcrah.served b).take j).length + 1 + (b.orders.length - j - 1) ≤ LB := by rw [List.length_take]; unfold LB; omega
    refine wb_set 7 ((ev_cat (r := rN) (xs := (Vbcrah.served b).take j ++ [(Vbcrah.orderAt b j).bags]) (ys := List.replicate (b.orders.length - j - 1) 0) (ev_cat (r := rN) (Ev.unF (ef_to (ep_var 5 rfl r5).ev (ep_var 3 rfl r3).ev)) (ev_list (r := rN) (xs := [(Vbcrah.orderAt b j).bags]) (ea_one (ep_var 6 rfl r6).ev) (by show 1 ≤ LB; decide)) (by show _ + 1 ≤ LB; omega)) (Ev.unF (ef_rep (r := rN) (x := 0) (n := b.orders.length - j - 1) (ev_list (r := rN) (xs := [0]) (ea_one ep_int.ev) (by show 1 ≤ LB; decide)) ((ev_sub (ev_sub (ev_len T.f_len (ep_var 5 rfl r5).ev) (ep_var 3 rfl r3).ev) ep_int.ev).is (by
      show rI _ = rI _
      congr 1
      omega)) (by unfold LB; omega))) (by rw [List.length_append, List.length_singleton, List.length_replicate]; exact lt)).is (by rw [why_row b j plt])) g7.bh (fun u8 B8 H8 g8 r8 => ?_) sc_ask_why.nd
    have r8 : (rBy (Vbcrah.wantFor b j)).p u8 B8 := r8
    have r3 := up (R := rN j) g8.bb r3
    have r4 := up (R := rWy K b) g8.bb r4
    have r5 := up (R := rBy (Vbcrah.served b)) g8.bb r5
    refine wb_asg (ev_call (fn_bound_told T) (hr.mono (by decide)) (b, Vbcrah.wantFor b j) ⟨wantFor_len b j, hno⟩ (ea_cons (ep_var 4 rfl r4).ev (ea_one (ep_var 7 rfl r8).ev))) g8.bh (pg_tup rfl (pgs_cons (pg_name (i := 8) sc_ask_why.nd rfl (Or.inl rfl)) (pgs_cons (pg_name (i := 9) sc_ask_why.nd rfl (Or.inl rfl)) pgs_nil))) fun v B9 H9 g9 r9 => ?_
    obtain ⟨t, us, et, ht, hu⟩ := r9
    obtain ⟨w1, w2, rfl, q1, q2⟩ := vs2 hu
    refine gn_pair et ht g9.bh _ ?_
    have r3 := up (R := rN j) g9.bb r3
    have r5 := up (R := rBy (Vbcrah.served b)) g9.bb r5
    have r8 := up (R := rBy (Vbcrah.wantFor b j)) g9.bb r8
    have tl := told_len hno (Vbcrah.wantFor b j)
    exact wb_ret (ev_toI (ev_cat (r := rN) (xs := [1, (Vbcrah.served b).getD j 0, (Vbcrah.wantFor b j).sum, Vbcrah.mostBy b (Vbcrah.wantFor b j)]) (ys := toldRow b (Vbcrah.wantFor b j)) (ev_list (r := rN) (xs := [1, (Vbcrah.served b).getD j 0, (Vbcrah.wantFor b j).sum, Vbcrah.mostBy b (Vbcrah.wantFor b j)]) (ea_cons ep_int.ev (ea_cons (ev_ix (r := rN) (n := j) (ep_var 5 rfl r5).ev (ep_var 3 rfl r3).ev hs5) (ea_cons (ev_sumN rfl T.f_sum (ep_var 7 rfl r8).ev) (ea_one (ep_var 8 rfl q1).ev)))) (by show 4 ≤ LB; decide)) (ep_var 9 rfl q2).ev (show 4 + (toldRow b (Vbcrah.wantFor b j)).length ≤ LB by unfold LB; omega))) g9.bh fun v B10 H10 g10 r10 => kok _ (by rw [e1]; unfold whyOf; rw [if_neg hc]) v B10 H10 ((((gg.trans g7).trans g8).trans g9).trans g10) r10
theorem fn_ask_extra (T : Txt K mg) : Fn P w K mg base (L2.CX P w) "ask_extra" 6 ["desk", "numbers", "row"] (spA K 2 rAskExtra) := by
  obtain ⟨fd, F⟩ := T.d_ask_extra
  refine mkFn T.g_ask_extra F (b_ask_extra F) (ok_bodyC F sc_ask_extra (len_X fun _ => rfl) fun cdv A outer s H vs Q E hr q => ?_)
  obtain ⟨⟨b, ns, row⟩, B, hs, ⟨hb, hn, hrw⟩, hv, k⟩ := q
  obtain ⟨v1, v2, v3, rfl, h1, h2, h3⟩ := vs3 hv
  obtain ⟨kok, ker⟩ := ends_ok (res := rAskExtra) (a := ⟨b, ns, row⟩) (f := fun l => rL rI l) (we := rf K) (E := E) k
  have hn : ns.length = 2 := hn
  have hno : b.orders.length ≤ 8 := hb.no
  have hns : b.stocks.length ≤ 8 := hb.ns
  refine wb_asg (ep_var 1 rfl h2).ev hs (pg_lst rfl (pgs_cons (pg_name (i := 3) sc_ask_extra.nd rfl (Or.inl rfl)) (pgs_cons (pg_name (i := 4) sc_ask_extra.nd rfl (Or.inl rfl)) pgs_nil))) fun v B2 H2 g2 r2 => ?_
  obtain ⟨p, ev, hpv⟩ := row_two (ns := ns) r2 hn
  have ex : rAskExtra ⟨b, ns, row⟩ = (resWR (ns.getD 0 0, 1, 9999)).bind fun _ => (resWR (ns.getD 1 0, 0, 400)).bind fun _ => (resWL (row, 8, 255)).bind fun _ => (ask (Vbcrah.isName (Vbcrah.nats row)) (-7)).bind fun _ => .ok (if fewI b ⟨Vbcrah.nats row, (ns.getD 0 0).toNat, (ns.getD 1 0).toNat, 0⟩ < 0 then [0] else [1, fewI b ⟨Vbcrah.nats row, (ns.getD 0 0).toNat, (ns.getD 1 0).toNat, 0⟩]) := rfl
  generalize ns.getD 0 0 = na at *
  generalize ns.getD 1 0 = nb at *
  refine ⟨p, _, ev, SqL.of (g2.bh _ _ hpv), rfl, V.int na, _, rfl, V.int nb, _, rfl, rfl, ?_⟩
  refine wb_exprC (fn_want_range T) (hr.mono (by decide)) (L2.passAt tkX) (na, 1, 9999) True.intro (ea_cons (ep_var 3 rfl (R := rI na) rfl).ev (ea_cons ep_int.ev (ea_one (ep_cI T.i_MOST_SIZE).ev))) g2.bh (fun z1 hz1 v B3 H3 g3 r3 => ?_) (fun n hn => (ker n (ex.trans (bind_err hn))).on g2.hh)
  have e1 := ex.trans (bind_ok hz1)
  have g3' := g2.trans g3
  refine wb_exprC (fn_want_range T) (hr.mono (by decide)) (L2.passAt tkX) (nb, 0, 400) True.intro (ea_cons (ep_var 4 rfl (R := rI nb) rfl).ev (ea_cons ep_int.ev (ea_one (ep_cI T.i_LAST_DAY).ev))) g3'.bh (fun z2 hz2 v B4 H4 g4 r4 => ?_) (fun n hn => (ker n (e1.trans (bind_err hn))).on g3'.hh)
  have e2 := e1.trans (bind_ok hz2)
  have g4' := g3'.trans g4
  refine wb_exprC (fn_want_list T) (hr.mono (by decide)) (L2.passAt tkX) (row, 8, 255) True.intro (ea_cons (ep_var 2 rfl (up (R := rL rI row) g4'.bb h3)).ev (ea_cons (ep_cI T.i_LONGEST).ev (ea_one (ep_cI T.i_GREATEST_BYTE).ev))) g4'.bh (fun z3 hz3 v B5 H5 g5 r5 => ?_) (fun n hn => (ker n (e2.trans (bind_err hn))).on g4'.hh)
  have e3 := e2.trans (bind_ok hz3)
  have g5' := g4'.trans g5
  have hrow : rowOk row 8 255 = true := ask_ok hz3
  have j3 := rI_nats hrow (up (R := rL rI row) g5'.bb h3)
  refine wb_exprC (fn_want T) (hr.mono (by decide)) (L2.passAt tkX) (Vbcrah.isName (Vbcrah.nats row), -7) True.intro (ea_cons (ev_call (fn_is_kind T) (hr.mono (by decide)) (Vbcrah.nats row) True.intro (ea_one (ep_var 2 rfl j3).ev)) (ea_one (ep_cI T.i_NO_KIND).ev)) g5'.bh (fun z4 hz4 v B6 H6 g6 r6 => ?_) (fun n hn => (ker n (e3.trans (bind_err hn))).on g5'.hh)
  have e4 := e3.trans (bind_ok hz4)
  have g6' := g5'.trans g6
  have j1 := up g6'.bb h1
  have j3 := up (R := rBy (Vbcrah.nats row)) g6.bb j3
  have a1 := wr_ok hz1
  have a2 := wr_ok hz2
  generalize hst : (⟨Vbcrah.nats row, na.toNat, nb.toNat, 0⟩ : Vbcrah.Stock) = st at *
  refine wb_set 5 (ev_call (fn_fewest_more T) (hr.mono (by decide)) (b, st) True.intro (ea_cons (ev_Ways (ct_Ways T) (hr.mono (by decide)) hno (ep_dk_book T (ep_var 0 rfl j1)).ev) (ea_one (ev_make (ct_Stock T) (hr.mono (by decide)) st True.intro (by
    subst hst
    exact ea_cons (ep_var 2 rfl j3).ev (ea_cons (ep_var 3 rfl (R := rN na.toNat) (by rw [← ofI (by omega)]; rfl)).ev (ea_cons (ep_var 4 rfl (R := rN nb.toNat) (by rw [← ofI (by omega)]; rfl)).ev (ea_one ep_int.ev)))))))) g6'.bh (fun u B7 H7 g7 r7 => ?_) sc_ask_extra.nd
  cases (show u = V.int (fewI b st) from r7)
  refine wb_ret (ev_ite (R := rL rI (if fewI b st < 0 then [0] else [1, fewI b st])) (et_lt (ep_var 5 rfl (R := rI _) rfl).ev ep_int.ev) (fun hc => (ev_list (r := rI) (xs := [0]) (ea_one ep_int.ev) (by show 1 ≤ LB; decide)).is (by rw [if_pos (of_decide_eq_true hc)])) fun hc => (ev_list (r := rI) (xs := [1, fewI b st]) (ea_cons ep_int.ev (ea_one (ep_var 5 rfl (R := rI _) rfl).ev)) (by show 2 ≤ LB; decide)).is (by rw [if_neg (of_decide_eq_false hc)])) g7.bh fun v B8 H8 g8 r8 => kok _ e4 v B8 H8 ((g6'.trans g7).trans g8) r8
end
end Fb
/-! FbY15: idle, met, days. Printed by gen_ask.py from FbY15.in -/
namespace Fb
open PySem PySem.Spec PyProof.Rows L2
def idleU (b : Vbcrah.Book) (j : Nat) : List Nat := ((b.stocks.zipIdx.take j).filter fun z => !b.orders.any fun o => Vbcrah.suits z.1 o).map fun z => z.2
def rAskIdle : AskR := fun a => .ok (iN (idleU a.b a.b.stocks.length))
def metZ (b : Vbcrah.Book) : List Vbcrah.Order := ((b.orders.zip (Vbcrah.served b)).filter fun z => z.2 == z.1.bags).map fun z => z.1
def rAskMet : AskR := fun a => .ok [if Vbcrah.can a.b (Vbcrah.wants a.b) then 1 else 0, ((Vbcrah.served a.b).sum : Nat), ((metZ a.b).length : Nat)]
def dayRow (b : Vbcrah.Book) (d : Nat) : List Nat := [d, ((b.orders.filter fun o => o.due == d).map fun o => o.bags).sum, (((b.orders.filter fun o => o.due == d).filter fun o => o.ground).map fun o => o.bags).sum]
def rAskDays : AskR := fun a => .ok (iN ((Vbcrah.daysOf a.b).flatMap (dayRow a.b)))
section
variable {P : Program} {w : World} {K : PySem.W.Frag} {mg : Str → Option Value} {base : Heap}
theorem fn_ask_idle (T : Txt K mg) : Fn P w K mg base (L2.CX P w) "ask_idle" 2 ["desk", "numbers", "row"] (spA K 0 rAskIdle) := by
  obtain ⟨fd, F⟩ := T.d_ask_idle
  refine mkFn T.g_ask_idle F (b_ask_idle F) (ok_bodyC F sc_ask_idle (len_X fun _ => rfl) fun cdv A outer s H vs Q E hr q => ?_)
  obtain ⟨⟨b, ns, row⟩, B, hs, ⟨hb, hn, hrw⟩, hv, k⟩ := q
  obtain ⟨v1, v2, v3, rfl, h1, h2, h3⟩ := vs3 hv
  obtain ⟨kok, ker⟩ := ends_ok (res := rAskIdle) (a := ⟨b, ns, row⟩) (f := fun l => rL rI l) (we := rf K) (E := E) k
  have hn : ns.length = 0 := hn
  have hno : b.orders.length ≤ 8 := hb.no
  have hns : b.stocks.length ≤ 8 := hb.ns
  refine wb_set 3 (ep_dk_book T (ep_var 0 rfl h1)).ev hs (fun u B2 H2 g2 r2 => ?_) sc_ask_idle.nd
  refine wb_set 4 (ef_list (r := rN) (xs := []) ea_nil) g2.bh (fun v B3 H3 g3 r3 => ?_) sc_ask_idle.nd
  obtain ⟨f, vs, rfl, a0, al⟩ := acc_of g2.bh g3 r3 fun x v C q => q
  cases al
  have eS := LB_line
  have eLB : LB = 1000000 := rfl
  refine wb_forG (ei_enum T.f_enumerate (ep_bk_stocks T (ep_var 3 rfl r2)).ev (bk_stocks_len r2)) (pg_tup rfl (pgs_cons (pg_name (i := 5) sc_ask_idle.nd rfl (Or.inl rfl)) (pgs_cons (pg_name (i := 6) sc_ask_idle.nd rfl (Or.inr rfl)) pgs_nil))) a0.g.bh
    (fun Bk j σ' H' => ∃ cv x y, Acc B2 H2 Bk H' f cv ∧ All2 (fun (x : Nat) v => (rN x).p v Bk) (idleU b j) cv ∧ σ' = [some v1, some v2, some v3, some u, some (.ref f), x, y, none]) (L2.passes_of rfl) rfl ?_ ?_ ?_ ?_
  · intro B4 H4 g4
    exact ⟨[], none, none, a0.step g4, .nil, rfl⟩
  · rintro Bk j σ' H' ⟨cv, x, y, a, _⟩
    exact a.g.bh
  · rintro Bk j ⟨st, j'⟩ v σ' H' B4 H4 sB hz ⟨cv, x, y, a, ac, rfl⟩ g4 ⟨t, ws, ev, ht, hw⟩
    obtain ⟨ho, ej⟩ := zi_back hz
    have ej : j' = j := ej
    subst ej
    obtain ⟨w1, w2, rfl, q1, q2⟩ := vs2 hw
    have a4 := a.step g4
    have r2' := up (R := rBk K b) a4.g.bb r2
    have hstep : idleU b (j' + 1) = idleU b j' ++ if (!b.orders.any fun o => Vbcrah.suits st o) = true then [j'] else [] := by
      unfold idleU
      rw [take_succ hz, List.filter_append, List.map_append]
      congr 1
      rw [List.filter_cons]
      show List.map (fun z : Vbcrah.Stock × Nat => z.2) (if (!b.orders.any fun o => Vbcrah.suits st o) = true then [(st, j')] else []) = _
      split <;> rfl
    have hlen : (idleU b j').length ≤ 8 := by
      unfold idleU
      rw [List.length_map]
      refine Nat.le_trans (List.length_filter_le _ _) ?_
      rw [List.length_take, List.length_zipIdx]
      omega
    refine ⟨_, gn_pair ev ht g4.bh, wb_when (et_not (et_val ((ev_any rfl T.f_any (xs := b.orders.map fun o => Vbcrah.suits st o) (Ev.unF (ef_map 7 (r := rOd K) (q := rB) (f := fun o => Vbcrah.suits st o) rfl sc_ask_idle.nd (ei_list (ep_bk_orders T (ep_var 3 rfl r2')).ev (bk_orders_len r2')) (blkOk_by (N := N_ask_idle) (sc := defScope s_ask_idle) (by decide +kernel)) (fun _ _ _ _ _ => pg_name sc_ask_idle.nd rfl (Or.inl rfl)) (fun o ho v B1 s1 r1 _ _ _ _ _ => ev_call (fn_is_right T) hr (st, o) True.intro (ea_cons (ep_var 6 rfl (up (R := rSt K st) s1 q2)).ev (ea_one (ep_var 7 rfl r1).ev)))))).is (by rw [List.any_map])))) a4.g.bh (fun hc B5 H5 g5 => ?_) fun hc B5 H5 g5 => ?_⟩
    · have a5 := a4.step g5
      refine wb_append (at_var 4 rfl) a5.at_ a5.bf (by rw [ac.len]; omega) (ep_var 5 rfl (R := rN j') (up g5.bb q1)).ev a5.g.bh fun z B6 H6 g6 r6 n6 => wb_nil (wb_nil ⟨B6, (g4.bb.trans g5.bb).trans g6.bb, _, some w1, some w2, (a5.step g6).put (ws := cv ++ [z]), ?_, rfl⟩)
      have hc : (!b.orders.any fun o => Vbcrah.suits st o) = true := hc
      rw [hstep, if_pos hc]
      exact All2.app ac (.one r6)
    · refine wb_nil ⟨B5, g4.bb.trans g5.bb, cv, some w1, some w2, a4.step g5, ?_, rfl⟩
      have hc : (!b.orders.any fun o => Vbcrah.suits st o) = false := hc
      rw [hstep, if_neg (by rw [hc]; decide), List.append_nil]
      exact ac
  · rintro Bk σ' H' sB ⟨cv, x, y, a, ac, rfl⟩
    rw [List.length_zipIdx] at ac
    have hlen : (idleU b b.stocks.length).length ≤ LB := by
      unfold idleU
      rw [List.length_map]
      refine Nat.le_trans (List.length_filter_le _ _) ?_
      rw [List.length_take, List.length_zipIdx]
      omega
    obtain ⟨g9, r9⟩ := a.close (r := rN) (xs := idleU b b.stocks.length) ac hlen
    exact wb_ret (ev_toI (ep_var 4 rfl r9).ev) g9.bh fun v B7 H7 g7 r => kok _ rfl v B7 H7 ((g2.trans g9).trans g7) r
theorem fn_ask_met (T : Txt K mg) : Fn P w K mg base (L2.CX P w) "ask_met" 8 ["desk", "numbers", "row"] (spA K 0 rAskMet) := by
  obtain ⟨fd, F⟩ := T.d_ask_met
  refine mkFn T.g_ask_met F (b_ask_met F) (ok_bodyC F sc_ask_met (len_X fun _ => rfl) fun cdv A outer s H vs Q E hr q => ?_)
  obtain ⟨⟨b, ns, row⟩, B, hs, ⟨hb, hn, hrw⟩, hv, k⟩ := q
  obtain ⟨v1, v2, v3, rfl, h1, h2, h3⟩ := vs3 hv
  obtain ⟨kok, ker⟩ := ends_ok (res := rAskMet) (a := ⟨b, ns, row⟩) (f := fun l => rL rI l) (we := rf K) (E := E) k
  have hn : ns.length = 0 := hn
  have hno : b.orders.length ≤ 8 := hb.no
  have hns : b.stocks.length ≤ 8 := hb.ns
  refine wb_set 3 (ev_Ways (ct_Ways T) (hr.mono (by decide)) hno (ep_dk_book T (ep_var 0 rfl h1)).ev) hs (fun u3 B3 H3 g3 r3 => ?_) sc_ask_met.nd
  have j1 := up g3.bb h1
  refine wb_set 4 (ev_call (fn_served T) hr b hno (ea_one (ep_var 3 rfl r3).ev)) g3.bh (fun u4 B4 H4 g4 r4 => ?_) sc_ask_met.nd
  have j1 := up g4.bb j1
  have r3 := up (R := rWy K b) g4.bb r3
  have r4 : (rBy (Vbcrah.served b)).p u4 B4 := r4
  have hol : b.orders.length ≤ LB := by unfold LB; omega
  refine wb_set 5 (ev_len (r := rOd K) (xs := metZ b) T.f_len (Ev.unF (ef_fmap2 6 7 (by decide) (xs := b.orders.zip (Vbcrah.served b)) (ρ := fun z : Vbcrah.Order × Nat => rOd K z.1) (τ := fun z => rN z.2) (q := rOd K) (f := fun z => z.1) (c := fun z => z.2 == z.1.bags) rfl sc_ask_met.nd (ei_zip T.f_zip (ep_bk_orders T (ep_dk_book T (ep_var 0 rfl j1))).ev (ep_var 4 rfl r4).ev hol (hpi := by exact fun h => pi_zip rfl T.f_zip h)) (blkOk_by (N := N_ask_met) (sc := defScope s_ask_met) (by decide +kernel)) (fun _ _ _ _ _ => pg_tup rfl (pgs_cons (pg_name (i := 6) sc_ask_met.nd rfl (Or.inl rfl)) (pgs_cons (pg_name (i := 7) sc_ask_met.nd rfl (Or.inl rfl)) pgs_nil))) (fun z hz v u B1 s1 h4 h5 _ _ _ _ _ => ⟨(et_eq (ep_var 7 rfl h5).ev (ep_od_bags T (ep_var 6 rfl h4)).ev).is (dec_beq _ _), fun _ => (ep_var 6 rfl h4).ev⟩)))) g4.bh (fun u5 B5 H5 g5 r5 => ?_) sc_ask_met.nd
  have j1 := up g5.bb j1
  have r3 := up (R := rWy K b) g5.bb r3
  have r4 := up (R := rBy (Vbcrah.served b)) g5.bb r4
  exact wb_ret (ev_list (r := rI) (xs := [if Vbcrah.can b (Vbcrah.wants b) then 1 else 0, ((Vbcrah.served b).sum : Nat), ((metZ b).length : Nat)]) (ea_cons (ev_intB T.f_int (ev_call (fn_can_have T) hr (b, Vbcrah.wants b) (wants_len b) (ea_cons (ep_var 3 rfl r3).ev (ea_one (Ev.unF (ef_meth0 T.c_Book (mt_wants T) (hr.mono (by decide)) b True.intro (ep_dk_book T (ep_var 0 rfl j1)).ev rfl rfl)))))) (ea_cons (ev_sumN rfl T.f_sum (ep_var 4 rfl r4).ev) (ea_one (ep_var 5 rfl r5).ev))) (by show 3 ≤ LB; decide)) g5.bh fun v B6 H6 g6 r6 => kok _ rfl v B6 H6 (((g3.trans g4).trans g5).trans g6) r6
theorem fn_ask_days (T : Txt K mg) : Fn P w K mg base (L2.CX P w) "ask_days" 2 ["desk", "numbers", "row"] (spA K 0 rAskDays) := by
  obtain ⟨fd, F⟩ := T.d_ask_days
  refine mkFn T.g_ask_days F (b_ask_days F) (ok_bodyC F sc_ask_days (len_X fun _ => rfl) fun cdv A outer s H vs Q E hr q => ?_)
  obtain ⟨⟨b, ns, row⟩, B, hs, ⟨hb, hn, hrw⟩, hv, k⟩ := q
  obtain ⟨v1, v2, v3, rfl, h1, h2, h3⟩ := vs3 hv
  obtain ⟨kok, ker⟩ := ends_ok (res := rAskDays) (a := ⟨b, ns, row⟩) (f := fun l => rL rI l) (we := rf K) (E := E) k
  have hn : ns.length = 0 := hn
  have hno : b.orders.length ≤ 8 := hb.no
  have hns : b.stocks.length ≤ 8 := hb.ns
  refine wb_set 3 (ef_list (r := rN) (xs := []) ea_nil) hs (fun v B3 H3 g3 r3 => ?_) sc_ask_days.nd
  obtain ⟨f, vs, rfl, a0, al⟩ := acc_of hs g3 r3 fun x v C q => q
  cases al
  have eS := LB_line
  have eLB : LB = 1000000 := rfl
  have hd8 := FbM.days_len b
  have fl : ∀ ds : List Nat, ds.length ≤ 8 → (ds.flatMap (dayRow b)).length ≤ 24 := fun ds hds => by
    have := flat_len (f := dayRow b) (n := 3) (xs := ds) fun d _ => by unfold dayRow; exact Nat.le_refl 3
    omega
  refine wb_forG (ei_list (r := rN) (ev_meth0 T.c_Book (mt_days T) hr b hno (ep_dk_book T (ep_var 0 rfl h1)).ev rfl rfl) (by show (Vbcrah.daysOf b).length ≤ LB; omega)) (pg_name (i := 4) sc_ask_days.nd rfl (by first | exact Or.inl rfl | exact Or.inr rfl)) a0.g.bh
    (fun Bk j σ' H' => ∃ cv x y z, Acc B H Bk H' f cv ∧ All2 (fun (x : Nat) v => (rN x).p v Bk) (((Vbcrah.daysOf b).take j).flatMap (dayRow b)) cv ∧ σ' = [some v1, some v2, some v3, some (.ref f), x, y, z, none]) (L2.passes_of rfl) rfl ?_ ?_ ?_ ?_
  · intro B4 H4 g4
    exact ⟨[], none, none, none, a0.step g4, .nil, rfl⟩
  · rintro Bk j σ' H' ⟨cv, x, y, z, a, _⟩
    exact a.g.bh
  · rintro Bk j d v σ' H' B4 H4 sB hd ⟨cv, x, y, z, a, ac, rfl⟩ g4 r4
    refine ⟨_, gn_name, ?_⟩
    have a4 := a.step g4
    have j1 := up a4.g.bb h1
    have hol : b.orders.length ≤ LB := by omega
    refine wb_fmap 5 7 (r := rOd K) (q := rOd K) (f := fun o => o) (c := fun o => o.due == d) rfl sc_ask_days.nd (ei_list (ep_bk_orders T (ep_dk_book T (ep_var 0 rfl j1))).ev hol) (blkOk_by (N := N_ask_days) (sc := defScope s_ask_days) (by decide +kernel)) (fun _ _ _ _ _ => pg_name sc_ask_days.nd rfl (Or.inl rfl)) (fun o ho v B1 s1 r1 _ _ _ _ _ => ⟨(et_eq (ep_od_due T (ep_var 7 rfl r1)).ev (ep_var 4 rfl (up (R := rN d) s1 r4)).ev).is (dec_beq _ _), fun _ => (ep_var 7 rfl r1).ev⟩) a4.g.bh fun u5 B5 H5 g5 r5 => ?_
    rw [List.map_id'] at r5
    have r5 : (rL (rOd K) (b.orders.filter fun o => o.due == d)).p u5 B5 := r5.1
    have a5 := a4.step g5
    have r4 := up (R := rN d) g5.bb r4
    generalize hos : (b.orders.filter fun o => o.due == d) = os at *
    refine wb_set 6 (ev_sumN (xs := (os.filter fun o => o.ground).map fun o => o.bags) rfl T.f_sum (Ev.unF (ef_fmap 7 (r := rOd K) (q := rN) (f := fun o => o.bags) (c := fun o => o.ground) rfl sc_ask_days.nd (ei_list (ep_var 5 rfl r5).ev (ll r5)) (blkOk_by (N := N_ask_days) (sc := defScope s_ask_days) (by decide +kernel)) (fun _ _ _ _ _ => pg_name sc_ask_days.nd rfl (Or.inl rfl)) (fun o ho v B1 s1 r1 _ _ _ _ _ => ⟨et_val (ep_od_ground T (ep_var 7 rfl r1)).ev, fun _ => (ep_od_bags T (ep_var 7 rfl r1)).ev⟩)))) g5.bh (fun u6 B6 H6 g6 r6 => ?_) sc_ask_days.nd
    have a6 := a5.step g6
    have r4 := up (R := rN d) g6.bb r4
    have r5 := up (R := rL (rOd K) os) g6.bb r5
    have hx := fl ((Vbcrah.daysOf b).take j) (by rw [List.length_take]; omega)
    have hrow : dayRow b d = [d, (os.map fun o => o.bags).sum, ((os.filter fun o => o.ground).map fun o => o.bags).sum] := by unfold dayRow; rw [hos]
    refine wb_extend (r := rN) (ys := dayRow b d) (at_var 3 rfl) a6.at_ a6.bf (by rw [ac.len, hrow]; show _ + 3 ≤ sizeLine; omega) ((ev_list (r := rN) (xs := [d, (os.map fun o => o.bags).sum, ((os.filter fun o => o.ground).map fun o => o.bags).sum]) (ea_cons (ep_var 4 rfl r4).ev (ea_cons (ev_sumN rfl T.f_sum (Ev.unF (ef_map 7 (r := rOd K) (q := rN) (f := fun o => o.bags) rfl sc_ask_days.nd (ei_list (ep_var 5 rfl r5).ev (ll r5)) (blkOk_by (N := N_ask_days) (sc := defScope s_ask_days) (by decide +kernel)) (fun _ _ _ _ _ => pg_name sc_ask_days.nd rfl (Or.inl rfl)) (fun o ho v B1 s1 r1 _ _ _ _ _ => (ep_od_bags T (ep_var 7 rfl r1)).ev)))) (ea_one (ep_var 6 rfl r6).ev))) (by show 3 ≤ LB; decide)).is (by rw [hrow])) a6.g.bh fun us B7 H7 g7 r7 n7 => wb_nil ?_
    exact ⟨B7, ((g4.bb.trans g5.bb).trans g6.bb).trans g7.bb, _, some v, some u5, some u6, (a6.step g7).put (ws := cv ++ us), by rw [flat_take hd]; exact All2.app ac r7, rfl⟩
  · rintro Bk σ' H' sB ⟨cv, x, y, z, a, ac, rfl⟩
    rw [List.take_length] at ac
    obtain ⟨g9, r9⟩ := a.close (r := rN) (xs := (Vbcrah.daysOf b).flatMap (dayRow b)) ac (by have := fl (Vbcrah.daysOf b) (by omega); omega)
    exact wb_ret (ev_toI (ep_var 3 rfl r9).ev) g9.bh fun v B7 H7 g7 r => kok _ rfl v B7 H7 (g9.trans g7) r
end
end Fb
/-! FbY16: asks that change the desk. Printed by gen_ask.py from FbY16.in -/
namespace Fb
open PySem PySem.Spec PyProof.Rows L2
abbrev DskR := AskA → Except Int (List Int × Vbcrah.Book)
abbrev dkO (K : PySem.W.Frag) (dx : Addr) (u : V) : HO := .ins (ga K "Desk") dx [("book", u)]
/-- an ask: the desk at q is none of the base's; it's handed back with another book -/
def spD (K : PySem.W.Frag) (m : Nat) (res : DskR) : Sp := fun vs H Q E => ∃ (a : AskA) (q dx : Addr) (u v2 v3 : V) (B : Hp), vs = [.ref q, v2, v3] ∧ H q = some (dkO K dx u) ∧ B q = none ∧ Same B H ∧ AskOk m a ∧ (rBk K a.b).p u B ∧ (rL rI a.ns).p v2 B ∧ (rL rI a.row).p v3 B ∧
  (match res a with
  | .ok z => ∀ v B2 H2 u2, Con B H B2 H2 q (dkO K dx u2) → (rBk K z.2).p u2 B2 → (rL rI z.1).p v B2 → Q v H2
  | .error n => Ends1 E H (rf K n))
theorem len_D {K : PySem.W.Frag} {m : Nat} {res : DskR} : ∀ vs H Q E, spD K m res vs H Q E → vs.length = 3 := fun vs H Q E ⟨_, _, _, _, _, _, _, e, _⟩ => by rw [e]; rfl
theorem ends_d {K : PySem.W.Frag} {res : DskR} {a : AskA} {B H : Hp} {Q : VK} {E : XK} {q dx : Addr} (k : match res a with
  | .ok z => ∀ v B2 H2 u2, Con B H B2 H2 q (dkO K dx u2) → (rBk K z.2).p u2 B2 → (rL rI z.1).p v B2 → Q v H2
  | .error n => Ends1 E H (rf K n)) : (∀ z, res a = .ok z → ∀ v B2 H2 u2, Con B H B2 H2 q (dkO K dx u2) → (rBk K z.2).p u2 B2 → (rL rI z.1).p v B2 → Q v H2) ∧ ∀ n, res a = .error n → Ends1 E H (rf K n) :=
  ⟨fun z e => by rw [e] at k; exact k, fun n e => by rw [e] at k; exact k⟩
theorem dk_lent {K : PySem.W.Frag} {b : Vbcrah.Book} {B : Hp} {q dx : Addr} {u : V} (nq : B q = none) (h : (rBk K b).p u B) : (rDk K b).p (.ref q) (upd B q (dkO K dx u)) :=
  ⟨q, dx, [("book", u)], rfl, upd_same, rfl, up (R := rBk K b) (same_new nq) h, True.intro⟩
theorem er_I {C : Addr} {l : List Int} : Er C (rL rI l) := er_L fun _ => er_V
section
variable {P : Program} {w : World} {K : PySem.W.Frag} {mg : Str → Option Value} {base : Heap}
/-- an ask that leaves the desk alone -/
theorem Fn.desk {x : Str} {k m : Nat} {ps : List Str} {res : AskR} (F : Fn P w K mg base (L2.CX P w) x k ps (spA K m res)) : Fn P w K mg base (L2.CX P w) x k ps (spD K m fun a => (res a).map fun l => (l, a.b)) :=
  F.imp fun vs H Q E ⟨a, q, dx, u, v2, v3, B, e, hq, nq, s, ok, hu, h2, h3, k⟩ => by
    subst e
    have k : match (res a).map fun l => (l, a.b) with
      | .ok z => ∀ v B2 H2 u2, Con B H B2 H2 q (dkO K dx u2) → (rBk K z.2).p u2 B2 → (rL rI z.1).p v B2 → Q v H2
      | .error n => Ends1 E H (rf K n) := k
    refine ⟨a, upd B q (dkO K dx u), lend_same s hq, ok, ⟨dk_lent nq hu, up (R := rL rI a.ns) (same_new nq) h2, up (R := rL rI a.row) (same_new nq) h3, True.intro⟩, ?_⟩
    show match toX (rf K) (res a) (rL rI) with
      | .ok r => ∀ v B2 H2, Gr (upd B q (dkO K dx u)) H B2 H2 → r.p v B2 → Q v H2
      | .error e => Ends1 E H e
    cases hr : res a with
    | error n => rw [hr] at k; exact k
    | ok l =>
      rw [hr] at k
      exact fun v B2 H2 g r => k v (er B2 q) H2 u ((Con.start s nq hq).stepL g) (up (R := rBk K a.b) (g.back nq).bb hu) (er_I _ _ _ _ _ (g.bb _ _ upd_same) r)
end
section
variable {K : PySem.W.Frag} {mg : Str → Option Value} {X : Cx} {e o : Expr} {σ : L2.St} {B H B2 H2 : Hp} {pos p2 : Pos} {rest : List Stmt} {D : L2.Ends} {q dx : Addr} {u : V} {b : Vbcrah.Book} {l : List Int}
theorem pf_dk (u v : V) : putF "book" v [("book", u)] = ([("book", v)] : List (Str × V)) := by kernel_rfl
/-- desk.book = e -/
theorem wb_dset (T : Txt K mg) (s : Same B H) (nq : B q = none) (hq : H q = some (dkO K dx u)) (g : Gr (upd B q (dkO K dx u)) H B2 H2) (h : Ev X e σ B2 (rBk K b)) (ho : EvP X o σ B2 (rV (.ref q)))
    (k : ∀ v B3 H3, Gr B2 H2 B3 H3 → Con B H (er B3 q) (upd H3 q (dkO K dx v)) q (dkO K dx v) → B3 q = some (dkO K dx u) → (rBk K b).p v (er B3 q) → WB X rest D σ (upd H3 q (dkO K dx v)))
    (hs : swapsWith e (some (.Attribute o "book" p2)) pos.line X.env = pure false := by rfl) (hK : X.K = K := by rfl) : WB X (.Assign [.Attribute o "book" p2] e pos :: rest) D σ H2 := by
  subst hK
  refine wb_sfQ T.c_Desk T.n_Desk_book h ho (g.hh _ _ hq) g.bh (by show 1 < 1000; decide) (fun v B3 H3 g3 r3 => ?_) hs
  rw [pf_dk]
  have g' := g.trans g3
  have hq3 := g'.bb _ _ upd_same
  exact k v B3 H3 g3 (((Con.start s nq hq).stepL g').put) hq3 (er_Bk T b _ _ _ _ _ hq3 r3)
/-- return e, the desk changed -/
theorem wb_dret {Bk : Hp} (c : Con B H Bk H2 q (dkO K dx u)) (hb : (rBk K b).p u Bk) (h : Ev X e σ (upd Bk q (dkO K dx u)) (rL rI l)) (k : ∀ v B4 H4 u2, Con B H B4 H4 q (dkO K dx u2) → (rBk K b).p u2 B4 → (rL rI l).p v B4 → D.rt v H4) : WB X (.Return (some e) pos :: rest) D σ H2 :=
  wb_ret h c.lend fun v B4 H4 g4 r4 => k v (er B4 q) H4 u (c.stepL g4) (up (R := rBk K b) (g4.back c.nz).bb hb) (er_I _ _ _ _ _ (g4.bb _ _ upd_same) r4)
end
def rAskLimits : DskR := fun a => (resWR (n0 a, 0, 500)).bind fun _ => (resWR (n1 a, 0, 500)).bind fun _ => .ok ([], { a.b with grind := (n0 a).toNat, send := (n1 a).toNat })
def cutO (b : Vbcrah.Book) (j : Nat) : List Vbcrah.Order := b.orders.take j ++ b.orders.drop (j + 1)
def rAskCancel : DskR := fun a => (resWO (a.b, n0 a)).bind fun _ => .ok (iN [(cutO a.b (n0 a).toNat).length], { a.b with orders := cutO a.b (n0 a).toNat })
def movO (b : Vbcrah.Book) (j k : Nat) : List Vbcrah.Order := (cutO b j).take k ++ [Vbcrah.orderAt b j] ++ (cutO b j).drop k
def rAskFirst : DskR := fun a => (resWR (n1 a, 0, 7)).bind fun _ => (resWO (a.b, n0 a)).bind fun _ => (resWO (a.b, n1 a)).bind fun _ => .ok ([], { a.b with orders := movO a.b (n0 a).toNat (n1 a).toNat })
def rAskBags : DskR := fun a => (resWR (n1 a, 0, 60)).bind fun _ => (resWS (a.b, n0 a)).bind fun _ => .ok (iN [(Vbcrah.stockAt a.b (n0 a).toNat).bags], { a.b with stocks := a.b.stocks.set (n0 a).toNat { Vbcrah.stockAt a.b (n0 a).toNat with bags := (n1 a).toNat } })
def rAskDue : DskR := fun a => (resWR (n1 a, 0, 400)).bind fun _ => (resWO (a.b, n0 a)).bind fun _ => .ok (iN [(Vbcrah.orderAt a.b (n0 a).toNat).due], { a.b with orders := a.b.orders.set (n0 a).toNat { Vbcrah.orderAt a.b (n0 a).toNat with due := (n1 a).toNat } })
theorem cut_len (b : Vbcrah.Book) (j : Nat) : (cutO b j).length ≤ b.orders.length := by
  unfold cutO
  rw [List.length_append, List.length_take, List.length_drop]
  omega
section
variable {P : Program} {w : World} {K : PySem.W.Frag} {mg : Str → Option Value} {base : Heap}
theorem fn_with_orders_orders (T : Txt K mg) : Fn P w K mg base CX0 "with_orders_orders" 3 ["book", "orders"] (spP (fun _ : Vbcrah.Book × List Vbcrah.Order => True) (fun a => [rBk K a.1, rL (rOd K) a.2]) (fun a => rBk K { a.1 with orders := a.2 })) := by
  obtain ⟨fd, F⟩ := T.d_with_orders_2
  refine mkFn T.g_with_orders_orders F (b_with_orders_2 F) (ok_body F sc_with_orders_2 (len_P fun _ => rfl) fun cdv A outer s H vs Q E hr q => ?_)
  obtain ⟨⟨b, os⟩, B, hs, hp, hv, k⟩ := q
  obtain ⟨v1, v2, rfl, h1, h2⟩ := vs2 hv
  exact wb_ret (ev_Book (bk := { b with orders := os }) (ct_Book T) hr (ea_cons (ep_bk_stocks (b := b) T (ep_var 0 rfl h1)).ev (ea_cons (ep_var 1 rfl h2).ev (ea_cons (ep_bk_grind (b := b) T (ep_var 0 rfl h1)).ev (ea_one (ep_bk_send (b := b) T (ep_var 0 rfl h1)).ev))))) hs k
theorem fn_ask_limits (T : Txt K mg) : Fn P w K mg base (L2.CX P w) "ask_limits" 5 ["desk", "numbers", "row"] (spD K 2 rAskLimits) := by
  obtain ⟨fd, F⟩ := T.d_ask_limits
  refine mkFn T.g_ask_limits F (b_ask_limits F) (ok_bodyC F sc_ask_limits len_D fun cdv A outer s H vs Q E hr qq => ?_)
  obtain ⟨⟨b, ns, row⟩, q, dx, u0, v2, v3, B0, rfl, hq, nq, hs0, ⟨hb, hn, hrw⟩, hu, h2, h3, k⟩ := qq
  obtain ⟨kok, ker⟩ := ends_d (res := rAskLimits) (a := ⟨b, ns, row⟩) k
  have hn : ns.length = 2 := hn
  have hno : b.orders.length ≤ 8 := hb.no
  have hns : b.stocks.length ≤ 8 := hb.ns
  have hs := lend_same hs0 hq
  have h1 := dk_lent (dx := dx) nq hu
  have h2 := up (same_new (o := .ins (ga K "Desk") dx [("book", u0)]) nq) h2
  have h3 := up (same_new (o := .ins (ga K "Desk") dx [("book", u0)]) nq) h3
  have i0 := getD_at (ns := ns) (p := 0) (by omega)
  have i1 := getD_at (ns := ns) (p := 1) (by omega)
  have ex : rAskLimits ⟨b, ns, row⟩ = (resWR (ns.getD 0 0, 0, 500)).bind fun _ => (resWR (ns.getD 1 0, 0, 500)).bind fun _ => .ok ([], { b with grind := (ns.getD 0 0).toNat, send := (ns.getD 1 0).toNat }) := rfl
  generalize ns.getD 0 0 = na at *
  generalize ns.getD 1 0 = nb at *
  refine wb_exprC (fn_want_range T) hr (L2.passAt tkX) (na, 0, 500) True.intro (ea_cons (ev_ix (r := rI) (n := 0) (ep_var 1 rfl h2).ev ep_int.ev i0) (ea_cons ep_int.ev (ea_one (ep_cI T.i_MOST_LIMIT).ev))) hs (fun z1 hz1 v B2 H2 g2 r2 => ?_) (fun n hn => ker n (ex.trans (bind_err hn)))
  have e1 := ex.trans (bind_ok hz1)
  refine wb_exprC (fn_want_range T) hr (L2.passAt tkX) (nb, 0, 500) True.intro (ea_cons (ev_ix (r := rI) (n := 1) (ep_var 1 rfl (up g2.bb h2)).ev ep_int.ev i1) (ea_cons ep_int.ev (ea_one (ep_cI T.i_MOST_LIMIT).ev))) g2.bh (fun z2 hz2 v B3 H3 g3 r3 => ?_) (fun n hn => (ker n (e1.trans (bind_err hn))).on g2.hh)
  have e2 := e1.trans (bind_ok hz2)
  have g3' := g2.trans g3
  have j1 := up g3'.bb h1
  have j2 := up g3'.bb h2
  have a1 := wr_ok hz1
  have a2 := wr_ok hz2
  refine wb_dset (b := { b with grind := na.toNat, send := nb.toNat }) T hs0 nq hq g3' (ev_Book (bk := { b with grind := na.toNat, send := nb.toNat }) (ct_Book T) (hr.mono (by decide)) (ea_cons (ep_bk_stocks (b := b) T (ep_dk_book T (ep_var 0 rfl j1))).ev (ea_cons (ep_bk_orders (b := b) T (ep_dk_book T (ep_var 0 rfl j1))).ev (ea_cons ((ev_ix (r := rI) (n := 0) (ep_var 1 rfl j2).ev ep_int.ev i0).is (ofI (by omega))) (ea_one ((ev_ix (r := rI) (n := 1) (ep_var 1 rfl j2).ev ep_int.ev i1).is (ofI (by omega)))))))) (ep_var 0 rfl rfl) fun v B4 H4 g4 c4 _ r4 => ?_
  exact wb_dret c4 r4 (ev_list (r := rI) (xs := []) ea_nil) (kok _ e2)
theorem fn_ask_cancel (T : Txt K mg) : Fn P w K mg base (L2.CX P w) "ask_cancel" 6 ["desk", "numbers", "row"] (spD K 1 rAskCancel) := by
  obtain ⟨fd, F⟩ := T.d_ask_cancel
  refine mkFn T.g_ask_cancel F (b_ask_cancel F) (ok_bodyC F sc_ask_cancel len_D fun cdv A outer s H vs Q E hr qq => ?_)
  obtain ⟨⟨b, ns, row⟩, q, dx, u0, v2, v3, B0, rfl, hq, nq, hs0, ⟨hb, hn, hrw⟩, hu, h2, h3, k⟩ := qq
  obtain ⟨kok, ker⟩ := ends_d (res := rAskCancel) (a := ⟨b, ns, row⟩) k
  have hn : ns.length = 1 := hn
  have hno : b.orders.length ≤ 8 := hb.no
  have hns : b.stocks.length ≤ 8 := hb.ns
  have hs := lend_same hs0 hq
  have h1 := dk_lent (dx := dx) nq hu
  have h2 := up (same_new (o := .ins (ga K "Desk") dx [("book", u0)]) nq) h2
  have h3 := up (same_new (o := .ins (ga K "Desk") dx [("book", u0)]) nq) h3
  have i0 := getD_at (ns := ns) (p := 0) (by omega)
  refine wb_exprM T.c_Desk (mt_want_order T) hr (L2.passAt tkX) (b, ns.getD 0 0) True.intro (ep_var 0 rfl h1).ev (ea_one (ev_ix (r := rI) (n := 0) (ep_var 1 rfl h2).ev ep_int.ev i0)) rfl hs (fun z1 hz1 v B2 H2 g2 r2 => ?_) (fun n hn => ker n (bind_err hn))
  obtain ⟨p0, plt⟩ := wo_ok hz1
  have e1 : rAskCancel ⟨b, ns, row⟩ = .ok (iN [(cutO b (ns.getD 0 0).toNat).length], { b with orders := cutO b (ns.getD 0 0).toNat }) := bind_ok hz1
  have j1 := up g2.bb h1
  have j2 := up g2.bb h2
  have eN := ofI p0
  generalize (ns.getD 0 0).toNat = j at *
  refine wb_set 3 (ep_bk_orders T (ep_dk_book T (ep_var 0 rfl j1))).ev g2.bh (fun u3 B3 H3 g3 r3 => ?_) sc_ask_cancel.nd
  have j1 := up g3.bb j1
  have j2 := up g3.bb j2
  have g3' := g2.trans g3
  have hcut := cut_len b j
  refine wb_dset (b := { b with orders := cutO b j }) T hs0 nq hq g3' (ev_call (fn_with_orders_orders T) (hr.mono (by decide)) (b, cutO b j) True.intro (ea_cons (ep_dk_book T (ep_var 0 rfl j1)).ev (ea_one (ev_cat (r := rOd K) (xs := b.orders.take j) (ys := b.orders.drop (j + 1)) (Ev.unF (ef_to (ep_var 3 rfl r3).ev ((ev_ix (r := rI) (n := 0) (ep_var 1 rfl j2).ev ep_int.ev i0).is eN))) (Ev.unF (ef_from (ep_var 3 rfl r3).ev (ev_add ((ev_ix (r := rI) (n := 0) (ep_var 1 rfl j2).ev ep_int.ev i0).is eN) ep_int.ev))) (by rw [List.length_take, List.length_drop]; unfold LB; omega))))) (ep_var 0 rfl rfl) fun v B4 H4 g4 c4 _ r4 => ?_
  have j4 := dk_lent (dx := dx) c4.nz r4
  exact wb_dret c4 r4 (ev_toI (ev_list (r := rN) (xs := [(cutO b j).length]) (ea_one (ev_len T.f_len (ep_bk_orders T (ep_dk_book T (ep_var 0 rfl j4))).ev)) (by show 1 ≤ LB; decide))) (kok _ e1)
theorem fn_ask_first (T : Txt K mg) : Fn P w K mg base (L2.CX P w) "ask_first" 6 ["desk", "numbers", "row"] (spD K 2 rAskFirst) := by
  obtain ⟨fd, F⟩ := T.d_ask_first
  refine mkFn T.g_ask_first F (b_ask_first F) (ok_bodyC F sc_ask_first len_D fun cdv A outer s H vs Q E hr qq => ?_)
  obtain ⟨⟨b, ns, row⟩, q, dx, u0, v2, v3, B0, rfl, hq, nq, hs0, ⟨hb, hn, hrw⟩, hu, h2, h3, k⟩ := qq
  obtain ⟨kok, ker⟩ := ends_d (res := rAskFirst) (a := ⟨b, ns, row⟩) k
  have hn : ns.length = 2 := hn
  have hno : b.orders.length ≤ 8 := hb.no
  have hns : b.stocks.length ≤ 8 := hb.ns
  have hs := lend_same hs0 hq
  have h1 := dk_lent (dx := dx) nq hu
  have h2 := up (same_new (o := .ins (ga K "Desk") dx [("book", u0)]) nq) h2
  have h3 := up (same_new (o := .ins (ga K "Desk") dx [("book", u0)]) nq) h3
  refine wb_asg (ep_var 1 rfl h2).ev hs (pg_lst rfl (pgs_cons (pg_name (i := 3) sc_ask_first.nd rfl (Or.inl rfl)) (pgs_cons (pg_name (i := 4) sc_ask_first.nd rfl (Or.inl rfl)) pgs_nil))) fun v B2 H2 g2 r2 => ?_
  obtain ⟨p, ev, hpv⟩ := row_two (ns := ns) r2 hn
  have ex : rAskFirst ⟨b, ns, row⟩ = (resWR (ns.getD 1 0, 0, 7)).bind fun _ => (resWO (b, ns.getD 0 0)).bind fun _ => (resWO (b, ns.getD 1 0)).bind fun _ => .ok ([], { b with orders := movO b (ns.getD 0 0).toNat (ns.getD 1 0).toNat }) := rfl
  generalize ns.getD 0 0 = na at *
  generalize ns.getD 1 0 = nb at *
  refine ⟨p, _, ev, SqL.of (g2.bh _ _ hpv), rfl, V.int na, _, rfl, V.int nb, _, rfl, rfl, ?_⟩
  refine wb_exprC (fn_want_range T) (hr.mono (by decide)) (L2.passAt tkX) (nb, 0, 7) True.intro (ea_cons (ep_var 4 rfl (R := rI nb) rfl).ev (ea_cons ep_int.ev (ea_one (ep_cI T.i_LAST_NUMBER).ev))) g2.bh (fun z1 hz1 v B3 H3 g3 r3 => ?_) (fun n hn => (ker n (ex.trans (bind_err hn))).on g2.hh)
  have e1 := ex.trans (bind_ok hz1)
  have g3' := g2.trans g3
  refine wb_exprM T.c_Desk (mt_want_order T) hr (L2.passAt tkX) (b, na) True.intro (ep_var 0 rfl (up g3'.bb h1)).ev (ea_one (ep_var 3 rfl (R := rI na) rfl).ev) rfl g3'.bh (fun z2 hz2 v B4 H4 g4 r4 => ?_) (fun n hn => (ker n (e1.trans (bind_err hn))).on g3'.hh)
  have e2 := e1.trans (bind_ok hz2)
  have g4' := g3'.trans g4
  refine wb_exprM T.c_Desk (mt_want_order T) hr (L2.passAt tkX) (b, nb) True.intro (ep_var 0 rfl (up g4'.bb h1)).ev (ea_one (ep_var 4 rfl (R := rI nb) rfl).ev) rfl g4'.bh (fun z3 hz3 v B5 H5 g5 r5 => ?_) (fun n hn => (ker n (e2.trans (bind_err hn))).on g4'.hh)
  have e3 := e2.trans (bind_ok hz3)
  have g5' := g4'.trans g5
  obtain ⟨p0, plt⟩ := wo_ok hz2
  obtain ⟨q0, qlt⟩ := wo_ok hz3
  have eA := ofI p0
  have eB := ofI q0
  generalize na.toNat = j at *
  generalize nb.toNat = kk at *
  have j1 := up g5'.bb h1
  have hcut := cut_len b j
  refine wb_set 5 (ev_cat (r := rOd K) (xs := b.orders.take j) (ys := b.orders.drop (j + 1)) (Ev.unF (ef_to (ep_bk_orders T (ep_dk_book T (ep_var 0 rfl j1))).ev ((ep_var 3 rfl (R := rI na) rfl).ev.is eA))) (Ev.unF (ef_from (ep_bk_orders T (ep_dk_book T (ep_var 0 rfl j1))).ev (ev_add ((ep_var 3 rfl (R := rI na) rfl).ev.is eA) ep_int.ev))) (by rw [List.length_take, List.length_drop]; unfold LB; omega)) g5'.bh (fun u6 B6 H6 g6 r6 => ?_) sc_ask_first.nd
  have r6 : (rL (rOd K) (cutO b j)).p u6 B6 := r6
  have j1 := up g6.bb j1
  have g6' := g5'.trans g6
  have hod := od_at plt
  refine wb_dset (b := { b with orders := movO b j kk }) T hs0 nq hq g6' (ev_call (fn_with_orders_orders T) (hr.mono (by decide)) (b, movO b j kk) True.intro (ea_cons (ep_dk_book T (ep_var 0 rfl j1)).ev (ea_one (ev_cat (r := rOd K) (xs := (cutO b j).take kk ++ [Vbcrah.orderAt b j]) (ys := (cutO b j).drop kk) (ev_cat (r := rOd K) (xs := (cutO b j).take kk) (ys := [Vbcrah.orderAt b j]) (Ev.unF (ef_to (ep_var 5 rfl r6).ev ((ep_var 4 rfl (R := rI nb) rfl).ev.is eB))) (ev_list (r := rOd K) (xs := [Vbcrah.orderAt b j]) (ea_one (ev_ix (r := rOd K) (n := j) (ep_bk_orders T (ep_dk_book T (ep_var 0 rfl j1))).ev ((ep_var 3 rfl (R := rI na) rfl).ev.is eA) hod)) (by show 1 ≤ LB; decide)) (by rw [List.length_take]; show _ + 1 ≤ LB; unfold LB; omega)) (Ev.unF (ef_from (ep_var 5 rfl r6).ev ((ep_var 4 rfl (R := rI nb) rfl).ev.is eB))) (by rw [List.length_append, List.length_take, List.length_drop]; show _ + 1 + _ ≤ LB; unfold LB; omega))))) (ep_var 0 rfl rfl) fun v B7 H7 g7 c7 _ r7 => ?_
  exact wb_dret c7 r7 (ev_list (r := rI) (xs := []) ea_nil) (kok _ e3)
theorem fn_ask_bags (T : Txt K mg) : Fn P w K mg base (L2.CX P w) "ask_bags" 6 ["desk", "numbers", "row"] (spD K 2 rAskBags) := by
  obtain ⟨fd, F⟩ := T.d_ask_bags
  refine mkFn T.g_ask_bags F (b_ask_bags F) (ok_bodyC F sc_ask_bags len_D fun cdv A outer s H vs Q E hr qq => ?_)
  obtain ⟨⟨b, ns, row⟩, q, dx, u0, v2, v3, B0, rfl, hq, nq, hs0, ⟨hb, hn, hrw⟩, hu, h2, h3, k⟩ := qq
  obtain ⟨kok, ker⟩ := ends_d (res := rAskBags) (a := ⟨b, ns, row⟩) k
  have hn : ns.length = 2 := hn
  have hno : b.orders.length ≤ 8 := hb.no
  have hns : b.stocks.length ≤ 8 := hb.ns
  have hs := lend_same hs0 hq
  have h1 := dk_lent (dx := dx) nq hu
  have h2 := up (same_new (o := .ins (ga K "Desk") dx [("book", u0)]) nq) h2
  have h3 := up (same_new (o := .ins (ga K "Desk") dx [("book", u0)]) nq) h3
  refine wb_asg (ep_var 1 rfl h2).ev hs (pg_lst rfl (pgs_cons (pg_name (i := 3) sc_ask_bags.nd rfl (Or.inl rfl)) (pgs_cons (pg_name (i := 4) sc_ask_bags.nd rfl (Or.inl rfl)) pgs_nil))) fun v B2 H2 g2 r2 => ?_
  obtain ⟨p, ev, hpv⟩ := row_two (ns := ns) r2 hn
  have ex : rAskBags ⟨b, ns, row⟩ = (resWR (ns.getD 1 0, 0, 60)).bind fun _ => (resWS (b, ns.getD 0 0)).bind fun _ => .ok (iN [(Vbcrah.stockAt b (ns.getD 0 0).toNat).bags], { b with stocks := b.stocks.set (ns.getD 0 0).toNat { Vbcrah.stockAt b (ns.getD 0 0).toNat with bags := (ns.getD 1 0).toNat } }) := rfl
  generalize ns.getD 0 0 = na at *
  generalize ns.getD 1 0 = nb at *
  refine ⟨p, _, ev, SqL.of (g2.bh _ _ hpv), rfl, V.int na, _, rfl, V.int nb, _, rfl, rfl, ?_⟩
  refine wb_exprC (fn_want_range T) (hr.mono (by decide)) (L2.passAt tkX) (nb, 0, 60) True.intro (ea_cons (ep_var 4 rfl (R := rI nb) rfl).ev (ea_cons ep_int.ev (ea_one (ep_cI T.i_MOST_BAGS).ev))) g2.bh (fun z1 hz1 v B3 H3 g3 r3 => ?_) (fun n hn => (ker n (ex.trans (bind_err hn))).on g2.hh)
  have e1 := ex.trans (bind_ok hz1)
  have g3' := g2.trans g3
  refine wb_exprM T.c_Desk (mt_want_stock T) hr (L2.passAt tkX) (b, na) True.intro (ep_var 0 rfl (up g3'.bb h1)).ev (ea_one (ep_var 3 rfl (R := rI na) rfl).ev) rfl g3'.bh (fun z2 hz2 v B4 H4 g4 r4 => ?_) (fun n hn => (ker n (e1.trans (bind_err hn))).on g3'.hh)
  have e2 := e1.trans (bind_ok hz2)
  have g4' := g3'.trans g4
  obtain ⟨p0, plt⟩ := ws_ok hz2
  have eA := ofI p0
  have eB := ofI (wr_ok hz1).1
  generalize na.toNat = j at *
  generalize nb.toNat = kk at *
  have j1 := up g4'.bb h1
  refine wb_set 5 (ep_dk_book T (ep_var 0 rfl j1)).ev g4'.bh (fun u5 B5 H5 g5 r5 => ?_) sc_ask_bags.nd
  have g5' := g4'.trans g5
  refine wb_set 6 (ev_ix (r := rSt K) (n := j) (ep_bk_stocks T (ep_var 5 rfl r5)).ev ((ep_var 3 rfl (R := rI na) rfl).ev.is eA) (st_at plt)) g5'.bh (fun u6 B6 H6 g6 r6 => ?_) sc_ask_bags.nd
  have g6' := g5'.trans g6
  have r5 := up (R := rBk K b) g6.bb r5
  generalize hst : Vbcrah.stockAt b j = st at *
  refine wb_dset (b := { b with stocks := b.stocks.set j { st with bags := kk } }) T hs0 nq hq g6' (ev_Book (bk := { b with stocks := b.stocks.set j { st with bags := kk } }) (ct_Book T) (hr.mono (by decide)) (ea_cons (ev_call (fn_with_one (rSt K) T) (hr.mono (by decide)) (b.stocks, j, { st with bags := kk }) ⟨plt, by show b.stocks.length < LB; unfold LB; omega⟩ (ea_cons (ep_bk_stocks (b := b) T (ep_var 5 rfl r5)).ev (ea_cons ((ep_var 3 rfl (R := rI na) rfl).ev.is eA) (ea_one (ev_meth T.c_Stock (mt_with_bags T) (hr.mono (by decide)) (st, kk) True.intro (ep_var 6 rfl r6).ev (ea_one ((ep_var 4 rfl (R := rI nb) rfl).ev.is eB)) rfl rfl))))) (ea_cons (ep_bk_orders (b := b) T (ep_var 5 rfl r5)).ev (ea_cons (ep_bk_grind (b := b) T (ep_var 5 rfl r5)).ev (ea_one (ep_bk_send (b := b) T (ep_var 5 rfl r5)).ev))))) (ep_var 0 rfl rfl) fun v B7 H7 g7 c7 hq7 r7 => ?_
  have r6 := er_St T st _ _ _ _ _ hq7 (up (R := rSt K st) g7.bb r6)
  have r6 := up (R := rSt K st) (same_new (o := dkO K dx v) c7.nz) r6
  exact wb_dret c7 r7 (ev_toI (ev_list (r := rN) (xs := [st.bags]) (ea_one (ep_st_bags T (ep_var 6 rfl r6)).ev) (by show 1 ≤ LB; decide))) (kok _ e2)
theorem fn_ask_due (T : Txt K mg) : Fn P w K mg base (L2.CX P w) "ask_due" 6 ["desk", "numbers", "row"] (spD K 2 rAskDue) := by
  obtain ⟨fd, F⟩ := T.d_ask_due
  refine mkFn T.g_ask_due F (b_ask_due F) (ok_bodyC F sc_ask_due len_D fun cdv A outer s H vs Q E hr qq => ?_)
  obtain ⟨⟨b, ns, row⟩, q, dx, u0, v2, v3, B0, rfl, hq, nq, hs0, ⟨hb, hn, hrw⟩, hu, h2, h3, k⟩ := qq
  obtain ⟨kok, ker⟩ := ends_d (res := rAskDue) (a := ⟨b, ns, row⟩) k
  have hn : ns.length = 2 := hn
  have hno : b.orders.length ≤ 8 := hb.no
  have hns : b.stocks.length ≤ 8 := hb.ns
  have hs := lend_same hs0 hq
  have h1 := dk_lent (dx := dx) nq hu
  have h2 := up (same_new (o := .ins (ga K "Desk") dx [("book", u0)]) nq) h2
  have h3 := up (same_new (o := .ins (ga K "Desk") dx [("book", u0)]) nq) h3
  refine wb_asg (ep_var 1 rfl h2).ev hs (pg_lst rfl (pgs_cons (pg_name (i := 3) sc_ask_due.nd rfl (Or.inl rfl)) (pgs_cons (pg_name (i := 4) sc_ask_due.nd rfl (Or.inl rfl)) pgs_nil))) fun v B2 H2 g2 r2 => ?_
  obtain ⟨p, ev, hpv⟩ := row_two (ns := ns) r2 hn
  have ex : rAskDue ⟨b, ns, row⟩ = (resWR (ns.getD 1 0, 0, 400)).bind fun _ => (resWO (b, ns.getD 0 0)).bind fun _ => .ok (iN [(Vbcrah.orderAt b (ns.getD 0 0).toNat).due], { b with orders := b.orders.set (ns.getD 0 0).toNat { Vbcrah.orderAt b (ns.getD 0 0).toNat with due := (ns.getD 1 0).toNat } }) := rfl
  generalize ns.getD 0 0 = na at *
  generalize ns.getD 1 0 = nb at *
  refine ⟨p, _, ev, SqL.of (g2.bh _ _ hpv), rfl, V.int na, _, rfl, V.int nb, _, rfl, rfl, ?_⟩
  refine wb_exprC (fn_want_range T) (hr.mono (by decide)) (L2.passAt tkX) (nb, 0, 400) True.intro (ea_cons (ep_var 4 rfl (R := rI nb) rfl).ev (ea_cons ep_int.ev (ea_one (ep_cI T.i_LAST_DAY).ev))) g2.bh (fun z1 hz1 v B3 H3 g3 r3 => ?_) (fun n hn => (ker n (ex.trans (bind_err hn))).on g2.hh)
  have e1 := ex.trans (bind_ok hz1)
  have g3' := g2.trans g3
  refine wb_exprM T.c_Desk (mt_want_order T) hr (L2.passAt tkX) (b, na) True.intro (ep_var 0 rfl (up g3'.bb h1)).ev (ea_one (ep_var 3 rfl (R := rI na) rfl).ev) rfl g3'.bh (fun z2 hz2 v B4 H4 g4 r4 => ?_) (fun n hn => (ker n (e1.trans (bind_err hn))).on g3'.hh)
  have e2 := e1.trans (bind_ok hz2)
  have g4' := g3'.trans g4
  obtain ⟨p0, plt⟩ := wo_ok hz2
  have eA := ofI p0
  have eB := ofI (wr_ok hz1).1
  generalize na.toNat = j at *
  generalize nb.toNat = kk at *
  have j1 := up g4'.bb h1
  refine wb_set 5 (ev_ix (r := rOd K) (n := j) (ep_bk_orders T (ep_dk_book T (ep_var 0 rfl j1))).ev ((ep_var 3 rfl (R := rI na) rfl).ev.is eA) (od_at plt)) g4'.bh (fun u6 B6 H6 g6 r6 => ?_) sc_ask_due.nd
  have g6' := g4'.trans g6
  have j1 := up g6.bb j1
  generalize hod : Vbcrah.orderAt b j = od at *
  refine wb_dset (b := { b with orders := b.orders.set j { od with due := kk } }) T hs0 nq hq g6' (ev_call (fn_with_orders_orders T) (hr.mono (by decide)) (b, b.orders.set j { od with due := kk }) True.intro (ea_cons (ep_dk_book T (ep_var 0 rfl j1)).ev (ea_one (ev_call (fn_with_one (rOd K) T) (hr.mono (by decide)) (b.orders, j, { od with due := kk }) ⟨plt, by show b.orders.length < LB; unfold LB; omega⟩ (ea_cons (ep_bk_orders (b := b) T (ep_dk_book T (ep_var 0 rfl j1))).ev (ea_cons ((ep_var 3 rfl (R := rI na) rfl).ev.is eA) (ea_one (ev_meth T.c_Order (mt_with_due T) (hr.mono (by decide)) (od, kk) True.intro (ep_var 5 rfl r6).ev (ea_one ((ep_var 4 rfl (R := rI nb) rfl).ev.is eB)) rfl rfl)))))))) (ep_var 0 rfl rfl) fun v B7 H7 g7 c7 hq7 r7 => ?_
  have r6 := er_Od T od _ _ _ _ _ hq7 (up (R := rOd K od) g7.bb r6)
  have r6 := up (R := rOd K od) (same_new (o := dkO K dx v) c7.nz) r6
  exact wb_dret c7 r7 (ev_toI (ev_list (r := rN) (xs := [od.due]) (ea_one (ep_od_due T (ep_var 5 rfl r6)).ev) (by show 1 ≤ LB; decide))) (kok _ e2)
end
end Fb
/-! FbY17: read_behind, book, more -/
namespace Fb
open PySem PySem.Spec PyProof.Rows L2
theorem Con.same {B H Bk H' H2 : Hp} {z : Addr} {o : HO} (c : Con B H Bk H' z o) (s : Same H' H2) : Con B H Bk H2 z o :=
  ⟨c.bb, c.bh.trans s, fun y o e ne => s y o (c.keep y o e ne), c.fr, c.nz, s _ _ c.at_⟩
section
variable {X : Cx} {x n : Str} {c : Value} {body suite : List Stmt} {b₀ : Stmt} {np pos pos' p2 : Pos} {Wout W : WX} {rest : List Stmt} {D : L2.Ends} {σ : L2.St} {B H : Hp} {e o : Expr} {f : Str} {ef : XF}
/-- what the suite has to do -/
def tsA (X : Cx) (suite : List Stmt) : Addr → Value → Option Addr → TS := fun a cls d D σ H => ∀ (oe : Obj) (pn : List (Addr × Obj)), Zc cls d oe → (∃ vs, oe.data = .fields vs) → WB (X.suite a ((a, oe) :: pn)) suite D σ H
theorem wb_tryA (i : Nat) (hN : X.N.Nodup) (tk : L2.Takes X Wout) (hc : Names X x c)
    (h : ∀ (pn : List (Addr × Obj)) (xe : Value → Shared → Prop), L2.Takes (X.tr pn xe) (wAs X.K c i (tsA X (b₀ :: suite)) Wout { D with nx := WB X rest D }) → WB (X.tr pn xe) body { D with nx := WB X rest D } σ H)
    (hs : X.stack = X.env :: X.outer := by rfl) (hf : X.env.frame = some X.env.locals := by rfl) (hi : X.N[i]? = some n := by rfl) (hln : X.env.kindOf n = some .local := by rfl) :
    WB X (.Try body [.ExceptHandler (some (.Name x np)) (some n) (b₀ :: suite) pos'] [] [] pos :: rest) D σ H :=
  wb_cons (ps_try_as (tb := fun W D σ H => ∀ (pn : List (Addr × Obj)) (xe : Value → Shared → Prop), L2.Takes (X.tr pn xe) W → WB (X.tr pn xe) body D σ H) (ts := tsA X (b₀ :: suite)) hs hf hN hi hln hc tk
    (fun W pn xe tkW _ => ⟨fun pins s σ H D I q => q pn xe tkW pins s I⟩)
    (fun a oe cls d pn hz hd => ⟨fun pins s σ H D I q => q oe pn hz hd pins s I⟩)) h
theorem wb_sfR (h : EvR X W e σ B ef) (s : Same B H) (k : ∀ d H2, Same H H2 → H2 d = some (.xd ef.2) → W (.ref ef.1) (some d) σ H2) (hs : swapsWith e (some (.Attribute o f p2)) pos.line X.env = pure false := by rfl) : WB X (.Assign [.Attribute o f p2] e pos :: rest) D σ H :=
  wb_cons (ps_fld we_pe we_pe hs) (h H s _ k)
end
structure RbA where
  b : Vbcrah.Book
  b0 : Vbcrah.Book
  row : List Int
def behindT (b b0 : Vbcrah.Book) (row : List Int) : List Int × Vbcrah.Book := match runL 1 b0 (Vbcrah.split 10 (Vbcrah.nats row)) with
  | .ok c => ([0, (c.stocks.length : Nat), (c.orders.length : Nat)], c)
  | .error e => ([e.1, e.2], b)
def resRB (a : RbA) : Except Int (List Int × Vbcrah.Book) := (resWL (a.row, 1500, 255)).bind fun _ => .ok (behindT a.b a.b0 a.row)
def spRB (K : PySem.W.Frag) : Sp := fun vs H Q E => ∃ (a : RbA) (q dx : Addr) (u v2 v3 : V) (B : Hp), vs = [.ref q, v2, v3] ∧ H q = some (dkO K dx u) ∧ B q = none ∧ Same B H ∧ a.b0.stocks.length ≤ 8 ∧ (rBk K a.b).p u B ∧ (rBk K a.b0).p v2 B ∧ (rL rI a.row).p v3 B ∧
  (match resRB a with
  | .ok z => ∀ v B2 H2 u2, Con B H B2 H2 q (dkO K dx u2) → (rBk K z.2).p u2 B2 → (rL rI z.1).p v B2 → Q v H2
  | .error n => Ends1 E H (rf K n))
theorem len_RB {K : PySem.W.Frag} : ∀ vs H Q E, spRB K vs H Q E → vs.length = 3 := fun vs H Q E ⟨_, _, _, _, _, _, _, e, _⟩ => by rw [e]; rfl
def rAskBook : DskR := fun a => resRB ⟨a.b, Vbcrah.empty, a.row⟩
def rAskMore : DskR := fun a => resRB ⟨a.b, a.b, a.row⟩
section
variable {P : Program} {w : World} {K : PySem.W.Frag} {mg : Str → Option Value} {base : Heap}
theorem fn_read_behind (T : Txt K mg) : Fn P w K mg base (L2.CX P w) "read_behind" 9 ["desk", "book", "row"] (spRB K) := by
  obtain ⟨fd, F⟩ := T.d_read_behind
  refine mkFn T.g_read_behind F (b_read_behind F) (ok_bodyC F sc_read_behind len_RB fun cdv A outer s H vs Q E hr qq => ?_)
  obtain ⟨⟨b, b0, row⟩, q, dx, u0, v2, v3, B0, rfl, hq, nq, hs0, hb0, hu, h2, h3, k⟩ := qq
  have hb0 : b0.stocks.length ≤ 8 := hb0
  have kok : ∀ z, resRB ⟨b, b0, row⟩ = .ok z → ∀ v B2 H2 u2, Con B0 H B2 H2 q (dkO K dx u2) → (rBk K z.2).p u2 B2 → (rL rI z.1).p v B2 → Q v H2 := fun z e => by rw [e] at k; exact k
  have ker : ∀ n, resRB ⟨b, b0, row⟩ = .error n → Ends1 E H (rf K n) := fun n e => by rw [e] at k; exact k
  clear k
  have hs := lend_same hs0 hq
  have h1 := dk_lent (dx := dx) nq hu
  have h2 := up (same_new (o := dkO K dx u0) nq) h2
  have h3 := up (same_new (o := dkO K dx u0) nq) h3
  refine wb_exprC (fn_want_list T) (hr.mono (by decide)) (L2.passAt tkX) (row, 1500, 255) True.intro (ea_cons (ep_var 2 rfl h3).ev (ea_cons (ep_cI T.i_MOST_BYTES).ev (ea_one (ep_cI T.i_GREATEST_BYTE).ev))) hs (fun z1 hz1 v B2 H2 g2 r2 => ?_) (fun n hn => ker n (bind_err hn))
  have e1 : resRB ⟨b, b0, row⟩ = .ok (behindT b b0 row) := bind_ok hz1
  have hrow : rowOk row 1500 255 = true := ask_ok hz1
  have hl : (Vbcrah.nats row).length < 10000 := by
    have := (row_nats hrow).2.1
    unfold Vbcrah.nats
    rw [List.length_map]
    omega
  have j2 := up g2.bb h2
  have j3 := rI_nats hrow (up (R := rL rI row) g2.bb h3)
  refine wb_tryA 3 sc_read_behind.nd (Wout := fun cls d _ H => E cls d H) tkX (c := .ref (ga K "Fault")) ⟨rfl, by decide, .inl T.g_Fault⟩ fun pn xe tkW => ?_
  cases hR : runL 1 b0 (Vbcrah.split 10 (Vbcrah.nats row)) with
  | ok c =>
    have e2 : behindT b b0 row = (([0, ((c.stocks.length : Nat) : Int), ((c.orders.length : Nat) : Int)] : List Int), c) := by unfold behindT; rw [hR]
    refine wb_dset (b := c) T hs0 nq hq g2 (ev_callX (fn_with_text T) hr (L2.passAt tkW) (b0, Vbcrah.nats row) ⟨hb0, hl⟩ (R := rBk K c) (by show toF K (runL 1 b0 (Vbcrah.split 10 (Vbcrah.nats row))) = _; rw [hR]; rfl) (ea_cons (ep_var 1 rfl j2).ev (ea_one (ep_var 2 rfl j3).ev))) (ep_var 0 rfl rfl) fun v4 B4 H4 g4 c4 _ r4 => wb_nil ?_
    have j4 := dk_lent (dx := dx) c4.nz r4
    exact wb_dret c4 r4 (ev_list (r := rI) (xs := [0, ((c.stocks.length : Nat) : Int), ((c.orders.length : Nat) : Int)]) (ea_cons ep_int.ev (ea_cons (ev_len T.f_len (ep_bk_stocks T (ep_dk_book T (ep_var 0 rfl j4))).ev) (ea_one (ev_len T.f_len (ep_bk_orders T (ep_dk_book T (ep_var 0 rfl j4))).ev)))) (by show 3 ≤ LB; decide)) (kok _ (by rw [e1, e2]))
  | error e =>
    have e2 : behindT b b0 row = ([e.1, e.2], b) := by unfold behindT; rw [hR]
    refine wb_sfR (er_callX (fn_with_text T) hr (L2.passAt tkW) (b0, Vbcrah.nats row) ⟨hb0, hl⟩ (ef := flt K e.1 e.2) (by show toF K (runL 1 b0 (Vbcrah.split 10 (Vbcrah.nats row))) = _; rw [hR]; rfl) (ea_cons (ep_var 1 rfl j2).ev (ea_one (ep_var 2 rfl j3).ev))) g2.bh fun dd H5 s5 h5 => ?_
    refine ⟨true, T.x_Fault.me, fun _ a ha oe pn2 hz hfl => ?_, fun q => Bool.noConfusion q⟩
    refine wb_cons (ps_ret (pe_lst (pa_cons (pe_xf T.x_Fault.f T.n_Fault_kind hz hfl we_pe) (pa_cons (pe_xf T.x_Fault.f T.n_Fault_line hz hfl we_pe) pa_nil)))) ?_
    show WE _ (.Name _ _) _ _ _
    refine wv 3 rfl ?_
    refine ⟨rfl, rfl, dd, _, .int e.1, rfl, h5, rfl, ?_⟩
    show WE _ (.Name _ _) _ _ _
    refine wv 3 rfl ?_
    refine ⟨rfl, rfl, dd, _, .int e.2, rfl, h5, rfl, ?_⟩
    refine ⟨by show 2 ≤ sizeLine; rw [sizeLine_eq]; decide, fun p hp => ?_⟩
    have c2 := ((Con.start hs0 nq hq).stepL g2).same s5
    have gn := Gr.new (o := .lst [.int e.1, .int e.2]) c2.bh hp
    refine kok (([e.1, e.2] : List Int), b) (by rw [e1, e2]) (.ref p) _ _ u0 (c2.step gn) (up (R := rBk K b) gn.bb (up (R := rBk K b) (g2.back nq).bb hu)) ⟨p, _, rfl, upd_same, by show 2 ≤ LB; decide, .cons rfl (.cons rfl .nil)⟩
/-- a call of read_behind -/
theorem ev_behind {X : Cx} {e : Expr} {es : List Expr} {σ : L2.St} {B H Bk H' : Hp} {p pos pos2 : Pos} {q dx : Addr} {u : V} {a : RbA} {rest : List Stmt} {D : L2.Ends} {E : XK} (F : Fn X.prog X.w X.K X.mg X.base (L2.CX X.prog X.w) "read_behind" 9 ["desk", "book", "row"] (spRB X.K)) (hr : Room 9 X.A) (hx : ∀ σ, PassesAt (L2.CX X.prog X.w) X σ (L2.WE (fun cls d _ H => E cls d H) σ))
    (T : Txt X.K X.mg) (c : Con B H Bk H' q (dkO X.K dx u)) (hu : (rBk X.K a.b).p u Bk) (h8 : a.b0.stocks.length ≤ 8) (ha : EvA X (e :: es) σ (upd Bk q (dkO X.K dx u)) [rV (.ref q), rBk X.K a.b0, rL rI a.row])
    (k : match resRB a with
      | .ok z => ∀ v B2 H2 u2, Con B H B2 H2 q (dkO X.K dx u2) → (rBk X.K z.2).p u2 B2 → (rL rI z.1).p v B2 → D.rt v H2
      | .error n => Ends1 E H (rf X.K n)) (sH : Same H H') (hg : Gl X "read_behind" := by rfl)
    (he : starEach (e :: es) X.env = (false, eval e X.env) :: starEach es X.env := by rfl) (hpl : (backTo pos (starEach es X.env)).any (·.1) = false := by rfl) : WB X (.Return (some (.Call (.Name "read_behind" p) (e :: es) [] pos)) pos2 :: rest) D σ H' := by
  obtain ⟨f, fd, hm, hk, hb, G⟩ := F.ex
  refine wb_cons (ps_ret (pe_callSD (E := L2.WE fun cls d _ H => E cls d H) G hr hg hm hk hb .nil hx wa_pa (by decide) he hpl)) (ha H' c.lend _ fun vs B2 H2 g r => ?_)
  obtain ⟨w1, w2, w3, rfl, e1, e2, e3⟩ := vs3 r
  have hq2 := g.bb _ _ upd_same
  have e1 : w1 = V.ref q := e1
  subst e1
  have c2 := c.stepL g
  refine ⟨a, q, dx, u, w2, w3, er B2 q, by rw [List.append_nil], c2.at_, c2.nz, c2.bh, h8, up (R := rBk X.K a.b) (g.back c.nz).bb hu, er_Bk T _ _ _ _ _ _ hq2 e2, er_I _ _ _ _ _ hq2 e3, ?_⟩
  cases hR : resRB a with
  | error n => rw [hR] at k; exact k.on (sH.trans g.hh)
  | ok z =>
    rw [hR] at k
    exact fun v B3 H3 u2 c3 r3 rv => k v B3 H3 u2 ⟨c2.bb.trans c3.bb, c3.bh, fun y o ey ne => c3.keep y o (c2.keep y o ey ne) ne, fun y hy n => c3.fr y (by
      by_cases hyq : y = q
      · subst hyq; rw [c2.at_]; exact fun z => nomatch z
      · cases ey : H y with
        | none => exact absurd ey hy
        | some o => rw [c2.keep y o ey hyq]; exact fun z => nomatch z) (c2.fr y hy n), c3.nz, c3.at_⟩ r3 rv
theorem fn_ask_book (T : Txt K mg) : Fn P w K mg base (L2.CX P w) "ask_book" 10 ["desk", "numbers", "row"] (spD K 0 rAskBook) := by
  obtain ⟨fd, F⟩ := T.d_ask_book
  refine mkFn T.g_ask_book F (b_ask_book F) (ok_bodyC F sc_ask_book len_D fun cdv A outer s H vs Q E hr qq => ?_)
  obtain ⟨⟨b, ns, row⟩, q, dx, u0, v2, v3, B0, rfl, hq, nq, hs0, ⟨hb, hn, hrw⟩, hu, h2, h3, k⟩ := qq
  exact ev_behind (a := ⟨b, Vbcrah.empty, row⟩) (E := E) (fn_read_behind (P := P) (w := w) (base := base) T) hr (L2.passAt tkX) T (Con.start hs0 nq hq) hu (by show 0 ≤ 8; decide) (ea_cons (ep_var 0 rfl rfl).ev (ea_cons (ev_call0 (fn_new_book T) (hr.mono (by decide)) () True.intro rfl) (ea_one (ep_var 2 rfl (up (R := rL rI row) (same_new nq) h3)).ev))) k (Same.refl H)
theorem fn_ask_more (T : Txt K mg) : Fn P w K mg base (L2.CX P w) "ask_more" 10 ["desk", "numbers", "row"] (spD K 0 rAskMore) := by
  obtain ⟨fd, F⟩ := T.d_ask_more
  refine mkFn T.g_ask_more F (b_ask_more F) (ok_bodyC F sc_ask_more len_D fun cdv A outer s H vs Q E hr qq => ?_)
  obtain ⟨⟨b, ns, row⟩, q, dx, u0, v2, v3, B0, rfl, hq, nq, hs0, ⟨hb, hn, hrw⟩, hu, h2, h3, k⟩ := qq
  have h1 := dk_lent (dx := dx) nq hu
  exact ev_behind (a := ⟨b, b, row⟩) (E := E) (fn_read_behind (P := P) (w := w) (base := base) T) hr (L2.passAt tkX) T (Con.start hs0 nq hq) hu (by show b.stocks.length ≤ 8; exact hb.ns) (ea_cons (ep_var 0 rfl rfl).ev (ea_cons (ep_dk_book T (ep_var 0 rfl h1)).ev (ea_one (ep_var 2 rfl (up (R := rL rI row) (same_new nq) h3)).ev))) k (Same.refl H)
end
end Fb
/-! FbZ6: all asks: their table, how long answers are, books that can be held (plain) -/
namespace Fb
open PySem PySem.Spec PyProof.Rows L2
abbrev liftD (r : AskR) : DskR := fun a => (r a).map fun l => (l, a.b)
/-- each call's def: its name, how many numbers, how many lists, what it does -/
def deedL : List (Str × Nat × Nat × DskR) := [("ask_book", 0, 1, rAskBook), ("ask_more", 0, 1, rAskMore), ("ask_shown", 0, 0, liftD rAskShown), ("ask_limits", 2, 0, rAskLimits), ("ask_stock", 1, 0, liftD rAskStock), ("ask_order", 1, 0, liftD rAskOrder),
  ("ask_most", 0, 0, liftD rAskMost), ("ask_check", 0, 1, liftD rAskCheck), ("ask_gone", 0, 1, liftD rAskGone), ("ask_served", 0, 0, liftD rAskServed), ("ask_plan", 0, 0, liftD rAskPlan), ("ask_keeps", 0, 1, liftD rAskKeeps), ("ask_why", 1, 0, liftD rAskWhy),
  ("ask_together", 0, 1, liftD rAskTogether), ("ask_whole", 0, 0, liftD rAskWhole), ("ask_extra", 2, 1, liftD rAskExtra), ("ask_idle", 0, 0, liftD rAskIdle), ("ask_suits", 2, 0, liftD rAskSuits), ("ask_cancel", 1, 0, rAskCancel), ("ask_first", 2, 0, rAskFirst),
  ("ask_bags", 2, 0, rAskBags), ("ask_due", 2, 0, rAskDue), ("ask_alone", 1, 0, liftD rAskAlone), ("ask_met", 0, 0, liftD rAskMet), ("ask_days", 0, 0, liftD rAskDays), ("ask_find", 0, 1, liftD rAskFind), ("ask_sizes", 0, 0, liftD rAskSizes), ("ask_fullest", 0, 0, liftD rAskFullest), ("ask_fullplan", 0, 0, liftD rAskFullplan)]
def Good (r : DskR) : Prop := ∀ a z, BV a.b → r a = .ok z → z.1.length ≤ 10000 ∧ BV z.2
theorem good_lift {r : AskR} (h : ∀ a l, BV a.b → r a = .ok l → l.length ≤ 10000) : Good (liftD r) := fun a z hb e => by
  cases hr : r a with
  | error n => unfold liftD at e; rw [hr] at e; cases e
  | ok l =>
    unfold liftD at e
    rw [hr] at e
    cases e
    exact ⟨h a l hb hr, hb⟩
theorem iN_len (l : List Nat) : (iN l).length = l.length := List.length_map ..
theorem shown_len {b : Vbcrah.Book} (h : BkOk b) : (Vbcrah.shown b).length ≤ 4000 := by
  rw [shown_eq, List.length_append, List.length_append]
  have l1 : (b.stocks.flatMap fun s => lineOfW (stWords s)).length ≤ 8 * 221 := Nat.le_trans (flat_len (n := 221) fun s q => line_len (by show 7 ≤ 20; decide) (st_words_ok (h.st s q))) (Nat.mul_le_mul h.ns (Nat.le_refl _))
  have l2 : (b.orders.flatMap fun s => lineOfW (odWords s)).length ≤ 8 * 221 := Nat.le_trans (flat_len (n := 221) fun s q => line_len (by show 14 ≤ 20; decide) (od_words_ok (h.od s q))) (Nat.mul_le_mul h.no (Nat.le_refl _))
  have l3 : (lineOfW (liWords b)).length ≤ 221 := line_len (by show 5 ≤ 20; decide) (li_words_ok h.grind h.send)
  omega
theorem plan_len {b : Vbcrah.Book} (h : BV b) {had : List Nat} (hh : had.length = b.orders.length) : (iN (planRow (planW b had))).length ≤ 10000 := by
  rw [iN_len]
  have few := plan_few h.ns h.no hh
  have := flat_len (f := fun t : Vbcrah.Take => [t.order, t.stock, t.bags]) (n := 3) (xs := planW b had) fun t _ => Nat.le_refl 3
  unfold planRow
  omega
theorem empty_bv : BV Vbcrah.empty := ⟨⟨by decide, by decide, fun s h => by simp [Vbcrah.empty] at h, fun o h => by simp [Vbcrah.empty] at h, by decide, by decide⟩, fun o h => by simp [Vbcrah.empty] at h⟩
theorem good_behind {b b0 : Vbcrah.Book} {row : List Int} {z : List Int × Vbcrah.Book} (hb : BV b) (h0 : BV b0) (e : resRB ⟨b, b0, row⟩ = .ok z) : z.1.length ≤ 10000 ∧ BV z.2 := by
  obtain ⟨_, _, e⟩ := bind_inv e
  cases e
  show (behindT b b0 row).1.length ≤ 10000 ∧ BV (behindT b b0 row).2
  unfold behindT
  rw [run_law]
  cases hl : Vbcrah.linesFrom 1 b0 (Vbcrah.split 10 (Vbcrah.nats row)) with
  | error f => exact ⟨by show 2 ≤ 10000; decide, hb⟩
  | ok c => exact ⟨by show 3 ≤ 10000; decide, lines_v _ hl h0⟩
theorem good_limits : Good rAskLimits := fun a z hb e => by
  obtain ⟨_, h1, e⟩ := bind_inv e
  obtain ⟨_, h2, e⟩ := bind_inv e
  cases e
  have a1 := wr_ok h1
  have a2 := wr_ok h2
  exact ⟨Nat.zero_le _, ⟨⟨hb.ok.ns, hb.ok.no, hb.ok.st, hb.ok.od, by show (n0 a).toNat ≤ 9999; omega, by show (n1 a).toNat ≤ 9999; omega⟩, hb.bags⟩⟩
/-- orders out of the book's own -/
theorem bv_orders {b : Vbcrah.Book} (h : BV b) {os : List Vbcrah.Order} (h8 : os.length ≤ 8) (hm : ∀ o ∈ os, OdOk o ∧ o.bags ≤ 60) : BV { b with orders := os } :=
  ⟨⟨h.ok.ns, h8, h.ok.st, fun o ho => (hm o ho).1, h.ok.grind, h.ok.send⟩, fun o ho => (hm o ho).2⟩
theorem cut_mem {b : Vbcrah.Book} {j : Nat} {o : Vbcrah.Order} (h : o ∈ cutO b j) : o ∈ b.orders := by
  unfold cutO at h
  rcases List.mem_append.mp h with q | q
  · exact List.mem_of_mem_take q
  · exact List.mem_of_mem_drop q
theorem cut_len1 {b : Vbcrah.Book} {j : Nat} (h : j < b.orders.length) : (cutO b j).length + 1 = b.orders.length := by
  unfold cutO
  rw [List.length_append, List.length_take, List.length_drop]
  omega
theorem good_cancel : Good rAskCancel := fun a z hb e => by
  obtain ⟨_, h1, e⟩ := bind_inv e
  cases e
  have := cut_len a.b (n0 a).toNat
  have h8 := hb.no
  exact ⟨by show 1 ≤ 10000; decide, bv_orders hb (by omega) fun o ho => ⟨hb.ok.od o (cut_mem ho), hb.bags o (cut_mem ho)⟩⟩
theorem good_first : Good rAskFirst := fun a z hb e => by
  obtain ⟨_, h1, e⟩ := bind_inv e
  obtain ⟨_, h2, e⟩ := bind_inv e
  obtain ⟨_, h3, e⟩ := bind_inv e
  cases e
  obtain ⟨p0, plt⟩ := wo_ok h2
  have hl := cut_len1 plt
  have h8 := hb.no
  refine ⟨Nat.zero_le _, bv_orders hb ?_ fun o ho => ?_⟩
  · unfold movO
    rw [List.length_append, List.length_append, List.length_take, List.length_drop, List.length_singleton]
    omega
  · have hm : o ∈ a.b.orders := by
      unfold movO at ho
      rcases List.mem_append.mp ho with q | q
      · rcases List.mem_append.mp q with q | q
        · exact cut_mem (List.mem_of_mem_take q)
        · rw [List.mem_singleton] at q
          subst q
          exact List.mem_of_getElem? (od_at plt)
      · exact cut_mem (List.mem_of_mem_drop q)
    exact ⟨hb.ok.od o hm, hb.bags o hm⟩
theorem good_bags : Good rAskBags := fun a z hb e => by
  obtain ⟨_, h1, e⟩ := bind_inv e
  obtain ⟨_, h2, e⟩ := bind_inv e
  cases e
  have a1 := wr_ok h1
  obtain ⟨p0, plt⟩ := ws_ok h2
  refine ⟨by show 1 ≤ 10000; decide, ⟨⟨by show (a.b.stocks.set _ _).length ≤ 8; rw [List.length_set]; exact hb.ns, hb.no, fun s hs => ?_, hb.ok.od, hb.ok.grind, hb.ok.send⟩, hb.bags⟩⟩
  rcases List.mem_or_eq_of_mem_set hs with q | q
  · exact hb.ok.st s q
  · have v := hb.ok.st _ (List.mem_of_getElem? (st_at plt))
    subst q
    exact ⟨v.kind, v.size, v.day, by show (n1 a).toNat ≤ 9999; omega⟩
theorem good_due : Good rAskDue := fun a z hb e => by
  obtain ⟨_, h1, e⟩ := bind_inv e
  obtain ⟨_, h2, e⟩ := bind_inv e
  cases e
  have a1 := wr_ok h1
  obtain ⟨p0, plt⟩ := wo_ok h2
  refine ⟨by show 1 ≤ 10000; decide, bv_orders hb (by rw [List.length_set]; exact hb.no) fun o ho => ?_⟩
  rcases List.mem_or_eq_of_mem_set ho with q | q
  · exact ⟨hb.ok.od o q, hb.bags o q⟩
  · have hm := List.mem_of_getElem? (od_at plt)
    have v := hb.ok.od _ hm
    subst q
    exact ⟨⟨v.name, v.kind, v.size, v.bags, by show (n1 a).toNat ≤ 9999; omega, v.lo, v.hi⟩, hb.bags (Vbcrah.orderAt a.b (n0 a).toNat) hm⟩
theorem deed_good : ∀ (c : Nat) (z : Str × Nat × Nat × DskR), deedL[c]? = some z → Good z.2.2.2 := by
  intro c z h
  have hm := List.mem_of_getElem? h
  clear h
  unfold deedL at hm
  simp only [List.mem_cons, List.not_mem_nil, or_false] at hm
  rcases hm with rfl | rfl | rfl | rfl | rfl | rfl | rfl | rfl | rfl | rfl | rfl | rfl | rfl | rfl | rfl | rfl | rfl | rfl | rfl | rfl | rfl | rfl | rfl | rfl | rfl | rfl | rfl | rfl | rfl
  · exact fun a z hb e => good_behind hb empty_bv e
  · exact fun a z hb e => good_behind hb hb e
  · exact good_lift (r := rAskShown) fun a l hb e => by cases e; rw [iN_len]; have := shown_len hb.ok; omega
  · exact good_limits
  · refine good_lift (r := rAskStock) fun a l hb e => ?_
    obtain ⟨_, h1, e⟩ := bind_inv e
    cases e
    obtain ⟨_, plt⟩ := ws_ok h1
    have v := (hb.ok.st _ (List.mem_of_getElem? (st_at plt))).kind
    rw [iN_len, List.length_append, List.length_cons]
    show _ + 1 + 3 ≤ 10000
    omega
  · refine good_lift (r := rAskOrder) fun a l hb e => ?_
    obtain ⟨_, h1, e⟩ := bind_inv e
    cases e
    obtain ⟨_, plt⟩ := wo_ok h1
    have v := hb.ok.od _ (List.mem_of_getElem? (od_at plt))
    have v1 := v.name
    have v2 := v.kind
    unfold odOf
    rw [List.length_append, iN_len, List.length_append, List.length_append, List.length_cons, List.length_cons]
    show _ + 1 + (_ + 1) + 5 + 2 ≤ 10000
    omega
  · refine good_lift (r := rAskMost) fun a l hb e => ?_
    cases e
    have := told_len hb.no (Vbcrah.wants a.b)
    rw [iN_len, List.length_append]
    show 2 + _ ≤ 10000
    omega
  · refine good_lift (r := rAskCheck) fun a l hb e => ?_
    obtain ⟨_, h1, e⟩ := bind_inv e
    cases e
    show 2 ≤ 10000; decide
  · refine good_lift (r := rAskGone) fun a l hb e => ?_
    obtain ⟨_, h1, e⟩ := bind_inv e
    obtain ⟨_, h2, e⟩ := bind_inv e
    cases e
    show 1 ≤ 10000; decide
  · refine good_lift (r := rAskServed) fun a l hb e => ?_
    cases e
    rw [iN_len, served_len]
    have := hb.no
    omega
  · refine good_lift (r := rAskPlan) fun a l hb e => ?_
    cases e
    exact plan_len hb (served_len _)
  · refine good_lift (r := rAskKeeps) fun a l hb e => ?_
    obtain ⟨_, h1, e⟩ := bind_inv e
    obtain ⟨_, h2, e⟩ := bind_inv e
    cases e
    show 3 ≤ 10000; decide
  · refine good_lift (r := rAskWhy) fun a l hb e => ?_
    obtain ⟨_, h1, e⟩ := bind_inv e
    cases e
    rw [iN_len]
    unfold whyOf
    split
    · show 1 ≤ 10000; decide
    · have := told_len hb.no (Vbcrah.wantFor a.b (n0 a).toNat)
      rw [List.length_append]
      show 4 + _ ≤ 10000
      omega
  · refine good_lift (r := rAskTogether) fun a l hb e => ?_
    obtain ⟨_, h1, e⟩ := bind_inv e
    cases e
    show 3 ≤ 10000; decide
  · refine good_lift (r := rAskWhole) fun a l hb e => ?_
    obtain ⟨_, h1, e⟩ := bind_inv e
    cases e
    rw [iN_len, List.length_cons]
    have := mw_mem a.b (setsOf a.b) [] (fun x hx => sets_size hx) (Nat.zero_le _)
    have h8 := hb.no
    unfold mwW
    omega
  · refine good_lift (r := rAskExtra) fun a l hb e => ?_
    obtain ⟨_, h1, e⟩ := bind_inv e
    obtain ⟨_, h2, e⟩ := bind_inv e
    obtain ⟨_, h3, e⟩ := bind_inv e
    obtain ⟨_, h4, e⟩ := bind_inv e
    cases e
    split
    · show 1 ≤ 10000; decide
    · show 2 ≤ 10000; decide
  · refine good_lift (r := rAskIdle) fun a l hb e => ?_
    cases e
    rw [iN_len]
    unfold idleU
    rw [List.length_map]
    refine Nat.le_trans (List.length_filter_le _ _) ?_
    rw [List.length_take, List.length_zipIdx]
    have := hb.ns
    omega
  · refine good_lift (r := rAskSuits) fun a l hb e => ?_
    obtain ⟨_, h1, e⟩ := bind_inv e
    obtain ⟨_, h2, e⟩ := bind_inv e
    obtain ⟨_, h3, e⟩ := bind_inv e
    obtain ⟨_, h4, e⟩ := bind_inv e
    cases e
    show 3 ≤ 10000; decide
  · exact good_cancel
  · exact good_first
  · exact good_bags
  · exact good_due
  · refine good_lift (r := rAskAlone) fun a l hb e => ?_
    obtain ⟨_, h1, e⟩ := bind_inv e
    cases e
    show 1 ≤ 10000; decide
  · refine good_lift (r := rAskMet) fun a l hb e => ?_
    cases e
    show 3 ≤ 10000; decide
  · refine good_lift (r := rAskDays) fun a l hb e => ?_
    cases e
    rw [iN_len]
    have := flat_len (f := dayRow a.b) (n := 3) (xs := Vbcrah.daysOf a.b) fun d _ => by unfold dayRow; exact Nat.le_refl 3
    have := FbM.days_len a.b
    have := hb.no
    omega
  · refine good_lift (r := rAskFind) fun a l hb e => ?_
    obtain ⟨_, h1, e⟩ := bind_inv e
    cases e
    split
    · show 1 ≤ 10000; decide
    · show 2 ≤ 10000; decide
  · refine good_lift (r := rAskSizes) fun a l hb e => ?_
    cases e
    show 5 ≤ 10000; decide
  · refine good_lift (r := rAskFullest) fun a l hb e => ?_
    cases e
    rw [iN_len, fullest_len hb.ful.w]
    have := hb.no
    omega
  · refine good_lift (r := rAskFullplan) fun a l hb e => ?_
    cases e
    exact plan_len hb (fullest_len hb.ful.w)
section
variable {P : Program} {w : World} {K : PySem.W.Frag} {mg : Str → Option Value} {base : Heap}
theorem deed_fn (T : Txt K mg) : ∀ (c : Nat) (z : Str × Nat × Nat × DskR), deedL[c]? = some z → ∃ k, k ≤ 10 ∧ Fn P w K mg base (L2.CX P w) z.1 k ["desk", "numbers", "row"] (spD K z.2.1 z.2.2.2) := by
  intro c z h
  have hm := List.mem_of_getElem? h
  clear h
  unfold deedL at hm
  simp only [List.mem_cons, List.not_mem_nil, or_false] at hm
  rcases hm with rfl | rfl | rfl | rfl | rfl | rfl | rfl | rfl | rfl | rfl | rfl | rfl | rfl | rfl | rfl | rfl | rfl | rfl | rfl | rfl | rfl | rfl | rfl | rfl | rfl | rfl | rfl | rfl | rfl
  · exact ⟨_, by decide, fn_ask_book T⟩
  · exact ⟨_, by decide, fn_ask_more T⟩
  · exact ⟨_, by decide, (fn_ask_shown T).desk⟩
  · exact ⟨_, by decide, fn_ask_limits T⟩
  · exact ⟨_, by decide, (fn_ask_stock T).desk⟩
  · exact ⟨_, by decide, (fn_ask_order T).desk⟩
  · exact ⟨_, by decide, (fn_ask_most T).desk⟩
  · exact ⟨_, by decide, (fn_ask_check T).desk⟩
  · exact ⟨_, by decide, (fn_ask_gone T).desk⟩
  · exact ⟨_, by decide, (fn_ask_served T).desk⟩
  · exact ⟨_, by decide, (fn_ask_plan T).desk⟩
  · exact ⟨_, by decide, (fn_ask_keeps T).desk⟩
  · exact ⟨_, by decide, (fn_ask_why T).desk⟩
  · exact ⟨_, by decide, (fn_ask_together T).desk⟩
  · exact ⟨_, by decide, (fn_ask_whole T).desk⟩
  · exact ⟨_, by decide, (fn_ask_extra T).desk⟩
  · exact ⟨_, by decide, (fn_ask_idle T).desk⟩
  · exact ⟨_, by decide, (fn_ask_suits T).desk⟩
  · exact ⟨_, by decide, fn_ask_cancel T⟩
  · exact ⟨_, by decide, fn_ask_first T⟩
  · exact ⟨_, by decide, fn_ask_bags T⟩
  · exact ⟨_, by decide, fn_ask_due T⟩
  · exact ⟨_, by decide, (fn_ask_alone T).desk⟩
  · exact ⟨_, by decide, (fn_ask_met T).desk⟩
  · exact ⟨_, by decide, (fn_ask_days T).desk⟩
  · exact ⟨_, by decide, (fn_ask_find T).desk⟩
  · exact ⟨_, by decide, (fn_ask_sizes T).desk⟩
  · exact ⟨_, by decide, (fn_ask_fullest T).desk⟩
  · exact ⟨_, by decide, (fn_ask_fullplan T).desk⟩
end
end Fb
/-! FbY18: tables, answer -/
namespace Fb
open PySem PySem.Spec PyProof.Rows L2
/-- a tuple of the written part -/
def KTup (K : PySem.W.Frag) (a : Addr) (us : List Value) : Prop := ∃ (o : Obj) (its : Array Value) (n : Nat), K.lookup a = some o ∧ o.cls = .type "tuple" ∧ o.data = .seq its n ∧ its.size ≤ sizeLine ∧ its.toList = us
theorem KTup.sq {K : PySem.W.Frag} {a : Addr} {us : List Value} {vs : List V} {H : Hp} (h : KTup K a us) (r : Vals vs us) : SqT K H a vs := by
  obtain ⟨o, its, n, h1, h2, h3, h4, rfl⟩ := h
  exact .inr ⟨o, its, n, h1, h2, h3, h4, r⟩
/-- the two tables of the top -/
structure Tbl (K : PySem.W.Frag) (mg : Str → Option Value) : Prop where
  deeds : ∃ D, mg "DEEDS" = some (.ref D) ∧ KTup K D (deedL.map fun z => .ref (ga K z.1))
  shapes : ∃ (S : Addr) (as : List Addr), mg "SHAPES" = some (.ref S) ∧ KTup K S (as.map Value.ref) ∧ as.length = deedL.length ∧ ∀ (c : Nat) (z : Str × Nat × Nat × DskR) (a : Addr), deedL[c]? = some z → as[c]? = some a → ∃ t1 t2, KTup K a [.int (z.2.1 : Nat) t1, .int (z.2.2.1 : Nat) t2]
theorem vals_refs : ∀ as : List Addr, Vals (as.map V.ref) (as.map Value.ref)
  | [] => .nil
  | a :: as => .cons rfl (vals_refs as)
section
variable {X : Cx} {CX : CXT} {k i : Nat} {f : Addr} {fd : FuncData} {ps : List Str} {sp : Sp} {E : L2.St → XK} {x : Str} {p pos : Pos} {e : Expr} {es : List Expr} {t : TA}
/-- a call of a local name that holds a def; what is raised is wished for at the caller's slots -/
theorem pe_callLS (F : FnOk X.prog X.w X.K X.mg X.base CX k f fd ps sp) (hr : Room k X.A) (hN : X.N[i]? = some x) (hv : Vis X.env.scope x) (hk : PySem.W.keepIn X.K (.ref f) = true) (hb : Binds X.K fd ps []) (hx : ∀ σ, PassesAt CX X σ (E σ)) (ha : PA X (e :: es) t)
    (hdb : (x == ("__debug__" : Str)) = false := by decide) (hcd : (x == ("__classdict__" : Str)) = false := by decide)
    (he : starEach (e :: es) X.env = (false, eval e X.env) :: starEach es X.env := by rfl) (hpl : (backTo pos (starEach es X.env)).any (·.1) = false := by rfl) :
    PE X (.Call (.Name x p) (e :: es) [] pos) (fun σ H Q => σ[i]? = some (some (.ref f)) ∧ t σ H fun vs H1 => sp (vs ++ []) H1 Q (E σ)) := by
  refine ⟨fun pins s σ H Q I h => ?_⟩
  obtain ⟨hs, ht⟩ := h
  refine wpAny_Call_Name_kw (thn ((pe_var (pos := p) hN hv hdb hcd).run pins s σ H (fun v H1 => v = .ref f ∧ H1 = H) I ⟨.ref f, hs, rfl, rfl⟩) fun u s1 ⟨v, H1, I1, r1, q1⟩ => ?_)
  obtain ⟨rfl, rfl⟩ := q1
  cases r1
  refine PySem.W.callWith_K (h₀ := X.base) I.ok.mod.kin hk (thn (ha.run pos pins s1 σ _ _ I1 ht) fun us s2 ⟨vs, H2, I2, r, q⟩ => ⟨I2.kIn, ?_⟩) he hpl
  exact run_fnSD F hr hb .nil (hx σ) I2 r q
/-- an item of a written tuple -/
theorem ev_ixK {a b : Expr} {σ : L2.St} {B : Hp} {g : Addr} {us : List Value} {vs : List V} {n : Nat} {v : V} {R : Rp} (ha : Ev X a σ B (rV (.ref g))) (hT : KTup X.K g us) (r : Vals vs us) (hb : Ev X b σ B (rN n)) (hx : vs[n]? = some v) (hR : ∀ C, R.p v C) (hs : PlainIx b := by intro _ _; rfl) : Ev X (.Subscript a b pos) σ B R := fun H s Q kk =>
  we_of (pe_ix ix_tup we_pe we_pe hs) (ev_two (R := R) ha hb (fun u w B2 H2 s1 s2 e1 e2 Q k => ⟨g, vs, n, v, e1, e2, hT.sq r, atI_nat hx, k v B2 H2 (Gr.refl s2) (hR B2)⟩) s kk)
end
def resAn (r : DskR) (a : AskA) : List Int × Vbcrah.Book := match r a with
  | .ok z => (0 :: z.1, z.2)
  | .error n => ([n], a.b)
def spAn (K : PySem.W.Frag) : Sp := fun vs H Q _ => ∃ (c : Nat) (z : Str × Nat × Nat × DskR) (a : AskA) (q dx : Addr) (u v2 v3 : V) (B : Hp), vs = [.ref q, .int (c : Int), v2, v3] ∧ deedL[c]? = some z ∧ H q = some (dkO K dx u) ∧ B q = none ∧ Same B H ∧ AskOk z.2.1 a ∧ (rBk K a.b).p u B ∧ (rL rI a.ns).p v2 B ∧ (rL rI a.row).p v3 B ∧
  (∀ v B2 H2 u2, Con B H B2 H2 q (dkO K dx u2) → (rBk K (resAn z.2.2.2 a).2).p u2 B2 → (rL rI (resAn z.2.2.2 a).1).p v B2 → Q v H2)
theorem len_An {K : PySem.W.Frag} : ∀ vs H Q E, spAn K vs H Q E → vs.length = 4 := fun vs H Q E ⟨_, _, _, _, _, _, _, _, _, e, _⟩ => by rw [e]; rfl
theorem Con.cons {B H Bk H' B2 H2 : Hp} {z : Addr} {o o2 : HO} (c : Con B H Bk H' z o) (d : Con Bk H' B2 H2 z o2) : Con B H B2 H2 z o2 :=
  ⟨c.bb.trans d.bb, d.bh, fun y o ey ne => d.keep y o (c.keep y o ey ne) ne, fun y hy n => d.fr y (by
    by_cases hyq : y = z
    · subst hyq; rw [c.at_]; exact fun z => nomatch z
    · cases ey : H y with
      | none => exact absurd ey hy
      | some o => rw [c.keep y o ey hyq]; exact fun z => nomatch z) (c.fr y hy n), d.nz, d.at_⟩
section
variable {P : Program} {w : World} {K : PySem.W.Frag} {mg : Str → Option Value} {base : Heap}
theorem fn_answer (T : Txt K mg) (TB : Tbl K mg) : Fn P w K mg base (L2.CX P w) "answer" 11 ["desk", "call", "numbers", "row"] (spAn K) := by
  obtain ⟨fd, F⟩ := T.d_answer
  refine mkFn T.g_answer F (b_answer F) (ok_bodyC F sc_answer len_An fun cdv A outer s H vs Q E hr qq => ?_)
  obtain ⟨c, ⟨nm, m, l, r⟩, ⟨b, ns, row⟩, q, dx, u0, v2, v3, B0, rfl, hz, hq, nq, hs0, hok, hu, h2, h3, k⟩ := qq
  obtain ⟨DD, gD, tD⟩ := TB.deeds
  obtain ⟨kk, hkk, Fd⟩ := deed_fn (P := P) (w := w) (base := base) T c _ hz
  obtain ⟨f, fdd, hm, hke, hbd, G⟩ := Fd.ex
  have hvals : Vals (deedL.map fun z => V.ref (ga K z.1)) (deedL.map fun z => Value.ref (ga K z.1)) := by
    have := vals_refs (deedL.map fun z => ga K z.1)
    rw [List.map_map, List.map_map] at this
    exact this
  have hat : (deedL.map fun z => V.ref (ga K z.1))[c]? = some (V.ref (ga K nm)) := by rw [List.getElem?_map, hz]; rfl
  have ef : f = ga K nm := by
    have hmem := List.mem_of_getElem? hz
    have : mg nm = some (.ref (ga K nm)) := by
      clear hat hvals tD gD k hok hz hm G Fd
      unfold deedL at hmem
      simp only [List.mem_cons, List.not_mem_nil, or_false] at hmem
      rcases hmem with h | h | h | h | h | h | h | h | h | h | h | h | h | h | h | h | h | h | h | h | h | h | h | h | h | h | h | h | h <;> cases h
      · exact T.g_ask_book
      · exact T.g_ask_more
      · exact T.g_ask_shown
      · exact T.g_ask_limits
      · exact T.g_ask_stock
      · exact T.g_ask_order
      · exact T.g_ask_most
      · exact T.g_ask_check
      · exact T.g_ask_gone
      · exact T.g_ask_served
      · exact T.g_ask_plan
      · exact T.g_ask_keeps
      · exact T.g_ask_why
      · exact T.g_ask_together
      · exact T.g_ask_whole
      · exact T.g_ask_extra
      · exact T.g_ask_idle
      · exact T.g_ask_suits
      · exact T.g_ask_cancel
      · exact T.g_ask_first
      · exact T.g_ask_bags
      · exact T.g_ask_due
      · exact T.g_ask_alone
      · exact T.g_ask_met
      · exact T.g_ask_days
      · exact T.g_ask_find
      · exact T.g_ask_sizes
      · exact T.g_ask_fullest
      · exact T.g_ask_fullplan
    rw [show mg nm = some (.ref f) from hm] at this
    injection this with this
    injection this
  subst ef
  refine wb_set 4 (ev_ixK (R := rV (.ref (ga K nm))) (ep_glob (v := V.ref DD) gD (show RelV (V.ref DD) (Value.ref DD) from rfl)).ev tD hvals (ep_var 1 rfl (R := rN c) rfl).ev hat fun _ => rfl) hs0 (fun v B2 H2 g2 r2 => ?_) sc_answer.nd
  cases (show v = V.ref (ga K nm) from r2)
  have c2 := (Con.start hs0 nq hq).step g2
  have hu2 := up (R := rBk K b) g2.bb hu
  have j2 := up (R := rL rI ns) g2.bb h2
  have j3 := up (R := rL rI row) g2.bb h3
  refine wb_tryA 6 sc_answer.nd (Wout := fun cls d _ H => E cls d H) tkX (c := .ref (ga K "Refused")) ⟨rfl, by decide, .inl T.g_Refused⟩ fun pn xe tkW => ?_
  refine wb_cons (ps_asg (pe_op op_cat we_pe (pe_callLS (i := 4) (E := L2.WE _) (G.mono hkk) hr rfl (by first | exact Or.inl rfl | exact Or.inr (Or.inl rfl) | exact Or.inr (Or.inr rfl)) hke hbd (L2.passAt tkW) wa_pa)) (pg_name (i := 5) sc_answer.nd rfl (Or.inl rfl)) rfl rfl rfl) ?_
  refine (ev_list (r := rI) (xs := [0]) (ea_one ep_int.ev) (by show 1 ≤ LB; decide)) H2 c2.bh _ fun w1 B3 H3 g3 r3 => ?_
  refine ⟨rfl, ?_⟩
  have c3 := c2.step g3
  refine (ea_cons (ep_var 0 rfl (R := rV (.ref q)) rfl).ev (ea_cons (ep_var 2 rfl (up (R := rL rI ns) g3.bb j2)).ev (ea_one (ep_var 3 rfl (up (R := rL rI row) g3.bb j3)).ev))) H3 c3.bh _ fun ws B4 H4 g4 r4 => ?_
  obtain ⟨x1, x2, x3, rfl, y1, y2, y3⟩ := vs3 r4
  have y1 : x1 = V.ref q := y1
  subst y1
  have c4 := c3.step g4
  have hu4 := up (R := rBk K b) (g3.bb.trans g4.bb) hu2
  have r3 := up (R := rL rI [0]) g4.bb r3
  refine ⟨⟨b, ns, row⟩, q, dx, u0, x2, x3, B4, rfl, c4.at_, c4.nz, c4.bh, hok, hu4, y2, y3, ?_⟩
  have hgood := deed_good c _ hz ⟨b, ns, row⟩
  dsimp only at hgood ⊢
  cases hR : r ⟨b, ns, row⟩ with
  | ok z =>
    have hgood := (hgood z hok.1 hR).1
    have ek : resAn r ⟨b, ns, row⟩ = (0 :: z.1, z.2) := by unfold resAn; rw [hR]
    have k : ∀ v B2 H2 u2, Con B0 H B2 H2 q (dkO K dx u2) → (rBk K (resAn r ⟨b, ns, row⟩).2).p u2 B2 → (rL rI (resAn r ⟨b, ns, row⟩).1).p v B2 → Q v H2 := k
    rw [ek] at k
    intro v5 B5 H5 u5 c5 r5 rv
    have r3 := up (R := rL rI [0]) c5.bb r3
    obtain ⟨p1, vs1, e1, hp1, _, a1⟩ := r3
    obtain ⟨p2, vs2, e2, hp2, l2, a2⟩ := rv
    have hlen : vs1.length + vs2.length ≤ sizeLine := by
      rw [a1.len, a2.len, sizeLine_eq]
      have : z.1.length ≤ 10000 := hgood
      show 1 + z.1.length ≤ _
      omega
    refine ⟨p1, p2, vs1, vs2, e1, e2, c5.bh _ _ hp1, c5.bh _ _ hp2, hlen, fun p hp => ?_⟩
    have gn := Gr.new (o := .lst (vs1 ++ vs2)) c5.bh hp
    have c6 := (c4.cons c5).step gn
    refine wb_nil ?_
    have rr : (rL rI (0 :: z.1)).p (.ref p) (upd B5 p (.lst (vs1 ++ vs2))) := ⟨p, _, rfl, upd_same, by
      have : z.1.length ≤ 10000 := hgood
      show z.1.length + 1 ≤ LB
      unfold LB
      omega, (a1.app a2).imp fun x v h => h⟩
    exact wb_ret (ep_var 5 rfl rr).ev c6.bh fun v7 B7 H7 g7 r7 => k v7 B7 H7 u5 (c6.step g7) (up (R := rBk K z.2) (gn.bb.trans g7.bb) r5) r7
  | error n =>
    have ek : resAn r ⟨b, ns, row⟩ = ([n], b) := by unfold resAn; rw [hR]
    have k : ∀ v B2 H2 u2, Con B0 H B2 H2 q (dkO K dx u2) → (rBk K (resAn r ⟨b, ns, row⟩).2).p u2 B2 → (rL rI (resAn r ⟨b, ns, row⟩).1).p v B2 → Q v H2 := k
    rw [ek] at k
    show Ends1 _ H4 (rf K n)
    intro dd H5 s5 h5
    refine ⟨true, T.x_Refused.me, fun _ a ha oe pn2 hzz hfl => ?_, fun q => Bool.noConfusion q⟩
    refine wb_cons (ps_ret (pe_lst (pa_cons (pe_xf T.x_Refused.f T.n_Refused_number hzz hfl we_pe) pa_nil))) ?_
    show WE _ (.Name _ _) _ _ _
    refine wv 6 rfl ?_
    refine ⟨rfl, rfl, dd, _, .int n, rfl, h5, rfl, ?_⟩
    refine ⟨by show 1 ≤ sizeLine; rw [sizeLine_eq]; decide, fun p hp => ?_⟩
    have c5 := c4.same s5
    have gn := Gr.new (o := .lst [.int n]) c5.bh hp
    exact k (.ref p) _ _ u0 (c5.step gn) (up (R := rBk K b) gn.bb hu4) ⟨p, _, rfl, upd_same, by show 1 ≤ LB; decide, .cons rfl .nil⟩
end
end Fb
/-! FbY19: answers -/
namespace Fb
open PySem PySem.Spec PyProof.Rows L2
/-! ### what is handed in: a list that's read alone -/
theorem SqL.mo {K : PySem.W.Frag} {H H' : Hp} {p : Addr} {xs : List V} (s : Same H H') (h : SqL K H p xs) : SqL K H' p xs := by
  rcases h with h | h
  · rcases h with h | ⟨o, h⟩
    · exact .inl (.inl (s _ _ h))
    · exact .inl (.inr ⟨o, s _ _ h⟩)
  · exact .inr h
def rZ (K : PySem.W.Frag) (ns : List Int) : Rp := ⟨fun v H => ∃ p, v = .ref p ∧ SqL K H p (ns.map V.int), fun _ _ _ s ⟨p, e, h⟩ => ⟨p, e, SqL.mo s h⟩⟩
theorem cut_two {ws : List V} {lo hi : Nat} (h1 : lo ≤ hi) (h2 : hi ≤ ws.length) : cutV ws (some (lo : Int)) (some (hi : Int)) = (ws.drop lo).take (hi - lo) := by
  unfold cutV
  rw [HT.sIx_nat, HT.sIx_nat, Nat.min_eq_left h2, Nat.min_eq_left (by omega)]
section
variable {X : Cx} {a b e c : Expr} {σ : L2.St} {B H : Hp} {p pos p2 : Pos} {ns : List Int} {body rest : List Stmt} {D : L2.Ends}
theorem ev_lenZ (hm : X.mg "len" = none) (h : Ev X e σ B (rZ X.K ns)) (hg : Gl X "len" := by rfl)
    (he : starEach (e :: []) X.env = (false, eval e X.env) :: starEach [] X.env := by rfl) : Ev X (.Call (.Name "len" p) [e] [] pos) σ B (rN ns.length) :=
  ev_callB call_len_seq hm PySem.boot_len (ea_one h he) (fun vs B2 H2 s1 s2 r1 Q kk => by
    obtain ⟨v, rfl, q, e1, h1⟩ := r1.one
    exact ⟨q, ns.map V.int, by rw [e1], .inl (SqL.mo s2 h1), kk _ B2 H2 (Gr.refl s2) (by rw [List.length_map]; rfl)⟩) hg (by decide) (by decide) he (by rfl)
theorem ev_ixZ {n : Nat} {i : Int} (ha : Ev X a σ B (rZ X.K ns)) (hb : Ev X b σ B (rN n)) (hx : ns[n]? = some i) (hs : PlainIx b := by intro _ _; rfl) : Ev X (.Subscript a b pos) σ B (rI i) := fun H s Q k =>
  we_of (pe_ix ix_list we_pe we_pe hs) (ev_two (R := rI i) ha hb (fun u w B2 H2 s1 s2 ⟨q, e1, h1⟩ e2 Q k => ⟨q, ns.map V.int, n, V.int i, e1, e2, SqL.mo s2 h1, atI_nat (by rw [List.getElem?_map, hx]; rfl), k _ B2 H2 (Gr.refl s2) rfl⟩) s k)
theorem ef_cutZ {lo hi : Nat} (hl : ns.length ≤ LB) (ha : Ev X a σ B (rZ X.K ns)) (h1 : Ev X b σ B (rN lo)) (h2 : Ev X c σ B (rN hi)) (q1 : lo ≤ hi) (q2 : hi ≤ ns.length) : Ev X (.Subscript a (.Slice (some b) (some c) none p2) pos) σ B (rLF B rI ((ns.drop lo).take (hi - lo))) := fun H s Q k =>
  we_of (pe_slice sl_list we_pe wo_po wo_po) (ha H s _ fun v B2 H2 g ⟨q, e1, s1⟩ => ((eo_some h1).mo g.bb) H2 g.bh _ fun B3 H3 g3 => ((eo_some h2).mo (g.bb.trans g3.bb)) H3 g3.bh _ fun B4 H4 g4 =>
    ⟨q, ns.map V.int, e1, SqL.mo (g.bh.trans (g3.hh.trans g4.hh)) s1, fun z hz => by
      have gg := (g.trans g3).trans g4
      rw [cut_two q1 (by rw [List.length_map]; exact q2), ← List.map_drop, ← List.map_take]
      obtain ⟨g5, r5⟩ := mk_list (r := rI) (xs := (ns.drop lo).take (hi - lo)) gg hz (by rw [List.length_take, List.length_drop]; omega) (All2.of_map V.int _)
      exact k _ _ _ g5 r5⟩)
/-- while, by a number that falls -/
theorem wb_while (hp : PassesOwn (model X.prog X.w) X.A X.env X.xe) (W : Nat → L2.St → Hp → Prop) (m0 : Nat) (h0 : W m0 σ H)
    (turn : ∀ m σ' H', W m σ' H' → WT X c σ' H' fun t H1 => if t = true then ∃ N : L2.St → Hp → Prop, (∀ slotsB H2, N slotsB H2 → ∃ m', m' < m ∧ W m' slotsB H2) ∧ WB X body { nx := N, ct := N, bk := WB X rest D, rt := D.rt } σ' H1 else WB X rest D σ' H1) :
    WB X (.While c body [] pos :: rest) D σ H :=
  wb_cons (ps_while hp wt_pt wb_pss) ⟨W, ⟨m0, h0⟩, turn⟩
end
section
variable {P : Program} {w : World} {K : PySem.W.Frag} {mg : Str → Option Value} {base : Heap}
abbrev spDkI (K : PySem.W.Frag) : Sp := spI (ga K "Desk") (fun _ : Unit => True) (fun _ => []) (fun _ => [("book", rBk K Vbcrah.empty)])
theorem pf_dk0 (v : V) : putF "book" v [] = ([("book", v)] : List (Str × V)) := by kernel_rfl
theorem ct_Desk (T : Txt K mg) : Ct P w K mg base "Desk" (ga K "Desk") 4 ["self"] (spDkI K) := by
  obtain ⟨fd, F⟩ := T.d_Desk_init
  refine mkCt T.g_Desk T.k_Desk (b_Desk_init F) (ok_body F sc_Desk_init (len_I fun _ => rfl) fun cdv A outer s H vs Q E hr q => ?_)
  obtain ⟨_, z, dx, ws, B, rfl, hz, nz, hs, hp, hv, k⟩ := q
  cases ws with
  | cons _ _ => exact hv.elim
  | nil =>
    refine wb_sfQ T.c_Desk T.n_Desk_book (ev_call0 (fn_new_book T) hr () True.intro rfl) (ep_var 0 rfl rfl) hz hs (by decide) fun u B2 H2 g r => wb_nil ?_
    rw [pf_dk0]
    have c0 := (Con.start hs nz hz).step g
    have c1 := c0.put (o' := .ins (ga K "Desk") dx [("book", u)])
    exact k B2 _ _ c1.bb c1.bh c1.keep c1.fr c1.at_ ⟨rfl, r, True.intro⟩
/-- desk = Desk() -/
theorem wb_desk {X : Cx} {σ : L2.St} {B H : Hp} {p pos p2 : Pos} {rest : List Stmt} {D : L2.Ends} {y : Str} (i : Nat) (M : Ct X.prog X.w X.K X.mg X.base "Desk" (ga X.K "Desk") 4 ["self"] (spDkI X.K)) (hr : Room 5 X.A) (s : Same B H)
    (k : ∀ q dx u B2 H2, Same B B2 → Same B2 H2 → B2 q = none → H2 q = some (dkO X.K dx u) → (rBk X.K Vbcrah.empty).p u B2 → WB X rest D (σ.set i (some (.ref q))) H2) (hN : X.N.Nodup) (hi : X.N[i]? = some y := by rfl) (hy : Loc X.env.scope y := by first | exact Or.inl rfl | exact Or.inr rfl)
    (hf : X.fn y = true ∨ X.env.scope.names.lookup y = some .local := by first | exact .inl rfl | exact .inr rfl) (hg : Gl X "Desk" := by rfl)
    (hs : swapsWithSole [.Name y p2] (.Call (.Name "Desk" p) [] [] pos) pos.line X.env = pure false := by rfl) (hw : swappedStores [.Name y p2] (.Call (.Name "Desk" p) [] [] pos) X.env = pure none := by rfl)
    (h1 : (assignEach [.Name y p2] X.env).map (·.2) = [assign (.Name y p2) X.env] := by rfl) : WB X (.Assign [.Name y p2] (.Call (.Name "Desk" p) [] [] pos) pos :: rest) D σ H := by
  obtain ⟨f, fd, hm, hk, hb, G⟩ := M.ex
  refine wb_cons (ps_asg (pe_make0 hk G hr hg hm hb .nil pass0 (by decide)) (pg_name hN hi hy hf) hs hw h1) ?_
  intro z dx nz nd ne
  have nzB : B z = none := s.free nz
  have ndB : B dx = none := s.free nd
  refine ⟨(), z, dx, [], B, rfl, upd_same, nzB, same_upd (same_upd s ndB) nzB, True.intro, True.intro, fun B2 H2 fv b2 s2 keep fr h2 hfs => ⟨rfl, ?_⟩⟩
  match fv, hfs with
  | [(f1, u)], hfs =>
    obtain ⟨rfl, hu, _⟩ := hfs
    exact k z dx u B2 H2 b2 s2 (fr z (by rw [upd_same]; exact fun y => nomatch y) nzB) h2 hu
  | [], hfs => exact hfs.elim
  | (_, _) :: _ :: _, hfs => exact hfs.2.2.elim
end
end Fb
/-! FbY20: answers, the loop -/
namespace Fb
open PySem PySem.Spec PyProof.Rows L2
/-! ### calls in a row of numbers (plain) -/
theorem shape_rng {p : Int} {x : Nat × Nat} (h : PyVbcrah.shape p = some x) : 0 ≤ p ∧ p < 29 := by
  by_cases hp : 0 ≤ p ∧ p < 29
  · exact hp
  · exfalso
    unfold PyVbcrah.shape at h
    rw [if_neg (by omega), if_neg (by omega), if_neg (by omega), if_neg (by omega), if_neg (by omega), if_neg (by omega), if_neg (by omega), if_neg (by omega), if_neg (by omega), if_neg (by omega), if_neg (by omega), if_neg (by omega), if_neg (by omega), if_neg (by omega), if_neg (by omega), if_neg (by omega), if_neg (by omega), if_neg (by omega), if_neg (by omega), if_neg (by omega), if_neg (by omega), if_neg (by omega), if_neg (by omega), if_neg (by omega), if_neg (by omega), if_neg (by omega), if_neg (by omega), if_neg (by omega), if_neg (by omega)] at h
    cases h
theorem shape_tab : ∀ c : Nat, c < 29 → PyVbcrah.shape (c : Int) = (deedL.map fun z => (z.2.1, z.2.2.1))[c]? := by decide +kernel
theorem shape_deed {p : Int} {n k : Nat} (h : PyVbcrah.shape p = some (n, k)) : ∃ (c : Nat) (z : Str × Nat × Nat × DskR), p = (c : Int) ∧ deedL[c]? = some z ∧ z.2.1 = n ∧ z.2.2.1 = k := by
  obtain ⟨h0, h1⟩ := shape_rng h
  have e : p = ((p.toNat : Nat) : Int) := by omega
  rw [e, shape_tab p.toNat (by omega), List.getElem?_map] at h
  cases q : deedL[p.toNat]? with
  | none => rw [q] at h; cases h
  | some z =>
    rw [q] at h
    injection h with h
    injection h with h2 h3
    exact ⟨p.toNat, z, e, q, h2, h3⟩
theorem deed_few : ∀ (c : Nat) (z : Str × Nat × Nat × DskR), deedL[c]? = some z → z.2.2.1 ≤ 1 := by
  intro c z h
  have h2 : (deedL.map fun z => z.2.2.1)[c]? = some z.2.2.1 := by rw [List.getElem?_map, h]; rfl
  have h3 : ∀ k ∈ deedL.map (fun z => z.2.2.1), k ≤ 1 := by decide +kernel
  exact h3 _ (List.mem_of_getElem? h2)
def rawOf : List (List Int) → Nat × List Int × List Int
  | (p :: nums) :: xs => (p.toNat, nums, xs.headD [])
  | _ => (0, [], [])
def runC (b : Vbcrah.Book) (c : List (List Int)) : List Int × Vbcrah.Book := match deedL[(rawOf c).1]? with
  | some z => resAn z.2.2.2 ⟨b, (rawOf c).2.1, (rawOf c).2.2⟩
  | none => ([], b)
def runR : Vbcrah.Book → List (List (List Int)) → List Int
  | _, [] => []
  | b, c :: cs => (((runC b c).1.length : Nat) : Int) :: (runC b c).1 ++ runR (runC b c).2 cs
/-- one call off a row -/
structure CallI (p : Int) (r : List Int) (cs : List (List (List Int))) (c : Nat) (z : Str × Nat × Nat × DskR) (row t : List Int) (cs' : List (List (List Int))) (f' : Nat) (cc : List (List Int)) : Prop where
  hp : p = (c : Int)
  hz : deedL[c]? = some z
  hn : z.2.1 ≤ r.length
  ht : PyFlat.calls PyVbcrah.shape f' t = some cs'
  hcs : cs = cc :: cs'
  raw : rawOf cc = (c, r.take z.2.1, row)
  how : (z.2.2.1 = 0 ∧ row = [] ∧ t = r.drop z.2.1) ∨ (z.2.2.1 = 1 ∧ ∃ (m : Nat) (s : List Int), r.drop z.2.1 = (m : Int) :: s ∧ m ≤ s.length ∧ row = s.take m ∧ t = s.drop m)
theorem call_inv {p : Int} {r : List Int} {cs : List (List (List Int))} {f : Nat} (h : PyFlat.calls PyVbcrah.shape f (p :: r) = some cs) : ∃ c z row t cs' f' cc, CallI p r cs c z row t cs' f' cc := by
  cases f with
  | zero => simp [PyFlat.calls] at h
  | succ f =>
    rw [PyFlat.calls] at h
    cases hc : PyFlat.call PyVbcrah.shape (p :: r) with
    | none => rw [hc] at h; cases h
    | some x =>
      obtain ⟨cc, t⟩ := x
      rw [hc] at h
      dsimp only at h
      cases ht : PyFlat.calls PyVbcrah.shape f t with
      | none => rw [ht] at h; cases h
      | some cs' =>
        rw [ht] at h
        injection h with h
        rw [PyFlat.call] at hc
        cases hs : PyVbcrah.shape p with
        | none => rw [hs] at hc; cases hc
        | some nk =>
          obtain ⟨n, k⟩ := nk
          obtain ⟨c, z, e1, e2, e3, e4⟩ := shape_deed hs
          rw [hs] at hc
          dsimp only at hc
          by_cases hn : r.length < n
          · rw [if_pos hn] at hc; cases hc
          · rw [if_neg hn] at hc
            subst e3 e4
            have few := deed_few c z e2
            cases hr : PyFlat.rows z.2.2.1 (r.drop z.2.1) with
            | none => rw [hr] at hc; cases hc
            | some y =>
              obtain ⟨xs, t2⟩ := y
              rw [hr] at hc
              injection hc with hc
              injection hc with hc1 hc2
              subst hc1 hc2
              have ep : p.toNat = c := by omega
              rcases Nat.lt_or_ge z.2.2.1 1 with q | q
              · have q0 : z.2.2.1 = 0 := by omega
                rw [q0] at hr
                rw [PyFlat.rows] at hr
                injection hr with hr
                injection hr with hr1 hr2
                subst hr1 hr2
                exact ⟨c, z, [], _, cs', f, _, ⟨e1, e2, by omega, ht, h.symm, by show (p.toNat, _, _) = _; rw [ep]; rfl, .inl ⟨q0, rfl, rfl⟩⟩⟩
              · have q1 : z.2.2.1 = 1 := by omega
                rw [q1] at hr
                rw [PyFlat.rows] at hr
                cases hw : PyFlat.row (r.drop z.2.1) with
                | none => rw [hw] at hr; cases hr
                | some y2 =>
                  obtain ⟨x1, s1⟩ := y2
                  rw [hw] at hr
                  dsimp only at hr
                  rw [PyFlat.rows] at hr
                  injection hr with hr
                  injection hr with hr1 hr2
                  subst hr1 hr2
                  cases hd : r.drop z.2.1 with
                  | nil => rw [hd] at hw; cases hw
                  | cons n0 s0 =>
                    rw [hd, PyFlat.row] at hw
                    by_cases hm : 0 ≤ n0 ∧ n0.toNat ≤ s0.length
                    · rw [if_pos hm] at hw
                      injection hw with hw
                      injection hw with hw1 hw2
                      subst hw1 hw2
                      exact ⟨c, z, s0.take n0.toNat, _, cs', f, _, ⟨e1, e2, by omega, ht, h.symm, by show (p.toNat, _, _) = _; rw [ep]; rfl, .inr ⟨q1, n0.toNat, s0, by rw [show ((n0.toNat : Nat) : Int) = n0 by omega]; exact hd, hm.2, rfl, rfl⟩⟩⟩
                    · rw [if_neg hm] at hw; cases hw
theorem run_len {b : Vbcrah.Book} (hb : BV b) (c : Nat) (z : Str × Nat × Nat × DskR) (h : deedL[c]? = some z) (ns row : List Int) : (resAn z.2.2.2 ⟨b, ns, row⟩).1.length ≤ 10001 ∧ BV (resAn z.2.2.2 ⟨b, ns, row⟩).2 := by
  unfold resAn
  cases e : z.2.2.2 ⟨b, ns, row⟩ with
  | ok y =>
    have := deed_good c z h ⟨b, ns, row⟩ y hb e
    exact ⟨by show y.1.length + 1 ≤ 10001; omega, this.2⟩
  | error n => exact ⟨by show 1 ≤ 10001; decide, hb⟩
def spAns (K : PySem.W.Frag) : Sp := fun vs H Q _ => ∃ (a : Addr) (ns : List Int) (cs : List (List (List Int))), vs = [.ref a] ∧ SqL K H a (ns.map V.int) ∧ ns.length ≤ 16000 ∧ PyFlat.calls PyVbcrah.shape ns.length ns = some cs ∧ cs.length ≤ 60 ∧
  (∀ c ∈ cs, (rawOf c).2.2.length ≤ 100000) ∧ ∀ (H' : Hp) (p : Addr), H' p = some (.lst ((runR Vbcrah.empty cs).map V.int)) → Q (.ref p) H'
theorem len_Ans {K : PySem.W.Frag} : ∀ vs H Q E, spAns K vs H Q E → vs.length = 1 := fun vs H Q E ⟨_, _, _, e, _⟩ => by rw [e]; rfl
theorem all_int {l : List Int} {vs : List V} {B : Hp} (a : All2 (fun (i : Int) v => (rI i).p v B) l vs) : vs = l.map V.int := All2.eq_map a
/-- made = answer(..) -/
theorem wb_answer {X : Cx} {e : Expr} {es : List Expr} {σ : L2.St} {Bk H : Hp} {p pos pos2 p2 : Pos} {q dx : Addr} {u : V} {c : Nat} {z : Str × Nat × Nat × DskR} {a : AskA} {rest : List Stmt} {D : L2.Ends} {y : Str} {W : WX} (i : Nat) (F : Fn X.prog X.w X.K X.mg X.base (L2.CX X.prog X.w) "answer" 11 ["desk", "call", "numbers", "row"] (spAn X.K)) (hr : Room 11 X.A) (hx : ∀ σ, PassesAt (L2.CX X.prog X.w) X σ (L2.WE W σ))
    (s : Same Bk H) (nq : Bk q = none) (hq : H q = some (dkO X.K dx u)) (hz : deedL[c]? = some z) (ok : AskOk z.2.1 a) (hu : (rBk X.K a.b).p u Bk) (ha : EvA X (e :: es) σ Bk [rV (.ref q), rN c, rL rI a.ns, rL rI a.row])
    (k : ∀ v B2 H2 u2, Con Bk H B2 H2 q (dkO X.K dx u2) → (rBk X.K (resAn z.2.2.2 a).2).p u2 B2 → (rL rI (resAn z.2.2.2 a).1).p v B2 → WB X rest D (σ.set i (some v)) H2) (hN : X.N.Nodup) (hi : X.N[i]? = some y := by rfl) (hy : Loc X.env.scope y := by first | exact Or.inl rfl | exact Or.inr rfl)
    (hf : X.fn y = true ∨ X.env.scope.names.lookup y = some .local := by first | exact .inl rfl | exact .inr rfl) (hg : Gl X "answer" := by rfl)
    (he : starEach (e :: es) X.env = (false, eval e X.env) :: starEach es X.env := by rfl) (hpl : (backTo pos (starEach es X.env)).any (·.1) = false := by rfl)
    (hs : swapsWithSole [.Name y p2] (.Call (.Name "answer" p) (e :: es) [] pos) pos2.line X.env = pure false := by rfl) (hw : swappedStores [.Name y p2] (.Call (.Name "answer" p) (e :: es) [] pos) X.env = pure none := by rfl)
    (h1 : (assignEach [.Name y p2] X.env).map (·.2) = [assign (.Name y p2) X.env] := by rfl) : WB X (.Assign [.Name y p2] (.Call (.Name "answer" p) (e :: es) [] pos) pos2 :: rest) D σ H := by
  obtain ⟨f, fd, hm, hk, hb, G⟩ := F.ex
  refine wb_cons (ps_asg (pe_callSD (E := L2.WE W) G hr hg hm hk hb .nil hx wa_pa (by decide) he hpl) (pg_name hN hi hy hf) hs hw h1) (ha H s _ fun vs B2 H2 g r => ?_)
  obtain ⟨w1, w2, w3, w4, rfl, e1, e2, e3, e4⟩ := vs4 r
  have e1 : w1 = V.ref q := e1
  have e2 : w2 = V.int (c : Int) := e2
  subst e1 e2
  have c2 := (Con.start s nq hq).step g
  exact ⟨c, z, a, q, dx, u, w3, w4, B2, by rw [List.append_nil], hz, c2.at_, c2.nz, c2.bh, ok, up (R := rBk X.K a.b) g.bb hu, e3, e4, fun v B3 H3 u2 c3 r3 rv => k v B3 H3 u2 (c2.cons c3) r3 rv⟩
end Fb
/-! FbY21: answers -/
namespace Fb
open PySem PySem.Spec PyProof.Rows L2
/-- what the loop keeps: at: how far; b: the book held; acc: what's found; cs: the calls that are left -/
structure LpI (K : PySem.W.Frag) (ns total : List Int) (B0 : Hp) (v1 : V) (q f : Addr) (at_ : Nat) (σ : L2.St) (H : Hp) : Prop where
  ex : ∃ (Bk : Hp) (b : Vbcrah.Book) (acc : List Int) (cs : List (List (List Int))) (fu : Nat) (dx : Addr) (u : V) (x4 x5 x6 x7 x8 x9 : Option V), Same B0 Bk ∧ Same Bk H ∧ Bk q = none ∧ Bk f = none ∧ H q = some (dkO K dx u) ∧ (rBk K b).p u Bk ∧ H f = some (.lst (acc.map V.int)) ∧
    BV b ∧ PyFlat.calls PyVbcrah.shape fu (ns.drop at_) = some cs ∧ acc ++ runR b cs = total ∧ acc.length + cs.length * 10002 ≤ LB ∧ (∀ c ∈ cs, (rawOf c).2.2.length ≤ 100000) ∧ at_ ≤ ns.length ∧ σ = [some v1, some (.ref q), some (.ref f), some (.int (at_ : Int)), x4, x5, x6, x7, x8, x9]
/-- an if without else, what follows told once -/
theorem wb_whenK {X : Cx} {c : Expr} {σ : L2.St} {B H : Hp} {pos : Pos} {body rest : List Stmt} {D : L2.Ends} {t : Bool} (h : EvT X c σ B t) (s : Same B H) (N : L2.St → Hp → Prop) (k : ∀ slotsB H2, N slotsB H2 → WB X rest D slotsB H2)
    (h1 : t = true → ∀ B2 H2, Gr B H B2 H2 → WB X body { D with nx := N } σ H2) (h2 : t = false → ∀ B2 H2, Gr B H B2 H2 → N σ H2) : WB X (.If c body [] pos :: rest) D σ H :=
  wb_when h s (fun e B2 H2 g => wb_mono (D := { D with nx := N }) k (fun _ _ q => q) (fun _ _ q => q) (fun _ _ q => q) (h1 e B2 H2 g)) fun e B2 H2 g => k _ _ (h2 e B2 H2 g)
section
variable {P : Program} {w : World} {K : PySem.W.Frag} {mg : Str → Option Value} {base : Heap}
theorem ok_answers {fd : FuncData} (T : Txt K mg) (TB : Tbl K mg) (F : Fun K "answers" "answers" s_answers (He.fAd K ("answers", none)) fd) : FnOk P w K mg base (L2.CX P w) 12 (He.fAd K ("answers", none)) fd ["calls"] (spAns K) := by
  refine ok_bodyC F sc_answers len_Ans fun cdv A outer s H vs Q E hr qq => ?_
  obtain ⟨a0, ns, cs0, rfl, hS, hns, hcs, h60, hrow, k⟩ := qq
  obtain ⟨SS, sas, gS, tS, hsl, hsh⟩ := TB.shapes
  have eLB : LB = 1000000 := rfl
  have hz0 : (rZ K ns).p (.ref a0) H := ⟨a0, rfl, hS⟩
  refine wb_desk 1 (ct_Desk (P := P) (w := w) (base := base) T) (hr.mono (by decide)) (Same.refl H) (fun q dx u B2 H2 b2 s2 nq hq hu => ?_) sc_answers.nd
  refine wb_set 2 (ef_list (r := rI) (xs := []) ea_nil) s2 (fun v B3 H3 g3 r3 => ?_) sc_answers.nd
  obtain ⟨f, vs, rfl, ac, al⟩ := acc_of s2 g3 r3 fun x v C q => q
  cases al
  refine wb_set 3 (R := rN 0) ep_int.ev ac.g.bh (fun v4 B4 H4 g4 r4 => ?_) sc_answers.nd
  cases (show v4 = V.int ((0 : Nat) : Int) from r4)
  have ac4 := ac.step g4
  refine wb_while (L2.passes_of rfl) (fun m σ' H' => ∃ at_, m = ns.length - at_ ∧ LpI K ns (runR Vbcrah.empty cs0) H (.ref a0) q f at_ σ' H') ns.length ⟨0, rfl, ⟨B4, Vbcrah.empty, [], cs0, ns.length, dx, u, none, none, none, none, none, none, b2.trans ac4.g.bb, ac4.g.bh, ac4.g.fr q (by rw [hq]; exact fun z => nomatch z) nq, ac4.bf, ac4.g.hh _ _ hq, up (R := rBk K Vbcrah.empty) ac4.g.bb hu, ac4.at_, empty_bv, by rw [List.drop_zero]; exact hcs, rfl, by show 0 + cs0.length * 10002 ≤ LB; omega, hrow, Nat.zero_le _, rfl⟩⟩ ?_
  rintro m σ' H' ⟨at_, rfl, ⟨Bk, b, acc, cs, fu, dx, u, x4, x5, x6, x7, x8, x9, sB, sH, nq, nf, hq, hu, hf, hb, hc, htot, hlen, hrw, hat, rfl⟩⟩
  have zk := up (R := rZ K ns) sB hz0
  have hnl : ns.length ≤ LB := by omega
  refine (et_lt (X := cxOf (L2.CX P w) P w K mg base N_answers "answers" (defScope s_answers) (ga K "answers") cdv A outer s H E) (ep_var 3 rfl (R := rN at_) rfl).ev (ev_lenZ T.f_len (ep_var 0 rfl zk).ev)) H' sH _ fun B5 H5 g5 => ?_
  have nq5 := g5.fr q (by rw [hq]; exact fun z => nomatch z) nq
  have nf5 := g5.fr f (by rw [hf]; exact fun z => nomatch z) nf
  have hq5 := g5.hh _ _ hq
  have hf5 := g5.hh _ _ hf
  have hu5 := up (R := rBk K b) g5.bb hu
  have z5 := up (R := rZ K ns) g5.bb zk
  by_cases hlt : at_ < ns.length
  case neg =>
    rw [if_neg (by rw [decide_eq_false (by omega)]; decide)]
    have ed : ns.drop at_ = [] := List.drop_eq_nil_of_le (by omega)
    rw [ed] at hc
    have ecs : cs = [] := by
      cases fu <;> rw [PyFlat.calls] at hc <;> injection hc with hc <;> exact hc.symm
    subst ecs
    rw [runR, List.append_nil] at htot
    refine wb_ret (R := rV (.ref f)) (ep_var 2 rfl rfl).ev g5.bh fun v B6 H6 g6 r6 => ?_
    cases (show v = V.ref f from r6)
    exact k H6 f (by rw [g6.hh _ _ hf5, htot])
  case pos =>
    rw [if_pos (decide_eq_true (by omega))]
    obtain ⟨p, r, epr⟩ : ∃ p r, ns.drop at_ = p :: r := ⟨ns[at_], ns.drop (at_ + 1), List.drop_eq_getElem_cons hlt⟩
    have er : r = ns.drop (at_ + 1) := by
      rw [List.drop_eq_getElem_cons hlt] at epr
      injection epr with _ e
      exact e.symm
    have ep : ns[at_]? = some p := by
      have := congrArg (fun l => l[0]?) epr
      simpa using this
    rw [epr] at hc
    obtain ⟨c, z, row, t, cs', f', cc, I⟩ := call_inv hc
    obtain ⟨hpc, hz, hn, ht, rfl, hraw, how⟩ := I
    subst hpc
    have hrl : r.length = ns.length - (at_ + 1) := by rw [er, List.length_drop]
    refine ⟨fun slotsB H2 => ∃ m', m' < ns.length - at_ ∧ ∃ at2, m' = ns.length - at2 ∧ LpI K ns (runR Vbcrah.empty cs0) H (.ref a0) q f at2 slotsB H2, fun slotsB H2 z => z, ?_⟩
    -- call = calls[at]
    refine wb_set 4 (ev_ixZ (ep_var 0 rfl z5).ev (ep_var 3 rfl (R := rN at_) rfl).ev ep) g5.bh (fun v6 B6 H6 g6 r6 => ?_) sc_answers.nd
    cases (show v6 = V.int (c : Int) from r6)
    -- many, lists = SHAPES[call]
    have hcl : c < sas.length := by rw [hsl]; exact (List.getElem?_eq_some_iff.mp hz).1
    obtain ⟨sa, hsa⟩ : ∃ sa, sas[c]? = some sa := ⟨sas[c], List.getElem?_eq_getElem hcl⟩
    obtain ⟨t1, t2, tK⟩ := hsh c z sa hz hsa
    refine wb_asg (ev_ixK (R := rV (.ref sa)) (ep_glob (v := V.ref SS) gS (show RelV (V.ref SS) (Value.ref SS) from rfl)).ev tS (vals_refs sas) (ep_var 4 rfl (R := rN c) rfl).ev (by rw [List.getElem?_map, hsa]; rfl) fun _ => rfl) g6.bh (pg_tup rfl (pgs_cons (pg_name (i := 5) sc_answers.nd rfl (Or.inl rfl)) (pgs_cons (pg_name (i := 6) sc_answers.nd rfl (Or.inl rfl)) pgs_nil))) fun v7 B7 H7 g7 r7 => ?_
    refine ⟨sa, [V.int (z.2.1 : Nat), V.int (z.2.2.1 : Nat)], r7, tK.sq (.cons ⟨t1, rfl⟩ (.cons ⟨t2, rfl⟩ .nil)), rfl, V.int (z.2.1 : Nat), _, rfl, V.int (z.2.2.1 : Nat), _, rfl, rfl, ?_⟩
    have g7' := (g5.trans g6).trans g7
    have z7 := up (R := rZ K ns) (g6.bb.trans g7.bb) z5
    -- numbers = calls[at + 1:at + 1 + many]
    have eadd : ∀ x y : Nat, rI ((x : Int) + (y : Int)) = rN (x + y) := fun x y => congrArg rI (by omega)
    refine wb_set 7 (Ev.unF (ef_cutZ (lo := at_ + 1) (hi := at_ + 1 + z.2.1) hnl (ep_var 0 rfl z7).ev ((ev_add (ep_var 3 rfl (R := rN at_) rfl).ev (ep_int (i := ((1 : Nat) : Int))).ev).is (eadd at_ 1)) ((ev_add ((ev_add (ep_var 3 rfl (R := rN at_) rfl).ev (ep_int (i := ((1 : Nat) : Int))).ev).is (eadd at_ 1)) (ep_var 5 rfl (R := rN z.2.1) rfl).ev).is (eadd (at_ + 1) z.2.1)) (by omega) (by omega))) g7'.bh (fun v8 B8 H8 g8 r8 => ?_) sc_answers.nd
    rw [← er, show at_ + 1 + z.2.1 - (at_ + 1) = z.2.1 by omega] at r8
    -- at = at + 1 + many
    refine wb_set 3 ((ev_add ((ev_add (ep_var 3 rfl (R := rN at_) rfl).ev (ep_int (i := ((1 : Nat) : Int))).ev).is (eadd at_ 1)) (ep_var 5 rfl (R := rN z.2.1) rfl).ev).is (eadd (at_ + 1) z.2.1)) g8.bh (fun v9 B9 H9 g9 r9 => ?_) sc_answers.nd
    cases (show v9 = V.int ((at_ + 1 + z.2.1 : Nat) : Int) from r9)
    -- row = []
    refine wb_set 8 (Ev.unF (ef_list (r := rI) (xs := []) ea_nil)) g9.bh (fun v10 B10 H10 g10 r10 => ?_) sc_answers.nd
    have g10' := ((g7'.trans g8).trans g9).trans g10
    have r8 := up (R := rL rI (r.take z.2.1)) (g9.bb.trans g10.bb) r8
    have z10 := up (R := rZ K ns) ((g8.bb.trans g9.bb).trans g10.bb) z7
    -- what follows, from any row
    refine wb_whenK (t := decide (((z.2.2.1 : Nat) : Int) = 1)) (et_eq (ep_var 6 rfl (R := rN z.2.2.1) rfl).ev ep_int.ev) g10'.bh (fun slotsB H11 => ∃ (B11 : Hp) (at2 : Nat) (vr : V), Gr Bk H' B11 H11 ∧ (rL rI (r.take z.2.1)).p v8 B11 ∧ (rL rI row).p vr B11 ∧ at_ < at2 ∧ at2 ≤ ns.length ∧ ns.drop at2 = t ∧
        slotsB = [some (.ref a0), some (.ref q), some (.ref f), some (.int (at2 : Int)), some (.int (c : Int)), some (.int (z.2.1 : Nat)), some (.int (z.2.2.1 : Nat)), some v8, some vr, x9]) ?_ ?_ ?_
    · rintro slotsB H11 ⟨B11, at2, vr, gg, rn, rr, h1, h2, h3, rfl⟩
      have nq11 := gg.fr q (by rw [hq]; exact fun z => nomatch z) nq
      have nf11 := gg.fr f (by rw [hf]; exact fun z => nomatch z) nf
      have hrw1 : row.length ≤ 100000 := by
        have := hrw cc (by simp)
        rw [hraw] at this
        exact this
      have hun := up (R := rBk K b) gg.bb hu
      refine wb_answer (z := z) (a := ⟨b, r.take z.2.1, row⟩) 9 (fn_answer (P := P) (w := w) (base := base) T TB) hr (L2.passAt tkX) gg.bh nq11 (gg.hh _ _ hq) hz ⟨hb, by show (r.take z.2.1).length = z.2.1; rw [List.length_take]; omega, hrw1⟩ hun (ea_cons (ep_var 1 rfl (R := rV (.ref q)) rfl).ev (ea_cons (ep_var 4 rfl (R := rN c) rfl).ev (ea_cons (ep_var 7 rfl rn).ev (ea_one (ep_var 8 rfl rr).ev)))) (fun vm B12 H12 u2 c12 rb rm => ?_) sc_answers.nd
      obtain ⟨ml, mb⟩ := run_len hb c z hz (r.take z.2.1) row
      have eR : runC b cc = resAn z.2.2.2 ⟨b, r.take z.2.1, row⟩ := by
        unfold runC
        rw [hraw]
        dsimp only
        rw [hz]
      have hqf : f ≠ q := fun e => by subst e; rw [hq] at hf; cases hf
      have hf12 : H12 f = some (.lst (acc.map V.int)) := c12.keep f _ (gg.hh _ _ hf) hqf
      have nf12 : B12 f = none := c12.fr f (by rw [gg.hh _ _ hf]; exact fun z => nomatch z) nf11
      generalize hans : resAn z.2.2.2 ⟨b, r.take z.2.1, row⟩ = ans at *
      have hl2 : acc.length + (cs'.length + 1) * 10002 ≤ LB := hlen
      refine wb_extend (r := rI) (ys := ((ans.1.length : Nat) : Int) :: ans.1) (at_var 2 rfl) hf12 nf12 (by rw [List.length_map, List.length_cons, sizeLine_eq]; omega) (ev_cat (r := rI) (xs := [((ans.1.length : Nat) : Int)]) (ys := ans.1) (ev_list (r := rI) (xs := [((ans.1.length : Nat) : Int)]) (ea_one (ev_len T.f_len (ep_var 9 rfl rm).ev)) (by show 1 ≤ LB; decide)) (ep_var 9 rfl rm).ev (by show 1 + ans.1.length ≤ LB; omega)) c12.bh fun us B13 H13 g13 r13 n13 => wb_nil ?_
      have eus := all_int r13
      refine ⟨ns.length - at2, by omega, at2, rfl, ⟨B13, ans.2, acc ++ (((ans.1.length : Nat) : Int) :: ans.1), cs', f', dx, u2, _, _, _, _, _, _, (sB.trans gg.bb).trans (c12.bb.trans g13.bb), same_upd g13.bh n13, g13.fr q (by rw [c12.at_]; exact fun z => nomatch z) c12.nz, n13, by rw [upd_ne (Ne.symm hqf)]; exact g13.hh _ _ c12.at_, up (R := rBk K ans.2) g13.bb rb, by rw [upd_same, List.map_append, eus], mb, by rw [h3]; exact ht, ?_, ?_, fun c hc => hrw c (by simp [hc]), h2, rfl⟩⟩
      · rw [← htot, runR, eR, List.append_assoc]
      · rw [List.length_append, List.length_cons]
        omega
    · intro hc B11 H11 g11
      rcases how with ⟨k0, hrow0, ht0⟩ | ⟨k1, mm, sr, hd, hm, hrow1, ht1⟩
      · have := of_decide_eq_true hc
        omega
      · have ed : ns.drop (at_ + 1 + z.2.1) = (mm : Int) :: sr := by rw [← hd, er, List.drop_drop]
        have eat : ns[at_ + 1 + z.2.1]? = some (mm : Int) := by
          have := congrArg (fun l => l[0]?) ed
          simpa using this
        have elt : at_ + 1 + z.2.1 < ns.length := (List.getElem?_eq_some_iff.mp eat).1
        have esr : sr = ns.drop (at_ + 1 + z.2.1 + 1) := by
          rw [List.drop_eq_getElem_cons elt] at ed
          injection ed with _ e
          exact e.symm
        have esl : sr.length = ns.length - (at_ + 1 + z.2.1 + 1) := by rw [esr, List.length_drop]
        have z11 := up (R := rZ K ns) g11.bb z10
        have hat3 : at_ < at_ + 1 + z.2.1 := by omega
        generalize hat2 : at_ + 1 + z.2.1 = aa at *
        refine wb_set 8 (Ev.unF (ef_cutZ (lo := aa + 1) (hi := aa + 1 + mm) hnl (ep_var 0 rfl z11).ev ((ev_add (ep_var 3 rfl (R := rN aa) rfl).ev (ep_int (i := ((1 : Nat) : Int))).ev).is (eadd aa 1)) ((ev_add ((ev_add (ep_var 3 rfl (R := rN aa) rfl).ev (ep_int (i := ((1 : Nat) : Int))).ev).is (eadd aa 1)) (ev_ixZ (ep_var 0 rfl z11).ev (ep_var 3 rfl (R := rN aa) rfl).ev eat)).is (eadd (aa + 1) mm)) (by omega) (by omega))) g11.bh (fun v12 B12 H12 g12 r12 => ?_) sc_answers.nd
        rw [← esr, show aa + 1 + mm - (aa + 1) = mm by omega, ← hrow1] at r12
        have z12 := up (R := rZ K ns) g12.bb z11
        refine wb_set 3 ((ev_add ((ev_add (ep_var 3 rfl (R := rN aa) rfl).ev (ep_int (i := ((1 : Nat) : Int))).ev).is (eadd aa 1)) (ev_ixZ (ep_var 0 rfl z12).ev (ep_var 3 rfl (R := rN aa) rfl).ev eat)).is (eadd (aa + 1) mm)) g12.bh (fun v13 B13 H13 g13 r13 => wb_nil ?_) sc_answers.nd
        cases (show v13 = V.int ((aa + 1 + mm : Nat) : Int) from r13)
        exact ⟨B13, aa + 1 + mm, v12, ((g10'.trans g11).trans g12).trans g13, up (R := rL rI (r.take z.2.1)) ((g11.bb.trans g12.bb).trans g13.bb) r8, up (R := rL rI row) g13.bb r12, by omega, by omega, by rw [ht1, esr, List.drop_drop], rfl⟩
    · intro hc B11 H11 g11
      rcases how with ⟨k0, hrow0, ht0⟩ | ⟨k1, mm, sr, hd, hm, hrow1, ht1⟩
      · subst hrow0
        exact ⟨B11, at_ + 1 + z.2.1, v10, g10'.trans g11, up (R := rL rI (r.take z.2.1)) g11.bb r8, up (R := rL rI []) g11.bb r10, by omega, by omega, by rw [ht0, er, List.drop_drop], rfl⟩
      · have := of_decide_eq_false hc
        omega
end
end Fb
/-! FbZ7: each call against the specification's step (plain) -/
namespace Fb
open PySem PySem.Spec PyProof.Rows L2
def fin (b : Vbcrah.Book) (r : Except Int (List Int × Vbcrah.Book)) : Vbcrah.Book × List Int := match r with
  | .ok z => (z.2, 0 :: z.1)
  | .error n => (b, [n])
def finL (b : Vbcrah.Book) (r : Except Int (List Int)) : Vbcrah.Book × List Int := match r with
  | .ok l => (b, 0 :: l)
  | .error n => (b, [n])
theorem fin_lift (r : AskR) (a : AskA) : fin a.b (liftD r a) = finL a.b (r a) := by
  unfold liftD
  cases r a <;> rfl
theorem fin_ask (b : Vbcrah.Book) (c : Bool) (k : Int) (f : Unit → Except Int (List Int × Vbcrah.Book)) : fin b ((ask c k).bind f) = if c = true then fin b (f ()) else (b, [k]) := by
  unfold ask
  cases c <;> rfl
theorem finL_ask (b : Vbcrah.Book) (c : Bool) (k : Int) (f : Unit → Except Int (List Int)) : finL b ((ask c k).bind f) = if c = true then finL b (f ()) else (b, [k]) := by
  unfold ask
  cases c <;> rfl
theorem eb_assoc {α β γ : Type} (r : Except Int α) (f : α → Except Int β) (g : β → Except Int γ) : (r.bind f).bind g = r.bind fun x => (f x).bind g := by cases r <;> rfl
theorem g_cons (s : Vbcrah.Book) (k : Int) (c : Bool) (l : List (Int × Bool)) (f : Unit → Vbcrah.Book × List Int) : Vbcrah.guarded s ((k, !c) :: l) f = if c = true then Vbcrah.guarded s l f else (s, [k]) := by
  unfold Vbcrah.guarded
  rw [List.find?_cons]
  cases c <;> rfl
theorem g_nil (s : Vbcrah.Book) (f : Unit → Vbcrah.Book × List Int) : Vbcrah.guarded s [] f = f () := rfl
theorem le_not (x y : Int) : decide (x ≤ y) = !decide (y < x) := by
  by_cases h : x ≤ y
  · rw [decide_eq_true h, decide_eq_false (by omega)]; rfl
  · rw [decide_eq_false h, decide_eq_true (by omega)]; rfl
theorem no_stock (s : Vbcrah.Book) (i : Int) : Vbcrah.noStock s i = (-3, !decide (i < (s.stocks.length : Int))) := by
  unfold Vbcrah.noStock
  rw [le_not]
theorem any_not (l : List Int) (n : Int) : (l.any fun j => decide (n ≤ j)) = !(l.all fun j => decide (j < n)) := by
  rw [List.not_all_eq_any_not]
  congr 1
  funext j
  exact le_not n j
theorem no_order (s : Vbcrah.Book) (l : List Int) : Vbcrah.noOrder s l = (-4, !(l.all fun j => decide (j < (s.orders.length : Int)))) := by
  unfold Vbcrah.noOrder
  rw [any_not]
theorem no_stocks (s : Vbcrah.Book) (l : List Int) : Vbcrah.noStocks s l = (-3, !(l.all fun j => decide (j < (s.stocks.length : Int)))) := by
  unfold Vbcrah.noStocks
  rw [any_not]
theorem all_one (p : Int → Bool) (j : Int) : [j].all p = p j := by simp
theorem inr_eq (n lo hi : Int) : Vbcrah.inr n lo hi = inI n lo hi := rfl
theorem if_and {α : Type} (c d : Bool) (x y : α) : (if (c && d) = true then x else y) = if c = true then (if d = true then x else y) else y := by cases c <;> cases d <;> rfl
theorem if_self {α : Type} (c : Bool) (x y z : α) : (if c = true then (if c = true then x else y) else z) = if c = true then x else z := by cases c <;> rfl
theorem bit_if (p : Prop) [Decidable p] : (if p then (1 : Int) else 0) = Vbcrah.bit (decide p) := by
  unfold Vbcrah.bit
  by_cases h : p
  · rw [if_pos h, if_pos (decide_eq_true h)]
  · rw [if_neg h, if_neg (by rw [decide_eq_false h]; decide)]
theorem bit_b (c : Bool) : (if c = true then (1 : Int) else 0) = Vbcrah.bit c := rfl
theorem beq_n (x y : Nat) : (x == y) = decide (x = y) := by
  by_cases h : x = y
  · subst h; simp
  · rw [decide_eq_false h, beq_eq_false_iff_ne]; exact h
theorem iN_ints (l : List Nat) : iN l = Vbcrah.ints l := rfl
section
variable (b : Vbcrah.Book) (ns row : List Int) (i j : Int)
theorem behind_law (b0 : Vbcrah.Book) : fin b (resRB ⟨b, b0, row⟩) = Vbcrah.guarded b [(-1, !Vbcrah.isText row)] fun _ => match Vbcrah.linesFrom 1 b0 (Vbcrah.split 10 (Vbcrah.nats row)) with
      | .error e => (b, Vbcrah.faultRow e)
      | .ok c => (c, [0, 0, (c.stocks.length : Int), (c.orders.length : Int)]) := by
  unfold resRB resWL
  rw [fin_ask, g_cons, g_nil]
  show (if Vbcrah.isText row = true then fin b (.ok (behindT b b0 row)) else _) = _
  unfold behindT
  rw [run_law]
  cases Vbcrah.linesFrom 1 b0 (Vbcrah.split 10 (Vbcrah.nats row)) <;> rfl
theorem st_book : Vbcrah.step b (.book row) = fin b (rAskBook ⟨b, ns, row⟩) := (behind_law b row Vbcrah.empty).symm
theorem st_more : Vbcrah.step b (.more row) = fin b (rAskMore ⟨b, ns, row⟩) := (behind_law b row b).symm
theorem st_shown : Vbcrah.step b .shown = finL b (rAskShown ⟨b, ns, row⟩) := rfl
theorem ints_eq (l : List Nat) : Vbcrah.ints l = iN l := rfl
theorem iN_app (l m : List Nat) : iN (l ++ m) = iN l ++ iN m := List.map_append
theorem iN_cons (n : Nat) (l : List Nat) : iN (n :: l) = (n : Int) :: iN l := rfl
theorem iN_nil : iN [] = [] := rfl
theorem st_limits : Vbcrah.step b (.limits i j) = fin b (rAskLimits ⟨b, [i, j], row⟩) := by
  simp only [Vbcrah.step, rAskLimits, resWR, n0, n1, List.getD_cons_zero, List.getD_cons_succ, g_cons, g_nil, fin_ask, if_and, inr_eq]
  rfl
theorem st_stock : Vbcrah.step b (.stock i) = finL b (rAskStock ⟨b, [i], row⟩) := by
  simp only [Vbcrah.step, rAskStock, resWS, resWR, n0, List.getD_cons_zero, g_cons, g_nil, no_stock, eb_assoc, finL_ask, inr_eq]
  congr 1
  congr 1
  simp only [finL, Vbcrah.nameRow, ints_eq, iN_app, iN_cons, List.cons_append]
theorem st_order : Vbcrah.step b (.order i) = finL b (rAskOrder ⟨b, [i], row⟩) := by
  simp only [Vbcrah.step, rAskOrder, odOf, numsO, resWO, resWR, n0, List.getD_cons_zero, g_cons, g_nil, no_order, all_one, eb_assoc, finL_ask, inr_eq]
  congr 1
  congr 1
  simp only [finL, Vbcrah.nameRow, ints_eq, iN_app, iN_cons, iN_nil, List.cons_append, List.append_assoc, List.nil_append]
theorem st_most : Vbcrah.step b .most = finL b (rAskMost ⟨b, ns, row⟩) := by
  simp only [Vbcrah.step, rAskMost, told_spec, finL, Vbcrah.listRow, ints_eq, iN_app, iN_cons, iN_nil, List.cons_append, List.append_assoc, List.nil_append, Vbcrah.most, Vbcrah.mostBy]
theorem mem_nats {row : List Int} {long : Nat} {g : Int} (h : rowOk row long g = true) {n : Int} (hn : n ∈ row) : n.toNat ∈ Vbcrah.nats row := List.mem_map.mpr ⟨n, hn, rfl⟩
theorem all_nats {row : List Int} {long : Nat} {g : Int} {m : Nat} (h : rowOk row long g = true) (ha : (row.all fun n => decide (n < (m : Int))) = true) : ∀ j ∈ Vbcrah.nats row, j < m := fun j hj => by
  have e := (row_nats h).1
  have : ((j : Nat) : Int) ∈ row := by
    rw [← e]
    exact List.mem_map.mpr ⟨j, hj, rfl⟩
  have := of_decide_eq_true (List.all_eq_true.mp ha _ this)
  omega
theorem sorted_mem {row : List Int} (h : rowOk row 8 7 = true) : ∀ j, j ∈ Vbcrah.nats row ↔ j ∈ sorted8 row := fun j => by
  unfold sorted8
  rw [List.mem_filter, List.mem_range]
  constructor
  · intro hj
    have := (row_nats h).2.2 j hj
    exact ⟨by omega, List.contains_iff_mem.mpr hj⟩
  · rintro ⟨_, hj⟩
    exact List.contains_iff_mem.mp hj
theorem sorted_lt {row : List Int} {n : Nat} (h : rowOk row 8 7 = true) (ha : ∀ j ∈ Vbcrah.nats row, j < n) : ∀ j ∈ sorted8 row, j < n := fun j hj => ha j ((sorted_mem h j).mpr hj)
theorem orders_ok (row : List Int) : Vbcrah.isOrders row = rowOk row 8 7 := rfl
theorem stocks_ok (row : List Int) : Vbcrah.isStocks row = rowOk row 8 7 := rfl
theorem if_imp {α : Type} {c : Bool} {x x' y : α} (h : c = true → x = x') : (if c = true then x else y) = if c = true then x' else y := by
  cases c with
  | false => rfl
  | true => rw [if_pos rfl, if_pos rfl, h rfl]
theorem st_check : Vbcrah.step b (.check row) = finL b (rAskCheck ⟨b, ns, row⟩) := by
  simp only [Vbcrah.step, rAskCheck, resSet, resWL, g_cons, g_nil, no_order, eb_assoc, finL_ask, orders_ok]
  refine if_imp fun h1 => if_imp fun h2 => ?_
  have hj := all_nats h1 h2
  have e1 : Vbcrah.bound b (Vbcrah.wants b) (Vbcrah.nats row) = boundW b (Vbcrah.wants b) (sorted8 row) := (bound_same (sorted_mem h1)).trans (bound_spec (sorted_lt h1 hj))
  simp only [finL, e1, bit_if, beq_n, Except.bind]
theorem st_gone : Vbcrah.step b (.gone row) = finL b (rAskGone ⟨b, ns, row⟩) := by
  simp only [Vbcrah.step, rAskGone, resWL, g_cons, g_nil, no_stocks, finL_ask, stocks_ok]
  refine if_imp fun h1 => if_imp fun h2 => ?_
  simp only [finL, iN_cons, iN_nil, kept_law]
  rfl
theorem st_served : Vbcrah.step b .served = finL b (rAskServed ⟨b, ns, row⟩) := rfl
theorem st_fullest : Vbcrah.step b .fullest = finL b (rAskFullest ⟨b, ns, row⟩) := rfl
theorem plan_row (ts : List Vbcrah.Take) : (ts.flatMap fun t => Vbcrah.ints [t.order, t.stock, t.bags]) = iN (planRow ts) := by
  unfold planRow iN
  rw [List.map_flatMap]
  rfl
theorem st_plan : Vbcrah.step b .plan = finL b (rAskPlan ⟨b, ns, row⟩) := by
  simp only [Vbcrah.step, rAskPlan, plan_row, plan_law, finL]
theorem st_fullplan : Vbcrah.step b .fullplan = finL b (rAskFullplan ⟨b, ns, row⟩) := by
  simp only [Vbcrah.step, rAskFullplan, plan_row, plan_law, finL]
theorem mod3 (n : Nat) : (n % 3 == 0) = decide ((n : Int) % 3 = 0) := by
  rw [beq_n]
  by_cases h : n % 3 = 0
  · rw [decide_eq_true h, decide_eq_true (by omega)]
  · rw [decide_eq_false h, decide_eq_false (by omega)]
theorem keeps_ok (row : List Int) : (decide (row.length ≤ 300) && (row.length % 3 == 0 && row.all fun z => Vbcrah.inr z 0 999)) = (rowOk row 300 999 && decide ((row.length : Int) % 3 = 0)) := by
  rw [mod3]
  unfold rowOk
  show (decide (row.length ≤ 300) && (decide ((row.length : Int) % 3 = 0) && row.all fun z => inI z 0 999)) = _
  cases decide (row.length ≤ 300) <;> cases decide ((row.length : Int) % 3 = 0) <;> cases row.all (fun z => inI z 0 999) <;> rfl
theorem st_keeps : Vbcrah.step b (.keeps row) = finL b (rAskKeeps ⟨b, ns, row⟩) := by
  simp only [Vbcrah.step, rAskKeeps, resWL, keeps_ok, g_cons, g_nil, finL_ask, if_and]
  refine if_imp fun h1 => if_imp fun h2 => ?_
  simp only [finL]
  rw [← if_and, bit_b, bit_b, whole_law, keep_law]
theorem st_why : Vbcrah.step b (.why i) = finL b (rAskWhy ⟨b, [i], row⟩) := by
  simp only [Vbcrah.step, rAskWhy, whyOf, resWO, resWR, n0, List.getD_cons_zero, g_cons, g_nil, no_order, all_one, eb_assoc, finL_ask, inr_eq]
  congr 1
  congr 1
  split
  · rfl
  · simp only [finL, told_spec, Vbcrah.listRow, ints_eq, iN_app, iN_cons, iN_nil, List.cons_append, List.append_assoc, List.nil_append, Vbcrah.mostBy]
    rfl
theorem st_together : Vbcrah.step b (.together row) = finL b (rAskTogether ⟨b, ns, row⟩) := by
  simp only [Vbcrah.step, rAskTogether, resSet, resWL, g_cons, g_nil, no_order, eb_assoc, finL_ask, orders_ok]
  refine if_imp fun h1 => if_imp fun h2 => ?_
  have e1 := only_same (b := b) (sorted_mem h1)
  simp only [Vbcrah.together, Vbcrah.can, e1, bit_if, beq_n, Except.bind, finL, iN_cons, iN_nil]
theorem st_whole : Vbcrah.step b .whole = finL b (rAskWhole ⟨b, ns, row⟩) := by
  have e : decide (7 < b.orders.length) = !decide (b.orders.length ≤ 7) := by
    by_cases h : 7 < b.orders.length
    · rw [decide_eq_true h, decide_eq_false (by omega)]; rfl
    · rw [decide_eq_false h, decide_eq_true (by omega)]; rfl
  simp only [Vbcrah.step, rAskWhole, e, g_cons, g_nil, finL_ask, mw_law]
  rfl
theorem nums_lt {b : Vbcrah.Book} (h : BV b) : (Vbcrah.wants b).sum < 4096 := by
  have h8 := h.no
  have : ∀ l : List Vbcrah.Order, (∀ o ∈ l, o.bags ≤ 60) → (l.map fun o => o.bags).sum ≤ l.length * 60 := fun l => by
    induction l with
    | nil => intro _; exact Nat.le_refl _
    | cons o l ih =>
      intro hl
      have := ih fun x hx => hl x (by simp [hx])
      have := hl o (by simp)
      rw [List.map_cons, List.sum_cons, List.length_cons]
      omega
  have := this b.orders h.bags
  unfold Vbcrah.wants
  omega
theorem modify_set {α : Type} {l : List α} {i : Nat} {x : α} (f : α → α) (h : l[i]? = some x) : l.modify i f = l.set i (f x) := by
  refine List.ext_getElem? fun k => ?_
  rw [List.getElem?_modify, List.getElem?_set]
  by_cases e : i = k
  · subst e
    have := (List.getElem?_eq_some_iff.mp h).1
    rw [h]
    simp [this]
  · simp [e]
theorem extra_ok (row : List Int) : (decide (row.length ≤ 8) && row.all fun c => inI c 0 255) = rowOk row 8 255 := rfl
theorem st_extra (hb : BV b) : Vbcrah.step b (.extra i j row) = finL b (rAskExtra ⟨b, [i, j], row⟩) := by
  simp only [Vbcrah.step, rAskExtra, stEx, resWL, resWR, inr_eq, g_cons, g_nil, n0, n1, List.getD_cons_zero, List.getD_cons_succ, finL_ask]
  rw [extra_ok, if_and, if_and]
  refine if_imp fun h1 => if_imp fun h2 => if_imp fun h3 => if_imp fun h4 => ?_
  have := extra_law (b := b) ⟨Vbcrah.nats row, i.toNat, j.toNat, 0⟩ (nums_lt hb)
  cases e : Vbcrah.extra b ⟨Vbcrah.nats row, i.toNat, j.toNat, 0⟩ with
  | none =>
    rw [e] at this
    have this : fewI b ⟨Vbcrah.nats row, i.toNat, j.toNat, 0⟩ = -1 := this
    rw [this]
    rfl
  | some n =>
    rw [e] at this
    have this : fewI b ⟨Vbcrah.nats row, i.toNat, j.toNat, 0⟩ = (n : Int) := this
    rw [this, if_neg (by omega)]
    rfl
theorem idle_law : idleU b b.stocks.length = Vbcrah.idle b := by
  unfold idleU Vbcrah.idle
  rw [List.take_of_length_le (by rw [List.length_zipIdx]; exact Nat.le_refl _), zi_eq Vbcrah.noStock_, List.filter_map, List.map_map]
  have e : ((fun z : Vbcrah.Stock × Nat => z.2) ∘ fun j => (b.stocks.getD j Vbcrah.noStock_, j)) = id := rfl
  rw [e, List.map_id]
  refine List.filter_congr fun i _ => ?_
  show (!b.orders.any fun o => Vbcrah.suits (Vbcrah.stockAt b i) o) = _
  rw [all_not]
theorem st_idle : Vbcrah.step b .idle = finL b (rAskIdle ⟨b, ns, row⟩) := by
  simp only [Vbcrah.step, rAskIdle, finL, idle_law]
  rfl
theorem st_suits : Vbcrah.step b (.suits i j) = finL b (rAskSuits ⟨b, [i, j], row⟩) := by
  simp only [Vbcrah.step, rAskSuits, resWS, resWO, resWR, n0, n1, stOf, odOf, List.getD_cons_zero, List.getD_cons_succ, g_cons, g_nil, no_stock, no_order, all_one, eb_assoc, finL_ask, inr_eq, if_and]
  cases h1 : inI i 0 7 with
  | false => rfl
  | true =>
    cases h2 : inI j 0 7 with
    | false => rfl
    | true =>
      simp only [if_true]
      cases decide (i < (b.stocks.length : Int)) with
      | false => rfl
      | true =>
        cases decide (j < (b.orders.length : Int)) with
        | false => rfl
        | true => simp only [if_true, finL, Vbcrah.window]; rfl
theorem cut_erase (j : Nat) : cutO b j = b.orders.eraseIdx j := by
  unfold cutO
  rw [List.eraseIdx_eq_take_drop_succ]
theorem inI_nat {n lo hi : Int} (h : inI n lo hi = true) : lo ≤ n ∧ n ≤ hi := by
  unfold inI at h
  rw [Bool.and_eq_true] at h
  exact ⟨of_decide_eq_true h.1, of_decide_eq_true h.2⟩
theorem st_cancel : Vbcrah.step b (.cancel i) = fin b (rAskCancel ⟨b, [i], row⟩) := by
  simp only [Vbcrah.step, rAskCancel, resWO, resWR, n0, List.getD_cons_zero, g_cons, g_nil, no_order, all_one, eb_assoc, fin_ask, inr_eq]
  refine if_imp fun h1 => if_imp fun h2 => ?_
  have hi := inI_nat h1
  have hl := of_decide_eq_true h2
  have := cut_len1 (b := b) (j := i.toNat) (by omega)
  simp only [fin, iN_cons, iN_nil, cut_erase]
  rw [← cut_erase, show (cutO b i.toNat).length = b.orders.length - 1 by omega]
theorem mov_law {j k : Nat} (hj : j < b.orders.length) : movO b j k = Vbcrah.moved b.orders j k := by
  unfold movO Vbcrah.moved
  rw [od_at hj, cut_erase]
  simp
theorem st_first : Vbcrah.step b (.first i j) = fin b (rAskFirst ⟨b, [i, j], row⟩) := by
  have e2 : ([i, j].all fun x => decide (x < (b.orders.length : Int))) = (decide (i < (b.orders.length : Int)) && decide (j < (b.orders.length : Int))) := by simp
  simp only [Vbcrah.step, rAskFirst, resWO, resWR, n0, n1, List.getD_cons_zero, List.getD_cons_succ, g_cons, g_nil, no_order, e2, eb_assoc, fin_ask, inr_eq, if_and]
  cases h1 : inI i 0 7 with
  | false => cases inI j 0 7 <;> rfl
  | true =>
    cases h2 : inI j 0 7 with
    | false => rfl
    | true =>
      simp only [if_true]
      cases h3 : decide (i < (b.orders.length : Int)) with
      | false => rfl
      | true =>
        cases decide (j < (b.orders.length : Int)) with
        | false => rfl
        | true =>
          have hi := inI_nat h1
          have hl := of_decide_eq_true h3
          simp only [if_true, fin]
          rw [mov_law b (by omega)]
theorem st_bags : Vbcrah.step b (.bags i j) = fin b (rAskBags ⟨b, [i, j], row⟩) := by
  simp only [Vbcrah.step, rAskBags, resWS, resWR, n0, n1, List.getD_cons_zero, List.getD_cons_succ, g_cons, g_nil, no_stock, eb_assoc, fin_ask, inr_eq, if_and]
  cases h1 : inI i 0 7 with
  | false => cases inI j 0 60 <;> rfl
  | true =>
    cases h2 : inI j 0 60 with
    | false => rfl
    | true =>
      simp only [if_true]
      cases h3 : decide (i < (b.stocks.length : Int)) with
      | false => rfl
      | true =>
        have hi := inI_nat h1
        have hl := of_decide_eq_true h3
        have hlt : i.toNat < b.stocks.length := by omega
        simp only [if_true, fin, iN_cons, iN_nil]
        congr 2
        rw [modify_set _ (st_at hlt)]
theorem st_due : Vbcrah.step b (.due i j) = fin b (rAskDue ⟨b, [i, j], row⟩) := by
  simp only [Vbcrah.step, rAskDue, resWO, resWR, n0, n1, List.getD_cons_zero, List.getD_cons_succ, g_cons, g_nil, no_order, all_one, eb_assoc, fin_ask, inr_eq, if_and]
  cases h1 : inI i 0 7 with
  | false => cases inI j 0 400 <;> rfl
  | true =>
    cases h2 : inI j 0 400 with
    | false => rfl
    | true =>
      simp only [if_true]
      cases h3 : decide (i < (b.orders.length : Int)) with
      | false => rfl
      | true =>
        have hi := inI_nat h1
        have hl := of_decide_eq_true h3
        have hlt : i.toNat < b.orders.length := by omega
        simp only [if_true, fin, iN_cons, iN_nil]
        congr 2
        rw [modify_set _ (od_at hlt)]
theorem st_alone : Vbcrah.step b (.alone i) = finL b (rAskAlone ⟨b, [i], row⟩) := by
  simp only [Vbcrah.step, rAskAlone, resWO, resWR, n0, List.getD_cons_zero, g_cons, g_nil, no_order, all_one, eb_assoc, finL_ask, inr_eq]
  rfl
theorem met_len (os : List Vbcrah.Order) : ∀ l : List Nat, (((os.zip l).filter fun z => z.2 == z.1.bags).map fun z => z.1).length = ((l.zip os).filter fun x => x.1 == x.2.bags).length := by
  induction os with
  | nil => intro l; cases l <;> rfl
  | cons o os ih =>
    intro l
    cases l with
    | nil => rfl
    | cons n l =>
      have ih := ih l
      rw [List.length_map] at ih ⊢
      rw [List.zip_cons_cons, List.zip_cons_cons, List.filter_cons, List.filter_cons]
      show (if (n == o.bags) = true then _ else _ : List _).length = (if (n == o.bags) = true then _ else _ : List _).length
      split
      · rw [List.length_cons, List.length_cons, ih]
      · exact ih
theorem st_met : Vbcrah.step b .met = finL b (rAskMet ⟨b, ns, row⟩) := by
  simp only [Vbcrah.step, rAskMet, finL, metZ, met_len]
  rfl
theorem st_days : Vbcrah.step b .days = finL b (rAskDays ⟨b, ns, row⟩) := by
  simp only [Vbcrah.step, rAskDays, finL]
  congr 2
  unfold iN
  rw [List.map_flatMap]
  congr 1
  funext d
  unfold dayRow
  rw [List.filter_filter]
  have e : (b.orders.filter fun o => o.ground && (o.due == d)) = b.orders.filter fun o => o.due == d && o.ground := List.filter_congr fun o _ => Bool.and_comm _ _
  rw [e]
  rfl
theorem find_ok (row : List Int) : (decide (row.length ≤ 9) && row.all fun c => Vbcrah.inr c 0 255) = rowOk row 9 255 := rfl
theorem st_find : Vbcrah.step b (.find row) = finL b (rAskFind ⟨b, ns, row⟩) := by
  simp only [Vbcrah.step, rAskFind, resWL, find_ok, g_cons, g_nil, finL_ask]
  refine if_imp fun h1 => ?_
  unfold placeOf
  cases b.orders.findIdx? fun o => o.name == Vbcrah.nats row with
  | none => rfl
  | some j =>
    show _ = finL b (.ok (if ((j : Nat) : Int) < 0 then [0] else [1, (j : Int)]))
    rw [if_neg (by omega)]
    rfl
theorem st_sizes : Vbcrah.step b .sizes = finL b (rAskSizes ⟨b, ns, row⟩) := rfl
end
end Fb
/-! FbZ8: the whole row of calls against the specification (plain). Printed in part by a program -/
namespace Fb
open PySem PySem.Spec PyProof.Rows L2
/-- a call as it stands in the row -/
def RawOk (cc : List (List Int)) : Prop := ∃ (c : Nat) (z : Str × Nat × Nat × DskR) (nums : List Int) (rows : List (List Int)), deedL[c]? = some z ∧ cc = ((c : Int) :: nums) :: rows ∧ nums.length = z.2.1 ∧ rows.length = z.2.2.1
theorem rows_len : ∀ (k : Nat) (l : List Int) (xs : List (List Int)) (t : List Int), PyFlat.rows k l = some (xs, t) → xs.length = k
  | 0, l, xs, t, h => by
    rw [PyFlat.rows] at h
    injection h with h
    injection h with h1 h2
    subst h1
    rfl
  | k + 1, l, xs, t, h => by
    rw [PyFlat.rows] at h
    cases hr : PyFlat.row l with
    | none => rw [hr] at h; cases h
    | some y =>
      rw [hr] at h
      dsimp only at h
      cases hs : PyFlat.rows k y.2 with
      | none => rw [hs] at h; cases h
      | some y2 =>
        rw [hs] at h
        injection h with h
        injection h with h1 h2
        subst h1
        rw [List.length_cons, rows_len k y.2 y2.1 y2.2 hs]
theorem raw_ok : ∀ (f : Nat) (l : List Int) (cs : List (List (List Int))), PyFlat.calls PyVbcrah.shape f l = some cs → ∀ c ∈ cs, RawOk c
  | _, [], cs, h, c, hc => by
    rw [PyFlat.calls] at h
    injection h with h
    subst h
    cases hc
  | 0, _ :: _, cs, h, c, hc => by simp [PyFlat.calls] at h
  | f + 1, p :: r, cs, h, c, hc => by
    rw [PyFlat.calls] at h
    cases hx : PyFlat.call PyVbcrah.shape (p :: r) with
    | none => rw [hx] at h; cases h
    | some x =>
      obtain ⟨cc, t⟩ := x
      rw [hx] at h
      dsimp only at h
      cases ht : PyFlat.calls PyVbcrah.shape f t with
      | none => rw [ht] at h; cases h
      | some cs' =>
        rw [ht] at h
        injection h with h
        subst h
        rcases List.mem_cons.mp hc with q | q
        · subst q
          rw [PyFlat.call] at hx
          cases hs : PyVbcrah.shape p with
          | none => rw [hs] at hx; cases hx
          | some nk =>
            obtain ⟨n, k⟩ := nk
            obtain ⟨c', z, e1, e2, e3, e4⟩ := shape_deed hs
            rw [hs] at hx
            dsimp only at hx
            by_cases hn : r.length < n
            · rw [if_pos hn] at hx; cases hx
            · rw [if_neg hn] at hx
              cases hr : PyFlat.rows k (r.drop n) with
              | none => rw [hr] at hx; cases hx
              | some y =>
                rw [hr] at hx
                injection hx with hx
                injection hx with h1 h2
                subst h1 e3 e4 e1
                exact ⟨c', z, r.take z.2.1, y.1, e2, rfl, by rw [List.length_take]; omega, rows_len _ _ _ _ hr⟩
        · exact raw_ok f t cs' ht c q
theorem len0 {α : Type} {l : List α} (h : l.length = 0) : l = [] := List.length_eq_zero_iff.mp h
theorem len1 {α : Type} {l : List α} (h : l.length = 1) : ∃ x, l = [x] := by
  match l, h with
  | [x], _ => exact ⟨x, rfl⟩
theorem len2 {α : Type} {l : List α} (h : l.length = 2) : ∃ x y, l = [x, y] := by
  match l, h with
  | [x, y], _ => exact ⟨x, y, rfl⟩
theorem fin_res (r : DskR) (a : AskA) : fin a.b (r a) = ((resAn r a).2, (resAn r a).1) := by
  unfold fin resAn
  cases r a <;> rfl
theorem finL_res (r : AskR) (a : AskA) : finL a.b (r a) = ((resAn (liftD r) a).2, (resAn (liftD r) a).1) := by rw [← fin_lift, fin_res]
/-- one call: the specification's step is what is walked; its rows are not too long -/
theorem raw_step {cc : List (List Int)} (h : RawOk cc) {b : Vbcrah.Book} (hb : BV b) : VbcrahNeutral.step b (PyVbcrah.whole cc) = ((runC b cc).2, (runC b cc).1) ∧ (VbcrahNeutral.asked1 (PyVbcrah.whole cc) = true → (rawOf cc).2.2.length ≤ 1510) := by
  obtain ⟨c, z, nums, rows, hz, rfl, hn, hr⟩ := h
  have hc : c < 29 := (List.getElem?_eq_some_iff.mp hz).1
  have hlen : ∀ (x : Nat) (d : Bool), (decide (x ≤ 1510) && d) = true → x ≤ 1510 := fun x d q => by
    rw [Bool.and_eq_true] at q
    exact of_decide_eq_true q.1
  match c, hc with
  | 0, _ =>
    cases (show some _ = some z from hz)
    obtain rfl := len0 hn
    obtain ⟨row, rfl⟩ := len1 hr
    refine ⟨(show Vbcrah.step b (.book row) = _ from (st_book ..).trans (fin_res rAskBook ⟨b, [], row⟩)), fun q => ?_⟩
    exact hlen row.length _ q
  | 1, _ =>
    cases (show some _ = some z from hz)
    obtain rfl := len0 hn
    obtain ⟨row, rfl⟩ := len1 hr
    refine ⟨(show Vbcrah.step b (.more row) = _ from (st_more ..).trans (fin_res rAskMore ⟨b, [], row⟩)), fun q => ?_⟩
    exact hlen row.length _ q
  | 2, _ =>
    cases (show some _ = some z from hz)
    obtain rfl := len0 hn
    obtain rfl := len0 hr
    refine ⟨(show Vbcrah.step b (.shown) = _ from (st_shown ..).trans (finL_res rAskShown ⟨b, [], []⟩)), fun q => ?_⟩
    exact Nat.zero_le _
  | 3, _ =>
    cases (show some _ = some z from hz)
    obtain ⟨i, j, rfl⟩ := len2 hn
    obtain rfl := len0 hr
    refine ⟨(show Vbcrah.step b (.limits i j) = _ from (st_limits ..).trans (fin_res rAskLimits ⟨b, [i, j], []⟩)), fun q => ?_⟩
    exact Nat.zero_le _
  | 4, _ =>
    cases (show some _ = some z from hz)
    obtain ⟨i, rfl⟩ := len1 hn
    obtain rfl := len0 hr
    refine ⟨(show Vbcrah.step b (.stock i) = _ from (st_stock ..).trans (finL_res rAskStock ⟨b, [i], []⟩)), fun q => ?_⟩
    exact Nat.zero_le _
  | 5, _ =>
    cases (show some _ = some z from hz)
    obtain ⟨i, rfl⟩ := len1 hn
    obtain rfl := len0 hr
    refine ⟨(show Vbcrah.step b (.order i) = _ from (st_order ..).trans (finL_res rAskOrder ⟨b, [i], []⟩)), fun q => ?_⟩
    exact Nat.zero_le _
  | 6, _ =>
    cases (show some _ = some z from hz)
    obtain rfl := len0 hn
    obtain rfl := len0 hr
    refine ⟨(show Vbcrah.step b (.most) = _ from (st_most ..).trans (finL_res rAskMost ⟨b, [], []⟩)), fun q => ?_⟩
    exact Nat.zero_le _
  | 7, _ =>
    cases (show some _ = some z from hz)
    obtain rfl := len0 hn
    obtain ⟨row, rfl⟩ := len1 hr
    refine ⟨(show Vbcrah.step b (.check row) = _ from (st_check ..).trans (finL_res rAskCheck ⟨b, [], row⟩)), fun q => ?_⟩
    exact hlen row.length _ q
  | 8, _ =>
    cases (show some _ = some z from hz)
    obtain rfl := len0 hn
    obtain ⟨row, rfl⟩ := len1 hr
    refine ⟨(show Vbcrah.step b (.gone row) = _ from (st_gone ..).trans (finL_res rAskGone ⟨b, [], row⟩)), fun q => ?_⟩
    exact hlen row.length _ q
  | 9, _ =>
    cases (show some _ = some z from hz)
    obtain rfl := len0 hn
    obtain rfl := len0 hr
    refine ⟨(show Vbcrah.step b (.served) = _ from (st_served ..).trans (finL_res rAskServed ⟨b, [], []⟩)), fun q => ?_⟩
    exact Nat.zero_le _
  | 10, _ =>
    cases (show some _ = some z from hz)
    obtain rfl := len0 hn
    obtain rfl := len0 hr
    refine ⟨(show Vbcrah.step b (.plan) = _ from (st_plan ..).trans (finL_res rAskPlan ⟨b, [], []⟩)), fun q => ?_⟩
    exact Nat.zero_le _
  | 11, _ =>
    cases (show some _ = some z from hz)
    obtain rfl := len0 hn
    obtain ⟨row, rfl⟩ := len1 hr
    refine ⟨(show Vbcrah.step b (.keeps row) = _ from (st_keeps ..).trans (finL_res rAskKeeps ⟨b, [], row⟩)), fun q => ?_⟩
    exact hlen row.length _ q
  | 12, _ =>
    cases (show some _ = some z from hz)
    obtain ⟨i, rfl⟩ := len1 hn
    obtain rfl := len0 hr
    refine ⟨(show Vbcrah.step b (.why i) = _ from (st_why ..).trans (finL_res rAskWhy ⟨b, [i], []⟩)), fun q => ?_⟩
    exact Nat.zero_le _
  | 13, _ =>
    cases (show some _ = some z from hz)
    obtain rfl := len0 hn
    obtain ⟨row, rfl⟩ := len1 hr
    refine ⟨(show Vbcrah.step b (.together row) = _ from (st_together ..).trans (finL_res rAskTogether ⟨b, [], row⟩)), fun q => ?_⟩
    exact hlen row.length _ q
  | 14, _ =>
    cases (show some _ = some z from hz)
    obtain rfl := len0 hn
    obtain rfl := len0 hr
    refine ⟨(show Vbcrah.step b (.whole) = _ from (st_whole ..).trans (finL_res rAskWhole ⟨b, [], []⟩)), fun q => ?_⟩
    exact Nat.zero_le _
  | 15, _ =>
    cases (show some _ = some z from hz)
    obtain ⟨i, j, rfl⟩ := len2 hn
    obtain ⟨row, rfl⟩ := len1 hr
    refine ⟨(show Vbcrah.step b (.extra i j row) = _ from (st_extra b row i j hb).trans (finL_res rAskExtra ⟨b, [i, j], row⟩)), fun q => ?_⟩
    have q : (VbcrahNeutral.whole60 i && (VbcrahNeutral.whole60 j && (decide (row.length ≤ 1510) && _))) = true := q
    rw [Bool.and_eq_true, Bool.and_eq_true] at q
    exact hlen _ _ q.2.2
  | 16, _ =>
    cases (show some _ = some z from hz)
    obtain rfl := len0 hn
    obtain rfl := len0 hr
    refine ⟨(show Vbcrah.step b (.idle) = _ from (st_idle ..).trans (finL_res rAskIdle ⟨b, [], []⟩)), fun q => ?_⟩
    exact Nat.zero_le _
  | 17, _ =>
    cases (show some _ = some z from hz)
    obtain ⟨i, j, rfl⟩ := len2 hn
    obtain rfl := len0 hr
    refine ⟨(show Vbcrah.step b (.suits i j) = _ from (st_suits ..).trans (finL_res rAskSuits ⟨b, [i, j], []⟩)), fun q => ?_⟩
    exact Nat.zero_le _
  | 18, _ =>
    cases (show some _ = some z from hz)
    obtain ⟨i, rfl⟩ := len1 hn
    obtain rfl := len0 hr
    refine ⟨(show Vbcrah.step b (.cancel i) = _ from (st_cancel ..).trans (fin_res rAskCancel ⟨b, [i], []⟩)), fun q => ?_⟩
    exact Nat.zero_le _
  | 19, _ =>
    cases (show some _ = some z from hz)
    obtain ⟨i, j, rfl⟩ := len2 hn
    obtain rfl := len0 hr
    refine ⟨(show Vbcrah.step b (.first i j) = _ from (st_first ..).trans (fin_res rAskFirst ⟨b, [i, j], []⟩)), fun q => ?_⟩
    exact Nat.zero_le _
  | 20, _ =>
    cases (show some _ = some z from hz)
    obtain ⟨i, j, rfl⟩ := len2 hn
    obtain rfl := len0 hr
    refine ⟨(show Vbcrah.step b (.bags i j) = _ from (st_bags ..).trans (fin_res rAskBags ⟨b, [i, j], []⟩)), fun q => ?_⟩
    exact Nat.zero_le _
  | 21, _ =>
    cases (show some _ = some z from hz)
    obtain ⟨i, j, rfl⟩ := len2 hn
    obtain rfl := len0 hr
    refine ⟨(show Vbcrah.step b (.due i j) = _ from (st_due ..).trans (fin_res rAskDue ⟨b, [i, j], []⟩)), fun q => ?_⟩
    exact Nat.zero_le _
  | 22, _ =>
    cases (show some _ = some z from hz)
    obtain ⟨i, rfl⟩ := len1 hn
    obtain rfl := len0 hr
    refine ⟨(show Vbcrah.step b (.alone i) = _ from (st_alone ..).trans (finL_res rAskAlone ⟨b, [i], []⟩)), fun q => ?_⟩
    exact Nat.zero_le _
  | 23, _ =>
    cases (show some _ = some z from hz)
    obtain rfl := len0 hn
    obtain rfl := len0 hr
    refine ⟨(show Vbcrah.step b (.met) = _ from (st_met ..).trans (finL_res rAskMet ⟨b, [], []⟩)), fun q => ?_⟩
    exact Nat.zero_le _
  | 24, _ =>
    cases (show some _ = some z from hz)
    obtain rfl := len0 hn
    obtain rfl := len0 hr
    refine ⟨(show Vbcrah.step b (.days) = _ from (st_days ..).trans (finL_res rAskDays ⟨b, [], []⟩)), fun q => ?_⟩
    exact Nat.zero_le _
  | 25, _ =>
    cases (show some _ = some z from hz)
    obtain rfl := len0 hn
    obtain ⟨row, rfl⟩ := len1 hr
    refine ⟨(show Vbcrah.step b (.find row) = _ from (st_find ..).trans (finL_res rAskFind ⟨b, [], row⟩)), fun q => ?_⟩
    exact hlen row.length _ q
  | 26, _ =>
    cases (show some _ = some z from hz)
    obtain rfl := len0 hn
    obtain rfl := len0 hr
    refine ⟨(show Vbcrah.step b (.sizes) = _ from (st_sizes ..).trans (finL_res rAskSizes ⟨b, [], []⟩)), fun q => ?_⟩
    exact Nat.zero_le _
  | 27, _ =>
    cases (show some _ = some z from hz)
    obtain rfl := len0 hn
    obtain rfl := len0 hr
    refine ⟨(show Vbcrah.step b (.fullest) = _ from (st_fullest ..).trans (finL_res rAskFullest ⟨b, [], []⟩)), fun q => ?_⟩
    exact Nat.zero_le _
  | 28, _ =>
    cases (show some _ = some z from hz)
    obtain rfl := len0 hn
    obtain rfl := len0 hr
    refine ⟨(show Vbcrah.step b (.fullplan) = _ from (st_fullplan ..).trans (finL_res rAskFullplan ⟨b, [], []⟩)), fun q => ?_⟩
    exact Nat.zero_le _
end Fb
/-! FbZ9: the specification's answers are what is walked (plain) -/
namespace Fb
open PySem PySem.Spec PyProof.Rows L2
theorem runC_bv {cc : List (List Int)} (h : RawOk cc) {b : Vbcrah.Book} (hb : BV b) : BV (runC b cc).2 := by
  obtain ⟨c, z, nums, rows, hz, rfl, hn, hr⟩ := h
  have e : runC b (((c : Int) :: nums) :: rows) = resAn z.2.2.2 ⟨b, nums, rows.headD []⟩ := by
    unfold runC rawOf
    dsimp only
    rw [Int.toNat_natCast, hz]
  rw [e]
  exact (run_len hb c z hz _ _).2
theorem played_run : ∀ (cs : List (List (List Int))) (b : Vbcrah.Book), (∀ c ∈ cs, RawOk c) → BV b → PyFlat.told (PyFlat.played VbcrahNeutral.step b (cs.map PyVbcrah.whole)) = runR b cs
  | [], _, _, _ => rfl
  | c :: cs, b, h, hb => by
    have h1 := h c (by simp)
    rw [List.map_cons, PyFlat.played, (raw_step h1 hb).1]
    have ih := played_run cs (runC b c).2 (fun x hx => h x (by simp [hx])) (runC_bv h1 hb)
    rw [runR, ← ih]
    unfold PyFlat.told
    rw [List.flatMap_cons]
/-- what is asked of a row of calls -/
theorem asked_law {ns : List Int} (h : PyVbcrah.answers_asked ns = true) : ∃ cs, PyFlat.calls PyVbcrah.shape ns.length ns = some cs ∧ cs.length ≤ 60 ∧ (∀ c ∈ cs, (rawOf c).2.2.length ≤ 100000) ∧ PyVbcrah.answers ns = runR Vbcrah.empty cs := by
  unfold PyVbcrah.answers_asked at h
  cases hc : PyFlat.calls PyVbcrah.shape ns.length ns with
  | none => rw [hc] at h; cases h
  | some cs =>
    rw [hc] at h
    simp only [Bool.and_eq_true] at h
    have hraw := raw_ok _ _ _ hc
    refine ⟨cs, rfl, of_decide_eq_true h.1.1.1.2, fun c hcm => ?_, ?_⟩
    · have ha := h.1.2
      unfold VbcrahNeutral.asked at ha
      rw [Bool.and_eq_true] at ha
      have := List.all_eq_true.mp ha.1 (PyVbcrah.whole c) (List.mem_map.mpr ⟨c, hcm, rfl⟩)
      have := (raw_step (hraw c hcm) empty_bv).2 this
      omega
    · unfold PyVbcrah.answers PyVbcrah.calls
      rw [hc]
      exact played_run cs Vbcrah.empty hraw empty_bv
end Fb
/-! FbV1: what the looks tell -/
namespace Fb
open PySem PySem.Spec PyProof.Rows L2
theorem oexB_ok {K : PySem.W.Frag} {C : Addr} (q : oexB K C = true) : ∃ nm q N bs bm sn sub ab col dd k0 k1 k2 k3 k5, K.lookup C = some (excClassObj nm q C N bs bm true sn sub ab col dd k0 k1 k2 k3 k5 "ValueError.__new__") ∧ PySem.HandSPX.refsVE bm = true := by
  unfold oexB at q
  split at q
  · rename_i dd cd sl ho
    split at q
    · rename_i C' bm k0 k1 k2 k3 n k5 hm hs
      simp only [Bool.and_eq_true, beq_iff_eq, Bool.not_eq_true'] at q
      obtain ⟨⟨⟨⟨rfl, rfl⟩, hdel⟩, hd1⟩, ht⟩ := q
      obtain ⟨nm, bs, mro, ns, qn, hd, sn, sub, ab, col, del⟩ := cd
      dsimp only at hm hdel hd1
      subst hm hdel hd1
      have hsl : sl = #[k0, k1, k2, k3, some (.builtin "ValueError.__new__"), k5] := by
        obtain ⟨l⟩ := sl
        simp only at hs
        rw [hs]
      subst hsl
      exact ⟨nm, qn, ns, bs, bm, sn, sub, ab, col, dd, k0, k1, k2, k3, k5, ho, ht⟩
    · cases q
  · cases q
theorem xcB_ok {K : PySem.W.Frag} {x : Str} (c : xcB K x = true) : XcT K x := by
  obtain ⟨c1, c⟩ := He.ba c
  obtain ⟨c2, c⟩ := He.ba c
  obtain ⟨c3, c⟩ := He.ba c
  obtain ⟨c4, c⟩ := He.ba c
  obtain ⟨c5, c⟩ := He.ba c
  obtain ⟨c6, c⟩ := He.ba c
  obtain ⟨c7, c⟩ := He.ba c
  obtain ⟨c8, c9⟩ := He.ba c
  exact ⟨⟨oexB_ok c1, He.eqO_ok c2, of_decide_eq_true c3, of_decide_eq_true c4, c5⟩, xfB_ok c6, He.eqO_ok c7, of_decide_eq_true c8, of_decide_eq_true c9⟩
theorem tupAt_ok {K : PySem.W.Frag} {a : Addr} {us : List Value} (h : tupAt K a = some us) : KTup K a us := by
  unfold tupAt at h
  split at h
  · rename_i c od its n sl ho
    split at h
    · rename_i hc
      obtain ⟨h1, h2⟩ := He.ba hc
      cases h
      exact ⟨_, its, n, ho, congrArg Value.type (of_decide_eq_true h1), rfl, by rw [← Array.length_toList]; exact Nat.le_of_ble_eq_true h2, rfl⟩
    · cases h
  · cases h
theorem refsB_ok : ∀ {vs : List Value} {as : List Addr}, refsB vs as = true → vs = as.map Value.ref
  | [], [], _ => rfl
  | [], _ :: _, h => by cases h
  | v :: vs, [], h => by cases v <;> cases h
  | v :: vs, b :: bs, h => by
    cases v with
    | ref a =>
      obtain ⟨h1, h2⟩ := He.ba (show (Nat.beq a b && refsB vs bs) = true from h)
      rw [refsB_ok h2, Nat.eq_of_beq_eq_true h1] <;> rfl
    | _ => cases h
theorem shB_ok {K : PySem.W.Frag} {a : Addr} {m l : Nat} (h : shB K a m l = true) : ∃ t1 t2, KTup K a [.int (m : Nat) t1, .int (l : Nat) t2] := by
  unfold shB at h
  split at h
  · rename_i i t1 j t2 e
    obtain ⟨h1, h2⟩ := He.ba h
    cases of_decide_eq_true h1
    cases of_decide_eq_true h2
    exact ⟨t1, t2, tupAt_ok e⟩
  · cases h
theorem shAll_ok {K : PySem.W.Frag} : ∀ {as : List Addr} {zs : List (Str × Nat × Nat)}, shAll K as zs = true → as.length = zs.length ∧ ∀ (c : Nat) (z : Str × Nat × Nat) (a : Addr), zs[c]? = some z → as[c]? = some a → ∃ t1 t2, KTup K a [.int (z.2.1 : Nat) t1, .int (z.2.2 : Nat) t2]
  | [], [], _ => ⟨rfl, fun c z a h _ => by simp at h⟩
  | [], _ :: _, h => by cases h
  | _ :: _, [], h => by cases h
  | b :: as, y :: zs, h => by
    obtain ⟨h1, h2⟩ := He.ba (show (shB K b y.2.1 y.2.2 && shAll K as zs) = true from h)
    obtain ⟨l, k⟩ := shAll_ok h2
    refine ⟨by rw [List.length_cons, List.length_cons, l], fun c z a e1 e2 => ?_⟩
    cases c with
    | zero =>
      cases (show some y = some z from e1)
      cases (show some b = some a from e2)
      exact shB_ok h1
    | succ c => exact k c z a e1 e2
theorem veB_ok {K : PySem.W.Frag} (h : veB K = true) : PySem.W.findCls K (.type "ValueError") (.type "type") "__init__" = some (.val (.builtin "ValueError.__init__")) := by
  unfold veB at h
  split at h
  · rename_i n e
    rw [e, of_decide_eq_true h]
  · cases h
theorem mem_at {α : Type} {p : α → Bool} {l : List α} {i : Nat} {x : α} (h : l.all p = true) (e : l[i]? = some x) : p x = true := List.all_eq_true.mp h x (List.mem_of_getElem? e)
theorem deedN_eq : deedN = deedL.map fun z => (z.1, z.2.1, z.2.2.1) := rfl
theorem txt_of {K : PySem.W.Frag} {h : Heap} {mg : Str → Option Value} (X : K.In h) (G : h.Ns mainGlobals mg) (c : obsK K = valK) : Txt K mg ∧ Tbl K mg := by
  have c1 : (okA K && okB K) = true := congrArg (fun z : He.Al => z.1) c
  have cF : (zFn.map fun d => He.fnObs K d.at_) = zFn.map fun d => (fnd d).val := congrArg (fun z : He.Al => z.2) c
  obtain ⟨c1, q4⟩ := He.ba c1
  obtain ⟨q1, c1⟩ := He.ba c1
  obtain ⟨q2, c1⟩ := He.ba c1
  obtain ⟨q3, c1⟩ := He.ba c1
  obtain ⟨q5, c1⟩ := He.ba c1
  obtain ⟨q6, c1⟩ := He.ba c1
  obtain ⟨q7, c1⟩ := He.ba c1
  obtain ⟨q8, c1⟩ := He.ba c1
  obtain ⟨q9, c1⟩ := He.ba c1
  obtain ⟨q10, c1⟩ := He.ba c1
  obtain ⟨q11, c1⟩ := He.ba c1
  obtain ⟨q12, q13⟩ := He.ba c1
  refine ⟨⟨fun i x e => He.free_ok X G (mem_at (p := fun x => (He.Fa.free x).ok K) q1 e), fun i p e => He.int_ok X G (mem_at (p := fun p => (He.Fa.int p.1 p.2).ok K) q2 e), fun i x e => He.glo_ok X G (mem_at (p := fun x => (He.Fa.glo x).ok K) q3 e), fun i d e => ?_, fun i x e => He.cls_ok (He.ba (mem_at (p := fun x => (He.Fa.cls x).ok K && (He.Fa.mkr x).ok K) q5 e)).1, fun i p e => He.noat_ok (mem_at (p := fun p => (He.Fa.noat p.1 p.2).ok K) q6 e), fun i p e => He.meth_ok (mem_at (p := fun p => (He.Fa.meth p.1 p.2).ok K) q7 e), fun i x e => He.mkr_ok (He.ba (mem_at (p := fun x => (He.Fa.cls x).ok K && (He.Fa.mkr x).ok K) q5 e)).2, fun i x e => xcB_ok (mem_at (p := fun x => xcB K x) q8 e), veB_ok q9⟩, ⟨?_, ?_⟩⟩
  · obtain ⟨k1, k2⟩ := He.ba (mem_at (l := zFn) (p := fun d : Dd => PySem.W.keepIn K (.ref (He.fAd K d.at_)) && (He.Fa.code d.at_ d.qual).ok K) q4 e)
    have e2 : (zFn.map fun d => He.fnObs K d.at_)[i]? = (zFn.map fun d => (fnd d).val)[i]? := by rw [cF]
    rw [List.getElem?_map, List.getElem?_map, e] at e2
    obtain ⟨oc, od, osl, kV, doc, pm, an, cdv, ct, lk, cd⟩ := He.fn_ok (d := fnd d) (Option.some.inj e2) k2
    exact ⟨_, fun_mk lk cd k1⟩
  · refine ⟨_, He.glo_ok X G q10, ?_⟩
    unfold deedsB at q12
    split at q12
    · rename_i vs e
      have := refsB_ok q12
      rw [deedN_eq, List.map_map, List.map_map] at this
      subst this
      exact tupAt_ok e
    · cases q12
  · unfold shapesB at q13
    split at q13
    · rename_i vs e
      obtain ⟨h1, h2⟩ := He.ba q13
      have hv := refsB_ok h1
      obtain ⟨l, k⟩ := shAll_ok h2
      refine ⟨_, refsOf vs, He.glo_ok X G q11, by rw [← hv]; exact tupAt_ok e, l.trans (by rw [deedN_eq, List.length_map]), fun c z a e1 e2 => k c (z.1, z.2.1, z.2.2.1) a (by rw [deedN_eq, List.getElem?_map, e1]; rfl) e2⟩
    · cases q13
end Fb
/-! FbV3: the law -/
namespace Fb
open PySem PySem.Spec PyProof.Rows L2
theorem bind_one {K : PySem.W.Frag} {fd : FuncData} {f : Addr} (F : Fun K "answers" "answers" s_answers f fd) (s : Shared) (us : List Value) (hu : us.length = (["calls"] : List Str).length) : BindsTo s fd ⟨us, []⟩ ((["calls"] : List Str).zip us) := by
  obtain ⟨oc, od, kV, doc, pm, an, cdv, ct, osl, rfl, lk, hcd⟩ := F.ex
  exact match us, hu with | [_], _ => .of_eq rfl
theorem no_air {P : Program} {w : World} {H : Hp} {s : Shared} {e : Value} {s' : Shared} (h : L2.CX P w [] H s (fun _ _ _ => False) e s') : False := by
  obtain ⟨_, _, _, _, _, _, _, _, _, _, _, _, z⟩ := h
  exact z
theorem within_len {m n : Nat} {c : PySem.W.Codec} {a : PySem.W.Codec.denote (.list m n c)} (h : PySem.W.Codec.within (.list m n c) a = true) : List.length a ≤ n := by
  have h3 : PySem.W.Codec.inNat m n (List.length a) = true := (He.ba (show (PySem.W.Codec.inNat m n (List.length a) && List.all a c.within) = true from h)).1
  unfold PySem.W.Codec.inNat at h3
  simp only [Bool.and_eq_true, decide_eq_true_eq] at h3
  omega
theorem sp_of {K : PySem.W.Frag} {H : Hp} {xs : List V} (a : PySem.W.Codec.denoteAll rowS.args) (hwi : PySem.W.Codec.withinAll rowS.args a = true) (hask : PySem.W.Codec.app rowS.args rowS.asked a = true) (hx : DwAll K H xs (PySem.W.Codec.encAll rowS.args a)) :
    spAns K xs H (fun v H' => Dw K H' v (rowS.ret.enc (PySem.W.Codec.app rowS.args rowS.f a))) fun _ _ _ => False := by
  cases hx with
  | cons h1 h2 =>
    cases h2
    cases h1 with
    | lst hs ha =>
      have e := L2.ints_dw a.1 _ ha
      subst e
      have hl : List.length a.1 ≤ 16000 := within_len (He.ba (show (_ && _) = true from hwi)).1
      obtain ⟨cs, hc, h60, hrow, hans⟩ := asked_law (ns := a.1) hask
      refine ⟨_, a.1, cs, rfl, hs, hl, hc, h60, hrow, fun H' p hp => ?_⟩
      rw [← hans] at hp
      exact .lst (L2.SqL.of hp) (L2.dw_ints _)
theorem walk : PySem.W.WalkOS rowQ tops (PySem.W.XL rowQ []) hkS.says rowS (HeadRun.topDef rowS.prog 157) [] (fun f vs => PySem.call f vs) := by
  intro w s0 s1 mg mb G Y
  obtain ⟨K, hK, c⟩ := Y
  refine L2.walk_spec (r := rowS) (k := 12) (q := rowQ) (loose := tops) (XP := PySem.W.XL rowQ []) (YP := fun _ h => K.In h ∧ obsK K = valK) (d := HeadRun.topDef rowS.prog 157) (K := fun _ => K) (CX := fun w => L2.CX rowS.prog w) (ps := ["calls"]) (sp := fun _ => spAns K) row_well (by kernel_rfl) rfl ⟨rfl, by decide, by decide⟩
    (fun _ _ z => z.1) ?F (fun w H xs a _ hwi hask hx => sp_of a hwi hask hx) (fun _ _ _ _ _ z => no_air z) w s0 s1 mg mb G ⟨hK, c⟩
  intro w mg fa h Y KX hns hmg
  have en : (HeadRun.topDef rowS.prog 157).name = ("answers" : PySem.Str) := by kernel_rfl
  rw [en] at hmg
  obtain ⟨T, TB⟩ := txt_of KX hns Y.2
  cases hmg.symm.trans T.g_answers
  obtain ⟨fd, F⟩ := T.d_answers
  exact ⟨fd, bind_one F, fun base hKb hnsb => ok_answers T TB F⟩
end Fb
open PySem PySem.W PySem.Calls PyProof.Rows
theorem PySem.Challenge.cw_freshbags_s01_answers_holds : PySem.Challenge.rw_freshbags_s01_answers.Holds := by
  w_on
  refine HeadRun.head_spec (r := Fb.rowS) (q := Fb.rowQ) (H := Fb.hkS) (ob := Fb.obS) (M := 20000) (loose := Fb.tops) (d := HeadRun.topDef Fb.rowS.prog 157) (kwd := []) Fb.obS_eq (by kernel_rfl) (fun s => by kernel_rfl) Fb.run_all (by kernel_rfl) (by kernel_rfl) (by kernel_rfl) os_shapes Fb.row_well (by decide +kernel) Fb.row_bare ⟨[.list [.int 2]], by decide +kernel, by decide +kernel⟩ Fb.walk
