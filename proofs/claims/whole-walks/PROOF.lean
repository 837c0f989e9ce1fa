import PyProof.Rows.All
import Wide.All
import OpenK.AllK
import Wide.FinOn
import HandS.ForMost
import HandS.Exc
import HandS.TryOnly
import HandS.ExcOwn
import HandS.WordsExc
import HandS.Defaults
import HandS.IsInst
import HandS.Property
import HandS.Wide
import HandS.Gcd
import HandS.Zip
import HandS.Walk
import HandS.Flow
import HandS.OwnEq
import HandS.ExcInit
import HandS.HotCalls
import HandS.MakeKwOnly
import HandS.Small
import HandS.RaiseMore
import KE.KOpsOwn
import OpenK.KMeth
import HandS.HeadHook1
import HandS.HeadHook2
import PySem.Challenge.RW_surerwalks_k21_whole_walks_and_their_sha
import HandS.Head0
import HandS.Head1
import HandS.Head2
import HandS.Head3
import HandS.HeadEnd
import HandS.Codes
import KE.GoesMore
import HandS.Conv
import HandS.SuiteRaise
set_option Elab.async false
section
set_option Elab.async false
set_option linter.all false
set_option maxRecDepth 100000
set_option maxHeartbeats 2000000
/-! A judgement layer over the hand layer: expressions have types that tell exact values; K is the frozen part of the heap, H all that is tracked. -/
namespace Z
open PySem PySem.Spec PyProof.Rows L2

abbrev St := L2.St
/-! ### heaps: all of one stands in another -/
def Ex (H H' : Hp) : Prop := ∀ a o, H a = some o → H' a = some o
theorem Ex.refl (H : Hp) : Ex H H := fun _ _ h => h
theorem Ex.trans {H H1 H2 : Hp} (a : Ex H H1) (b : Ex H1 H2) : Ex H H2 := fun x o h => b x o (a x o h)
theorem Ex.new {H : Hp} {p : Addr} {o : HO} (h : H p = none) : Ex H (upd H p o) := fun a u e => by
  rw [upd_ne (ne_of_none e h)]
  exact e
theorem Ex.both {K H : Hp} {p : Addr} {o : HO} (s : Ex K H) : Ex (upd K p o) (upd H p o) := fun a u e => by
  by_cases q : a = p
  · subst q
    rw [upd_same] at e ⊢
    exact e
  · rw [upd_ne q] at e ⊢
    exact s a u e
theorem Ex.past {K H : Hp} {p : Addr} {o : HO} (s : Ex K H) (hk : K p = none) : Ex K (upd H p o) := fun a u e => by
  rw [upd_ne (ne_of_none e hk)]
  exact s a u e
theorem Ex.back {K H : Hp} {p : Addr} (s : Ex K H) (h : H p = none) : K p = none := by
  cases e : K p with
  | none => rfl
  | some o =>
    rw [s p o e] at h
    cases h
theorem Ex.ne {K H : Hp} {p : Addr} (s : Ex K H) (h : K p ≠ none) : H p ≠ none := fun e => h (s.back e)
/-- a step: the heap grows, the frozen part grows, what was not frozen stays so -/
structure Gr (K H K' H' : Hp) : Prop where
  h : Ex H H'
  k : Ex K K'
  s : Ex K' H'
  f : ∀ a, H a ≠ none → K a = none → K' a = none
theorem Gr.refl {K H : Hp} (s : Ex K H) : Gr K H K H := ⟨Ex.refl _, Ex.refl _, s, fun _ _ h => h⟩
theorem Gr.trans {K H K1 H1 K2 H2 : Hp} (a : Gr K H K1 H1) (b : Gr K1 H1 K2 H2) : Gr K H K2 H2 :=
  ⟨a.h.trans b.h, a.k.trans b.k, b.s, fun x hx kx => b.f x (a.h.ne hx) (a.f x hx kx)⟩
theorem Gr.new {K H : Hp} {p : Addr} {o : HO} (s : Ex K H) (hp : H p = none) : Gr K H (upd K p o) (upd H p o) :=
  ⟨Ex.new hp, Ex.new (s.back hp), s.both, fun a ha ka => by
    rw [upd_ne fun q => ha (by rw [q]; exact hp)]
    exact ka⟩
/-- a new object that may change later -/
theorem Gr.newM {K H : Hp} {p : Addr} {o : HO} (s : Ex K H) (hp : H p = none) : Gr K H K (upd H p o) :=
  ⟨Ex.new hp, Ex.refl _, s.past (s.back hp), fun _ _ h => h⟩

/-! ### types -/
structure Ty where
  p : V → Hp → Prop
  mo : ∀ {v H H'}, Ex H H' → p v H → p v H'
def tV (x : V) : Ty := ⟨fun v _ => v = x, fun _ h => h⟩
abbrev tI (i : Int) : Ty := tV (.int i)
abbrev tB (b : Bool) : Ty := tV (.bl b)
abbrev tNone : Ty := tV .non
def tAny : Ty := ⟨fun _ _ => True, fun _ h => h⟩
/-- a value of which one knows that some datum fits -/
def tE {α : Type} (P : α → Prop) (t : α → Ty) : Ty := ⟨fun v H => ∃ a, P a ∧ (t a).p v H, fun e ⟨a, h, q⟩ => ⟨a, h, (t a).mo e q⟩⟩
def tOr (t u : Ty) : Ty := ⟨fun v H => t.p v H ∨ u.p v H, fun e h => h.elim (fun q => .inl (t.mo e q)) fun q => .inr (u.mo e q)⟩
/-- value by value -/
def All2 : List Ty → List V → Hp → Prop
  | [], [], _ => True
  | t :: ts, v :: vs, H => t.p v H ∧ All2 ts vs H
  | _, _, _ => False
theorem All2.mo : ∀ {ts : List Ty} {vs : List V} {H H' : Hp}, Ex H H' → All2 ts vs H → All2 ts vs H'
  | [], [], _, _, _, _ => trivial
  | t :: _, _ :: _, _, _, e, ⟨h, r⟩ => ⟨t.mo e h, All2.mo e r⟩
  | [], _ :: _, _, _, _, h => h.elim
  | _ :: _, [], _, _, _, h => h.elim
theorem All2.len : ∀ {ts : List Ty} {vs : List V} {H : Hp}, All2 ts vs H → vs.length = ts.length
  | [], [], _, _ => rfl
  | _ :: _, _ :: _, _, ⟨_, r⟩ => by rw [List.length_cons, List.length_cons, All2.len r]
  | [], _ :: _, _, h => h.elim
  | _ :: _, [], _, h => h.elim
theorem All2.get : ∀ {ts : List Ty} {vs : List V} {H : Hp} {i : Nat} {v : V}, All2 ts vs H → vs[i]? = some v → ∃ t, ts[i]? = some t ∧ t.p v H
  | [], [], _, _, _, _, h => by simp at h
  | t :: ts, x :: vs, _, 0, v, ⟨a, _⟩, h => by
    simp at h
    subst h
    exact ⟨t, rfl, a⟩
  | t :: ts, x :: vs, _, i + 1, v, ⟨_, r⟩, h => by
    obtain ⟨u, e, q⟩ := All2.get (i := i) (v := v) r (by simpa using h)
    exact ⟨u, by simpa using e, q⟩
  | [], _ :: _, _, _, _, h, _ => h.elim
  | _ :: _, [], _, _, _, h, _ => h.elim
theorem All2.at : ∀ {ts : List Ty} {vs : List V} {H : Hp} {i : Nat} {t : Ty}, All2 ts vs H → ts[i]? = some t → ∃ v, vs[i]? = some v ∧ t.p v H
  | [], [], _, _, _, _, h => by simp at h
  | t :: ts, x :: vs, _, 0, u, ⟨a, _⟩, h => by
    simp at h
    subst h
    exact ⟨x, rfl, a⟩
  | t :: ts, x :: vs, _, i + 1, u, ⟨_, r⟩, h => by
    obtain ⟨v, e, q⟩ := All2.at (i := i) (t := u) r (by simpa using h)
    exact ⟨v, by simpa using e, q⟩
  | [], _ :: _, _, _, _, h, _ => h.elim
  | _ :: _, [], _, _, _, h, _ => h.elim
theorem All2.app : ∀ {ts us : List Ty} {vs ws : List V} {H : Hp}, All2 ts vs H → All2 us ws H → All2 (ts ++ us) (vs ++ ws) H
  | [], _, [], _, _, _, h => h
  | _ :: _, _, _ :: _, _, _, ⟨a, r⟩, h => ⟨a, All2.app r h⟩
  | [], _, _ :: _, _, _, h, _ => h.elim
  | _ :: _, _, [], _, _, h, _ => h.elim
theorem All2.one {t : Ty} {vs : List V} {H : Hp} (h : All2 [t] vs H) : ∃ v, vs = [v] ∧ t.p v H := by
  match vs, h with
  | [v], ⟨a, _⟩ => exact ⟨v, rfl, a⟩
  | [], h => exact h.elim
  | _ :: _ :: _, ⟨_, h⟩ => exact h.elim
theorem All2.two {t u : Ty} {vs : List V} {H : Hp} (h : All2 [t, u] vs H) : ∃ v w, vs = [v, w] ∧ t.p v H ∧ u.p w H := by
  match vs, h with
  | [v, w], ⟨a, b, _⟩ => exact ⟨v, w, rfl, a, b⟩
  | [], h => exact h.elim
  | [_], ⟨_, h⟩ => exact h.elim
  | _ :: _ :: _ :: _, ⟨_, _, h⟩ => exact h.elim
theorem All2.ints : ∀ {ns : List Int} {vs : List V} {H : Hp}, All2 (ns.map tI) vs H → vs = ns.map V.int
  | [], [], _, _ => rfl
  | n :: ns, v :: vs, _, h => by
    have a : v = .int n := h.1
    rw [a, All2.ints (ns := ns) h.2]
    rfl
  | [], _ :: _, _, h => h.elim
  | _ :: _, [], _, h => h.elim
theorem All2.of_ints : ∀ {ns : List Int} {H : Hp}, All2 (ns.map tI) (ns.map V.int) H
  | [], _ => trivial
  | _ :: ns, _ => ⟨rfl, All2.of_ints (ns := ns)⟩
/-- a list, a tuple of such -/
def tL (ts : List Ty) : Ty := ⟨fun v H => ∃ a xs, v = .ref a ∧ H a = some (.lst xs) ∧ All2 ts xs H, fun e ⟨a, xs, h, q, r⟩ => ⟨a, xs, h, e _ _ q, r.mo e⟩⟩
def tT (ts : List Ty) : Ty := ⟨fun v H => ∃ a xs, v = .ref a ∧ H a = some (.tup xs) ∧ All2 ts xs H, fun e ⟨a, xs, h, q, r⟩ => ⟨a, xs, h, e _ _ q, r.mo e⟩⟩
/-- a list or a tuple -/
def tQ (ts : List Ty) : Ty := tOr (tL ts) (tT ts)

/-! ### slots -/
abbrev Ctx := List (Option Ty)
def Sat : Ctx → St → Hp → Prop
  | [], [], _ => True
  | none :: Γ, _ :: σ, H => Sat Γ σ H
  | some t :: Γ, o :: σ, H => (∃ v, o = some v ∧ t.p v H) ∧ Sat Γ σ H
  | _, _, _ => False
theorem Sat.mo : ∀ {Γ : Ctx} {σ : St} {H H' : Hp}, Ex H H' → Sat Γ σ H → Sat Γ σ H'
  | [], [], _, _, _, _ => trivial
  | none :: Γ, _ :: σ, _, _, e, h => Sat.mo (Γ := Γ) (σ := σ) e h
  | some t :: _, _ :: _, _, _, e, ⟨⟨v, q, a⟩, r⟩ => ⟨⟨v, q, t.mo e a⟩, Sat.mo e r⟩
  | [], _ :: _, _, _, _, h => h.elim
  | none :: _, [], _, _, _, h => h.elim
  | some _ :: _, [], _, _, _, h => h.elim
theorem Sat.len : ∀ {Γ : Ctx} {σ : St} {H : Hp}, Sat Γ σ H → σ.length = Γ.length
  | [], [], _, _ => rfl
  | none :: Γ, _ :: _, _, h => by rw [List.length_cons, List.length_cons, Sat.len (Γ := Γ) h]
  | some _ :: Γ, _ :: _, _, h => by rw [List.length_cons, List.length_cons, Sat.len (Γ := Γ) h.2]
  | [], _ :: _, _, h => h.elim
  | none :: _, [], _, h => h.elim
  | some _ :: _, [], _, h => h.elim
theorem Sat.get : ∀ {Γ : Ctx} {σ : St} {H : Hp} {i : Nat} {t : Ty}, Sat Γ σ H → Γ[i]? = some (some t) → ∃ v, σ[i]? = some (some v) ∧ t.p v H
  | [], [], _, _, _, _, h => by simp at h
  | none :: _, _ :: _, _, 0, _, _, h => by simp at h
  | none :: Γ, _ :: _, _, i + 1, t, s, h => by
    obtain ⟨v, e, q⟩ := Sat.get (Γ := Γ) (i := i) (t := t) s (by simpa using h)
    exact ⟨v, by simpa using e, q⟩
  | some u :: _, _ :: _, _, 0, t, ⟨⟨v, e, q⟩, _⟩, h => by
    simp at h
    subst h
    exact ⟨v, by simpa using e, q⟩
  | some _ :: Γ, _ :: _, _, i + 1, t, ⟨_, s⟩, h => by
    obtain ⟨v, e, q⟩ := Sat.get (Γ := Γ) (i := i) (t := t) s (by simpa using h)
    exact ⟨v, by simpa using e, q⟩
  | [], _ :: _, _, _, _, h, _ => h.elim
  | none :: _, [], _, _, _, h, _ => h.elim
  | some _ :: _, [], _, _, _, h, _ => h.elim
theorem Sat.set : ∀ {Γ : Ctx} {σ : St} {H : Hp} {i : Nat} {t : Ty} {v : V}, Sat Γ σ H → t.p v H → Sat (Γ.set i (some t)) (σ.set i (some v)) H
  | [], [], _, _, _, _, _, _ => trivial
  | none :: _, _ :: _, _, 0, _, v, s, q => ⟨⟨v, rfl, q⟩, s⟩
  | some _ :: _, _ :: _, _, 0, _, v, ⟨_, s⟩, q => ⟨⟨v, rfl, q⟩, s⟩
  | none :: Γ, _ :: _, _, i + 1, _, _, s, q => Sat.set (Γ := Γ) (i := i) s q
  | some _ :: Γ, _ :: _, _, i + 1, _, _, ⟨a, s⟩, q => ⟨a, Sat.set (Γ := Γ) (i := i) s q⟩
  | [], _ :: _, _, _, _, _, h, _ => h.elim
  | none :: _, [], _, _, _, _, h, _ => h.elim
  | some _ :: _, [], _, _, _, _, h, _ => h.elim
/-- a slot forgotten -/
theorem Sat.drop : ∀ {Γ : Ctx} {σ : St} {H : Hp} {i : Nat} {o : Option V}, Sat Γ σ H → Sat (Γ.set i none) (σ.set i o) H
  | [], [], _, _, _, _ => trivial
  | none :: _, _ :: _, _, 0, _, s => s
  | some _ :: _, _ :: _, _, 0, _, ⟨_, s⟩ => s
  | none :: Γ, _ :: _, _, i + 1, _, s => Sat.drop (Γ := Γ) (i := i) s
  | some _ :: Γ, _ :: _, _, i + 1, _, ⟨a, s⟩ => ⟨a, Sat.drop (Γ := Γ) (i := i) s⟩
  | [], _ :: _, _, _, _, h => h.elim
  | none :: _, [], _, _, _, h => h.elim
  | some _ :: _, [], _, _, _, h => h.elim
/-- less is known -/
def Sub2 : Ctx → Ctx → Prop
  | [], [] => True
  | _ :: Γ, none :: Γ' => Sub2 Γ Γ'
  | some t :: Γ, some u :: Γ' => (∀ v H, t.p v H → u.p v H) ∧ Sub2 Γ Γ'
  | _, _ => False
theorem Sat.sub : ∀ {Γ Γ' : Ctx} {σ : St} {H : Hp}, Sub2 Γ Γ' → Sat Γ σ H → Sat Γ' σ H
  | [], [], [], _, _, _ => trivial
  | none :: Γ, none :: Γ', _ :: σ, H, s, h => Sat.sub (Γ := Γ) (Γ' := Γ') s h
  | some _ :: Γ, none :: Γ', _ :: σ, H, s, h => Sat.sub (Γ := Γ) (Γ' := Γ') s h.2
  | some t :: Γ, some u :: Γ', _ :: σ, H, s, ⟨⟨v, e, q⟩, h⟩ => ⟨⟨v, e, s.1 _ _ q⟩, Sat.sub (Γ := Γ) (Γ' := Γ') s.2 h⟩
  | [], [], _ :: _, _, _, h => h.elim
  | none :: _, none :: _, [], _, _, h => h.elim
  | some _ :: _, none :: _, [], _, _, h => h.elim
  | some _ :: _, some _ :: _, [], _, _, h => h.elim
  | [], _ :: _, _, _, s, _ => by simp [Sub2] at s
  | _ :: _, [], _, _, s, _ => by simp [Sub2] at s
  | none :: _, some _ :: _, _, _, s, _ => by simp [Sub2] at s
theorem Sub2.refl : ∀ Γ : Ctx, Sub2 Γ Γ
  | [] => trivial
  | none :: Γ => Sub2.refl Γ
  | some _ :: Γ => ⟨fun _ _ h => h, Sub2.refl Γ⟩
def wipeC (Γ : Ctx) : List Nat → Ctx
  | [] => Γ
  | v :: vs => (wipeC Γ vs).set v none
theorem Sat.wipe {Γ : Ctx} {σ : St} {H : Hp} (s : Sat Γ σ H) : ∀ vs : List Nat, Sat (wipeC Γ vs) (L2.wipe σ vs) H
  | [] => s
  | _ :: vs => (Sat.wipe s vs).drop
theorem Sat.start : ∀ {ts : List Ty} {vs : List V} {H : Hp} (n : Nat), All2 ts vs H → Sat (ts.map some ++ List.replicate n none) (vs.map some ++ List.replicate n none) H
  | [], [], _, 0, _ => trivial
  | [], [], H, n + 1, h => by
    show Sat (none :: List.replicate n none) (none :: List.replicate n none) H
    exact Sat.start (ts := []) (vs := []) n h
  | t :: ts, v :: vs, H, n, ⟨a, r⟩ => ⟨⟨v, rfl, a⟩, Sat.start n r⟩
  | [], _ :: _, _, _, h => h.elim
  | _ :: _, [], _, _, h => h.elim

/-! ### the readings that ask just what the machine asks -/
section
variable (X : Cx)
def we (e : Expr) : TE := fun σ H Q => ∀ pins s, Inv X pins σ H s → wpAny (model X.prog X.w) X.A (eval e X.env) (EP X pins σ Q) X.xe s
def wt (e : Expr) : TT := fun σ H Q => ∀ pins s, Inv X pins σ H s → wpAny (model X.prog X.w) X.A (isTrue e X.env (eval e X.env)) (TP X pins σ Q) X.xe s
def wa (es : List Expr) : TA := fun σ H Q => ∀ pos pins s, Inv X pins σ H s → wpAny (model X.prog X.w) X.A (spliced (backTo pos (starEach es X.env))) (AP X pins σ Q) X.xe s
def ws (st : Stmt) : TS := fun D σ H => ∀ pins s, Inv X pins σ H s → wpAny (model X.prog X.w) X.A (exec st X.env) (SP X pins D) X.xe s
def wss (st : List Stmt) : TS := fun D σ H => ∀ pins s, Inv X pins σ H s → wpAny (model X.prog X.w) X.A (execs st X.env) (SP X pins D) X.xe s
end
section
variable {X : Cx} {e : Expr} {es : List Expr} {st : Stmt} {sts : List Stmt} {σ : St} {H : Hp}
theorem pe_we : PE X e (we X e) := ⟨fun pins s _ _ _ I h => h pins s I⟩
theorem pt_wt : PT X e (wt X e) := ⟨fun pins s _ _ _ I h => h pins s I⟩
theorem pa_wa : PA X es (wa X es) := ⟨fun pos pins s _ _ _ I h => h pos pins s I⟩
theorem ps_ws : PS X st (ws X st) := ⟨fun pins s _ _ _ I h => h pins s I⟩
theorem pss_wss : PSs X sts (wss X sts) := ⟨fun pins s _ _ _ I h => h pins s I⟩
theorem we_of {t : TE} {Q : VK} (h : PE X e t) (q : t σ H Q) : we X e σ H Q := fun pins s I => h.run pins s σ H Q I q
theorem wt_of {t : TT} {Q : Bool → Hp → Prop} (h : PT X e t) (q : t σ H Q) : wt X e σ H Q := fun pins s I => h.run pins s σ H Q I q
theorem wa_of {t : TA} {Q : List V → Hp → Prop} (h : PA X es t) (q : t σ H Q) : wa X es σ H Q := fun pos pins s I => h.run pos pins s σ H Q I q
theorem ws_of {t : TS} {D : Ends} (h : PS X st t) (q : t D σ H) : ws X st D σ H := fun pins s I => h.run pins s σ H D I q
theorem wss_of {t : TS} {D : Ends} (h : PSs X sts t) (q : t D σ H) : wss X sts D σ H := fun pins s I => h.run pins s σ H D I q
theorem EP.imp {pins : List (Addr × Obj)} {Q Q' : VK} {u : Value} {s : Shared} (h : EP X pins σ Q u s) (k : ∀ v H', Q v H' → Q' v H') : EP X pins σ Q' u s :=
  let ⟨v, H', I, r, q⟩ := h
  ⟨v, H', I, r, k v H' q⟩
theorem we_imp {Q Q' : VK} (h : we X e σ H Q) (k : ∀ v H', Q v H' → Q' v H') : we X e σ H Q' := fun pins s I => thn (h pins s I) fun _ _ q => EP.imp q k
theorem wt_imp {Q Q' : Bool → Hp → Prop} (h : wt X e σ H Q) (k : ∀ b H', Q b H' → Q' b H') : wt X e σ H Q' :=
  fun pins s I => thn (h pins s I) fun _ _ ⟨H', J, q⟩ => ⟨H', J, k _ _ q⟩
theorem wss_cons {D : Ends} (h : ws X st { D with nx := wss X sts D } σ H) : wss X (st :: sts) D σ H := wss_of (pss_cons ps_ws pss_wss) h
theorem wss_nil {D : Ends} (h : D.nx σ H) : wss X [] D σ H := wss_of pss_nil h
end

/-! ### expressions -/
/-- e gives a value of the type -/
def Has (X : Cx) (Γ : Ctx) (e : Expr) (t : Ty) : Prop := ∀ σ K H, Ex K H → Sat Γ σ K → ∀ Q : VK, (∀ v K' H', Gr K H K' H' → t.p v K' → Q v H') → we X e σ H Q
def HasT (X : Cx) (Γ : Ctx) (e : Expr) (b : Bool) : Prop := ∀ σ K H, Ex K H → Sat Γ σ K → ∀ Q : Bool → Hp → Prop, (∀ K' H', Gr K H K' H' → Q b H') → wt X e σ H Q
def HasA (X : Cx) (Γ : Ctx) (es : List Expr) (ts : List Ty) : Prop := ∀ σ K H, Ex K H → Sat Γ σ K → ∀ Q : List V → Hp → Prop, (∀ vs K' H', Gr K H K' H' → All2 ts vs K' → Q vs H') → wa X es σ H Q
/-- what an operation on values gives -/
def Op2 (r : R2) (ta tb t : Ty) : Prop := ∀ x y K H, Ex K H → ta.p x K → tb.p y K → ∀ Q : VK, (∀ v K' H', Gr K H K' H' → t.p v K' → Q v H') → r x y H Q
def Op1 (r : V → Hp → VK → Prop) (ta t : Ty) : Prop := ∀ x K H, Ex K H → ta.p x K → ∀ Q : VK, (∀ v K' H', Gr K H K' H' → t.p v K' → Q v H') → r x H Q
def OpA (r : List V → Hp → VK → Prop) (ts : List Ty) (t : Ty) : Prop := ∀ vs K H, Ex K H → All2 ts vs K → ∀ Q : VK, (∀ v K' H', Gr K H K' H' → t.p v K' → Q v H') → r vs H Q
def BinT (X : Cx) (op : Operator) (ta tb t : Ty) : Prop := ∃ r, OpR X (binaryOp op) r ∧ Op2 r ta tb t
def CmpT (X : Cx) (op : CmpOp) (ta tb t : Ty) : Prop := ∃ r, OpR X (compareOp op) r ∧ Op2 r ta tb t
def UnT (X : Cx) (op : UnaryOp) (ta t : Ty) : Prop := ∃ r, UnR X (unaryOp op) r ∧ Op1 r ta t
def IxT (X : Cx) (ta tb t : Ty) : Prop := ∃ r, IxR X r ∧ Op2 r ta tb t
def CallT (X : Cx) (f : Value) (ts : List Ty) (t : Ty) : Prop := ∃ r, CallR X f r ∧ OpA r ts t

section
variable {X : Cx} {Γ : Ctx} {e a b c : Expr} {es : List Expr} {t u ta tb tc : Ty} {ts : List Ty} {pos p : Pos} {x : Str}
theorem Has.imp (h : Has X Γ e t) (k : ∀ v H, t.p v H → u.p v H) : Has X Γ e u := fun σ K H s g Q q => h σ K H s g Q fun v K' H' gr tv => q v K' H' gr (k v K' tv)
theorem Has.is (h : Has X Γ e t) (k : t = u) : Has X Γ e u := k ▸ h
theorem HasT.is {k k' : Bool} (h : HasT X Γ e k) (q : k = k') : HasT X Γ e k' := q ▸ h
theorem Has.sub {Γ' : Ctx} (h : Has X Γ' e t) (k : Sub2 Γ Γ') : Has X Γ e t := fun σ K H s g => h σ K H s (g.sub k)
theorem has_var (i : Nat) (h : Γ[i]? = some (some t) := by rfl) (hN : X.N[i]? = some x := by rfl) (hv : Vis X.env.scope x := by first | exact Or.inl rfl | exact Or.inr (Or.inl rfl) | exact Or.inr (Or.inr rfl))
    (hd : (x == ("__debug__" : Str)) = false := by decide) (hcd : (x == ("__classdict__" : Str)) = false := by decide) : Has X Γ (.Name x pos) t := fun σ K H s g Q q => by
  obtain ⟨v, e1, e2⟩ := g.get h
  exact we_of (pe_var hN hv hd hcd) ⟨v, e1, q v K H (Gr.refl s) e2⟩
theorem has_val {v : V} (h : PE X e (tC v)) : Has X Γ e (tV v) := fun σ K H s _ Q q => we_of h (q v K H (Gr.refl s) rfl)
theorem has_int {i j} : Has X Γ (.Constant (.int i) j pos) (tI i) := has_val pe_int
theorem has_bl {i j} : Has X Γ (.Constant (.bool i) j pos) (tB i) := has_val pe_bl
theorem has_non {j} : Has X Γ (.Constant .none j pos) tNone := has_val pe_non
theorem has_str {z j} : Has X Γ (.Constant (.str z) j pos) (tV (.str z)) := has_val pe_str
theorem has_op {op : Operator} (ha : Has X Γ a ta) (hb : Has X Γ b tb) (ho : BinT X op ta tb t) : Has X Γ (.BinOp a op b pos) t := fun σ K H s g Q q => by
  obtain ⟨r, hr, ht⟩ := ho
  refine we_of (pe_op hr pe_we pe_we) (ha σ K H s g _ fun x K1 H1 g1 h1 => hb σ K1 H1 g1.s (g.mo g1.k) _ fun y K2 H2 g2 h2 => ?_)
  exact ht x y K2 H2 g2.s (ta.mo g2.k h1) h2 Q fun v K3 H3 g3 h3 => q v K3 H3 ((g1.trans g2).trans g3) h3
theorem has_un {op : UnaryOp} (ha : Has X Γ a ta) (ho : UnT X op ta t) : Has X Γ (.UnaryOp op a pos) t := fun σ K H s g Q q => by
  obtain ⟨r, hr, ht⟩ := ho
  refine we_of (pe_un hr pe_we) (ha σ K H s g _ fun x K1 H1 g1 h1 => ?_)
  exact ht x K1 H1 g1.s h1 Q fun v K3 H3 g3 h3 => q v K3 H3 (g1.trans g3) h3
theorem has_cmp {op : CmpOp} (ha : Has X Γ a ta) (hb : Has X Γ b tb) (ho : CmpT X op ta tb t) (hm : behindInMarks op b = false := by first | exact nomark _ | rfl) : Has X Γ (.Compare a [op] [b] pos) t := fun σ K H s g Q q => by
  obtain ⟨r, hr, ht⟩ := ho
  refine we_of (pe_cmpR hr pe_we pe_we hm) (ha σ K H s g _ fun x K1 H1 g1 h1 => hb σ K1 H1 g1.s (g.mo g1.k) _ fun y K2 H2 g2 h2 => ?_)
  exact ht x y K2 H2 g2.s (ta.mo g2.k h1) h2 Q fun v K3 H3 g3 h3 => q v K3 H3 ((g1.trans g2).trans g3) h3
theorem hast_cmp {op : CmpOp} {k : Bool} (ha : Has X Γ a ta) (hb : Has X Γ b tb) (ho : CmpT X op ta tb (tB k)) (hm : behindInMarks op b = false := by first | exact nomark _ | rfl) : HasT X Γ (.Compare a [op] [b] pos) k := fun σ K H s g Q q => by
  obtain ⟨r, hr, ht⟩ := ho
  refine wt_of (pt_cmpR hr pe_we pe_we hm) (ha σ K H s g _ fun x K1 H1 g1 h1 => hb σ K1 H1 g1.s (g.mo g1.k) _ fun y K2 H2 g2 h2 => ?_)
  exact ht x y K2 H2 g2.s (ta.mo g2.k h1) h2 _ fun v K3 H3 g3 h3 => ⟨k, h3, q K3 H3 ((g1.trans g2).trans g3)⟩
theorem has_ix (ha : Has X Γ a ta) (hb : Has X Γ b tb) (ho : IxT X ta tb t) (hs : PlainIx b := by exact fun _ _ => rfl) : Has X Γ (.Subscript a b pos) t := fun σ K H s g Q q => by
  obtain ⟨r, hr, ht⟩ := ho
  refine we_of (pe_ix hr pe_we pe_we hs) (ha σ K H s g _ fun x K1 H1 g1 h1 => hb σ K1 H1 g1.s (g.mo g1.k) _ fun y K2 H2 g2 h2 => ?_)
  exact ht x y K2 H2 g2.s (ta.mo g2.k h1) h2 Q fun v K3 H3 g3 h3 => q v K3 H3 ((g1.trans g2).trans g3) h3
theorem hasa_nil : HasA X Γ [] [] := fun σ K H s _ Q q => wa_of pa_nil (q [] K H (Gr.refl s) trivial)
theorem hasa_cons (ha : Has X Γ e t) (hr : HasA X Γ es ts) (hs : starEach (e :: es) X.env = (false, eval e X.env) :: starEach es X.env := by rfl) : HasA X Γ (e :: es) (t :: ts) := fun σ K H s g Q q =>
  wa_of (pa_cons pe_we pa_wa hs) (ha σ K H s g _ fun x K1 H1 g1 h1 => hr σ K1 H1 g1.s (g.mo g1.k) _ fun xs K2 H2 g2 h2 => q _ K2 H2 (g1.trans g2) ⟨t.mo g2.k h1, h2⟩)
theorem has_callB {id : String} (ho : CallT X (.builtin id) ts t) (hg : Gl X x) (hm : X.mg x = none) (hv : bootBuiltins x = some (.builtin id)) (ha : HasA X Γ (e :: es) ts) (hn : x ≠ "__name__" := by decide) (hdb : (x == ("__debug__" : Str)) = false := by decide)
    (he : starEach (e :: es) X.env = (false, eval e X.env) :: starEach es X.env := by rfl) (hpl : (backTo pos (starEach es X.env)).any (·.1) = false := by rfl) : Has X Γ (.Call (.Name x p) (e :: es) [] pos) t := fun σ K H s g Q q => by
  obtain ⟨r, hr, ht⟩ := ho
  refine we_of (pe_callB hr hg hm hv pa_wa hn hdb he hpl) (ha σ K H s g _ fun vs K1 H1 g1 h1 => ?_)
  exact ht vs K1 H1 g1.s h1 Q fun v K3 H3 g3 h3 => q v K3 H3 (g1.trans g3) h3
theorem has_callTy {T : String} (ho : CallT X (.type T) ts t) (hg : Gl X x) (hm : X.mg x = none) (hv : bootBuiltins x = some (.type T)) (ha : HasA X Γ (e :: es) ts) (hn : x ≠ "__name__" := by decide) (hdb : (x == ("__debug__" : Str)) = false := by decide)
    (he : starEach (e :: es) X.env = (false, eval e X.env) :: starEach es X.env := by rfl) (hpl : (backTo pos (starEach es X.env)).any (·.1) = false := by rfl) : Has X Γ (.Call (.Name x p) (e :: es) [] pos) t := fun σ K H s g Q q => by
  obtain ⟨r, hr, ht⟩ := ho
  refine we_of (pe_callTy hr hg hm hv pa_wa hn hdb he hpl) (ha σ K H s g _ fun vs K1 H1 g1 h1 => ?_)
  exact ht vs K1 H1 g1.s h1 Q fun v K3 H3 g3 h3 => q v K3 H3 (g1.trans g3) h3
theorem has_tup {x1} (h : HasA X Γ es ts) (hl : ts.length ≤ 1000) : Has X Γ (.Tuple es x1 pos) (tT ts) := fun σ K H s g Q q =>
  we_of (pe_tup pa_wa) (h σ K H s g _ fun vs K1 H1 g1 h1 => ⟨by rw [h1.len]; exact Nat.le_of_lt (small1000 hl), fun p hp =>
    q _ _ _ (g1.trans (Gr.new g1.s hp)) ⟨p, vs, rfl, upd_same, h1.mo (Gr.new (o := .tup vs) g1.s hp).k⟩⟩)
theorem has_lst (h : HasA X Γ es ts) (hl : ts.length ≤ 1000) : Has X Γ (.List es pos) (tL ts) := fun σ K H s g Q q =>
  we_of (pe_lst pa_wa) (h σ K H s g _ fun vs K1 H1 g1 h1 => ⟨by rw [h1.len]; exact Nat.le_of_lt (small1000 hl), fun p hp =>
    q _ _ _ (g1.trans (Gr.new g1.s hp)) ⟨p, vs, rfl, upd_same, h1.mo (Gr.new (o := .lst vs) g1.s hp).k⟩⟩)
theorem has_if {k : Bool} (hc : HasT X Γ c k) (ha : k = true → Has X Γ a t) (hb : k = false → Has X Γ b t) : Has X Γ (.IfExp c a b pos) t := fun σ K H s g Q q =>
  we_of (pe_ifExp pt_wt pe_we pe_we) (hc σ K H s g _ fun K1 H1 g1 => by
    cases k with
    | true =>
      rw [if_pos rfl]
      exact ha rfl σ K1 H1 g1.s (g.mo g1.k) Q fun v K2 H2 g2 h2 => q v K2 H2 (g1.trans g2) h2
    | false =>
      rw [if_neg Bool.false_ne_true]
      exact hb rfl σ K1 H1 g1.s (g.mo g1.k) Q fun v K2 H2 g2 h2 => q v K2 H2 (g1.trans g2) h2)
/-- tests -/
theorem hast_val {k : Bool} (h : Has X Γ e (tB k)) (he : ∀ whole, isTrue e X.env whole = (do let v ← whole; standAt e.pos; holding [v] (truthy v)) := by intro _; rfl) : HasT X Γ e k := fun σ K H s g Q q =>
  wt_of (pt_val pe_we he) (h σ K H s g _ fun v K1 H1 g1 h1 => ⟨k, h1, q K1 H1 g1⟩)
theorem hast_not {k : Bool} (h : HasT X Γ e k) : HasT X Γ (.UnaryOp .Not e pos) (!k) := fun σ K H s g Q q => wt_of (pt_not pt_wt) (h σ K H s g _ q)
def wpw (X : Cx) (e : Expr) : TT := fun σ H Q => ∀ whole pins s, Inv X pins σ H s → wpAny (model X.prog X.w) X.A (isTrue e X.env whole) (TP X pins σ Q) X.xe s
theorem pw_wpw : PW X e (wpw X e) := ⟨fun wh pins s _ _ _ I h => h wh pins s I⟩
/-- tests of and, or: whatever their whole is -/
def HasW (X : Cx) (Γ : Ctx) (e : Expr) (b : Bool) : Prop := ∀ σ K H, Ex K H → Sat Γ σ K → ∀ Q : Bool → Hp → Prop, (∀ K' H', Gr K H K' H' → Q b H') → wpw X e σ H Q
theorem wpw_of {t : TT} {σ : St} {H : Hp} {Q : Bool → Hp → Prop} (h : PW X e t) (q : t σ H Q) : wpw X e σ H Q := fun wh pins s I => h.run wh pins s σ H Q I q
theorem hast_w {k : Bool} (h : HasW X Γ e k) : HasT X Γ e k := fun σ K H s g Q q => wt_of (PW.pt pw_wpw) (h σ K H s g Q q)
theorem hasw_and1 {k : Bool} (h : HasT X Γ a k) : HasW X Γ (.BoolOp .And [a] pos) k := fun σ K H s g Q q => wpw_of (pw_and1 pt_wt) (h σ K H s g Q q)
theorem hasw_or1 {k : Bool} (h : HasT X Γ a k) : HasW X Γ (.BoolOp .Or [a] pos) k := fun σ K H s g Q q => wpw_of (pw_or1 pt_wt) (h σ K H s g Q q)
theorem hasw_and {k l : Bool} (h : HasT X Γ a k) (h2 : k = true → HasW X Γ (.BoolOp .And (b :: es) pos) l) : HasW X Γ (.BoolOp .And (a :: b :: es) pos) (k && l) := fun σ K H s g Q q =>
  wpw_of (pw_and pt_wt pw_wpw) (h σ K H s g _ fun K1 H1 g1 => by
    cases k with
    | true =>
      rw [if_pos rfl]
      exact h2 rfl σ K1 H1 g1.s (g.mo g1.k) Q fun K2 H2 g2 => q K2 H2 (g1.trans g2)
    | false =>
      rw [if_neg Bool.false_ne_true]
      exact q K1 H1 g1)
theorem hasw_or {k l : Bool} (h : HasT X Γ a k) (h2 : k = false → HasW X Γ (.BoolOp .Or (b :: es) pos) l) : HasW X Γ (.BoolOp .Or (a :: b :: es) pos) (k || l) := fun σ K H s g Q q =>
  wpw_of (pw_or pt_wt pw_wpw) (h σ K H s g _ fun K1 H1 g1 => by
    cases k with
    | true =>
      rw [if_pos rfl]
      exact q K1 H1 g1
    | false =>
      rw [if_neg Bool.false_ne_true]
      exact h2 rfl σ K1 H1 g1.s (g.mo g1.k) Q fun K2 H2 g2 => q K2 H2 (g1.trans g2))
/-- .. as values -/
theorem has_one {op} (h : Has X Γ a t) : Has X Γ (.BoolOp op [a] pos) t := fun σ K H s g Q q => we_of (pe_one pe_we) (h σ K H s g Q q)
theorem has_and {k l : Bool} (h : Has X Γ a (tB k)) (h2 : k = true → Has X Γ (.BoolOp .And (b :: es) pos) (tB l)) : Has X Γ (.BoolOp .And (a :: b :: es) pos) (tB (k && l)) := fun σ K H s g Q q =>
  we_of (pe_and pe_we pe_we) (h σ K H s g _ fun v K1 H1 g1 h1 => ⟨k, h1, by
    cases k with
    | true =>
      rw [if_pos rfl]
      exact h2 rfl σ K1 H1 g1.s (g.mo g1.k) Q fun v K2 H2 g2 => q v K2 H2 (g1.trans g2)
    | false =>
      rw [if_neg Bool.false_ne_true]
      exact q _ K1 H1 g1 rfl⟩)
theorem has_or {k l : Bool} (h : Has X Γ a (tB k)) (h2 : k = false → Has X Γ (.BoolOp .Or (b :: es) pos) (tB l)) : Has X Γ (.BoolOp .Or (a :: b :: es) pos) (tB (k || l)) := fun σ K H s g Q q =>
  we_of (pe_or pe_we pe_we) (h σ K H s g _ fun v K1 H1 g1 h1 => ⟨k, h1, by
    cases k with
    | true =>
      rw [if_pos rfl]
      exact q _ K1 H1 g1 rfl
    | false =>
      rw [if_neg Bool.false_ne_true]
      exact h2 rfl σ K1 H1 g1.s (g.mo g1.k) Q fun v K2 H2 g2 => q v K2 H2 (g1.trans g2)⟩)
theorem has_not {k : Bool} (h : Has X Γ a (tB k)) : Has X Γ (.UnaryOp .Not a pos) (tB (!k)) := fun σ K H s g Q q =>
  we_of (pe_not pe_we) (h σ K H s g _ fun v K1 H1 g1 h1 => ⟨k, h1, q _ K1 H1 g1 rfl⟩)
end
end Z
end
section
set_option Elab.async false
set_option linter.all false
set_option maxRecDepth 100000
set_option maxHeartbeats 2000000
namespace Z
open PySem PySem.Spec PyProof.Rows L2

/-! ### what may change -/
structure Mt where
  p : Hp → Hp → Prop
  st : ∀ {K H K' H'}, Gr K H K' H' → p K H → p K' H'
def mNone : Mt := ⟨fun _ _ => True, fun _ h => h⟩
def mAnd (M N : Mt) : Mt := ⟨fun K H => M.p K H ∧ N.p K H, fun g ⟨a, b⟩ => ⟨M.st g a, N.st g b⟩⟩
def mLst (m : Addr) (ts : List Ty) : Mt := ⟨fun K H => K m = none ∧ ∃ xs, H m = some (.lst xs) ∧ All2 ts xs K, fun g ⟨a, xs, b, c⟩ =>
  ⟨g.f m (by rw [b]; exact Option.some_ne_none _) a, xs, g.h _ _ b, c.mo g.k⟩⟩
/-- it does not speak of m -/
def Mt.fr (M : Mt) (m : Addr) : Prop := ∀ K H o, M.p K H → M.p K (upd H m o)
def Mt.fz (M : Mt) (m : Addr) : Prop := ∀ K H o, K m = none → H m = some o → M.p K H → M.p (upd K m o) H
theorem mNone.fr {m : Addr} : mNone.fr m := fun _ _ _ h => h
theorem mNone.fz {m : Addr} : mNone.fz m := fun _ _ _ _ _ h => h
theorem mLst.fr {m n : Addr} {ts : List Ty} (d : n ≠ m) : (mLst n ts).fr m := fun K H o ⟨a, xs, b, c⟩ => ⟨a, xs, by rw [upd_ne d]; exact b, c⟩
theorem mLst.fz {m n : Addr} {ts : List Ty} (d : n ≠ m) : (mLst n ts).fz m := fun K H o hk _ ⟨a, xs, b, c⟩ => ⟨by rw [upd_ne d]; exact a, xs, b, c.mo (Ex.new hk)⟩
theorem mAnd.fr {M N : Mt} {m : Addr} (a : M.fr m) (b : N.fr m) : (mAnd M N).fr m := fun K H o h => ⟨a K H o h.1, b K H o h.2⟩
theorem mAnd.fz {M N : Mt} {m : Addr} (a : M.fz m) (b : N.fz m) : (mAnd M N).fz m := fun K H o hk hh h => ⟨a K H o hk hh h.1, b K H o hk hh h.2⟩

/-! ### blocks -/
def Stt (Kb Hb : Hp) (Γ : Ctx) (M : Mt) : St → Hp → Prop := fun σ H => ∃ K, Gr Kb Hb K H ∧ Sat Γ σ K ∧ M.p K H
def Bl (X : Cx) (Kb Hb : Hp) (Γ : Ctx) (M : Mt) (sts : List Stmt) (D : Ends) : Prop := ∀ σ H, Stt Kb Hb Γ M σ H → wss X sts D σ H
theorem Stt.sub {Kb Hb : Hp} {Γ Γ' : Ctx} {M M' : Mt} {σ : St} {H : Hp} (s : Stt Kb Hb Γ M σ H) (a : Sub2 Γ Γ') (b : ∀ K H, M.p K H → M'.p K H) : Stt Kb Hb Γ' M' σ H :=
  let ⟨K, g, q, m⟩ := s
  ⟨K, g, q.sub a, b K H m⟩
section
variable {X : Cx} {Γ Γ' : Ctx} {M M' : Mt} {Kb Hb : Hp} {e a b c : Expr} {es : List Expr} {t u ta tb : Ty} {ts : List Ty} {pos p : Pos} {x : Str} {D : Ends} {rest sts sts2 : List Stmt} {st : Stmt}
/-- from an expression's type -/
theorem Has.at (h : Has X Γ e t) {σ : St} {H : Hp} (s : Stt Kb Hb Γ M σ H) {Q : VK} (q : ∀ v K' H', Gr Kb Hb K' H' → Sat Γ σ K' → M.p K' H' → t.p v K' → Q v H') : we X e σ H Q := by
  obtain ⟨K, g, sa, m⟩ := s
  exact h σ K H g.s sa Q fun v K1 H1 g1 h1 => q v K1 H1 (g.trans g1) (sa.mo g1.k) (M.st g1 m) h1
theorem Bl.sub (h : Bl X Kb Hb Γ' M' sts D) (k : Sub2 Γ Γ') (m : ∀ K H, M.p K H → M'.p K H) : Bl X Kb Hb Γ M sts D := fun σ H s => h σ H (s.sub k m)
theorem bl_nil (h : ∀ σ H, Stt Kb Hb Γ M σ H → D.nx σ H) : Bl X Kb Hb Γ M [] D := fun σ H s => wss_nil (h σ H s)
/-- the end of a branch: what follows it -/
theorem bl_fall (h : Bl X Kb Hb Γ M rest D) : Bl X Kb Hb Γ M [] { D with nx := wss X rest D } := bl_nil h
theorem bl_ret (h : Has X Γ e t) (q : ∀ v K' H', Gr Kb Hb K' H' → M.p K' H' → t.p v K' → D.rt v H') : Bl X Kb Hb Γ M (.Return (some e) pos :: rest) D := fun σ H s =>
  wss_cons (ws_of (ps_ret pe_we) (h.at s fun v K' H' g _ m tv => q v K' H' g m tv))
theorem bl_asg {pos' : Pos} (i : Nat) (h : Has X Γ e t) (k : Bl X Kb Hb (Γ.set i (some t)) M rest D) (hN : X.N.Nodup) (hi : X.N[i]? = some x := by rfl) (hx : Loc X.env.scope x := by first | exact Or.inl rfl | exact Or.inr rfl)
    (hs : swapsWith e (some (.Name x pos')) pos.line X.env = pure false := by rfl) (hf : X.fn x = true ∨ X.env.scope.names.lookup x = some .local := by first | exact .inl rfl | exact .inr rfl) : Bl X Kb Hb Γ M (.Assign [.Name x pos'] e pos :: rest) D := fun σ H s =>
  wss_cons (ws_of (ps_set hN hi hx pe_we hs hf) (h.at s fun v K' H' g sa m tv => k _ _ ⟨K', g, sa.set tv, m⟩))
theorem bl_expr (h : Has X Γ e t) (k : Bl X Kb Hb Γ M rest D) (hs : swapsWith e none pos.line X.env = pure false := by rfl) : Bl X Kb Hb Γ M (.Expr e pos :: rest) D := fun σ H s =>
  wss_cons (ws_of (ps_expr pe_we hs) (h.at s fun v K' H' g sa m _ => k _ _ ⟨K', g, sa, m⟩))
theorem bl_if {k : Bool} (hc : HasT X Γ c k) (ht : k = true → Bl X Kb Hb Γ M sts { D with nx := wss X rest D }) (he : k = false → Bl X Kb Hb Γ M sts2 { D with nx := wss X rest D }) : Bl X Kb Hb Γ M (.If c sts sts2 pos :: rest) D := fun σ H s => by
  obtain ⟨K, g, sa, m⟩ := s
  refine wss_cons (ws_of (ps_if pt_wt pss_wss pss_wss) (hc σ K H g.s sa _ fun K1 H1 g1 => ?_))
  have s1 : Stt Kb Hb Γ M σ H1 := ⟨K1, g.trans g1, sa.mo g1.k, M.st g1 m⟩
  cases k with
  | true =>
    rw [if_pos rfl]
    exact ht rfl σ H1 s1
  | false =>
    rw [if_neg Bool.false_ne_true]
    exact he rfl σ H1 s1
/-- a datum is opened -/
theorem bl_open {α : Type} {P : α → Prop} {f : α → Ty} (i : Nat) (hi : Γ[i]? = some (some (tE P f))) (k : ∀ a, P a → Bl X Kb Hb (Γ.set i (some (f a))) M sts D) : Bl X Kb Hb Γ M sts D := fun σ H s => by
  obtain ⟨K, g, sa, m⟩ := s
  obtain ⟨v, e1, a, pa, q⟩ := sa.get hi
  have z : σ.set i (some v) = σ := by
    refine List.ext_getElem? fun j => ?_
    by_cases h : i = j
    · subst h
      rw [List.getElem?_set_self (List.getElem?_eq_some_iff.mp e1).1, e1]
    · rw [List.getElem?_set_ne h]
  have s2 := sa.set (i := i) (t := f a) q
  rw [z] at s2
  exact k a pa σ H ⟨K, g, s2, m⟩
theorem ps_new {i : Nat} {pos' p2 : Pos} (hN : X.N.Nodup) (hi : X.N[i]? = some x) (hx : Loc X.env.scope x) (hs : swapsWith (.List [] p2) (some (.Name x pos')) pos.line X.env = pure false := by rfl) (hf : X.fn x = true ∨ X.env.scope.names.lookup x = some .local := by first | exact .inl rfl | exact .inr rfl | assumption) :
    PS X (.Assign [.Name x pos'] (.List [] p2) pos) (tAsg (tLst tNil) (gName i)) := ps_set hN hi hx (pe_lst pa_nil) hs hf
/-- a new list that will grow -/
theorem bl_newM {pos' p2 : Pos} (i : Nat) (k : ∀ m, Hb m = none → (∃ K H, M.p K H ∧ H m = none) → Bl X Kb Hb (Γ.set i (some (tV (.ref m)))) (mAnd (mLst m []) M) rest D) (hN : X.N.Nodup) (hi : X.N[i]? = some x := by rfl) (hx : Loc X.env.scope x := by first | exact Or.inl rfl | exact Or.inr rfl)
    (hs : swapsWith (.List [] p2) (some (.Name x pos')) pos.line X.env = pure false := by rfl) (hf : X.fn x = true ∨ X.env.scope.names.lookup x = some .local := by first | exact .inl rfl | exact .inr rfl) :
    Bl X Kb Hb Γ M (.Assign [.Name x pos'] (.List [] p2) pos :: rest) D := fun σ H s => by
  obtain ⟨K, g, sa, m⟩ := s
  refine wss_cons (ws_of (ps_new hN hi hx hs hf) ⟨Nat.zero_le _, fun q hq => ?_⟩)
  have g2 := Gr.newM (o := .lst []) g.s hq
  exact k q (g.h.back hq) ⟨K, H, m, hq⟩ _ _ ⟨K, g.trans g2, sa.set rfl, ⟨g.s.back hq, [], upd_same, trivial⟩, M.st g2 m⟩
/-- a step on a changing list -/
theorem Gr.change {Kb Hb K H : Hp} {m : Addr} {o : HO} (g : Gr Kb Hb K H) (hb : Hb m = none) (hk : K m = none) : Gr Kb Hb K (upd H m o) :=
  ⟨g.h.past hb, g.k, g.s.past hk, g.f⟩
theorem bl_app {p1 p2 p3 : Pos} {y : Str} {m : Addr} (i : Nat) (hG : Γ[i]? = some (some (tV (.ref m)))) (hb : Hb m = none) (hM : M.fr m) (hl : ts.length < 1000) (h : Has X Γ e t) (k : Bl X Kb Hb Γ (mAnd (mLst m (ts ++ [t])) M) rest D) (hi : X.N[i]? = some y := by rfl)
    (hv : Vis X.env.scope y := by first | exact Or.inl rfl | exact Or.inr (Or.inl rfl) | exact Or.inr (Or.inr rfl))
    (h1 : PS X (.Expr (.Call (.Attribute (.Name y p1) "append" p2) [e] [] p3) pos) (tDrop (tBM X.K "list" rAppend (tVar i) (tCons (we X e) tNil)))) : Bl X Kb Hb Γ (mAnd (mLst m ts) M) (.Expr (.Call (.Attribute (.Name y p1) "append" p2) [e] [] p3) pos :: rest) D := fun σ H s => by
  obtain ⟨K, g, sa, ⟨ma, xs, mb, mc⟩, mm⟩ := s
  refine wss_cons (ws_of h1 ?_)
  obtain ⟨v, e1, e2⟩ := sa.get hG
  have e2' : v = .ref m := e2
  subst e2'
  refine ⟨_, e1, .inl ⟨rfl, _, SqL.of mb⟩, ?_⟩
  refine h σ K H g.s sa _ fun v K1 H1 g1 tv => ?_
  have mb1 := g1.h _ _ mb
  have ma1 := g1.f m (by rw [mb]; exact Option.some_ne_none _) ma
  refine ⟨m, xs, v, rfl, rfl, mb1, small1000 (by rw [mc.len]; omega), ?_⟩
  exact k σ _ ⟨K1, (g.trans g1).change hb ma1, sa.mo g1.k, ⟨ma1, _, upd_same, (mc.mo g1.k).app ⟨tv, trivial⟩⟩, hM _ _ _ (M.st g1 mm)⟩
/-- a changing list stays as it is from here on -/
theorem bl_freeze {m : Addr} (i : Nat) (hG : Γ[i]? = some (some (tV (.ref m)))) (hb : Hb m = none) (hM : M.fz m) (k : Bl X Kb Hb (Γ.set i (some (tL ts))) M sts D) : Bl X Kb Hb Γ (mAnd (mLst m ts) M) sts D := fun σ H s => by
  obtain ⟨K, g, sa, ⟨ma, xs, mb, mc⟩, mm⟩ := s
  obtain ⟨v, e1, e2⟩ := sa.get hG
  have e2' : v = .ref m := e2
  subst e2'
  have z : σ.set i (some (V.ref m)) = σ := by
    refine List.ext_getElem? fun j => ?_
    by_cases h : i = j
    · subst h
      rw [List.getElem?_set_self (List.getElem?_eq_some_iff.mp e1).1, e1]
    · rw [List.getElem?_set_ne h]
  have ek : Ex K (upd K m (.lst xs)) := Ex.new ma
  have s2 := (sa.mo ek).set (i := i) (t := tL ts) (v := V.ref m) ⟨m, xs, rfl, upd_same, mc.mo ek⟩
  rw [z] at s2
  refine k σ H ⟨upd K m (.lst xs), ⟨g.h, g.k.trans ek, fun a o q => ?_, fun a ha ka => ?_⟩, s2, hM _ _ _ ma mb mm⟩
  · by_cases am : a = m
    · subst am
      rw [upd_same] at q
      rw [← q]
      exact mb
    · rw [upd_ne am] at q
      exact g.s a o q
  · rw [upd_ne fun q => ha (by rw [q]; exact hb)]
    exact g.f a ha ka
end

/-! ### iteration: ds the data in their order, bd what a turn does to the slots -/
structure WkOk {α : Type} (g : TG) (bd : α → Ctx → Ctx) (sl : List Nat) (J : It) (ds : List α) (K1 : Hp) : Prop where
  go : ∀ i H, i < ds.length → Ex K1 H → J.go i H
  stop : ∀ H, Ex K1 H → J.stop ds.length H
  turn : ∀ i (d : α) K2 H2 x H3, ds[i]? = some d → Ex K1 K2 → Ex K2 H2 → J.yld i H2 x H3 → ∃ K3, Gr K2 H2 K3 H3 ∧ ∀ σ Γ2 (Q : St → Hp → Prop), Sat Γ2 σ K2 →
    (∀ σ', Sat (bd d Γ2) σ' K3 → (∀ vs, (∀ j ∈ sl, j ∈ vs) → L2.wipe σ' vs = L2.wipe σ vs) → Q σ' H3) → g x σ H3 Q
structure Src {α : Type} (X : Cx) (Γ : Ctx) (tg iter : Expr) (ds : List α) (bd : α → Ctx → Ctx) (sl : List Nat) (g : TG) : Prop where
  ex : ∀ (σ : St) (K H : Hp), Ex K H → Sat Γ σ K → ∃ wi, PI X tg iter wi ∧ ∀ R : It → Hp → Prop, (∀ J K1 H1, Gr K H K1 H1 → WkOk g bd sl J ds K1 → R J H1) → wi σ H R
theorem wipe_set (σ : St) (j : Nat) (o : Option V) : ∀ vs : List Nat, (L2.wipe (σ.set j o) vs).set j none = (L2.wipe σ vs).set j none
  | [] => by
    show (σ.set j o).set j none = σ.set j none
    rw [List.set_set]
  | v :: vs => by
    show ((L2.wipe (σ.set j o) vs).set v none).set j none = ((L2.wipe σ vs).set v none).set j none
    by_cases h : v = j
    · subst h
      rw [wipe_set σ v o vs]
    · rw [List.set_comm _ _ h, wipe_set σ j o vs, List.set_comm _ _ h]
theorem wipe_in {σ : St} {j : Nat} {o : Option V} : ∀ {vs : List Nat}, j ∈ vs → L2.wipe (σ.set j o) vs = L2.wipe σ vs
  | v :: vs, h => by
    show (L2.wipe (σ.set j o) vs).set v none = (L2.wipe σ vs).set v none
    rcases List.mem_cons.mp h with e | h
    · subst e
      exact wipe_set σ j o vs
    · rw [wipe_in h]
theorem wipe_twice (σ : St) : ∀ vs : List Nat, L2.wipe (L2.wipe σ vs) vs = L2.wipe σ vs
  | [] => rfl
  | v :: vs => by
    show L2.wipe ((L2.wipe σ vs).set v none) (v :: vs) = (L2.wipe σ vs).set v none
    rw [wipe_in List.mem_cons_self]
    show (L2.wipe (L2.wipe σ vs) vs).set v none = (L2.wipe σ vs).set v none
    rw [wipe_twice σ vs]
section
variable {X : Cx} {Γ : Ctx} {tg iter l l2 : Expr} {j j2 : Nat} {pos p tpos : Pos} {α β : Type}
def bd1 (j : Nat) (F : α → Ty) : α → Ctx → Ctx := fun d Γ => Γ.set j (some (F d))
def bd2 (j j2 : Nat) (F : α → Ty) (G : β → Ty) : α × β → Ctx → Ctx := fun d Γ => (Γ.set j (some (F d.1))).set j2 (some (G d.2))
theorem list_yld {ds : List α} {F : α → Ty} {xs : List V} {K1 : Hp} {i : Nat} {d : α} {x : V} (hx : All2 (ds.map F) xs K1) (hd : ds[i]? = some d) (e : xs[i]? = some x) : (F d).p x K1 := by
  obtain ⟨t, ht, q⟩ := hx.get e
  rw [List.getElem?_map, hd] at ht
  rw [← Option.some.inj ht] at q
  exact q
theorem wk_list {K : PySem.W.Frag} {ds : List α} {F : α → Ty} {a : Addr} {xs : List V} {K1 : Hp} (ha : K1 a = some (.lst xs)) (hx : All2 (ds.map F) xs K1) : WkOk (gName j) (bd1 j F) [j] (Itl K a) ds K1 := by
  have hl : xs.length = ds.length := by rw [hx.len, List.length_map]
  refine ⟨fun i H hi e => ⟨xs, xs[i]'(by omega), SqL.of (e _ _ ha), List.getElem?_eq_getElem _⟩, fun H e => ⟨xs, SqL.of (e _ _ ha), by omega⟩, fun i d K2 H2 x H3 hd e1 e2 y => ?_⟩
  obtain ⟨rfl, y⟩ := y
  have q := list_yld hx hd (y xs (SqL.of (e2 _ _ (e1 _ _ ha))))
  exact ⟨K2, Gr.refl e2, fun σ Γ2 Q s k => k _ (s.set ((F d).mo e1 q)) fun vs h => wipe_in (h j List.mem_cons_self)⟩
theorem wk_tup {K : PySem.W.Frag} {ds : List α} {F : α → Ty} {a : Addr} {xs : List V} {K1 : Hp} (ha : K1 a = some (.tup xs)) (hx : All2 (ds.map F) xs K1) : WkOk (gName j) (bd1 j F) [j] (Itt K a) ds K1 := by
  have hl : xs.length = ds.length := by rw [hx.len, List.length_map]
  refine ⟨fun i H hi e => ⟨xs, xs[i]'(by omega), SqT.of (e _ _ ha), List.getElem?_eq_getElem _⟩, fun H e => ⟨xs, SqT.of (e _ _ ha), by omega⟩, fun i d K2 H2 x H3 hd e1 e2 y => ?_⟩
  obtain ⟨rfl, y⟩ := y
  have q := list_yld hx hd (y xs (SqT.of (e2 _ _ (e1 _ _ ha))))
  exact ⟨K2, Gr.refl e2, fun σ Γ2 Q s k => k _ (s.set ((F d).mo e1 q)) fun vs h => wipe_in (h j List.mem_cons_self)⟩
theorem src_list {ds : List α} {F : α → Ty} (h : Has X Γ l (tL (ds.map F))) : Src X Γ tg l ds (bd1 j F) [j] (gName j) := ⟨fun σ K H s g => ⟨_, pi_list pe_we, fun R k =>
  h σ K H s g _ fun v K1 H1 g1 ⟨a, xs, ev, ha, hx⟩ => ⟨a, ev, ⟨xs, SqL.of (g1.s _ _ ha)⟩, k _ K1 H1 g1 (wk_list ha hx)⟩⟩⟩
theorem src_tup {ds : List α} {F : α → Ty} (h : Has X Γ l (tT (ds.map F))) : Src X Γ tg l ds (bd1 j F) [j] (gName j) := ⟨fun σ K H s g => ⟨_, pi_tup pe_we, fun R k =>
  h σ K H s g _ fun v K1 H1 g1 ⟨a, xs, ev, ha, hx⟩ => ⟨a, ev, ⟨xs, SqT.of (g1.s _ _ ha)⟩, k _ K1 H1 g1 (wk_tup ha hx)⟩⟩⟩
/-- over a name that holds a list or a tuple -/
theorem src_seq {ds : List α} {F : α → Ty} {x : Str} (i : Nat) (h : Γ[i]? = some (some (tQ (ds.map F))) := by rfl) (hN : X.N[i]? = some x := by rfl) (hv : Vis X.env.scope x := by first | exact Or.inl rfl | exact Or.inr (Or.inl rfl) | exact Or.inr (Or.inr rfl))
    (hd : (x == ("__debug__" : Str)) = false := by decide) (hcd : (x == ("__classdict__" : Str)) = false := by decide) : Src X Γ tg (.Name x p) ds (bd1 j F) [j] (gName j) := ⟨fun σ K H s g => by
  obtain ⟨v, e1, e2⟩ := g.get h
  rcases e2 with ⟨a, xs, ev, ha, hx⟩ | ⟨a, xs, ev, ha, hx⟩
  · exact ⟨_, pi_list (pe_var hN hv hd hcd), fun R k => ⟨v, e1, a, ev, ⟨xs, SqL.of (s _ _ ha)⟩, k _ K H (Gr.refl s) (wk_list ha hx)⟩⟩
  · exact ⟨_, pi_tup (pe_var hN hv hd hcd), fun R k => ⟨v, e1, a, ev, ⟨xs, SqT.of (s _ _ ha)⟩, k _ K H (Gr.refl s) (wk_tup ha hx)⟩⟩⟩
theorem wk_range {n : Nat} {K1 : Hp} : WkOk (gName j) (bd1 j fun i : Nat => tI (i : Int)) [j] (Itr 0 n) (List.range n) K1 := by
  refine ⟨fun i H hi _ => by rw [List.length_range] at hi; exact hi, fun H _ => Nat.le_of_eq (List.length_range).symm, fun i d K2 H2 x H3 hd e1 e2 y => ?_⟩
  obtain ⟨rfl, rfl⟩ := y
  have ed : d = i := by
    obtain ⟨h1, h2⟩ := List.getElem?_eq_some_iff.mp hd
    rw [List.getElem_range] at h2
    exact h2.symm
  subst ed
  exact ⟨K2, Gr.refl e2, fun σ Γ2 Q s k => k _ (s.set (by show V.int (0 + (d : Int)) = _; rw [Int.zero_add])) fun vs h => wipe_in (h j List.mem_cons_self)⟩
theorem src_range {n : Nat} (h : HasA X Γ [l] [tI (n : Int)]) (hn : n < 1000) (hg : Gl X "range") (hm : X.mg "range" = none) (hs : starEach [l] X.env = [(false, eval l X.env)] := by rfl) : Src X Γ tg (.Call (.Name "range" p) [l] [] pos) (List.range n) (bd1 j fun i : Nat => tI (i : Int)) [j] (gName j) :=
  ⟨fun σ K H s g => ⟨_, pi_range1 hg hm pa_wa hs, fun R k => h σ K H s g _ fun vs K1 H1 g1 hv => by
    obtain ⟨v, rfl, e⟩ := hv.one
    have e' : v = .int (n : Int) := e
    subst e'
    exact ⟨n, rfl, by omega, by omega, k _ K1 H1 g1 wk_range⟩⟩⟩
/-- the two places of a pair that was just made -/
theorem pair_bind {K : PySem.W.Frag} {F : α → Ty} {G : β → Ty} {d : α × β} {T : Addr} {x y : V} {K2 H2 : Hp} (e2 : Ex K2 H2) (hT : H2 T = none) (hx : (F d.1).p x K2) (hy : (G d.2).p y K2) :
    ∃ K3, Gr K2 H2 K3 (upd H2 T (.tup [x, y])) ∧ ∀ σ Γ2 (Q : St → Hp → Prop), Sat Γ2 σ K2 → (∀ σ', Sat (bd2 j j2 F G d Γ2) σ' K3 → (∀ vs, (∀ i ∈ [j, j2], i ∈ vs) → L2.wipe σ' vs = L2.wipe σ vs) → Q σ' (upd H2 T (.tup [x, y]))) →
      gTup K 2 (gCons (gName j) (gCons (gName j2) gNil)) (.ref T) σ (upd H2 T (.tup [x, y])) Q := by
  refine ⟨_, Gr.new e2 hT, fun σ Γ2 Q s k => ⟨T, [x, y], rfl, SqT.of upd_same, rfl, x, [y], rfl, y, [], rfl, rfl, ?_⟩⟩
  have ek := (Gr.new (o := .tup [x, y]) e2 hT).k
  refine k _ (((s.mo ek).set ((F d.1).mo ek hx)).set ((G d.2).mo ek hy)) fun vs h => ?_
  rw [wipe_in (h j2 (List.mem_cons_of_mem _ List.mem_cons_self)), wipe_in (h j List.mem_cons_self)]
theorem zip_get {as : List α} {bs : List β} {i : Nat} {d : α × β} (h : (as.zip bs)[i]? = some d) : as[i]? = some d.1 ∧ bs[i]? = some d.2 := by
  obtain ⟨a, b⟩ := d
  rw [List.getElem?_zip_eq_some] at h
  exact h
theorem wk_zip {K : PySem.W.Frag} {as : List α} {bs : List β} {F : α → Ty} {G : β → Ty} {a b : Addr} {xs ys : List V} {K1 : Hp} (ha : K1 a = some (.lst xs)) (hx : All2 (as.map F) xs K1) (hb : K1 b = some (.lst ys)) (hy : All2 (bs.map G) ys K1) :
    WkOk (gTup K 2 (gCons (gName j) (gCons (gName j2) gNil))) (bd2 j j2 F G) [j, j2] (Itz K a b) (as.zip bs) K1 := by
  have l1 : xs.length = as.length := by rw [hx.len, List.length_map]
  have l2 : ys.length = bs.length := by rw [hy.len, List.length_map]
  refine ⟨fun i H hi e => ?_, fun H e => ⟨xs, ys, SqL.of (e _ _ ha), SqL.of (e _ _ hb), by rw [List.length_zip]; omega⟩, fun i d K2 H2 x H3 hd e1 e2 y => ?_⟩
  · rw [List.length_zip] at hi
    exact ⟨xs, ys, xs[i]'(by omega), ys[i]'(by omega), SqL.of (e _ _ ha), SqL.of (e _ _ hb), List.getElem?_eq_getElem _, List.getElem?_eq_getElem _⟩
  · obtain ⟨T, u, v, rfl, hT, rfl, y1, y2⟩ := y
    obtain ⟨d1, d2⟩ := zip_get hd
    have q1 := list_yld hx d1 (y1 xs (SqL.of (e2 _ _ (e1 _ _ ha))))
    have q2 := list_yld hy d2 (y2 ys (SqL.of (e2 _ _ (e1 _ _ hb))))
    exact pair_bind e2 hT ((F d.1).mo e1 q1) ((G d.2).mo e1 q2)
theorem wk_zipT {K : PySem.W.Frag} {as : List α} {bs : List β} {F : α → Ty} {G : β → Ty} {a b : Addr} {xs ys : List V} {K1 : Hp} (ha : K1 a = some (.tup xs)) (hx : All2 (as.map F) xs K1) (hb : K1 b = some (.tup ys)) (hy : All2 (bs.map G) ys K1) :
    WkOk (gTup K 2 (gCons (gName j) (gCons (gName j2) gNil))) (bd2 j j2 F G) [j, j2] (RZ.ItzT K a b) (as.zip bs) K1 := by
  have l1 : xs.length = as.length := by rw [hx.len, List.length_map]
  have l2 : ys.length = bs.length := by rw [hy.len, List.length_map]
  refine ⟨fun i H hi e => ?_, fun H e => ⟨xs, ys, SqT.of (e _ _ ha), SqT.of (e _ _ hb), by rw [List.length_zip]; omega⟩, fun i d K2 H2 x H3 hd e1 e2 y => ?_⟩
  · rw [List.length_zip] at hi
    exact ⟨xs, ys, xs[i]'(by omega), ys[i]'(by omega), SqT.of (e _ _ ha), SqT.of (e _ _ hb), List.getElem?_eq_getElem _, List.getElem?_eq_getElem _⟩
  · obtain ⟨T, u, v, rfl, hT, rfl, y1, y2⟩ := y
    obtain ⟨d1, d2⟩ := zip_get hd
    have q1 := list_yld hx d1 (y1 xs (SqT.of (e2 _ _ (e1 _ _ ha))))
    have q2 := list_yld hy d2 (y2 ys (SqT.of (e2 _ _ (e1 _ _ hb))))
    exact pair_bind e2 hT ((F d.1).mo e1 q1) ((G d.2).mo e1 q2)
variable {elts : List Expr} {kk : Nat}
theorem src_zip {as : List α} {bs : List β} {F : α → Ty} {G : β → Ty} (h : HasA X Γ [l, l2] [tL (as.map F), tL (bs.map G)]) (hg : Gl X "zip") (hm : X.mg "zip" = none)
    (hs : starEach [l, l2] X.env = (false, eval l X.env) :: starEach [l2] X.env := by rfl) (hpl : (backTo pos (starEach [l2] X.env)).any (·.1) = false := by rfl) :
    Src X Γ (.Tuple elts kk tpos) (.Call (.Name "zip" p) [l, l2] [] pos) (as.zip bs) (bd2 j j2 F G) [j, j2] (gTup X.K 2 (gCons (gName j) (gCons (gName j2) gNil))) :=
  ⟨fun σ K H s g => ⟨_, pi_zip hg hm pa_wa hs hpl, fun R k => h σ K H s g _ fun vs K1 H1 g1 hv => by
    obtain ⟨v, w, rfl, ⟨a, xs, rfl, ha, hx⟩, ⟨b, ys, rfl, hb, hy⟩⟩ := hv.two
    exact ⟨a, b, xs, ys, rfl, SqL.of (g1.s _ _ ha), SqL.of (g1.s _ _ hb), k _ K1 H1 g1 (wk_zip ha hx hb hy)⟩⟩⟩
theorem src_zipT {as : List α} {bs : List β} {F : α → Ty} {G : β → Ty} (h : HasA X Γ [l, l2] [tT (as.map F), tT (bs.map G)]) (hg : Gl X "zip") (hm : X.mg "zip" = none)
    (hs : starEach [l, l2] X.env = (false, eval l X.env) :: starEach [l2] X.env := by rfl) (hpl : (backTo pos (starEach [l2] X.env)).any (·.1) = false := by rfl) :
    Src X Γ (.Tuple elts kk tpos) (.Call (.Name "zip" p) [l, l2] [] pos) (as.zip bs) (bd2 j j2 F G) [j, j2] (gTup X.K 2 (gCons (gName j) (gCons (gName j2) gNil))) :=
  ⟨fun σ K H s g => ⟨_, RZ.pi_zipA hg hm pa_wa hs hpl, fun R k => h σ K H s g _ fun vs K1 H1 g1 hv => by
    obtain ⟨v, w, rfl, ⟨a, xs, rfl, ha, hx⟩, ⟨b, ys, rfl, hb, hy⟩⟩ := hv.two
    exact ⟨a, b, xs, ys, rfl, .inr ⟨SqT.of (g1.s _ _ ha), SqT.of (g1.s _ _ hb), k _ K1 H1 g1 (wk_zipT ha hx hb hy)⟩⟩⟩⟩
theorem wk_enum {K : PySem.W.Frag} {as : List α} {G : α → Ty} {a : Addr} {xs : List V} {K1 : Hp} (ha : K1 a = some (.lst xs)) (hx : All2 (as.map G) xs K1) :
    WkOk (gTup K 2 (gCons (gName j) (gCons (gName j2) gNil))) (bd2 j j2 (fun i : Nat => tI (i : Int)) G) [j, j2] (Ite K a) ((List.range as.length).zip as) K1 := by
  have l1 : xs.length = as.length := by rw [hx.len, List.length_map]
  refine ⟨fun i H hi e => ?_, fun H e => ⟨xs, SqL.of (e _ _ ha), by rw [List.length_zip, List.length_range]; omega⟩, fun i d K2 H2 x H3 hd e1 e2 y => ?_⟩
  · rw [List.length_zip, List.length_range] at hi
    exact ⟨xs, xs[i]'(by omega), SqL.of (e _ _ ha), List.getElem?_eq_getElem _⟩
  · obtain ⟨T, u, rfl, hT, rfl, y1⟩ := y
    obtain ⟨d1, d2⟩ := zip_get hd
    have q1 := list_yld hx d2 (y1 xs (SqL.of (e2 _ _ (e1 _ _ ha))))
    have ed : d.1 = i := by
      obtain ⟨h1, h2⟩ := List.getElem?_eq_some_iff.mp d1
      rw [List.getElem_range] at h2
      exact h2.symm
    exact pair_bind (F := fun i : Nat => tI (i : Int)) e2 hT (by rw [ed]; rfl) ((G d.2).mo e1 q1)
theorem src_enum {as : List α} {G : α → Ty} (h : HasA X Γ [l] [tL (as.map G)]) (hg : Gl X "enumerate") (hm : X.mg "enumerate" = none) (hs : starEach [l] X.env = [(false, eval l X.env)] := by rfl) :
    Src X Γ (.Tuple elts kk tpos) (.Call (.Name "enumerate" p) [l] [] pos) ((List.range as.length).zip as) (bd2 j j2 (fun i : Nat => tI (i : Int)) G) [j, j2] (gTup X.K 2 (gCons (gName j) (gCons (gName j2) gNil))) :=
  ⟨fun σ K H s g => ⟨_, pi_enum hg hm pa_wa hs, fun R k => h σ K H s g _ fun vs K1 H1 g1 hv => by
    obtain ⟨v, rfl, ⟨a, xs, rfl, ha, hx⟩⟩ := hv.one
    exact ⟨a, xs, rfl, SqL.of (g1.s _ _ ha), k _ K1 H1 g1 (wk_enum ha hx)⟩⟩⟩

/-! ### comprehensions -/
theorem gdom {ds : List α} {F : α → Ty} {f : α → Bool} {i : Nat} {d : α} (h : ds[i]? = some d) : ((ds.take (i + 1)).filter f).map F = ((ds.take i).filter f).map F ++ (if f d = true then [F d] else []) := by
  rw [List.take_add_one, h, List.filter_append, List.map_append]
  show _ ++ (List.filter f [d]).map F = _
  by_cases q : f d = true
  · rw [if_pos q, List.filter_cons, if_pos q]
    rfl
  · rw [if_neg q, List.filter_cons, if_neg q]
    rfl
variable {elt iter : Expr} {ifs : List Expr} {scope : Scope} {own : List (Str × Nat)}
/-- the tests of a clause -/
def wts (X : Cx) (ifs : List Expr) : TT := fun σ H Q => ∀ pins s, Inv X pins σ H s → wpAny (model X.prog X.w) X.A (forIn ifs true fun c r => if r = true then do
    let ok ← isTrue c X.env (eval c X.env); pure (ForInStep.yield ok) else pure (ForInStep.yield r)) (TP X pins σ Q) X.xe s
theorem lc_main {K1 H1 K0 H0 : Hp} {J : It} {ds : List α} {bd : α → Ctx → Ctx} {sl : List Nat} {g : TG} {σ : St} {tt : TT} {te : TE} {vs : List Nat} {f : α → Bool} {F : α → Ty} {Q : VK} (W : WkOk g bd sl J ds K1) (hd : ds.length < 1000) (hsl : ∀ j ∈ sl, j ∈ vs) (g1 : Gr K0 H0 K1 H1) (sa : Sat Γ σ K1)
    (ht : ∀ d ∈ ds, ∀ σ K H, Ex K H → Sat (bd d (wipeC Γ vs)) σ K → ∀ Q : Bool → Hp → Prop, (∀ K' H', Gr K H K' H' → Q (f d) H') → tt σ H Q)
    (he : ∀ d ∈ ds, f d = true → ∀ σ K H, Ex K H → Sat (bd d (wipeC Γ vs)) σ K → ∀ Q : VK, (∀ v K' H', Gr K H K' H' → (F d).p v K' → Q v H') → te σ H Q)
    (q : ∀ v K' H', Gr K0 H0 K' H' → (tL ((ds.filter f).map F)).p v K' → Q v H') (D : Addr) (hD : H1 D = none) :
    ∃ W : Nat → Nat → Hp → Prop, (∃ m, W 0 m (upd H1 D (.lst []))) ∧ ∀ i m H, W i m H →
      (J.stop i H ∧ Q (.ref D) H) ∨ (J.go i H ∧ ∃ Nx : Hp → Prop, (∀ H', Nx H' → ∃ m', m' < m ∧ W (i + 1) m' H') ∧ ∀ x H', J.yld i H x H' → g x (L2.wipe σ vs) H' fun σ2 H2 => L2.wipe σ2 vs = L2.wipe σ vs ∧ tt σ2 H2 fun b H3 =>
        if b = true then te σ2 H3 fun y H4 => ∃ acc, H4 D = some (.lst acc) ∧ acc.length < sizeLine ∧ Nx (upd H4 D (.lst (acc ++ [y]))) else Nx H3) := by
  have kD : K1 D = none := g1.s.back hD
  have bD : H0 D = none := g1.h.back hD
  -- behind i turns
  let St0 : Nat → Hp → Prop := fun i H => ∃ K acc, Gr K1 H0 K H ∧ K D = none ∧ H D = some (.lst acc) ∧ All2 (((ds.take i).filter f).map F) acc K
  refine ⟨fun i m H => m = ds.length - i ∧ i ≤ ds.length ∧ St0 i H, ⟨ds.length, rfl, Nat.zero_le _, K1, [], ⟨g1.h.past bD, Ex.refl _, g1.s.past kD, fun a ha ka => ka⟩, kD, upd_same, trivial⟩, ?_⟩
  rintro i m H ⟨rfl, hi, K, acc, gr, ka, ha, hacc⟩
  by_cases hlt : i < ds.length
  · refine .inr ⟨W.go i H hlt (gr.k.trans gr.s), St0 (i + 1), fun H' p' => ⟨ds.length - (i + 1), by omega, rfl, hlt, p'⟩, fun x H' y => ?_⟩
    have hdi : ds[i]? = some ds[i] := List.getElem?_eq_getElem hlt
    have hmem : ds[i] ∈ ds := List.getElem_mem hlt
    obtain ⟨K3, g3, step⟩ := W.turn i ds[i] K H x H' hdi gr.k gr.s y
    have hlen : acc.length < 1000 := by
      have z := hacc.len
      rw [List.length_map] at z
      have z2 := List.length_filter_le f (ds.take i)
      rw [List.length_take] at z2
      omega
    have ka3 : K3 D = none := g3.f D (by rw [ha]; exact Option.some_ne_none _) ka
    refine step _ (wipeC Γ vs) _ ((sa.mo gr.k).wipe vs) fun σ' s3 hw => ⟨by rw [hw vs hsl]; exact wipe_twice σ vs, ?_⟩
    refine ht _ hmem σ' K3 H' g3.s s3 _ fun K4 H4 g4 => ?_
    have g34 := g3.trans g4
    have ka4 : K4 D = none := g34.f D (by rw [ha]; exact Option.some_ne_none _) ka
    have gd := gdom (F := F) (f := f) hdi
    have base : Gr K1 H0 K4 H4 := ⟨gr.h.trans g34.h, gr.k.trans g34.k, g34.s, fun a h1 h2 => g34.f a (gr.h.ne h1) (gr.f a h1 h2)⟩
    by_cases hf : f ds[i] = true
    · rw [if_pos hf]
      rw [if_pos hf] at gd
      refine he _ hmem hf σ' K4 H4 g4.s (s3.mo g4.k) _ fun v K5 H5 g5 tv => ?_
      have ka5 : K5 D = none := g5.f D ((g34.h.ne (by rw [ha]; exact Option.some_ne_none _))) ka4
      refine ⟨acc, g5.h _ _ (g34.h _ _ ha), small1000 (Nat.le_of_lt hlen), K5, acc ++ [v], ?_, ka5, upd_same, ?_⟩
      · exact ⟨(base.h.trans g5.h).past bD, base.k.trans g5.k, g5.s.past ka5, fun a h1 h2 => g5.f a (base.h.ne h1) (base.f a h1 h2)⟩
      · rw [gd]
        exact (hacc.mo (g34.k.trans g5.k)).app ⟨tv, trivial⟩
    · rw [if_neg hf]
      rw [if_neg hf, List.append_nil] at gd
      exact ⟨K4, acc, base, ka4, g34.h _ _ ha, by rw [gd]; exact hacc.mo g34.k⟩
  · have e : i = ds.length := by omega
    subst e
    rw [List.take_length] at hacc
    refine .inl ⟨W.stop H (gr.k.trans gr.s), ?_⟩
    have ek : Ex K (upd K D (.lst acc)) := Ex.new ka
    refine q _ (upd K D (.lst acc)) H ⟨gr.h, (g1.k.trans gr.k).trans ek, fun a o e => ?_, fun a h1 h2 => ?_⟩ ⟨D, acc, rfl, upd_same, hacc.mo ek⟩
    · by_cases am : a = D
      · subst am
        rw [upd_same] at e
        rw [← e]
        exact ha
      · rw [upd_ne am] at e
        exact gr.s a o e
    · rw [upd_ne fun z => h1 (by rw [z]; exact bD)]
      exact gr.f a h1 (g1.f a h1 h2)

theorem filt_all {γ : Type} (l : List γ) : l.filter (fun _ => true) = l := by simp
/-- a block's context -/
abbrev blkX (X : Cx) (scope : Scope) (s : Shared) (H : Hp) (C : Addr) (cl : List (Str × Addr)) (fp : List Addr) : Cx := X.blk s H scope (compEnvC scope cl C X.env) fp
def weB (X : Cx) (scope : Scope) (e : Expr) : TE := fun σ H Q => ∀ s0 H0 C cl fp, we (blkX X scope s0 H0 C cl fp) e σ H Q
def wtB (X : Cx) (scope : Scope) (c : Expr) : TT := fun σ H Q => ∀ s0 H0 C cl fp, wt (blkX X scope s0 H0 C cl fp) c σ H Q
theorem pe_lcW {wi : TI} {g : TG} (hi : PI X tg iter wi) (hc : X.calm = true) (hN : X.N.Nodup) (ok : BlkOk X.N X.env.scope scope own) (hg : ∀ s H C cl fp, PG (blkX X scope s H C cl fp) tg g) (hs : ∀ x, foldedSetIterable iter X.env x = pure x) :
    PE X (.ListComp elt [⟨tg, iter, [], 0⟩] scope pos) (tLc wi g tYes (weB X scope elt) (own.map (·.2))) :=
  pe_lc hc hN hi ok hg (fun _ _ _ _ _ => pts_nil) (fun s H C cl fp => ⟨fun pins s1 σ H1 Q I h => h s H C cl fp pins s1 I⟩) hs
theorem pe_lcI {wi : TI} {g : TG} {c : Expr} (hi : PI X tg iter wi) (hc : X.calm = true) (hN : X.N.Nodup) (ok : BlkOk X.N X.env.scope scope own) (hg : ∀ s H C cl fp, PG (blkX X scope s H C cl fp) tg g) (hs : ∀ x, foldedSetIterable iter X.env x = pure x) :
    PE X (.ListComp elt [⟨tg, iter, [c], 0⟩] scope pos) (tLc wi g (wtB X scope c) (weB X scope elt) (own.map (·.2))) :=
  pe_lc hc hN hi ok hg (fun s H C cl fp => pts_one ⟨fun pins s1 σ H1 Q I h => h s H C cl fp pins s1 I⟩) (fun s H C cl fp => ⟨fun pins s1 σ H1 Q I h => h s H C cl fp pins s1 I⟩) hs
theorem has_lc {g : TG} {ds : List α} {bd : α → Ctx → Ctx} {sl : List Nat} (own : List (Str × Nat)) (S : Src X Γ tg iter ds bd sl g) (F : α → Ty) (he : ∀ d ∈ ds, ∀ s H C cl fp, Has (blkX X scope s H C cl fp) (bd d (wipeC Γ (own.map (·.2)))) elt (F d))
    (hd : ds.length < 1000) (hN : X.N.Nodup) (hg : ∀ s H C cl fp, PG (blkX X scope s H C cl fp) tg g) (hsl : ∀ j ∈ sl, j ∈ own.map (·.2) := by decide) (ok : BlkOk X.N X.env.scope scope own := by exact blkOk_by (by kernel_rfl)) (hc : X.calm = true := by rfl) (hs : ∀ x, foldedSetIterable iter X.env x = pure x := by intro _; rfl) :
    Has X Γ (.ListComp elt [⟨tg, iter, [], 0⟩] scope pos) (tL (ds.map F)) := fun σ K H s ga Q q => by
  obtain ⟨wi, hi, k⟩ := S.ex σ K H s ga
  refine we_of (pe_lcW hi hc hN ok hg hs) (k _ fun J K1 H1 g1 W D hD => lc_main (f := fun _ => true) W hd hsl g1 (ga.mo g1.k) (fun d _ σ K H s _ Q q => q K H (Gr.refl s)) (fun d hm _ σ K H s g Q q s0 H0 C cl fp => he d hm s0 H0 C cl fp σ K H s g Q q) (fun v K' H' g tv => ?_) D hD)
  rw [filt_all] at tv
  exact q v K' H' g tv
theorem has_lcI {g : TG} {c : Expr} {ds : List α} {bd : α → Ctx → Ctx} {sl : List Nat} (own : List (Str × Nat)) (S : Src X Γ tg iter ds bd sl g) (f : α → Bool) (F : α → Ty) (ht : ∀ d ∈ ds, ∀ s H C cl fp, HasT (blkX X scope s H C cl fp) (bd d (wipeC Γ (own.map (·.2)))) c (f d))
    (he : ∀ d ∈ ds, f d = true → ∀ s H C cl fp, Has (blkX X scope s H C cl fp) (bd d (wipeC Γ (own.map (·.2)))) elt (F d))
    (hd : ds.length < 1000) (hN : X.N.Nodup) (hg : ∀ s H C cl fp, PG (blkX X scope s H C cl fp) tg g) (hsl : ∀ j ∈ sl, j ∈ own.map (·.2) := by decide) (ok : BlkOk X.N X.env.scope scope own := by exact blkOk_by (by kernel_rfl)) (hc : X.calm = true := by rfl) (hs : ∀ x, foldedSetIterable iter X.env x = pure x := by intro _; rfl) :
    Has X Γ (.ListComp elt [⟨tg, iter, [c], 0⟩] scope pos) (tL ((ds.filter f).map F)) := fun σ K H s ga Q q => by
  obtain ⟨wi, hi, k⟩ := S.ex σ K H s ga
  exact we_of (pe_lcI hi hc hN ok hg hs) (k _ fun J K1 H1 g1 W D hD => lc_main W hd hsl g1 (ga.mo g1.k) (fun d hm σ K H s g Q q s0 H0 C cl fp => ht d hm s0 H0 C cl fp σ K H s g Q q) (fun d hm hf σ K H s g Q q s0 H0 C cl fp => he d hm hf s0 H0 C cl fp σ K H s g Q q) (fun v K' H' g tv => q v K' H' g tv) D hD)
variable {M : Mt} {Kb Hb : Hp} {D : Ends} {rest sts : List Stmt} {y : Str} {py spos : Pos}
/-- name = [..] on one line -/
theorem bl_lc {g : TG} {ds : List α} {bd : α → Ctx → Ctx} {sl : List Nat} (i : Nat) (own : List (Str × Nat)) (S : Src X Γ tg iter ds bd sl g) (F : α → Ty) (he : ∀ d ∈ ds, ∀ s H C cl fp, Has (blkX X scope s H C cl fp) (bd d (wipeC Γ (own.map (·.2)))) elt (F d))
    (hd : ds.length < 1000) (hN : X.N.Nodup) (hg : ∀ s H C cl fp, PG (blkX X scope s H C cl fp) tg g) (k : Bl X Kb Hb (Γ.set i (some (tL (ds.map F)))) M rest D) (hy : X.N[i]? = some y := by rfl) (hyl : X.env.scope.names.lookup y = some .local := by rfl)
    (hsw : swapsWith (.ListComp elt [⟨tg, iter, [], 0⟩] scope pos) (some (.Name y py)) spos.line X.env = pure true := by exact sw_true rfl rfl rfl (by kernel_rfl))
    (hsl : ∀ j ∈ sl, j ∈ own.map (·.2) := by decide) (ok : BlkOk X.N X.env.scope scope own := by exact blkOk_by (by kernel_rfl)) (hc : X.calm = true := by rfl) (hs : ∀ x, foldedSetIterable iter X.env x = pure x := by intro _; rfl) :
    Bl X Kb Hb Γ M (.Assign [.Name y py] (.ListComp elt [⟨tg, iter, [], 0⟩] scope pos) spos :: rest) D := fun σ H s => by
  obtain ⟨K, g0, ga, m⟩ := s
  obtain ⟨wi, hi, k2⟩ := S.ex σ K H g0.s ga
  refine wss_cons (ws_of (ps_setLc hc hN hy hyl hsw hi ok hg (fun _ _ _ _ _ => pts_nil) (fun s H C cl fp => (⟨fun pins s1 σ H1 Q I h => h s H C cl fp pins s1 I⟩ : PE (blkX X scope s H C cl fp) elt (weB X scope elt))) hs) ?_)
  refine k2 _ fun J K1 H1 g1 W Dl hD => lc_main (tt := tYes) (te := weB X scope elt) (Q := fun x H1 => wss X rest D (σ.set i (some x)) H1) (f := fun _ => true) W hd hsl g1 (ga.mo g1.k) (fun d _ σ K H s _ Q q => q K H (Gr.refl s)) (fun d hm _ σ K H s g Q q s0 H0 C cl fp => he d hm s0 H0 C cl fp σ K H s g Q q) (fun v K' H' g tv => ?_) Dl hD
  rw [filt_all] at tv
  exact k _ _ ⟨K', g0.trans g, (ga.mo g.k).set tv, M.st g m⟩
theorem bl_lcI {g : TG} {c : Expr} {ds : List α} {bd : α → Ctx → Ctx} {sl : List Nat} (i : Nat) (own : List (Str × Nat)) (S : Src X Γ tg iter ds bd sl g) (f : α → Bool) (F : α → Ty) (ht : ∀ d ∈ ds, ∀ s H C cl fp, HasT (blkX X scope s H C cl fp) (bd d (wipeC Γ (own.map (·.2)))) c (f d))
    (he : ∀ d ∈ ds, f d = true → ∀ s H C cl fp, Has (blkX X scope s H C cl fp) (bd d (wipeC Γ (own.map (·.2)))) elt (F d))
    (hd : ds.length < 1000) (hN : X.N.Nodup) (hg : ∀ s H C cl fp, PG (blkX X scope s H C cl fp) tg g) (k : Bl X Kb Hb (Γ.set i (some (tL ((ds.filter f).map F)))) M rest D) (hy : X.N[i]? = some y := by rfl) (hyl : X.env.scope.names.lookup y = some .local := by rfl)
    (hsw : swapsWith (.ListComp elt [⟨tg, iter, [c], 0⟩] scope pos) (some (.Name y py)) spos.line X.env = pure true := by exact sw_true rfl rfl rfl (by kernel_rfl))
    (hsl : ∀ j ∈ sl, j ∈ own.map (·.2) := by decide) (ok : BlkOk X.N X.env.scope scope own := by exact blkOk_by (by kernel_rfl)) (hc : X.calm = true := by rfl) (hs : ∀ x, foldedSetIterable iter X.env x = pure x := by intro _; rfl) :
    Bl X Kb Hb Γ M (.Assign [.Name y py] (.ListComp elt [⟨tg, iter, [c], 0⟩] scope pos) spos :: rest) D := fun σ H s => by
  obtain ⟨K, g0, ga, m⟩ := s
  obtain ⟨wi, hi, k2⟩ := S.ex σ K H g0.s ga
  refine wss_cons (ws_of (ps_setLc hc hN hy hyl hsw hi ok hg (fun s H C cl fp => pts_one (⟨fun pins s1 σ H1 Q I h => h s H C cl fp pins s1 I⟩ : PT (blkX X scope s H C cl fp) c (wtB X scope c))) (fun s H C cl fp => (⟨fun pins s1 σ H1 Q I h => h s H C cl fp pins s1 I⟩ : PE (blkX X scope s H C cl fp) elt (weB X scope elt))) hs) ?_)
  exact k2 _ fun J K1 H1 g1 W Dl hD => lc_main (tt := wtB X scope c) (te := weB X scope elt) (Q := fun x H1 => wss X rest D (σ.set i (some x)) H1) W hd hsl g1 (ga.mo g1.k) (fun d hm σ K H s g Q q s0 H0 C cl fp => ht d hm s0 H0 C cl fp σ K H s g Q q) (fun d hm hf σ K H s g Q q s0 H0 C cl fp => he d hm hf s0 H0 C cl fp σ K H s g Q q) (fun v K' H' g tv => k _ _ ⟨K', g0.trans g, (ga.mo g.k).set tv, M.st g m⟩) Dl hD

/-! ### loops -/
/-- behind a turn -/
theorem bl_for {g : TG} {ds : List α} {bd : α → Ctx → Ctx} {sl : List Nat} (S : Src X Γ tg iter ds bd sl g) (hg : PG X tg g) (Γs : Nat → Ctx) (Ms : Nat → Mt) (h0 : Sub2 Γ (Γs 0)) (m0 : ∀ K H, M.p K H → (Ms 0).p K H)
    (body : ∀ i d, ds[i]? = some d → ∀ K1, (∀ K' H', Gr K1 Hb K' H' → Gr Kb Hb K' H') → Bl X K1 Hb (bd d (Γs i)) (Ms i) sts { D with nx := Stt K1 Hb (Γs (i + 1)) (Ms (i + 1)), ct := Stt K1 Hb (Γs (i + 1)) (Ms (i + 1)), bk := wss X rest D })
    (k : Bl X Kb Hb (Γs ds.length) (Ms ds.length) rest D) (hp : PassesOwn (model X.prog X.w) X.A X.env X.xe := by exact PassesOwn.never) (hc : X.calm = true := by rfl) (hs : ∀ x, foldedSetIterable iter X.env x = pure x := by intro _; rfl) :
    Bl X Kb Hb Γ M (.For tg iter sts [] pos :: rest) D := fun σ H s => by
  obtain ⟨K, g0, ga, m⟩ := s
  obtain ⟨wi, hi, k2⟩ := S.ex σ K H g0.s ga
  refine wss_cons (ws_of (ps_for hp hc hi hg pss_wss hs) (k2 _ fun J K1 H1 g1 W => ?_))
  have up : ∀ K' H', Gr K1 Hb K' H' → Gr Kb Hb K' H' := fun K' H' z => ⟨z.h, (g0.k.trans g1.k).trans z.k, z.s, fun a h1 h2 => z.f a h1 (g1.f a (g0.h.ne h1) (g0.f a h1 h2))⟩
  refine ⟨fun i n σ H => n = ds.length - i ∧ i ≤ ds.length ∧ Stt K1 Hb (Γs i) (Ms i) σ H, ⟨ds.length, rfl, Nat.zero_le _, K1, ⟨g0.h.trans g1.h, Ex.refl _, g1.s, fun _ _ z => z⟩, (ga.mo g1.k).sub h0, m0 _ _ (M.st g1 m)⟩, ?_⟩
  rintro i n σ2 H2 ⟨rfl, hi2, K2, g2, s2, m2⟩
  by_cases hlt : i < ds.length
  · refine .inr ⟨W.go i H2 hlt (g2.k.trans g2.s), Stt K1 Hb (Γs (i + 1)) (Ms (i + 1)), fun σ' H' p' => ⟨ds.length - (i + 1), by omega, rfl, hlt, p'⟩, fun x H' yl => ?_⟩
    have hdi : ds[i]? = some ds[i] := List.getElem?_eq_getElem hlt
    obtain ⟨K3, g3, step⟩ := W.turn i ds[i] K2 H2 x H' hdi g2.k g2.s yl
    exact step σ2 (Γs i) _ s2 fun σ' s3 _ => body i ds[i] hdi K1 up σ' H' ⟨K3, ⟨g2.h.trans g3.h, g2.k.trans g3.k, g3.s, fun a h1 h2 => g3.f a (g2.h.ne h1) (g2.f a h1 h2)⟩, s3, (Ms i).st g3 m2⟩
  · have e : i = ds.length := by omega
    subst e
    exact .inl ⟨W.stop H2 (g2.k.trans g2.s), k σ2 H2 ⟨K2, up _ _ g2, s2, m2⟩⟩
theorem bl_while {ι : Type} {c : Expr} (P : ι → Prop) (μ : ι → Nat) (Γs : ι → Ctx) (Ms : ι → Mt) (b : ι → Bool) (z : ι) (hz : P z) (h0 : Sub2 Γ (Γs z)) (m0 : ∀ K H, M.p K H → (Ms z).p K H)
    (test : ∀ i, P i → ∀ Kb' Hb', ∀ σ H, Stt Kb' Hb' (Γs i) (Ms i) σ H → ∀ Q : Bool → Hp → Prop, (∀ H', Stt Kb' Hb' (Γs i) (Ms i) σ H' → Q (b i) H') → wt X c σ H Q)
    (body : ∀ i, P i → b i = true → Bl X Kb Hb (Γs i) (Ms i) sts { D with nx := fun σ H => ∃ i', P i' ∧ μ i' < μ i ∧ Stt Kb Hb (Γs i') (Ms i') σ H, ct := fun σ H => ∃ i', P i' ∧ μ i' < μ i ∧ Stt Kb Hb (Γs i') (Ms i') σ H, bk := wss X rest D })
    (k : ∀ i, P i → b i = false → Bl X Kb Hb (Γs i) (Ms i) rest D) (hp : PassesOwn (model X.prog X.w) X.A X.env X.xe := by exact PassesOwn.never) : Bl X Kb Hb Γ M (.While c sts [] pos :: rest) D := fun σ H s => by
  refine wss_cons (ws_of (ps_while hp pt_wt pss_wss) ?_)
  refine ⟨fun n σ H => ∃ i, n = μ i ∧ P i ∧ Stt Kb Hb (Γs i) (Ms i) σ H, ⟨μ z, z, rfl, hz, s.sub h0 m0⟩, ?_⟩
  rintro n σ H ⟨i, rfl, hi, s⟩
  refine test i hi Kb Hb σ H s _ fun H' s' => ?_
  cases hb : b i with
  | true =>
    rw [if_pos rfl]
    exact ⟨_, fun σ' H' ⟨i', pi, lt, st⟩ => ⟨μ i', lt, i', rfl, pi, st⟩, body i hi hb σ H' s'⟩
  | false =>
    rw [if_neg Bool.false_ne_true]
    exact k i hi hb σ H' s'
end
end Z
end
section
set_option Elab.async false
set_option linter.all false
set_option maxRecDepth 100000
set_option maxHeartbeats 2000000
namespace Z
open PySem PySem.Spec PyProof.Rows L2

/-! ### promises by types -/
def Spt {α : Type} (pre : α → Prop) (args : α → List Ty) (res : α → Ty) : Sp := fun vs H Q _ => ∃ a K, pre a ∧ Ex K H ∧ All2 (args a) vs K ∧ ∀ v K' H', Gr K H K' H' → (res a).p v K' → Q v H'
/-- a def that may be called by its name -/
structure Cal (P : Program) (w : World) (K : PySem.W.Frag) (mg : Str → Option Value) (base : Heap) (x : Str) (k : Nat) (sp : Sp) : Prop where
  ex : ∃ f fd ps, FnOk P w K mg base CX0 k f fd ps sp ∧ mg x = some (.ref f) ∧ PySem.W.keepIn K (.ref f) = true ∧ Binds K fd ps []
section
variable {P : Program} {w : World} {K : PySem.W.Frag} {mg : Str → Option Value} {base : Heap}
theorem Cal.mono {x : Str} {j k : Nat} {sp : Sp} (c : Cal P w K mg base x j sp) (h : j ≤ k) : Cal P w K mg base x k sp :=
  let ⟨f, fd, ps, a, b, d, e⟩ := c.ex
  ⟨f, fd, ps, a.mono h, b, d, e⟩
/-- what differs from call to call -/
structure Bc where
  cd : Value
  A : Around
  outer : List Env
  s : Shared
  H : Hp
  E : XK
abbrev cxB (CX : CXT) (P : Program) (w : World) (K : PySem.W.Frag) (mg : Str → Option Value) (base : Heap) (N : List Str) (qual : Str) (scope : Scope) (f : Addr) (b : Bc) : Cx := (cxOf CX P w K mg base N qual scope f b.cd b.A b.outer b.s b.H b.E).nox
/-- a def by its body -/
theorem fn_ty {α : Type} {pre : α → Prop} {args : α → List Ty} {res : α → Ty} {k : Nat} {x qual : Str} {params : Arguments} {body : List Stmt} {scope : Scope} {f : Addr} {fd : FuncData} {dvs : List V} {kws : List (Str × V)} {N ps : List Str}
    (F : FunD K x qual params body scope dvs kws f fd) (S : FnScope N ps scope) (hl : ∀ a, (args a).length = ps.length)
    (hb : ∀ a, pre a → ∀ b : Bc, Room k (cxB CX0 P w K mg base N qual scope f b).A → ∀ Kb Hb D, D.nx = (fun _ H' => D.rt .non H') → (∀ v K' H', Gr Kb Hb K' H' → (res a).p v K' → D.rt v H') →
      Bl (cxB CX0 P w K mg base N qual scope f b) Kb Hb ((args a).map some ++ List.replicate (N.length - (args a).length) none) mNone body D) : FnOk P w K mg base CX0 (k + 1) f fd ps (Spt pre args res) := by
  refine F.ok S (fun vs H Q E h => ?_) (fun cdv A outer s H vs Q E hr h => ?_)
  · obtain ⟨a, K', _, _, q, _⟩ := h
    rw [q.len, hl]
  · obtain ⟨a, K', hp, s', q, k'⟩ := h
    refine ⟨wss _ body, PSs.nox pss_wss, ?_⟩
    refine hb a hp ⟨cdv, A, outer, s, H, E⟩ hr K' H { nx := fun _ H' => Q .non H', rt := Q } rfl k' _ _ ⟨K', Gr.refl s', ?_, trivial⟩
    have z := Sat.start (N.length - (args a).length) q
    unfold L2.start
    rw [q.len]
    exact z
theorem cal_ty {α : Type} {pre : α → Prop} {args : α → List Ty} {res : α → Ty} {k : Nat} {x qual y : Str} {params : Arguments} {body : List Stmt} {scope : Scope} {f : Addr} {fd : FuncData} {N ps : List Str}
    (F : FunD K x qual params body scope [] [] f fd) (hm : mg y = some (.ref f)) (S : FnScope N ps scope) (hl : ∀ a, (args a).length = ps.length)
    (hbi : ∀ (kV doc pm : Value) (an : Option Addr) (cdv ct : Value) (us : List Value), us.length = ps.length → bindArgs (PySem.W.fnOf x qual params body scope .none kV doc pm an cdv ct) ⟨us, []⟩ = pure (ps.zip us))
    (hb : ∀ a, pre a → ∀ b : Bc, Room k (cxB CX0 P w K mg base N qual scope f b).A → ∀ Kb Hb D, D.nx = (fun _ H' => D.rt .non H') → (∀ v K' H', Gr Kb Hb K' H' → (res a).p v K' → D.rt v H') →
      Bl (cxB CX0 P w K mg base N qual scope f b) Kb Hb ((args a).map some ++ List.replicate (N.length - (args a).length) none) mNone body D) : Cal P w K mg base y (k + 1) (Spt pre args res) :=
  ⟨f, fd, ps, fn_ty F S hl hb, hm, F.kp, F.bindsN hbi⟩
end

section
variable {X : Cx} {Γ : Ctx} {e o : Expr} {es : List Expr} {t : Ty} {ts : List Ty} {pos p apos : Pos} {x : Str} {k : Nat} {α : Type} {pre : α → Prop} {args : α → List Ty} {res : α → Ty}
theorem has_call (F : Cal X.prog X.w X.K X.mg X.base x k (Spt pre args res)) (a : α) (hp : pre a) (ha : HasA X Γ (e :: es) (args a)) (hr : Room k X.A) (hg : Gl X x := by rfl) (hdb : (x == ("__debug__" : Str)) = false := by decide)
    (he : starEach (e :: es) X.env = (false, eval e X.env) :: starEach es X.env := by rfl) (hpl : (backTo pos (starEach es X.env)).any (·.1) = false := by rfl) : Has X Γ (.Call (.Name x p) (e :: es) [] pos) (res a) := fun σ K H s g Q q => by
  obtain ⟨f, fd, ps, G, hm, hk, hb⟩ := F.ex
  refine we_of (pe_call G hr hg hm hk hb .nil pass0 pa_wa hdb he hpl) (ha σ K H s g _ fun vs K1 H1 g1 h1 => ?_)
  refine ⟨a, K1, hp, g1.s, ?_, fun v K2 H2 g2 h2 => q v K2 H2 (g1.trans g2) h2⟩
  rw [List.append_nil]
  exact h1

/-! ### objects -/
def AllF : List (Str × Ty) → List (Str × V) → Hp → Prop
  | [], [], _ => True
  | (f, t) :: ts, (g, v) :: vs, H => f = g ∧ t.p v H ∧ AllF ts vs H
  | _, _, _ => False
theorem AllF.mo : ∀ {ts : List (Str × Ty)} {vs : List (Str × V)} {H H' : Hp}, Ex H H' → AllF ts vs H → AllF ts vs H'
  | [], [], _, _, _, _ => trivial
  | (_, t) :: _, (_, _) :: _, _, _, e, ⟨a, h, r⟩ => ⟨a, t.mo e h, AllF.mo e r⟩
  | [], _ :: _, _, _, _, h => h.elim
  | _ :: _, [], _, _, _, h => h.elim
theorem AllF.look : ∀ {ts : List (Str × Ty)} {vs : List (Str × V)} {H : Hp} {f : Str} {t : Ty}, AllF ts vs H → ts.lookup f = some t → ∃ v, vs.lookup f = some v ∧ t.p v H
  | [], [], _, _, _, _, h => by simp at h
  | (g, u) :: ts, (g', v) :: vs, _, f, t, ⟨e0, a, r⟩, h => by
    subst e0
    rw [List.lookup_cons] at h ⊢
    cases q : f == g with
    | true =>
      rw [q] at h
      exact ⟨v, rfl, by rw [← Option.some.inj h]; exact a⟩
    | false =>
      rw [q] at h
      exact AllF.look r h
  | [], _ :: _, _, _, _, h, _ => h.elim
  | _ :: _, [], _, _, _, h, _ => h.elim
theorem AllF.none : ∀ {ts : List (Str × Ty)} {vs : List (Str × V)} {H : Hp} {f : Str}, AllF ts vs H → ts.lookup f = Option.none → vs.lookup f = Option.none
  | [], [], _, _, _, _ => rfl
  | (g, u) :: ts, (g', v) :: vs, _, f, ⟨e0, a, r⟩, h => by
    subst e0
    rw [List.lookup_cons] at h ⊢
    cases q : f == g with
    | true =>
      rw [q] at h
      cases h
    | false =>
      rw [q] at h
      exact AllF.none r h
  | [], _ :: _, _, _, h, _ => h.elim
  | _ :: _, [], _, _, h, _ => h.elim
theorem AllF.len : ∀ {ts : List (Str × Ty)} {vs : List (Str × V)} {H : Hp}, AllF ts vs H → vs.length = ts.length
  | [], [], _, _ => rfl
  | _ :: _, _ :: _, _, ⟨_, _, r⟩ => by rw [List.length_cons, List.length_cons, AllF.len r]
  | [], _ :: _, _, h => h.elim
  | _ :: _, [], _, h => h.elim
theorem putF_new {f : Str} {v : V} : ∀ {vs : List (Str × V)}, vs.lookup f = Option.none → putF f v vs = vs ++ [(f, v)]
  | [], _ => rfl
  | (g, x) :: r, h => by
    rw [List.lookup_cons] at h
    cases q : f == g with
    | true =>
      rw [q] at h
      cases h
    | false =>
      rw [q] at h
      have ne : ¬ g = f := fun z => by
        rw [z, beq_self_eq_true] at q
        cases q
      show (if g = f then (g, v) :: r else (g, x) :: putF f v r) = _
      rw [if_neg ne, putF_new h]
      rfl
theorem AllF.put : ∀ {ts : List (Str × Ty)} {vs : List (Str × V)} {H : Hp} {f : Str} {t : Ty} {v : V}, AllF ts vs H → t.p v H → AllF (ts ++ [(f, t)]) (vs ++ [(f, v)]) H
  | [], [], _, _, _, _, _, q => ⟨rfl, q, trivial⟩
  | (g, u) :: ts, (g', v) :: vs, _, f, t, _, ⟨h, a, r⟩, q => ⟨h, a, AllF.put r q⟩
  | [], _ :: _, _, _, _, _, h, _ => h.elim
  | _ :: _, [], _, _, _, _, h, _ => h.elim
/-- an instance of the class at C -/
def tO (C : Addr) (fs : List (Str × Ty)) : Ty := ⟨fun v H => ∃ a dx vs, v = .ref a ∧ H a = some (.ins C dx vs) ∧ AllF fs vs H, fun e ⟨a, dx, vs, h, q, r⟩ => ⟨a, dx, vs, h, e _ _ q, r.mo e⟩⟩
theorem has_fld {C : Addr} {fs : List (Str × Ty)} {f : Str} (c : Cls X.K C) (n : NoAttr X.K C f) (h : Has X Γ e (tO C fs)) (hf : fs.lookup f = some t) (hb : attributeBase e f X.env (eval e X.env) = eval e X.env := by rfl) : Has X Γ (.Attribute e f pos) t := fun σ K H s g Q q =>
  we_of (pe_fld pe_we hb) (h σ K H s g _ fun v K1 H1 g1 ⟨a, dx, vs, ev, ha, hv⟩ => by
    obtain ⟨u, hu, tu⟩ := hv.look hf
    exact ⟨a, C, dx, vs, u, ev, g1.s _ _ ha, c, n, hu, q u K1 H1 g1 tu⟩)
/-- a property: the getter's promise -/
theorem has_prop {C pa ga : Addr} {fs : List (Str × Ty)} {f : Str} {fd : FuncData} (c : Cls X.K C) (hp : PropOf X.K C f pa ga) (F : FnOk X.prog X.w X.K X.mg X.base CX0 k ga fd ["self"] (Spt pre args res)) (hbi : Binds X.K fd ["self"] []) (a : α) (pa' : pre a) (hargs : args a = [tO C fs])
    (h : Has X Γ e (tO C fs)) (hr : Room (k + 1) X.A) (hb : attributeBase e f X.env (eval e X.env) = eval e X.env := by rfl) : Has X Γ (.Attribute e f pos) (res a) := fun σ K H s g Q q =>
  we_of (pe_prop pe_we c hp F hr hbi .nil pass0 hb) (h σ K H s g _ fun v K1 H1 g1 tv => by
    obtain ⟨a', dx, vs, ev, ha, hv⟩ := id tv
    subst ev
    exact ⟨a', dx, vs, rfl, g1.s _ _ ha, a, K1, pa', g1.s, by rw [hargs]; exact ⟨tv, trivial⟩, fun v K2 H2 g2 h2 => q v K2 H2 (g1.trans g2) h2⟩)
theorem has_meth0 {C f : Addr} {fs : List (Str × Ty)} {m : Str} {fd : FuncData} {ps : List Str} {pl : Sem Bool} (c : Cls X.K C) (hm : Meth X.K C m f) (F : FnOk X.prog X.w X.K X.mg X.base CX0 k f fd ps (Spt pre args res)) (hbi : Binds X.K fd ps []) (a : α) (pa' : pre a) (hargs : args a = [tO C fs])
    (h : Has X Γ o (tO C fs)) (hr : Room k X.A) (hno : fs.lookup m = none := by rfl)
    (ht : eval (.Call (.Attribute o m apos) [] [] pos) X.env = (do
      let ov ← eval o X.env
      standAt apos.atName
      let (f, first) ← holding [ov] (getMethod ov m pl)
      callWith pos f first (backTo pos (starEach [] X.env)) (backToKw pos (keywordEach [] X.env))) := by rfl) : Has X Γ (.Call (.Attribute o m apos) [] [] pos) (res a) := fun σ K H s g Q q =>
  we_of (pe_meth0 (pl := pl) pe_we c hm F hr hbi .nil pass0 ht) (h σ K H s g _ fun v K1 H1 g1 tv => by
    obtain ⟨a', dx, vs, ev, ha, hv⟩ := id tv
    subst ev
    exact ⟨a', dx, vs, rfl, g1.s _ _ ha, hv.none hno, a, K1, pa', g1.s, by rw [hargs]; exact ⟨tv, trivial⟩, fun v K2 H2 g2 h2 => q v K2 H2 (g1.trans g2) h2⟩)
theorem has_meth1 {C f : Addr} {fs : List (Str × Ty)} {m : Str} {fd : FuncData} {ps : List Str} {pl : Sem Bool} (c : Cls X.K C) (hm : Meth X.K C m f) (F : FnOk X.prog X.w X.K X.mg X.base CX0 k f fd ps (Spt pre args res)) (hbi : Binds X.K fd ps []) (a : α) (pa' : pre a) (hargs : args a = tO C fs :: ts)
    (h : Has X Γ o (tO C fs)) (ha : HasA X Γ (e :: es) ts) (hr : Room k X.A) (hno : fs.lookup m = none := by rfl)
    (hst : starEach (e :: es) X.env = (false, eval e X.env) :: starEach es X.env := by rfl) (hpl : (backTo pos (starEach es X.env)).any (·.1) = false := by rfl)
    (ht : eval (.Call (.Attribute o m apos) (e :: es) [] pos) X.env = (do
      let ov ← eval o X.env
      standAt apos.atName
      let (f, first) ← holding [ov] (getMethod ov m pl)
      callWith pos f first (backTo pos (starEach (e :: es) X.env)) (backToKw pos (keywordEach [] X.env))) := by rfl) : Has X Γ (.Call (.Attribute o m apos) (e :: es) [] pos) (res a) := fun σ K H s g Q q =>
  we_of (pe_meth (pl := pl) pe_we c hm F hr hbi .nil pass0 pa_wa hst hpl ht) (h σ K H s g _ fun v K1 H1 g1 tv => by
    obtain ⟨a', dx, vs, ev, ha', hv⟩ := id tv
    subst ev
    refine ⟨a', dx, vs, rfl, g1.s _ _ ha', hv.none hno, ha σ K1 H1 g1.s (g.mo g1.k) _ fun us K2 H2 g2 h2 => ⟨a, K2, pa', g2.s, ?_, fun v K3 H3 g3 h3 => q v K3 H3 ((g1.trans g2).trans g3) h3⟩⟩
    rw [hargs, List.append_nil]
    exact ⟨(tO C fs).mo g2.k tv, h2⟩)

/-! ### making instances -/
/-- what __init__ promises: x, new and bare, gets its fields -/
def Spi {α : Type} (C : Addr) (pre : α → Prop) (args : α → List Ty) (res : α → List (Str × Ty)) : Sp := fun vs H Q _ => ∃ a K x dx ws, vs = .ref x :: ws ∧ K x = none ∧ H x = some (.ins C dx []) ∧ pre a ∧ Ex K H ∧ All2 (args a) ws K ∧
  ∀ K' H' dx' vs', Ex K K' → Ex K' H' → K' x = none → (∀ b o, b ≠ x → H b = some o → H' b = some o) → (∀ b, H b ≠ none → K b = none → K' b = none) → H' x = some (.ins C dx' vs') → AllF (res a) vs' K' → Q .non H'
def tI0 (x : Addr) : Ty := tV (.ref x)
/-- the instance that is being made -/
def mIns (x C : Addr) (fs : List (Str × Ty)) : Mt := ⟨fun K H => K x = none ∧ ∃ dx vs, H x = some (.ins C dx vs) ∧ AllF fs vs K, fun g ⟨a, dx, vs, b, c⟩ => ⟨g.f x (by rw [b]; exact Option.some_ne_none _) a, dx, vs, g.h _ _ b, c.mo g.k⟩⟩
def hide (x : Addr) (H : Hp) : Hp := fun a => if a = x then none else H a
theorem hide_same {x : Addr} {H : Hp} : hide x H x = none := if_pos rfl
theorem hide_ne {x a : Addr} {H : Hp} (h : a ≠ x) : hide x H a = H a := if_neg h
theorem hide_ex {x : Addr} {H : Hp} : Ex (hide x H) H := fun a o e => by
  by_cases h : a = x
  · rw [h, hide_same] at e
    cases e
  · rw [hide_ne h] at e
    exact e
theorem bl_fld {M : Mt} {Kb Hb : Hp} {D : Ends} {rest : List Stmt} {x C : Addr} {fs : List (Str × Ty)} {f y : Str} {p1 p2 : Pos} (i : Nat) (hG : Γ[i]? = some (some (tV (.ref x)))) (hb : Hb x = none) (hM : M.fr x) (c : Cls X.K C) (n : NoAttr X.K C f) (hno : fs.lookup f = none) (hl : fs.length < 900)
    (h : Has X Γ e t) (k : Bl X Kb Hb Γ (mAnd (mIns x C (fs ++ [(f, t)])) M) rest D) (hi : X.N[i]? = some y := by rfl) (hv : Vis X.env.scope y := by first | exact Or.inl rfl | exact Or.inr (Or.inl rfl) | exact Or.inr (Or.inr rfl))
    (hs : swapsWith e (some (.Attribute (.Name y p1) f p2)) pos.line X.env = pure false := by rfl) (hd : (y == ("__debug__" : Str)) = false := by decide) (hcd : (y == ("__classdict__" : Str)) = false := by decide) :
    Bl X Kb Hb Γ (mAnd (mIns x C fs) M) (.Assign [.Attribute (.Name y p1) f p2] e pos :: rest) D := fun σ H s => by
  obtain ⟨K, g, sa, ⟨ma, dx, vs, mb, mc⟩, mm⟩ := s
  refine wss_cons (ws_of (ps_fld (pe_var hi hv hd hcd) pe_we hs) (h σ K H g.s sa _ fun v K1 H1 g1 tv => ?_))
  obtain ⟨v', e1, e2⟩ := sa.get hG
  have e2' : v' = .ref x := e2
  subst e2'
  have mb1 := g1.h _ _ mb
  have ma1 := g1.f x (by rw [mb]; exact Option.some_ne_none _) ma
  refine ⟨_, e1, x, C, dx, vs, rfl, mb1, c, n, by rw [mc.len]; omega, ?_⟩
  rw [putF_new (mc.none hno)]
  exact k σ _ ⟨K1, (g.trans g1).change hb ma1, sa.mo g1.k, ⟨ma1, dx, _, upd_same, (mc.mo g1.k).put tv⟩, hM _ _ _ (M.st g1 mm)⟩
theorem has_make {C f : Addr} {fd : FuncData} {ps : List Str} {ri : α → List (Str × Ty)} {ds : List Value} {dvs : List V} {dts : List Ty} (Mk' : Mk X.K C f) (F : FnOk X.prog X.w X.K X.mg X.base CX0 k f fd ps (Spi C pre args ri)) (hbi : Binds X.K fd ps ds) (hd : Vals dvs ds) (hdt : ∀ H, All2 dts dvs H) (hm : X.mg x = some (.ref C)) (a : α) (pa' : pre a)
    (hargs : args a = ts ++ dts) (ha : HasA X Γ (e :: es) ts) (hr : Room (k + 1) X.A) (hg : Gl X x := by rfl) (hdb : (x == ("__debug__" : Str)) = false := by decide)
    (he : starEach (e :: es) X.env = (false, eval e X.env) :: starEach es X.env := by rfl) (hpl : (backTo pos (starEach es X.env)).any (·.1) = false := by rfl) : Has X Γ (.Call (.Name x p) (e :: es) [] pos) (tO C (ri a)) := fun σ K H s g Q q => by
  refine we_of (pe_make Mk' F hr hg hm hbi hd pass0 pa_wa hdb he hpl) (ha σ K H s g _ fun vs K1 H1 g1 h1 x' dx nx ndx ne => ?_)
  have kx : K1 x' = none := g1.s.back nx
  have kd : K1 dx = none := g1.s.back ndx
  refine ⟨a, K1, x', dx, vs ++ dvs, rfl, kx, upd_same, pa', (g1.s.past kd).past kx, by rw [hargs]; exact h1.app (hdt _), fun K' H' dx' vs' ek es' kx' hk hf hx hv => ⟨rfl, ?_⟩⟩
  have e0 : Ex H1 H' := fun b o hb => hk b o (fun z => by rw [z, nx] at hb; cases hb) (by
    rw [upd_ne (fun z => by rw [z, nx] at hb; cases hb), upd_ne (fun z => by rw [z, ndx] at hb; cases hb)]
    exact hb)
  have ek2 : Ex K' (upd K' x' (.ins C dx' vs')) := Ex.new kx'
  refine q _ (upd K' x' (.ins C dx' vs')) H' (g1.trans ⟨e0, ek.trans ek2, fun b o hb => ?_, fun b hb kb => ?_⟩) ⟨x', dx', vs', rfl, upd_same, hv.mo ek2⟩
  · by_cases z : b = x'
    · subst z
      rw [upd_same] at hb
      rw [← hb]
      exact hx
    · rw [upd_ne z] at hb
      exact es' b o hb
  · have z : b ≠ x' := fun z => hb (by rw [z]; exact nx)
    rw [upd_ne z]
    refine hf b ?_ kb
    rw [upd_ne z]
    by_cases zd : b = dx
    · rw [zd, upd_same]
      exact Option.some_ne_none _
    · rw [upd_ne zd]
      exact hb
/-- __init__ by its body -/
theorem init_ty {P : Program} {w : World} {K : PySem.W.Frag} {mg : Str → Option Value} {base : Heap} {C : Addr} {ri : α → List (Str × Ty)} {k : Nat} {x qual : Str} {params : Arguments} {body : List Stmt} {scope : Scope} {f : Addr} {fd : FuncData} {dvs : List V} {kws : List (Str × V)} {N ps : List Str}
    (F : FunD K x qual params body scope dvs kws f fd) (S : FnScope N ps scope) (hl : ∀ a, (args a).length + 1 = ps.length)
    (hb : ∀ a, pre a → ∀ b : Bc, Room k (cxB CX0 P w K mg base N qual scope f b).A → ∀ Kb Hb D y, Hb y = none → D.nx = (fun _ H' => D.rt .non H') → (∀ K' H', Gr Kb Hb K' H' → (mIns y C (ri a)).p K' H' → D.rt .non H') →
      Bl (cxB CX0 P w K mg base N qual scope f b) Kb Hb ((tV (.ref y) :: args a).map some ++ List.replicate (N.length - (tV (.ref y) :: args a).length) none) (mAnd (mIns y C []) mNone) body D) : FnOk P w K mg base CX0 (k + 1) f fd ps (Spi C pre args ri) := by
  refine F.ok S (fun vs H Q E h => ?_) (fun cdv A outer s H vs Q E hr h => ?_)
  · obtain ⟨a, K', x', dx, ws, rfl, _, _, _, _, q, _⟩ := h
    rw [List.length_cons, q.len, hl]
  · obtain ⟨a, K', y, dx, ws, rfl, ky, hy, hp, s', q, k'⟩ := h
    refine ⟨wss _ body, PSs.nox pss_wss, ?_⟩
    have hs : Ex K' (hide y H) := fun b o e => by
      rw [hide_ne fun z => by rw [z, ky] at e; cases e]
      exact s' b o e
    refine hb a hp ⟨cdv, A, outer, s, H, E⟩ hr K' (hide y H) { nx := fun _ H' => Q .non H', rt := Q } y hide_same rfl (fun K2 H2 g2 ⟨m1, dx2, vs2, m2, m3⟩ => ?_) _ _ ⟨K', ⟨hide_ex, Ex.refl _, s', fun _ _ z => z⟩, ?_, ⟨ky, dx, [], hy, trivial⟩, trivial⟩
    · refine k' K2 H2 dx2 vs2 g2.k g2.s m1 (fun b o hb e => g2.h b o (by rw [hide_ne hb]; exact e)) (fun b hb kb => ?_) m2 m3
      by_cases z : b = y
      · rw [z]
        exact m1
      · exact g2.f b (by rw [hide_ne z]; exact hb) kb
    · have z := Sat.start (ts := tV (.ref y) :: args a) (vs := .ref y :: ws) (H := K') (N.length - (tV (.ref y) :: args a).length) ⟨rfl, q⟩
      unfold L2.start
      rw [show (V.ref y :: ws).length = (tV (.ref y) :: args a).length by rw [List.length_cons, List.length_cons, q.len]]
      exact z
end
end Z
end
section
set_option Elab.async false
set_option linter.all false
set_option maxRecDepth 100000
set_option maxHeartbeats 2000000
namespace Z
open PySem PySem.Spec PyProof.Rows L2

/-! ### built-in operations by types -/
section
variable {X : Cx} {i j : Int} {as bs ts : List Ty} {t u : Ty}
theorem op_I0 {g : Int → Int → V} : Op2 (rI0 g) (tI i) (tI j) (tV (g i j)) := fun x y K H s hx hy Q q => ⟨i, j, hx, hy, q _ K H (Gr.refl s) rfl⟩
theorem op_I {C : Int → Int → Prop} {g : Int → Int → V} (h : C i j) : Op2 (rI C g) (tI i) (tI j) (tV (g i j)) := fun x y K H s hx hy Q q => ⟨i, j, hx, hy, h, q _ K H (Gr.refl s) rfl⟩
theorem bt_add : BinT X .Add (tI i) (tI j) (tI (i + j)) := ⟨_, op_add, op_I0⟩
theorem bt_sub : BinT X .Sub (tI i) (tI j) (tI (i - j)) := ⟨_, op_sub, op_I0⟩
theorem bt_mul (h : CMulW i j) : BinT X .Mult (tI i) (tI j) (tI (i * j)) := ⟨_, op_mulW, op_I h⟩
theorem bt_mulL (h : CMul i j) : BinT X .Mult (tI i) (tI j) (tI (i * j)) := ⟨_, op_mul, op_I h⟩
theorem bt_fdiv (h : CDivW i j) : BinT X .FloorDiv (tI i) (tI j) (tI (i / j)) := ⟨_, op_fdivW, op_I h⟩
theorem bt_mod (h : 0 < j) : BinT X .Mod (tI i) (tI j) (tI (i % j)) := ⟨_, op_mod, op_I h⟩
theorem bt_pow (h : CPow i j) : BinT X .Pow (tI i) (tI j) (tI (i ^ j.toNat)) := ⟨_, op_pow, op_I h⟩
theorem ct_lt : CmpT X .Lt (tI i) (tI j) (tB (decide (i < j))) := ⟨_, op_lt, op_I0⟩
theorem ct_le : CmpT X .LtE (tI i) (tI j) (tB (decide (i ≤ j))) := ⟨_, op_le, op_I0⟩
theorem ct_gt : CmpT X .Gt (tI i) (tI j) (tB (decide (j < i))) := ⟨_, op_gt, op_I0⟩
theorem ct_ge : CmpT X .GtE (tI i) (tI j) (tB (decide (j ≤ i))) := ⟨_, op_ge, op_I0⟩
theorem ct_eqV {x y : V} (h : scal x y = true := by rfl) : CmpT X .Eq (tV x) (tV y) (tB (decide (x = y))) := ⟨_, op_eq, fun a b K H s ha hb Q q => by
  have ha' : a = x := ha
  have hb' : b = y := hb
  subst ha' hb'
  exact ⟨h, q _ K H (Gr.refl s) rfl⟩⟩
theorem ct_neV {x y : V} (h : scal x y = true := by rfl) : CmpT X .NotEq (tV x) (tV y) (tB (!decide (x = y))) := ⟨_, op_ne, fun a b K H s ha hb Q q => by
  have ha' : a = x := ha
  have hb' : b = y := hb
  subst ha' hb'
  exact ⟨h, q _ K H (Gr.refl s) rfl⟩⟩
theorem dec_VI {k : Bool} (h : decide (i = j) = k) : decide (V.int i = V.int j) = k := by
  rw [← h]
  by_cases e : i = j
  · subst e
    simp
  · rw [decide_eq_false e, decide_eq_false fun z => e (V.int.inj z)]
theorem dec_VB {a b : Bool} : decide (V.bl a = V.bl b) = (a == b) := by cases a <;> cases b <;> rfl
theorem ct_eqI : CmpT X .Eq (tI i) (tI j) (tB (decide (i = j))) := by
  have z := ct_eqV (X := X) (x := V.int i) (y := V.int j)
  rw [dec_VI rfl] at z
  exact z
theorem ct_neI : CmpT X .NotEq (tI i) (tI j) (tB (!decide (i = j))) := by
  have z := ct_neV (X := X) (x := V.int i) (y := V.int j)
  rw [dec_VI rfl] at z
  exact z
theorem ct_isN {k : Bool} (h : ∀ v H, t.p v H → decide (v = V.non) = k) : CmpT X .Is t tNone (tB k) := ⟨_, op_isN, fun a b K H s ha hb Q q => ⟨hb, q _ K H (Gr.refl s) (by rw [h a K ha]; rfl)⟩⟩
theorem bt_cat (h : as.length + bs.length ≤ 1000) : BinT X .Add (tL as) (tL bs) (tL (as ++ bs)) := ⟨_, op_cat, fun x y K H s hx hy Q q => by
  obtain ⟨a, xs, rfl, ha, xa⟩ := hx
  obtain ⟨b, ys, rfl, hb, yb⟩ := hy
  refine ⟨a, b, xs, ys, rfl, rfl, s _ _ ha, s _ _ hb, by rw [xa.len, yb.len]; exact Nat.le_of_lt (small1000 h), fun p hp => ?_⟩
  have g := Gr.new (o := .lst (xs ++ ys)) s hp
  exact q _ _ _ g ⟨p, _, rfl, upd_same, (xa.mo g.k).app (yb.mo g.k)⟩⟩
theorem All2.rep {vs : List V} {H : Hp} (h : All2 ts vs H) : ∀ n : Nat, All2 (List.replicate n ts).flatten (List.replicate n vs).flatten H
  | 0 => trivial
  | n + 1 => by
    rw [List.replicate_succ, List.replicate_succ, List.flatten_cons, List.flatten_cons]
    exact h.app (All2.rep h n)
theorem bt_rep {n : Nat} (h : ts.length * n ≤ 1000) (hn : n ≤ 1000) : BinT X .Mult (tL ts) (tI (n : Int)) (tL (List.replicate n ts).flatten) := ⟨_, op_rep, fun x y K H s hx hy Q q => by
  obtain ⟨a, xs, rfl, ha, xa⟩ := hx
  refine ⟨a, (n : Int), xs, rfl, hy, s _ _ ha, by omega, by omega, by rw [xa.len, Int.toNat_natCast]; exact Nat.le_of_lt (small1000 h), fun p hp => ?_⟩
  have g := Gr.new (o := .lst (List.replicate n xs).flatten) s hp
  exact q _ _ _ g ⟨p, _, rfl, upd_same, (xa.mo g.k).rep n⟩⟩
theorem ix_L {k : Nat} (h : ts[k]? = some t) : IxT X (tL ts) (tI (k : Int)) t := ⟨_, ix_list, fun x y K H s hx hy Q q => by
  obtain ⟨a, xs, rfl, ha, xa⟩ := hx
  obtain ⟨v, hv, tv⟩ := xa.at h
  exact ⟨a, xs, (k : Int), v, rfl, hy, SqL.of (s _ _ ha), atI_nat hv, q v K H (Gr.refl s) tv⟩⟩
theorem ix_T {k : Nat} (h : ts[k]? = some t) : IxT X (tT ts) (tI (k : Int)) t := ⟨_, ix_tup, fun x y K H s hx hy Q q => by
  obtain ⟨a, xs, rfl, ha, xa⟩ := hx
  obtain ⟨v, hv, tv⟩ := xa.at h
  exact ⟨a, xs, (k : Int), v, rfl, hy, SqT.of (s _ _ ha), atI_nat hv, q v K H (Gr.refl s) tv⟩⟩
theorem ct_len : CallT X (.builtin "len") [tL ts] (tI (ts.length : Int)) := ⟨_, call_len_seq, fun vs K H s hv Q q => by
  obtain ⟨v, rfl, a, xs, rfl, ha, xa⟩ := hv.one
  exact ⟨a, xs, rfl, .inl (SqL.of (s _ _ ha)), q _ K H (Gr.refl s) (by rw [xa.len]; rfl)⟩⟩
theorem ct_lenT : CallT X (.builtin "len") [tT ts] (tI (ts.length : Int)) := ⟨_, call_len_seq, fun vs K H s hv Q q => by
  obtain ⟨v, rfl, a, xs, rfl, ha, xa⟩ := hv.one
  exact ⟨a, xs, rfl, .inr (SqT.of (s _ _ ha)), q _ K H (Gr.refl s) (by rw [xa.len]; rfl)⟩⟩
theorem ct_lenQ : CallT X (.builtin "len") [tQ ts] (tI (ts.length : Int)) := ⟨_, call_len_seq, fun vs K H s hv Q q => by
  obtain ⟨v, rfl, h⟩ := hv.one
  rcases h with ⟨a, xs, rfl, ha, xa⟩ | ⟨a, xs, rfl, ha, xa⟩
  · exact ⟨a, xs, rfl, .inl (SqL.of (s _ _ ha)), q _ K H (Gr.refl s) (by rw [xa.len]; rfl)⟩
  · exact ⟨a, xs, rfl, .inr (SqT.of (s _ _ ha)), q _ K H (Gr.refl s) (by rw [xa.len]; rfl)⟩⟩
theorem ct_int : CallT X (.type "int") [tI i] (tI i) := ⟨_, call_int1, fun vs K H s hv Q q => by
  obtain ⟨v, rfl, e⟩ := hv.one
  have e' : v = .int i := e
  subst e'
  exact .inl ⟨i, rfl, q _ K H (Gr.refl s) rfl⟩⟩
theorem ct_intB {k : Bool} : CallT X (.type "int") [tB k] (tI (if k = true then 1 else 0)) := ⟨_, call_int1, fun vs K H s hv Q q => by
  obtain ⟨v, rfl, e⟩ := hv.one
  have e' : v = .bl k := e
  subst e'
  exact .inr ⟨k, rfl, q _ K H (Gr.refl s) rfl⟩⟩
theorem ct_abs : CallT X (.builtin "abs") [tI i] (tI (if i < 0 then -i else i)) := ⟨_, call_abs, fun vs K H s hv Q q => by
  obtain ⟨v, rfl, e⟩ := hv.one
  have e' : v = .int i := e
  subst e'
  exact ⟨i, rfl, q _ K H (Gr.refl s) rfl⟩⟩
theorem ct_max (hc : X.calm = true) : CallT X (.builtin "max") [tI i, tI j] (tI (if j > i then j else i)) := ⟨_, call_max2 hc, fun vs K H s hv Q q => by
  obtain ⟨v, w, rfl, e, e2⟩ := hv.two
  have e' : v = .int i := e
  have e2' : w = .int j := e2
  subst e' e2'
  exact ⟨i, j, rfl, q _ K H (Gr.refl s) rfl⟩⟩
theorem ct_min (hc : X.calm = true) : CallT X (.builtin "min") [tI i, tI j] (tI (if j < i then j else i)) := ⟨_, call_min2 hc, fun vs K H s hv Q q => by
  obtain ⟨v, w, rfl, e, e2⟩ := hv.two
  have e' : v = .int i := e
  have e2' : w = .int j := e2
  subst e' e2'
  exact ⟨i, j, rfl, q _ K H (Gr.refl s) rfl⟩⟩
theorem All2.bls : ∀ {bs : List Bool} {vs : List V} {H : Hp}, All2 (bs.map tB) vs H → vs = bs.map V.bl
  | [], [], _, _ => rfl
  | n :: ns, v :: vs, _, h => by
    have a : v = .bl n := h.1
    rw [a, All2.bls (bs := ns) h.2]
    rfl
  | [], _ :: _, _, h => h.elim
  | _ :: _, [], _, h => h.elim
theorem ct_all {bs : List Bool} (hc : X.calm = true) : CallT X (.builtin "all") [tL (bs.map tB)] (tB (bs.all id)) := ⟨_, cr_all hc, fun vs K H s hv Q q => by
  obtain ⟨v, rfl, a, xs, rfl, ha, xa⟩ := hv.one
  rw [xa.bls] at ha
  exact ⟨a, bs, rfl, SqL.of (s _ _ ha), q _ K H (Gr.refl s) rfl⟩⟩
theorem ct_sum {ns : List Int} (hc : X.calm = true) : CallT X (.builtin "sum") [tL (ns.map tI)] (tI ns.sum) := ⟨_, cr_sum hc, fun vs K H s hv Q q => by
  obtain ⟨v, rfl, a, xs, rfl, ha, xa⟩ := hv.one
  rw [xa.ints] at ha
  exact ⟨a, ns, rfl, SqL.of (s _ _ ha), q _ K H (Gr.refl s) rfl⟩⟩
theorem ct_tupL : CallT X (.type "tuple") [tL ts] (tT ts) := ⟨_, call_tuple_of, fun vs K H s hv Q q => by
  obtain ⟨v, rfl, a, xs, rfl, ha, xa⟩ := hv.one
  refine ⟨a, xs, rfl, .inl ⟨SqL.of (s _ _ ha), fun l hl => ?_⟩⟩
  have g := Gr.new (o := .tup xs) s hl
  exact q _ _ _ g ⟨l, xs, rfl, upd_same, xa.mo g.k⟩⟩
theorem ct_tupT : CallT X (.type "tuple") [tT ts] (tT ts) := ⟨_, call_tuple_of, fun vs K H s hv Q q => by
  obtain ⟨v, rfl, a, xs, rfl, ha, xa⟩ := hv.one
  exact ⟨a, xs, rfl, .inr ⟨SqT.of (s _ _ ha), q _ K H (Gr.refl s) ⟨a, xs, rfl, ha, xa⟩⟩⟩⟩
theorem ct_listT : CallT X (.type "list") [tT ts] (tL ts) := ⟨_, call_list_of, fun vs K H s hv Q q => by
  obtain ⟨v, rfl, a, xs, rfl, ha, xa⟩ := hv.one
  refine ⟨a, xs, rfl, .inr (SqT.of (s _ _ ha)), fun l hl => ?_⟩
  have g := Gr.new (o := .lst xs) s hl
  exact q _ _ _ g ⟨l, xs, rfl, upd_same, xa.mo g.k⟩⟩
theorem ct_sorted {ns : List Int} (h : ns.length < 64) : CallT X (.builtin "sorted") [tL (ns.map tI)] (tE (fun ms : List Int => ms.Perm ns ∧ ms.Pairwise (· ≤ ·)) fun ms => tL (ms.map tI)) := ⟨_, cr_sorted, fun vs K H s hv Q q => by
  obtain ⟨v, rfl, a, xs, rfl, ha, xa⟩ := hv.one
  rw [xa.ints] at ha
  refine ⟨a, ns, rfl, SqL.of (s _ _ ha), h, fun ms p hp hs hn => ?_⟩
  have g := Gr.new (o := .lst (ms.map V.int)) s hn
  exact q _ _ _ g ⟨ms, ⟨hp, hs⟩, p, _, rfl, upd_same, All2.of_ints⟩⟩
theorem inV_ints {i : Int} : ∀ ns : List Int, inV (.int i) (ns.map V.int) = decide (i ∈ ns)
  | [] => by simp [inV]
  | n :: ns => by
    have ih := inV_ints (i := i) ns
    unfold inV at ih ⊢
    rw [List.map_cons, List.any_cons, ih]
    show ((n == i) || decide (i ∈ ns)) = decide (i ∈ n :: ns)
    by_cases h : n = i
    · subst h
      simp
    · have h' : ¬ i = n := fun z => h z.symm
      simp [h, h']
theorem flat_ints (ns : List Int) : (ns.map V.int).all flatV = true := by
  rw [List.all_eq_true]
  intro x hx
  obtain ⟨n, _, rfl⟩ := List.mem_map.mp hx
  rfl
theorem ct_in {ns : List Int} : CmpT X .In (tI i) (tL (ns.map tI)) (tB (decide (i ∈ ns))) := ⟨_, op_in_seq, fun x y K H s hx hy Q q => by
  obtain ⟨a, xs, rfl, ha, xa⟩ := hy
  have hx' : x = .int i := hx
  subst hx'
  rw [xa.ints] at ha
  exact ⟨a, _, rfl, .inl (SqL.of (s _ _ ha)), rfl, flat_ints ns, q _ K H (Gr.refl s) (by rw [inV_ints]; rfl)⟩⟩
theorem ct_notIn {ns : List Int} : CmpT X .NotIn (tI i) (tL (ns.map tI)) (tB (!decide (i ∈ ns))) := ⟨_, op_notIn_seq, fun x y K H s hx hy Q q => by
  obtain ⟨a, xs, rfl, ha, xa⟩ := hy
  have hx' : x = .int i := hx
  subst hx'
  rw [xa.ints] at ha
  exact ⟨a, _, rfl, .inl (SqL.of (s _ _ ha)), rfl, flat_ints ns, q _ K H (Gr.refl s) (by rw [inV_ints]; rfl)⟩⟩
theorem dp_ints {K : PySem.W.Frag} {H : Hp} : ∀ ns : List Int, DpAll K H (ns.map V.int) (ns.map PyData.int)
  | [] => .nil
  | n :: ns => .cons (.int n) (dp_ints ns)
theorem eqv_ints : ∀ ns ms : List Int, PyData.eqvAll (ns.map PyData.int) (ms.map PyData.int) = decide (ns = ms)
  | [], [] => by simp [PyData.eqvAll]
  | [], _ :: _ => by simp [PyData.eqvAll]
  | _ :: _, [] => by simp [PyData.eqvAll]
  | n :: ns, m :: ms => by
    have ih := eqv_ints ns ms
    rw [List.map_cons, List.map_cons, PyData.eqvAll, ih]
    have e : PyData.eqv (.int n) (.int m) = (n == m) := by simp [PyData.eqv]
    rw [e]
    by_cases h : n = m
    · subst h
      by_cases h2 : ns = ms
      · subst h2
        simp
      · simp [h2]
    · simp [h]
theorem shaped_ints (ns : List Int) : SeqAt.shaped (.list (ns.map PyData.int)) = true := by
  have h1 : ∀ ns : List Int, PyData.canLayAll0 (ns.map PyData.int) = true := fun ns => by
    induction ns with
    | nil => rfl
    | cons n ns ih => simp [PyData.canLayAll0, PyData.canLay0, ih]
  have h2 : ∀ ns : List Int, PyData.depthAll (ns.map PyData.int) ≤ 1 := fun ns => by
    induction ns with
    | nil => simp [PyData.depthAll]
    | cons n ns ih =>
      simp only [List.map_cons, PyData.depthAll, PyData.depth]
      omega
  unfold SeqAt.shaped
  rw [Bool.and_eq_true, decide_eq_true_eq]
  refine ⟨by simp [PyData.canLay0, h1], ?_⟩
  have := h2 ns
  simp only [PyData.depth]
  omega
theorem ct_neL {ns ms : List Int} (hu : X.A.units + 64 < cLine) : CmpT X .NotEq (tL (ns.map tI)) (tL (ms.map tI)) (tB (!decide (ns = ms))) := ⟨_, op_neD hu, fun x y K H s hx hy Q q => by
  obtain ⟨a, xs, rfl, ha, xa⟩ := hx
  obtain ⟨b, ys, rfl, hb, yb⟩ := hy
  rw [xa.ints] at ha
  rw [yb.ints] at hb
  refine ⟨_, _, .lst (SqL.of (s _ _ ha)) (dp_ints ns), .lst (SqL.of (s _ _ hb)) (dp_ints ms), shaped_ints ns, shaped_ints ms, q _ K H (Gr.refl s) ?_⟩
  show V.bl (!PyData.eqv (.list (ns.map PyData.int)) (.list (ms.map PyData.int))) = _
  rw [PyData.eqv, eqv_ints]⟩
theorem ct_eqL {ns ms : List Int} (hu : X.A.units + 64 < cLine) : CmpT X .Eq (tL (ns.map tI)) (tL (ms.map tI)) (tB (decide (ns = ms))) := ⟨_, op_eqD hu, fun x y K H s hx hy Q q => by
  obtain ⟨a, xs, rfl, ha, xa⟩ := hx
  obtain ⟨b, ys, rfl, hb, yb⟩ := hy
  rw [xa.ints] at ha
  rw [yb.ints] at hb
  refine ⟨_, _, .lst (SqL.of (s _ _ ha)) (dp_ints ns), .lst (SqL.of (s _ _ hb)) (dp_ints ms), shaped_ints ns, shaped_ints ms, q _ K H (Gr.refl s) ?_⟩
  show V.bl (PyData.eqv (.list (ns.map PyData.int)) (.list (ms.map PyData.int))) = _
  rw [PyData.eqv, eqv_ints]⟩
end

/-! ### slices -/
section
variable {X : Cx} {Γ : Ctx} {e a b : Expr} {ts : List Ty} {pos p2 : Pos} {n : Nat}
theorem cut_hi {xs : List V} : cutV xs none (some (n : Int)) = xs.take n := by
  unfold cutV
  rw [HT.sIx_none, HT.sIx_nat, List.drop_zero, Nat.sub_zero]
  by_cases h : n ≤ xs.length
  · rw [Nat.min_eq_left h]
  · rw [Nat.min_eq_right (by omega), List.take_length, List.take_of_length_le (by omega)]
theorem cut_lo {xs : List V} : cutV xs (some (n : Int)) none = xs.drop n := by
  unfold cutV
  rw [HT.sIx_none, HT.sIx_nat]
  by_cases h : n ≤ xs.length
  · rw [Nat.min_eq_left h, List.take_of_length_le (by rw [List.length_drop]; omega)]
  · rw [Nat.min_eq_right (by omega), Nat.sub_self, List.take_zero, List.drop_of_length_le (by omega)]
theorem All2.take : ∀ {ts : List Ty} {vs : List V} {H : Hp} (n : Nat), All2 ts vs H → All2 (ts.take n) (vs.take n) H
  | _, _, _, 0, _ => by rw [List.take_zero, List.take_zero]; trivial
  | [], [], _, _ + 1, _ => trivial
  | t :: ts, v :: vs, _, n + 1, h => ⟨h.1, All2.take n h.2⟩
  | [], _ :: _, _, _ + 1, h => h.elim
  | _ :: _, [], _, _ + 1, h => h.elim
theorem All2.drop : ∀ {ts : List Ty} {vs : List V} {H : Hp} (n : Nat), All2 ts vs H → All2 (ts.drop n) (vs.drop n) H
  | _, _, _, 0, h => h
  | [], [], _, _ + 1, _ => trivial
  | t :: ts, v :: vs, _, n + 1, h => All2.drop n h.2
  | [], _ :: _, _, _ + 1, h => h.elim
  | _ :: _, [], _, _ + 1, h => h.elim
theorem has_sliceHi (h : Has X Γ e (tL ts)) (hn : Has X Γ a (tI (n : Int))) : Has X Γ (.Subscript e (.Slice none (some a) none p2) pos) (tL (ts.take n)) := fun σ K H s g Q q =>
  we_of (pe_slice sl_list pe_we po_none (po_some pe_we)) (h σ K H s g _ fun v K1 H1 g1 ⟨l, xs, ev, ha, hx⟩ => hn σ K1 H1 g1.s (g.mo g1.k) _ fun y K2 H2 g2 hy => ⟨n, hy, l, xs, ev, SqL.of (g2.s _ _ (g2.k _ _ ha)), fun p hp => by
    rw [cut_hi]
    have g3 := Gr.new (o := .lst (xs.take n)) g2.s hp
    exact q _ _ _ ((g1.trans g2).trans g3) ⟨p, _, rfl, upd_same, ((hx.mo g2.k).mo g3.k).take n⟩⟩)
theorem has_sliceLo (h : Has X Γ e (tL ts)) (hn : Has X Γ a (tI (n : Int))) : Has X Γ (.Subscript e (.Slice (some a) none none p2) pos) (tL (ts.drop n)) := fun σ K H s g Q q =>
  we_of (pe_slice sl_list pe_we (po_some pe_we) po_none) (h σ K H s g _ fun v K1 H1 g1 ⟨l, xs, ev, ha, hx⟩ => hn σ K1 H1 g1.s (g.mo g1.k) _ fun y K2 H2 g2 hy => ⟨n, hy, l, xs, ev, SqL.of (g2.s _ _ (g2.k _ _ ha)), fun p hp => by
    rw [cut_lo]
    have g3 := Gr.new (o := .lst (xs.drop n)) g2.s hp
    exact q _ _ _ ((g1.trans g2).trans g3) ⟨p, _, rfl, upd_same, ((hx.mo g2.k).mo g3.k).drop n⟩⟩)
/-- a < b < c, as a test -/
theorem hast_chain {op op' : CmpOp} {c : Expr} {ta tb tc : Ty} {k l : Bool} (ha : Has X Γ a ta) (hb : Has X Γ b tb) (hc : k = true → Has X Γ c tc) (h1 : CmpT X op ta tb (tB k)) (h2 : CmpT X op' tb tc (tB l)) (hm : lastMarks [op, op'] [b, c] = false := by rfl) : HasT X Γ (.Compare a [op, op'] [b, c] pos) (k && l) := fun σ K H s g Q q => by
  obtain ⟨r1, o1, t1⟩ := h1
  obtain ⟨r2, o2, t2⟩ := h2
  refine wt_of (pt_chain o1 o2 pe_we pe_we pe_we hm) (ha σ K H s g _ fun x K1 H1 g1 hx => hb σ K1 H1 g1.s (g.mo g1.k) _ fun y K2 H2 g2 hy => ?_)
  refine t1 x y K2 H2 g2.s (ta.mo g2.k hx) hy _ fun z K3 H3 g3 hz => ?_
  have hz' : z = .bl k := hz
  subst hz'
  refine ⟨k, rfl, ?_⟩
  cases k with
  | true =>
    rw [if_pos rfl]
    refine hc rfl σ K3 H3 g3.s (g.mo ((g1.trans g2).trans g3).k) _ fun u K4 H4 g4 hu => ?_
    refine t2 y u K4 H4 g4.s (tb.mo (g3.trans g4).k hy) hu _ fun z K5 H5 g5 hz => ⟨l, hz, q K5 H5 ((((g1.trans g2).trans g3).trans g4).trans g5)⟩
  | false =>
    rw [if_neg Bool.false_ne_true]
    exact ⟨false, rfl, q K3 H3 ((g1.trans g2).trans g3)⟩
end

/-! ### isinstance, names of the module -/
section
variable {X : Cx} {Γ : Ctx} {e : Expr} {t : Ty} {pos p p1 p3 : Pos} {x : Str} {T U : Value}
theorem has_cls {C : Addr} (hm : X.mg x = some (.ref C)) (hg : Gl X x := by rfl) (hd : (x == ("__debug__" : Str)) = false := by decide) : Has X Γ (.Name x pos) (tV (.ref C)) := has_val (pe_glob hg hm rfl hd)
theorem has_glob {v : V} {u : Value} (hm : X.mg x = some u) (r : RelV v u) (hg : Gl X x := by rfl) (hd : (x == ("__debug__" : Str)) = false := by decide) : Has X Γ (.Name x pos) (tV v) := has_val (pe_glob hg hm r hd)
theorem has_ty {n : String} (hm : X.mg x = none) (hv : bootBuiltins x = some (.type n)) (hg : Gl X x := by rfl) (hn : x ≠ "__name__" := by decide) (hd : (x == ("__debug__" : Str)) = false := by decide) : Has X Γ (.Name x pos) (tV (.ty n)) := has_val (pe_bltn hg hm hv rfl hn hd)
/-- the class of every value of a type -/
def HTy (K : PySem.W.Frag) (t : Ty) (T : Value) : Prop := ∀ v H, t.p v H → TyX K H v T
theorem hty_int {K : PySem.W.Frag} {i : Int} : HTy K (tI i) (.type "int") := fun v H h => by
  have e : v = .int i := h
  subst e
  exact .base (.int i)
theorem hty_L {K : PySem.W.Frag} {ts : List Ty} : HTy K (tL ts) (.type "list") := fun v H ⟨a, xs, e, h, _⟩ => e ▸ .base (.lst h)
theorem hty_T {K : PySem.W.Frag} {ts : List Ty} : HTy K (tT ts) (.type "tuple") := fun v H ⟨a, xs, e, h, _⟩ => e ▸ .base (.tup h)
/-- what isinstance asks of an own class -/
structure ClsF (K : PySem.W.Frag) (C : Addr) : Prop where
  cl : Cls K C
  ha : PySem.W.findIn K (.ref C) "__class__" = some (some (.builtin "object.__class__"))
  hn : PySem.W.specialIn K (.builtin "object.__class__") "__get__" = some (some (.builtin "getset_descriptor.__get__"))
  tk : PySem.W.takesIn K (.builtin "object.__class__") = some true
  mo : PySem.W.mroIn K C (.type "object") = some true
theorem hty_O {K : PySem.W.Frag} {C : Addr} {fs : List (Str × Ty)} (c : ClsF K C) : HTy K (tO C fs) (.ref C) := fun v H ⟨a, dx, vs, e, h, _⟩ => e ▸ .base (.ins h c.cl c.ha c.hn c.tk c.mo)
theorem ct_isi {c : V} {b : Bool} (hc : ClsV c U) (ht : HTy X.K t T) (hk : PySem.W.kitOne X.K T U = some b) : CallT X (.builtin "isinstance") [t, tV c] (tB b) := ⟨_, call_isi, fun vs K H s hv Q q => by
  obtain ⟨v, w, rfl, h1, h2⟩ := hv.two
  have h2' : w = c := h2
  subst h2'
  exact ⟨v, w, T, U, b, rfl, hc, ht v H (t.mo s h1), hk, q _ K H (Gr.refl s) rfl⟩⟩
/-- isinstance(x, (list, tuple)) of a list or a tuple -/
theorem ct_isLT {ts : List Ty} : CallT X (.builtin "isinstance") [tQ ts, tT [tV (.ty "list"), tV (.ty "tuple")]] (tB true) := ⟨_, call_isiT, fun vs K H s hv Q q => by
  obtain ⟨v, w, rfl, h1, ⟨a, xs, rfl, ha, xa⟩⟩ := hv.two
  obtain ⟨c1, c2, rfl, e1, e2⟩ := xa.two
  have e1' : c1 = .ty "list" := e1
  have e2' : c2 = .ty "tuple" := e2
  subst e1' e2'
  rcases h1 with ⟨b, ys, rfl, hb, _⟩ | ⟨b, ys, rfl, hb, _⟩
  · exact ⟨_, a, _, .type "list", [.type "list", .type "tuple"], true, rfl, s _ _ ha, .cons (.ty _) (.cons (.ty _) .nil), .base (.lst (s _ _ hb)), kitAny_cons (b := true) (kit_ty (by decide +kernel)) (fun h => by cases h) (fun _ => rfl), q _ K H (Gr.refl s) rfl⟩
  · exact ⟨_, a, _, .type "tuple", [.type "list", .type "tuple"], true, rfl, s _ _ ha, .cons (.ty _) (.cons (.ty _) .nil), .base (.tup (s _ _ hb)), kitAny_cons (b := false) (kit_ty (by decide +kernel)) (fun _ => kitAny_cons (b := true) (kit_ty (by decide +kernel)) (fun h => by cases h) (fun _ => rfl)) (fun h => by cases h), q _ K H (Gr.refl s) rfl⟩⟩
end
end Z
end
section
set_option Elab.async false
set_option linter.all false
set_option maxRecDepth 100000
set_option maxHeartbeats 2000000
namespace Z
open PySem PySem.Spec PyProof.Rows L2

/-! ### operators of own classes -/
section
variable {X : Cx} {Γ : Ctx} {C f : Addr} {fd : FuncData} {ps : List Str} {k : Nat} {α : Type} {pre : α → Prop} {args : α → List Ty} {res : α → Ty} {fs gs : List (Str × Ty)} {op : Operator}
/-- what is needed of a method that an operator calls -/
structure OpF (K : PySem.W.Frag) (C f : Addr) (nm : Str) : Prop where
  at_ : PySem.W.findIn K (.ref C) nm = some (some (.ref f))
  fn : PySem.W.isFn K (.ref f) = true
  first : PySem.W.selfFirst K C = true
theorem back_ok {pins : List (Addr × Obj)} {σ : St} {Q : VK} {u : Value} {s' : Shared} (h : EP X pins σ Q u s') : PySem.W.CmpBack (EP X pins σ Q) u s' := by
  obtain ⟨v, H', I, r, q⟩ := id h
  cases u with
  | notImplemented => cases v <;> first | (obtain ⟨t, e⟩ := r; cases e) | cases r
  | _ => exact h
theorem bin_own {nm : Str} (hnm : (PySem.dunder op.info.2 : Str) = nm) (o : OpF X.K C f nm) (F : FnOk X.prog X.w X.K X.mg X.base CX0 k f fd ps (Spt pre args res)) (hb : Binds X.K fd ps []) (hr : Room k X.A) (a : α) (hp : pre a) (ha : args a = [tO C fs, tO C gs]) : BinT X op (tO C fs) (tO C gs) (res a) := by
  refine ⟨fun x y H Q => ∃ K, Ex K H ∧ (tO C fs).p x K ∧ (tO C gs).p y K ∧ ∀ v K' H', Gr K H K' H' → (res a).p v K' → Q v H', fun pins s σ H x y v u Q I rx ry h => ?_, fun x y K H s hx hy Q q => ⟨K, s, hx, hy, q⟩⟩
  obtain ⟨K, sk, hx, hy, q⟩ := h
  have hv : All2 (args a) [x, y] K := by rw [ha]; exact ⟨hx, hy, trivial⟩
  obtain ⟨ax, dx, vx, rfl, hx1, _⟩ := hx
  obtain ⟨ay, dy, vy, rfl, hy1, _⟩ := hy
  cases rx
  cases ry
  obtain ⟨mA, J, _⟩ := ins_get I.hok (sk _ _ hx1)
  obtain ⟨mB, J', _⟩ := ins_get I.hok (sk _ _ hy1)
  obtain ⟨od, J, _⟩ := J.look
  obtain ⟨od', J', _⟩ := J'.look
  obtain ⟨m, hF⟩ := I.fr
  refine PySem.W.binop_K hF I.ok.mod.kin J J'.type o.first (by rw [hnm]; exact o.at_) o.fn ?_
  exact thn (run_fn (vs := [.ref ax, .ref ay]) (us := [.ref ax, .ref ay]) (dvs := []) (ds := []) F hr hb .nil pass0 I (.cons rfl (.cons rfl .nil)) ⟨a, K, hp, sk, hv, q⟩) fun _ _ z => back_ok z
/-- the right operand an int -/
theorem bin_ownI {nm : Str} {i : Int} {fo ro rc : Option Value} (hnm : (PySem.dunder op.info.2 : Str) = nm) (o : OpF X.K C f nm) (hr' : PySem.W.findIn X.K (.ref C) (dunderR op.info.2) = some rc) (hp' : rc = none ∨ ∃ g : Addr, rc = some (.ref g))
    (h1 : PySem.W.findIn X.K (.type "int") (PySem.dunder op.info.2) = some fo) (h2 : PySem.W.findIn X.K (.type "int") (dunderR op.info.2) = some ro) (hsub : PySem.W.subIn X.K (.type "int") (.ref C) = some false)
    (F : FnOk X.prog X.w X.K X.mg X.base CX0 k f fd ps (Spt pre args res)) (hb : Binds X.K fd ps []) (hr : Room k X.A) (a : α) (hp : pre a) (ha : args a = [tO C fs, tI i]) : BinT X op (tO C fs) (tI i) (res a) := by
  refine ⟨fun x y H Q => ∃ K, Ex K H ∧ (tO C fs).p x K ∧ y = .int i ∧ ∀ v K' H', Gr K H K' H' → (res a).p v K' → Q v H', fun pins s σ H x y v u Q I rx ry h => ?_, fun x y K H s hx hy Q q => ⟨K, s, hx, hy, q⟩⟩
  obtain ⟨K, sk, hx, hy, q⟩ := h
  subst hy
  have hv : All2 (args a) [x, .int i] K := by rw [ha]; exact ⟨hx, rfl, trivial⟩
  obtain ⟨ax, dx, vx, rfl, hx1, _⟩ := hx
  cases rx
  obtain ⟨t, rfl⟩ := ry
  obtain ⟨mA, J, _⟩ := ins_get I.hok (sk _ _ hx1)
  obtain ⟨od, J, _⟩ := J.look
  obtain ⟨m, hF⟩ := I.fr
  refine PySem.W.ksp_binT hF I.ok.mod.kin J rfl o.first (by rw [hnm]; exact o.at_) o.fn hr' hp' h1 h2 hsub ?_
  exact thn (run_fn (vs := [.ref ax, .int i]) (us := [.ref ax, .int i t]) (dvs := []) (ds := []) F hr hb .nil pass0 I (.cons rfl (.cons ⟨t, rfl⟩ .nil)) ⟨a, K, hp, sk, hv, q⟩) fun _ _ z => back_ok z
theorem neg_own (o : OpF X.K C f "__neg__") (F : FnOk X.prog X.w X.K X.mg X.base CX0 k f fd ps (Spt pre args res)) (hb : Binds X.K fd ps []) (hr : Room k X.A) (a : α) (hp : pre a) (ha : args a = [tO C fs]) : UnT X .USub (tO C fs) (res a) := by
  refine ⟨fun x H Q => ∃ K, Ex K H ∧ (tO C fs).p x K ∧ ∀ v K' H', Gr K H K' H' → (res a).p v K' → Q v H', fun pins s σ H x v Q I rx h => ?_, fun x K H s hx Q q => ⟨K, s, hx, q⟩⟩
  obtain ⟨K, sk, hx, q⟩ := h
  have hv : All2 (args a) [x] K := by rw [ha]; exact ⟨hx, trivial⟩
  obtain ⟨ax, dx, vx, rfl, hx1, _⟩ := hx
  cases rx
  obtain ⟨mA, J, _⟩ := ins_get I.hok (sk _ _ hx1)
  obtain ⟨od, J, _⟩ := J.look
  obtain ⟨m, hF⟩ := I.fr
  refine PySem.W.ksp_neg hF I.ok.mod.kin J o.at_ o.fn ?_
  exact run_fn (vs := [.ref ax]) (us := [.ref ax]) (dvs := []) (ds := []) F hr hb .nil pass0 I (.cons rfl .nil) ⟨a, K, hp, sk, hv, q⟩
end

/-! ### == with both answers -/
abbrev DB := V → V → Bool → Hp → Prop
def MonB (D : DB) : Prop := ∀ x y r H H', Ex H H' → D x y r H → D x y r H'
def EqB (X : Cx) (n : Nat) (D : DB) : Prop := ∀ (A : Around) (pins : List (Addr × Obj)) (s : Shared) (σ : St) (H : Hp) (x y : V) (u v : Value) (r : Bool), Sub X n A → Inv X pins σ H s → RelV x u → RelV y v → D x y r H →
  wpAny (model X.prog X.w) A (eqBool u v) (fun r' s' => r' = r ∧ ∃ H', Inv X pins σ H' s' ∧ Ex H H') X.xe s
def RcB (X : Cx) (n : Nat) (op : CmpOp) (D : DB) : Prop := ∀ (A : Around) (pins : List (Addr × Obj)) (s : Shared) (σ : St) (H : Hp) (x y : V) (u v : Value) (r : Bool), Sub X n A → Inv X pins σ H s → RelV x u → RelV y v → D x y r H →
  wpAny (model X.prog X.w) A (richCompare op u v) (fun r' s' => r' = .bool r ∧ ∃ H', Inv X pins σ H' s' ∧ Ex H H') X.xe s
/-- the same object answers as itself -/
def SelfT (D : DB) : Prop := ∀ a r H, D (.ref a) (.ref a) r H → r = true
section
variable {X : Cx} {n : Nat} {D : DB}
theorem RcB.eqB (h : RcB X n .Eq D) (hs : SelfT D) (hr : ∀ x y r H, D x y r H → ∃ a b, x = .ref a ∧ y = .ref b) : EqB X n D := by
  intro A pins s σ H x y u v r sb I rx ry d
  obtain ⟨a, b, rfl, rfl⟩ := hr _ _ _ _ d
  cases rx
  cases ry
  by_cases hab : a = b
  · subst hab
    have e := hs _ _ _ d
    subst e
    exact SeqAt.EqAt.same (A := A) (s := s) (.ref a) X.prog X.w X.xe _ ⟨rfl, H, I, Ex.refl _⟩
  · refine GQ.eqBool_refG hab (thn (h A pins s σ H (.ref a) (.ref b) _ _ r sb I rfl rfl d) fun z s' q => ?_)
    obtain ⟨hr', q⟩ := q
    exact ⟨r, hr', rfl, q⟩
/-- a method that an own == or != calls, wherever we are below X -/
theorem run_sub {k : Nat} {f : Addr} {fd : FuncData} {ps : List Str} {α : Type} {pre : α → Prop} {args : α → List Ty} {res : α → Ty} (F : FnOk X.prog X.w X.K X.mg X.base CX0 k f fd ps (Spt pre args res)) (hb : Binds X.K fd ps []) {A : Around} (sb : Sub X k A)
    {pins : List (Addr × Obj)} {s : Shared} {σ : St} {H : Hp} {vs : List V} {us : List Value} (I : Inv X pins σ H s) (r : Vals vs us) (a : α) (hp : pre a) (hv : All2 (args a) vs H) {Q : Value → Shared → Prop}
    (q : ∀ v u s' H', Inv X pins σ H' s' → Ex H H' → RelV v u → (res a).p v H' → Q u s') : wpAny (model X.prog X.w) A (call (.ref f) us) Q X.xe s := by
  have hsp : Spt pre args res vs H (fun v H' => Ex H H' ∧ (res a).p v H') E0 := ⟨a, H, hp, Ex.refl _, hv, fun v K' H' g tv => ⟨g.h, (res a).mo g.s tv⟩⟩
  have e0 : Env0 X.prog X.w X.K X.mg X.base A X.stack s H := by
    have e := I.env0
    exact ⟨by rw [sb.fr]; exact e.frames, e.mod, e.bs, e.bsz, e.funs, e.frf, e.hok, e.bare⟩
  have hl := F.len _ _ _ _ hsp
  refine wpAny_call (codeAny_mono (F.run A X.stack s H ⟨us, []⟩ us vs _ _ sb.room e0 (by
    have z := hb s us I.kIn (by rw [List.append_nil, ← r.length]; exact hl)
    rw [List.append_nil] at z
    exact z) r hsp) fun z s' hq => ?_)
  cases z with
  | error e => exact pass0 pins σ H s e s' I hq
  | ok fl =>
    cases fl with
    | ret w =>
      obtain ⟨v, H', I', rv, ex, tv⟩ := I.after hq
      exact q v w s' H' I' ex rv tv
    | next => exact False.elim hq
    | brk => exact False.elim hq
    | cont => exact False.elim hq
/-- two instances with an own == -/
def DI {α : Type} (C : Addr) (pre : α → Prop) (args : α → List Ty) (rb : α → Bool) : DB := fun x y r H => ∃ a, pre a ∧ rb a = r ∧ All2 (args a) [x, y] H ∧ (∃ b dx vs, x = .ref b ∧ H b = some (.ins C dx vs)) ∧ ∃ b dx vs, y = .ref b ∧ H b = some (.ins C dx vs)
theorem mon_DI {α : Type} {C : Addr} {pre : α → Prop} {args : α → List Ty} {rb : α → Bool} : MonB (DI C pre args rb) := fun x y r H H' e ⟨a, h1, h2, h3, ⟨b, dx, vs, h4, h5⟩, c, dy, ws, h6, h7⟩ =>
  ⟨a, h1, h2, h3.mo e, ⟨b, dx, vs, h4, e _ _ h5⟩, c, dy, ws, h6, e _ _ h7⟩
theorem rcB_ins {k : Nat} {C f : Addr} {fd : FuncData} {ps : List Str} {α : Type} {pre : α → Prop} {args : α → List Ty} {rb : α → Bool} (F : FnOk X.prog X.w X.K X.mg X.base CX0 k f fd ps (Spt pre args fun a => tB (rb a))) (hb : Binds X.K fd ps [])
    (hs : PySem.W.findIn X.K (.ref C) "__eq__" = some (some (.ref f))) (hf : PySem.W.isFn X.K (.ref f) = true) : RcB X k .Eq (DI C pre args rb) := by
  intro A pins s σ H x y u v r sb I rx ry ⟨a, h1, h2, h3, ⟨bx, dx, vs, e1, hx⟩, by', dy, ws, e2, hy⟩
  subst e1 e2
  cases rx
  cases ry
  obtain ⟨mA, J, _⟩ := ins_get I.hok hx
  obtain ⟨mB, J', _⟩ := ins_get I.hok hy
  obtain ⟨od, J, _⟩ := J.look
  obtain ⟨od', J', _⟩ := J'.look
  obtain ⟨m, hF⟩ := I.fr
  refine PySem.W.cmp_K (op := .Eq) (tb := .ref C) sb.room.units0 hF I.ok.mod.kin J J'.type (by simp [PySem.W.notFirst]) hs hf ?_
  refine run_sub F hb sb I (vs := [.ref bx, .ref by']) (us := [.ref bx, .ref by']) (.cons rfl (.cons rfl .nil)) a h1 h3 fun v u s' H' I' ex rv tv => ?_
  have ev : v = .bl (rb a) := tv
  subst ev
  cases rv
  exact ⟨by rw [h2], H', I', ex⟩
/-- item by item; rs: the answers -/
def PrsB (D : DB) (xs ys : List V) (rs : Nat → Bool) (H : Hp) : Prop := xs.length = ys.length ∧ ∀ (i : Nat) x y, xs[i]? = some x → ys[i]? = some y → D x y (rs i) H
theorem turnB (hD : MonB D) (h : EqB X n D) {A : Around} (sb : Sub X (n + 1) A) {pins : List (Addr × Obj)} {σ : St} {H : Hp} {xs ys : List V} {rs : Nat → Bool} {its its2 : List Value} (p : PrsB D xs ys rs H) (r : Vals xs its) (r2 : Vals ys its2)
    (i : Nat) (h1 : i < its.toArray.size) (h2 : i < its2.toArray.size) (s' : Shared) (l : ∃ H1, Inv X pins σ H1 s' ∧ Ex H H1) :
    wpAny (model X.prog X.w) A.in1 (eqBool its.toArray[i] its2.toArray[i]) (fun z s2 => z = rs i ∧ ∃ H1, Inv X pins σ H1 s2 ∧ Ex H H1) X.xe s' := by
  obtain ⟨H1, I1, e1⟩ := l
  have g1 : its[i]? = some its.toArray[i] := by
    have q : i < its.length := by simpa using h1
    rw [List.getElem?_eq_getElem q]
    simp
  have g2 : its2[i]? = some its2.toArray[i] := by
    have q : i < its2.length := by simpa using h2
    rw [List.getElem?_eq_getElem q]
    simp
  have k1 : i < xs.length := by rw [r.length]; simpa using h1
  have k2 : i < ys.length := by rw [r2.length]; simpa using h2
  obtain ⟨u, hu, ru⟩ := r.get (List.getElem?_eq_getElem k1)
  obtain ⟨v, hv, rv⟩ := r2.get (List.getElem?_eq_getElem k2)
  rw [g1] at hu
  rw [g2] at hv
  rw [Option.some.inj hu, Option.some.inj hv]
  refine thn (h A.in1 pins s' σ H1 _ _ u v _ sb.in1 I1 ru rv (hD _ _ _ _ _ e1 (p.2 i _ _ (List.getElem?_eq_getElem k1) (List.getElem?_eq_getElem k2)))) fun z s2 q => ?_
  obtain ⟨hz, H2, I2, e2⟩ := q
  exact ⟨hz, H2, I2, e1.trans e2⟩
end
/-! ### the loops of the built-ins -/
section
open PySem.SeqAt
variable {prog : Program} {w : World} {A : Around} {E : Value → Shared → Prop} {R : Result → Shared → Prop} {s : Shared}
theorem all_drop {e : Nat → Bool} {m i : Nat} (h : i < m) : (((List.range m).drop i).all e) = (e i && ((List.range m).drop (i + 1)).all e) := by
  have hd : (List.range m).drop i = i :: (List.range m).drop (i + 1) := by simp [List.drop_eq_getElem_cons, h]
  rw [hd, List.all_cons]
theorem tup_loop (l b : Addr) (items items2 : Array Value) (n n2 : Nat) (dd dd2 : Option Addr) (sl sl2 : Array (Option Value)) (hsz : items.size = items2.size) (e : Nat → Bool) (I : Shared → Prop)
    (turn : ∀ i (h1 : i < items.size) (h2 : i < items2.size) s, I s → wpAny (model prog w) A.in1 (eqBool items[i] items2[i]) (fun r s' => r = e i ∧ I s') (fun e s' => R (.error e) s') s)
    (fin : ∀ s, I s → R (.ok (.ret (.bool ((List.range items.size).all e)))) s) (hl1 : s.heap.get? l = some { cls := .type "tuple", dict := dd, data := .seq items n, slots := sl }) (hb1 : s.heap.get? b = some { cls := .type "tuple", dict := dd2, data := .seq items2 n2, slots := sl2 }) (h : I s) :
    wpAny (model prog w) A.in1 (Builtin.«tuple.__eq__» ⟨[.ref l, .ref b], []⟩) (GQ.FinOf prog w A R) (fun e s' => R (.error e) s') s := by
  have f2 := AutoSeq1.sub_tuple_tuple
  have hZ : (items.toList.zip items2.toList).length = items.size := by simp [hsz]
  have h0 := h
  obtain ⟨hp, g, d, tk, os⟩ := s
  open AutoSeq1 MeetsSeq MeetsSeq2 MeetsSeq3 SeqRoads2 in
  wp_walk using wpAny_loadPart' hl1, wpAny_loadPart' hb1, wpAny_forIn_list _ (fun rest b s' => b.1 = none ∧ I s' ∧ ∃ i, rest = (items.toList.zip items2.toList).drop i ∧ i ≤ items.size ∧ ((List.range items.size).drop i).all e = (List.range items.size).all e) _
  case turn =>
    rintro ⟨y, x⟩ rest b s' ⟨hb', hI, i, hz, hi, hall⟩
    have hlt : i < (items.toList.zip items2.toList).length := by
      rcases Nat.lt_or_ge i (items.toList.zip items2.toList).length with h' | h'
      · exact h'
      · rw [List.drop_of_length_le h'] at hz; cases hz
    have h1 : i < items.size := hZ ▸ hlt
    have h2 : i < items2.size := hsz ▸ h1
    rw [List.drop_eq_getElem_cons hlt] at hz
    injection hz with hyx hrest
    have hy : y = items[i] := by have z := congrArg Prod.fst hyx; simpa using z
    have hx : x = items2[i] := by have z := congrArg Prod.snd hyx; simpa using z
    subst hy hx
    rw [all_drop h1] at hall
    refine wpAny_bind (wpAny_mono (turn i h1 h2 s' hI) (fun r s2 q2 => ?_) fun _ _ x => x)
    obtain ⟨hr, q2⟩ := q2
    subst hr
    cases hc : e i with
    | true =>
      rw [hc, Bool.true_and] at hall
      wp_walk
      exact ⟨rfl, q2, i + 1, hrest, h1, hall⟩
    | false =>
      rw [hc, Bool.false_and] at hall
      have hR := fin s2 q2
      rw [← hall] at hR
      wp_walk
      exact hR
  case fin =>
    rintro ⟨b1, b2⟩ s' ⟨hb', hI, i, hz, hi, hall⟩
    simp only at hb'
    subst hb'
    have hge : items.size ≤ i := by
      rcases Nat.lt_or_ge i (items.toList.zip items2.toList).length with h' | h'
      · rw [List.drop_eq_getElem_cons h'] at hz; cases hz
      · exact hZ ▸ h'
    have hR := fin s' hI
    rw [← hall, List.drop_of_length_le (by simpa using hge)] at hR
    wp_walk
    simpa [Builtin.Tuple.tupleCompareSizes, hsz] using hR
  case h =>
    exact ⟨rfl, h0, 0, rfl, Nat.zero_le _, rfl⟩
end

section
open PySem.SeqAt
variable {prog : Program} {w : World} {A : Around} {E : Value → Shared → Prop} {R : Result → Shared → Prop} {s : Shared}
/-- != of two lists whose items are equal, turn by turn -/
theorem ne_loop (l b : Addr) (N : Nat) (I : Nat → Shared → Prop) (hl : GQ.ListI prog w A (fun e s' => R (.error e) s') l b N I) (fin : ∀ s, I N s → R (.ok (.ret (.bool false))) s) (k : Nat) :
    ∀ i : Nat, N - i = k → i ≤ N → ∀ s, I i s → wpAny (model prog w) A.in1 (Builtin.«list.__eq__.loop» ⟨[.ref l, .ref b, rawInt i, rawInt 3], []⟩) (GQ.FinOf prog w A R) (fun e s' => R (.error e) s') s := by
  induction k with
  | zero =>
    intro i hk hi s h
    obtain ⟨items, items2, n, n2, hl1, hb1, hs1, hs2, _⟩ := hl _ _ h
    have hi' : i = N := by omega
    have hR : R (.ok (.ret (.bool false))) s := fin s (hi' ▸ h)
    obtain ⟨hp, g, d, tk, os⟩ := s
    open AutoSeq1 MeetsSeq MeetsSeq2 MeetsSeq3 SeqRoads2 in
    wp_walk using wpAny_loadPart' hl1, wpAny_loadPart' hb1
    have hi1 : items[((i : Nat) : Int).toNat]? = none := by simp; omega
    have hi2 : items2[((i : Nat) : Int).toNat]? = none := by simp; omega
    rw [hi1, hi2]
    open AutoSeq1 MeetsSeq MeetsSeq2 MeetsSeq3 SeqRoads2 in
    wp_walk using wpAny_loadPart' hl1, wpAny_loadPart' hb1
    show R (.ok (.ret (.bool (items.size != items2.size)))) _
    rw [hs1, hs2]
    simpa using hR
  | succ k ih =>
    intro i hk hi s h
    obtain ⟨items, items2, n, n2, hl1, hb1, hs1, hs2, turn⟩ := hl _ _ h
    have hlt : i < items.size := by omega
    have hlt2 : i < items2.size := by omega
    have ht := turn hlt hlt2
    obtain ⟨hp, g, d, tk, os⟩ := s
    open AutoSeq1 MeetsSeq MeetsSeq2 MeetsSeq3 SeqRoads2 in
    wp_walk using wpAny_loadPart' hl1, wpAny_loadPart' hb1
    have hi1 : items[((i : Nat) : Int).toNat]? = some items[i] := by simp [hlt]
    have hi2 : items2[((i : Nat) : Int).toNat]? = some items2[i] := by simp [hlt2]
    have hc : ((i : Int) + 1) = ((i + 1 : Nat) : Int) := by omega
    rw [hi1, hi2]
    refine wpAny_bind (wpAny_mono ht (fun r s2 h2 => ?_) fun _ _ x => x)
    obtain ⟨hr, h2⟩ := h2
    subst hr
    have hrec := ih (i + 1) (by omega) (by omega) s2 h2
    obtain ⟨hp2, g2, d2, tk2, os2⟩ := s2
    wp_walk
    rw [hc]
    exact ⟨plainId_quiet plain_eq_loop _, codeAny_builtin entry_eq_loop (by
      rw [Around.under_plainId plain_eq_loop _]
      exact hrec)⟩
theorem list_neG (l b : Addr) (N : Nat) (I : Nat → Shared → Prop) (hl : GQ.ListI prog w A (fun e s' => R (.error e) s') l b N I) (fin : ∀ s, I N s → R (.ok (.ret (.bool false))) s) (h : I 0 s) :
    wpAny (model prog w) A.in1 (Builtin.«list.__ne__» ⟨[.ref l, .ref b], []⟩) (GQ.FinOf prog w A R) (fun e s' => R (.error e) s') s := by
  obtain ⟨items, items2, n, n2, hl1, hb1, hs1, hs2, _⟩ := hl _ _ h
  have hrec := ne_loop (A := A) (R := R) l b N I hl fin _ 0 rfl (Nat.zero_le _) s h
  obtain ⟨hp, g, d, tk, os⟩ := s
  have f3 := AutoSeq1.sub_list_list
  have hne : ¬ (items.size != items2.size) = true := by simp [hs1, hs2]
  open AutoSeq1 MeetsSeq MeetsSeq2 MeetsSeq3 SeqRoads2 in
  wp_walk using wpAny_loadPart' hl1, wpAny_loadPart' hb1
  exact ⟨plainId_quiet plain_eq_loop _, codeAny_builtin entry_eq_loop (by
    rw [Around.under_plainId plain_eq_loop _]
    exact hrec)⟩
theorem rc_listN {l b : Addr} {N : Nat} {Q : Value → Shared → Prop} (hu : A.units < cLine) (I : Nat → Shared → Prop) (hl : GQ.ListI prog w A E l b N I)
    (fin : ∀ s, I N s → Q (.bool false) s) (h : I 0 s) : wpAny (model prog w) A (richCompare .NotEq (.ref l) (.ref b)) Q E s := by
  obtain ⟨items, items2, n, n2, hl1, hb1, _, _, _⟩ := hl _ _ h
  refine wpAny_richCompare_same_room (op := .NotEq) ⟨_, hl1, rfl⟩ ⟨_, hb1, rfl⟩ F.slot_list_ne (GQ.call_here F.slot_list_ne ⟨_, hl1, rfl⟩ F.entry_list_ne (F.args_list_ne_2 _ _) ?_) hu
  exact list_neG (R := wants (fun v s' => v ≠ .notImplemented ∧ Q v s') E) l b N I hl (fun s' q => ⟨(fun x => nomatch x), fin s' q⟩) h
end
section
variable {X : Cx} {n : Nat} {D : DB}
/-- tuples -/
def DTB (D : DB) : DB := fun x y r H => ∃ a b xs ys rs, x = .ref a ∧ y = .ref b ∧ H a = some (.tup xs) ∧ H b = some (.tup ys) ∧ PrsB D xs ys rs H ∧ r = (List.range xs.length).all rs
theorem PrsB.mo (hD : MonB D) {xs ys : List V} {rs : Nat → Bool} {H H' : Hp} (e : Ex H H') (p : PrsB D xs ys rs H) : PrsB D xs ys rs H' := ⟨p.1, fun i x y h1 h2 => hD _ _ _ _ _ e (p.2 i x y h1 h2)⟩
theorem mon_DTB (hD : MonB D) : MonB (DTB D) := fun x y r H H' e ⟨a, b, xs, ys, rs, h1, h2, h3, h4, h5, h6⟩ => ⟨a, b, xs, ys, rs, h1, h2, e _ _ h3, e _ _ h4, h5.mo hD e, h6⟩
def RefsB (D : DB) : Prop := ∀ x y r H, D x y r H → ∃ a b, x = .ref a ∧ y = .ref b
theorem refs_DTB : RefsB (DTB D) := fun x y r H ⟨a, b, _, _, _, h1, h2, _⟩ => ⟨a, b, h1, h2⟩
theorem refs_DI {α : Type} {C : Addr} {pre : α → Prop} {args : α → List Ty} {rb : α → Bool} : RefsB (DI C pre args rb) := fun x y r H ⟨a, _, _, _, ⟨b, _, _, h4, _⟩, c, _, _, h6, _⟩ => ⟨b, c, h4, h6⟩
theorem self_DTB (hs : SelfT D) (hr : RefsB D) : SelfT (DTB D) := fun a r H ⟨b, c, xs, ys, rs, h1, h2, h3, h4, h5, h6⟩ => by
  cases h1
  cases h2
  rw [h3] at h4
  cases h4
  rw [h6, List.all_eq_true]
  intro i hi
  have hi' : i < xs.length := List.mem_range.mp hi
  have q := h5.2 i _ _ (List.getElem?_eq_getElem hi') (List.getElem?_eq_getElem hi')
  obtain ⟨u, v, e1, e2⟩ := hr _ _ _ _ q
  rw [e1] at q
  exact hs _ _ _ q
theorem rcB_tup (hD : MonB D) (h : EqB X n D) : RcB X (n + 1) .Eq (DTB D) := by
  intro A pins s σ H x y u v r sb I rx ry ⟨a, b, xs, ys, rs, e1, e2, ha, hb, p, hr⟩
  subst e1 e2 hr
  cases rx
  cases ry
  obtain ⟨z, its, r1, e1⟩ := I.hok a _ ha
  obtain ⟨z2, its2, r2, e2⟩ := I.hok b _ hb
  have hsz : its.toArray.size = its2.toArray.size := by rw [List.size_toArray, List.size_toArray, ← r1.length, ← r2.length]; exact p.1
  obtain ⟨⟨cls, dd, data, sl⟩, ho, hc, k, hd⟩ := id e1
  obtain ⟨⟨cls2, dd2, data2, sl2⟩, ho2, hc2, k2, hd2⟩ := id e2
  simp only at hc hd hc2 hd2
  subst hc hd hc2 hd2
  refine wpAny_richCompare_same_room (op := .Eq) ⟨_, ho, rfl⟩ ⟨_, ho2, rfl⟩ F.slot_tuple_eq (GQ.call_here F.slot_tuple_eq ⟨_, ho, rfl⟩ F.entry_tuple_eq (F.args_tuple_eq_2 _ _) ?_) sb.room.units0
  refine tup_loop (R := wants (fun v s' => v ≠ .notImplemented ∧ v = .bool ((List.range xs.length).all rs) ∧ ∃ H', Inv X pins σ H' s' ∧ Ex H H') X.xe) a b its.toArray its2.toArray k k2 dd dd2 sl sl2 hsz rs (fun s' => ∃ H1, Inv X pins σ H1 s' ∧ Ex H H1)
    (fun i h1 h2 s' q => turnB hD h sb p r1 r2 i h1 h2 s' q) (fun s' q => ⟨(fun x => nomatch x), ?_, q⟩) ho ho2 ⟨H, I, Ex.refl _⟩
  rw [List.size_toArray, ← r1.length]
/-- lists whose items are equal -/
def DLT (D : DB) (r0 : Bool) : DB := fun x y r H => ∃ a b xs ys, x = .ref a ∧ y = .ref b ∧ H a = some (.lst xs) ∧ H b = some (.lst ys) ∧ PrsB D xs ys (fun _ => true) H ∧ r = r0
theorem mon_DLT {r0 : Bool} (hD : MonB D) : MonB (DLT D r0) := fun x y r H H' e ⟨a, b, xs, ys, h1, h2, h3, h4, h5, h6⟩ => ⟨a, b, xs, ys, h1, h2, e _ _ h3, e _ _ h4, h5.mo hD e, h6⟩
theorem refs_DLT {r0 : Bool} : RefsB (DLT D r0) := fun x y r H ⟨a, b, _, _, h1, h2, _⟩ => ⟨a, b, h1, h2⟩
theorem self_DLT : SelfT (DLT D true) := fun a r H ⟨_, _, _, _, _, _, _, _, _, h⟩ => h
theorem listI_of (hD : MonB D) (h : EqB X n D) {A : Around} (sb : Sub X (n + 1) A) {pins : List (Addr × Obj)} {σ : St} {H : Hp} {a b : Addr} {xs ys : List V} (ha : H a = some (.lst xs)) (hb : H b = some (.lst ys)) (p : PrsB D xs ys (fun _ => true) H) :
    GQ.ListI X.prog X.w A X.xe a b xs.length (fun _ s' => ∃ H1, Inv X pins σ H1 s' ∧ Ex H H1) := fun i s' q => by
  obtain ⟨H1, I1, e1⟩ := id q
  obtain ⟨z, its, k, r, e⟩ := I1.hok a _ (e1 _ _ ha)
  obtain ⟨z2, its2, k2, r2, e2⟩ := I1.hok b _ (e1 _ _ hb)
  exact ⟨its.toArray, its2.toArray, k, k2, e, e2, by rw [List.size_toArray, ← r.length], by rw [List.size_toArray, ← r2.length, ← p.1], fun h1 h2 => turnB hD h sb p r r2 i h1 h2 s' q⟩
theorem rcB_list (hD : MonB D) (h : EqB X n D) : RcB X (n + 1) .Eq (DLT D true) := by
  intro A pins s σ H x y u v r sb I rx ry ⟨a, b, xs, ys, e1, e2, ha, hb, p, hr⟩
  subst e1 e2 hr
  cases rx
  cases ry
  exact GQ.rc_listG (N := xs.length) sb.room.units0 _ (listI_of hD h sb ha hb p) (fun s' q => ⟨rfl, q⟩) ⟨H, I, Ex.refl _⟩
theorem rcB_listN (hD : MonB D) (h : EqB X n D) : RcB X (n + 1) .NotEq (DLT D false) := by
  intro A pins s σ H x y u v r sb I rx ry ⟨a, b, xs, ys, e1, e2, ha, hb, p, hr⟩
  subst e1 e2 hr
  cases rx
  cases ry
  exact rc_listN (N := xs.length) sb.room.units0 _ (listI_of hD h sb ha hb p) (fun s' q => ⟨rfl, q⟩) ⟨H, I, Ex.refl _⟩
/-- as an operator by types -/
theorem ct_rcB {op : CmpOp} {ta tb : Ty} {r : Bool} (hop : compareOp op = richCompare op) (h : RcB X n op D) (hr : Room n X.A) (hd : ∀ x y H, ta.p x H → tb.p y H → D x y r H) : CmpT X op ta tb (tB r) := by
  refine ⟨fun x y H Q => D x y r H ∧ ∀ H', Ex H H' → Q (.bl r) H', fun pins s σ H x y v u Q I rx ry ⟨d, q⟩ => ?_, fun x y K H s hx hy Q q => ⟨hd x y H (ta.mo s hx) (tb.mo s hy), fun H' e => q _ K H' ⟨e, Ex.refl _, s.trans e, fun _ _ z => z⟩ rfl⟩⟩
  rw [hop]
  refine thn (h X.A pins s σ H x y v u r ⟨hr, rfl⟩ I rx ry d) fun z s' q2 => ?_
  obtain ⟨hz, H', I', e⟩ := q2
  subst hz
  exact ⟨.bl r, H', I', rfl, q H' e⟩
theorem cop_eq : compareOp .Eq = richCompare .Eq := by
  funext a b
  rfl
theorem cop_ne : compareOp .NotEq = richCompare .NotEq := by
  funext a b
  rfl
end
end Z
end
section
set_option Elab.async false
set_option linter.all false
set_option maxRecDepth 100000
set_option maxHeartbeats 2000000
/-! != of instances whose class has an own ==, and == of such an instance with a list. -/
namespace Z
open PySem PySem.Spec PyProof.Rows L2
section
variable {prog : Program} {w : World} {A : Around} {E : Value → Shared → Prop} {s : Shared} {K : PySem.W.Frag} {x C f : Addr} {ox : Obj} {od : Option Obj} {b : Value}
theorem obj_ne_run {Q : Fin → Shared → Prop} (X : K.In s.heap) (I : PySem.W.InstAt s.heap x ox C od) (hs : PySem.W.findIn K (.ref C) "__eq__" = some (some (.ref f))) (hf : PySem.W.isFn K (.ref f) = true) (hu : A.units < cLine)
    (h : wpAny (model prog w) A (call (.ref f) [.ref x, b]) (fun v s' => ∃ r, v = .bool r ∧ Q (.done (.ret (.bool (!r)))) s') E s) : wpAny (model prog w) A (Builtin.«object.__ne__» ⟨[.ref x, b], []⟩) Q E s := by
  unfold Builtin.«object.__ne__»
  have one : wpAny (model prog w) A (callSpecialIfBound? (.ref x) "__eq__" [b]) (fun r s' => ∃ k, r = some (.bool k) ∧ Q (.done (.ret (.bool (!k)))) s') E s :=
    PySem.W.ifBound_K X I hs hf (wpAny_mono h (fun v s' ⟨k, e, q⟩ => ⟨k, by rw [e], q⟩) fun _ _ z => z)
  refine wpAny_bind (wpAny_pure ?_)
  dsimp only
  refine wpAny_bind (wpAny_cRoomFor hu ?_)
  refine wpAny_bind (wpAny_mono one (fun r s' ⟨k, e, q⟩ => ?_) fun _ _ z => z)
  subst e
  exact wpAny_bind (wpAny_truthy_bool (wpAny_pure q))
theorem ne_inst {Q : Value → Shared → Prop} (X : K.In s.heap) (I : PySem.W.InstAt s.heap x ox C od) (hb : PySem.W.Looks (model prog w) s.heap (typeOf b) (.ref C)) (hn : PySem.W.findIn K (.ref C) "__ne__" = some (some (.builtin "object.__ne__")))
    (hs : PySem.W.findIn K (.ref C) "__eq__" = some (some (.ref f))) (hf : PySem.W.isFn K (.ref f) = true) (mo : PySem.W.mroIn K C (.type "object") = some true) (hu : A.units + 1 < cLine)
    (h : wpAny (model prog w) A.in1 (call (.ref f) [.ref x, b]) (fun v s' => ∃ r, v = .bool r ∧ Q (.bool (!r)) s') E s) : wpAny (model prog w) A (richCompare .NotEq (.ref x) b) Q E s := by
  have SB := F.cmp_object.ne
  have sub : PySem.W.Looks (model prog w) s.heap (isInstance (.ref x) (.type "object")) true := I.type.andThen (PySem.W.looks_mroIn X mo)
  have back : wpAny (model prog w) A (call (.builtin "object.__ne__") [.ref x, b]) (fun v s' => ∃ r, v = .bool r ∧ Q (.bool r) s') E s :=
    wpAny_call (codeAny_call_builtin SB.plain F.cmpEntry_ne (PySem.W.check_slot F.cmpKind_ne F.cmpSplit_ne sub (F.cmpArgs_ne _ _) (obj_ne_run (A := A.in1) X I hs hf hu (wpAny_mono h (fun v s' ⟨r, e, q⟩ => ⟨r, e, !r, rfl, q⟩) fun _ _ z => z))))
  have two : wpAny (model prog w) A (callSpecialIfBound? (.ref x) "__ne__" [b]) (fun r s' => ∃ k, r = some (.bool k) ∧ Q (.bool k) s') E s := by
    simp only [callSpecialIfBound?, bindSpecialIfBound?]
    refine wpAny_holding (wpAny_bind (wpAny_bind (wpAny_bind (I.type.here ((PySem.W.looks_findIn X hn).here ?_)))))
    simp only [SB.bind]
    refine wpAny_bind (wpAny_askSetting (wpAny_ite ?_))
    have fin : wpAny (model prog w) A (call (.builtin "object.__ne__") ([.ref x] ++ [b]) >>= fun v => pure (some v)) (fun r s' => ∃ k, r = some (.bool k) ∧ Q (.bool k) s') E s :=
      wpAny_bind (wpAny_mono back (fun v s' ⟨k, e, q⟩ => wpAny_pure ⟨k, by rw [e], q⟩) fun _ _ z => z)
    split
    · exact wpAny_bind (wpAny_pure (wpAny_pure fin))
    · exact wpAny_tryCatch (wpAny_bind (wpAny_pure (wpAny_pure fin)))
  have one : wpAny (model prog w) A (tryCompare (.ref x) (cmpInfo .NotEq).2.1 b) (fun r s' => ∃ k, r = some (.bool k) ∧ Q (.bool k) s') E s := by
    unfold tryCompare
    exact wpAny_bind (wpAny_mono two (fun r s' ⟨k, e, q⟩ => by subst e; exact wpAny_pure ⟨k, rfl, q⟩) fun _ _ z => z)
  unfold richCompare
  simp only [oneThing_ref]
  refine wpAny_holding (wpAny_bind (wpAny_cRoomFor (by omega) ?_))
  refine wpAny_bind (I.type.here (wpAny_bind (hb.here ?_)))
  rw [if_neg (by simp)]
  refine wpAny_bind (wpAny_pure ?_)
  simp only [Bool.false_eq_true, if_false]
  refine wpAny_bind (wpAny_mono one (fun r s' ⟨k, e, q⟩ => ?_) fun _ _ z => z)
  subst e
  exact wpAny_pure q
end
section
variable {X : Cx} {n : Nat} {D : DB}
theorem Sub.units1 {A : Around} (s : Sub X (n + 1) A) : A.units + 1 < cLine := by
  have h := s.room.units
  omega
/-- != by the own == -/
theorem rcN_ins {k : Nat} {C f : Addr} {fd : FuncData} {ps : List Str} {α : Type} {pre : α → Prop} {args : α → List Ty} {rb : α → Bool} (F : FnOk X.prog X.w X.K X.mg X.base CX0 k f fd ps (Spt pre args fun a => tB (rb a))) (hb : Binds X.K fd ps [])
    (hs : PySem.W.findIn X.K (.ref C) "__eq__" = some (some (.ref f))) (hf : PySem.W.isFn X.K (.ref f) = true) (hn : PySem.W.findIn X.K (.ref C) "__ne__" = some (some (.builtin "object.__ne__"))) (mo : PySem.W.mroIn X.K C (.type "object") = some true) :
    RcB X (k + 1) .NotEq (fun x y r H => DI C pre args rb x y (!r) H) := by
  intro A pins s σ H x y u v r sb I rx ry ⟨a, h1, h2, h3, ⟨bx, dx, vs, e1, hx⟩, by', dy, ws, e2, hy⟩
  subst e1 e2
  cases rx
  cases ry
  obtain ⟨mA, J, _⟩ := ins_get I.hok hx
  obtain ⟨mB, J', _⟩ := ins_get I.hok hy
  obtain ⟨od, J, _⟩ := J.look
  obtain ⟨od', J', _⟩ := J'.look
  refine ne_inst I.kIn J J'.type hn hs hf mo (Sub.units1 sb) ?_
  refine run_sub F hb sb.in1 I (vs := [.ref bx, .ref by']) (us := [.ref bx, .ref by']) (.cons rfl (.cons rfl .nil)) a h1 h3 fun v u s' H' I' ex rv tv => ?_
  have ev : v = .bl (rb a) := tv
  subst ev
  cases rv
  exact ⟨rb a, rfl, by rw [h2, Bool.not_not], H', I', ex⟩
/-- an instance == a list: the own == is asked -/
theorem rcB_insL {k : Nat} {C f : Addr} {fd : FuncData} {ps : List Str} {α : Type} {pre : α → Prop} {args : α → List Ty} {rb : α → Bool} (F : FnOk X.prog X.w X.K X.mg X.base CX0 k f fd ps (Spt pre args fun a => tB (rb a))) (hb : Binds X.K fd ps [])
    (hs : PySem.W.findIn X.K (.ref C) "__eq__" = some (some (.ref f))) (hf : PySem.W.isFn X.K (.ref f) = true) (hl : PySem.W.subIn X.K (.type "list") (.ref C) = some false) :
    RcB X k .Eq (fun x y r H => ∃ a, pre a ∧ rb a = r ∧ All2 (args a) [x, y] H ∧ (∃ b dx vs, x = .ref b ∧ H b = some (.ins C dx vs)) ∧ ∃ b xs, y = .ref b ∧ H b = some (.lst xs)) := by
  intro A pins s σ H x y u v r sb I rx ry ⟨a, h1, h2, h3, ⟨bx, dx, vs, e1, hx⟩, by', xs, e2, hy⟩
  subst e1 e2
  cases rx
  cases ry
  obtain ⟨mA, J, _⟩ := ins_get I.hok hx
  obtain ⟨od, J, _⟩ := J.look
  obtain ⟨m, hF⟩ := I.fr
  obtain ⟨z, its, q1, r1, e1⟩ := I.hok by' _ hy
  have ht : PySem.W.Looks (model X.prog X.w) s.heap (typeOf (.ref by')) (.type "list") := (PySem.W.Looks.ld e1).andThen .now
  refine PySem.W.cmp_K (op := .Eq) (tb := .type "list") sb.room.units0 hF I.ok.mod.kin J ht (by unfold PySem.W.notFirst; rw [hl]; simp) hs hf ?_
  refine run_sub F hb sb I (vs := [.ref bx, .ref by']) (us := [.ref bx, .ref by']) (.cons rfl (.cons rfl .nil)) a h1 h3 fun v u s' H' I' ex rv tv => ?_
  have ev : v = .bl (rb a) := tv
  subst ev
  cases rv
  exact ⟨by rw [h2], H', I', ex⟩
end
end Z
end
section
set_option Elab.async false
set_option linter.all false
set_option maxRecDepth 100000
set_option maxHeartbeats 2000000
/-! What the text's top leaves, as facts; short names for built-ins. -/
namespace Z
open PySem PySem.Spec PyProof.Rows L2
def top (i : Nat) : Stmt := PySem.Challenge.pw_surerwalks_k21_whole_walks_and_their_sha.main.body.getD i (.Pass ⟨0, 0, 0, 0⟩)
abbrev dq (x : Str) (i : Nat) : Str × Nat := (x, i)
abbrev nq (x y : Str) : Str × Str := (x, y)
abbrev kq (v : Value) (x : Str) (b : Bool) : Value × Str × Bool := (v, x, b)
abbrev mq (c m q : Str) (i j : Nat) (l : List V) : Str × Str × Str × Nat × Nat × List V := (c, m, q, i, j, l)
abbrev pq (c m q : Str) (i j : Nat) : Str × Str × Str × Nat × Nat := (c, m, q, i, j)
/-- the defs of the module: name, place -/
def defs : List (Str × Nat) := [dq "is_integer" 12, dq "is_list" 13, dq "divisor_of" 17, dq "told_pair" 19, dq "is_number" 20, dq "ratio_of" 21, dq "wholes" 22, dq "total_of" 23, dq "ints_of" 25, dq "bare_row" 26, dq "cleared" 27, dq "first_at" 28, dq "headed_row" 29, dq "int_steps" 30, dq "head_of" 31, dq "told_rows" 32, dq "steps_of" 33, dq "kernel_of" 34, dq "are_numbers" 38, dq "told_numbers" 39, dq "is_one" 40, dq "are_chances" 41, dq "are_rows" 42, dq "told_rows_of" 43, dq "led" 44, dq "are_shares" 45, dq "looked_at" 47, dq "walk_made" 49, dq "want_walk" 50, dq "come_to" 51, dq "closed_in" 52, dq "are_whole_rows" 53, dq "only_shares" 54, dq "walk_of" 55, dq "is_whole" 56, dq "closed_lot" 57]
def lawDefs : List (Str × Nat) := [dq "_law_pot" 59, dq "_law_draw" 60, dq "_law_order" 61, dq "_law_flow" 62, dq "_law_rows" 63, dq "_law_shares" 64, dq "_law_walk" 65, dq "_law_reached" 66, dq "_law_is_whole" 67, dq "_law_minor" 68, dq "_law_only" 69, dq "_law_is_closed" 70, dq "_law_lot_right" 71, dq "_law_drawn_right" 72, dq "_law_are_kept" 73, dq "_law_rows_lead" 74, dq "_law_apart" 75, dq "_law_right" 76, dq "law" 77]
/-- methods: class, name, qualified name, place of the class, place in it, defaults -/
def meths : List (Str × Str × Str × Nat × Nat × List V) := [mq "Ratio" "__init__" "Ratio.__init__" 18 0 [.int 1], mq "Ratio" "__add__" "Ratio.__add__" 18 6 [], mq "Ratio" "__sub__" "Ratio.__sub__" 18 8 [], mq "Ratio" "__mul__" "Ratio.__mul__" 18 10 [], mq "Ratio" "__neg__" "Ratio.__neg__" 18 12 [], mq "Ratio" "over" "Ratio.over" 18 13 [], mq "Ratio" "__eq__" "Ratio.__eq__" 18 17 [],
  mq "Known" "__init__" "Known.__init__" 46 0 [], mq "Walk" "__init__" "Walk.__init__" 48 0 [], mq "Walk" "rows" "Walk.rows" 48 2 [], mq "Walk" "shares" "Walk.shares" 48 3 [], mq "Walk" "__eq__" "Walk.__eq__" 48 4 [], mq "InvalidShares" "__init__" "InvalidShares.__init__" 9 0 []]
/-- properties -/
def props : List (Str × Str × Str × Nat × Nat) := [pq "Ratio" "top" "Ratio.top" 18 1, pq "Ratio" "sign" "Ratio.sign" 18 3, pq "Walk" "places" "Walk.places" 48 1]
def frees : List Str := ["len", "range", "zip", "enumerate", "isinstance", "int", "bool", "tuple", "list", "all", "sum", "sorted", "abs", "max", "min", "divmod", "repr"]
def noats : List (Str × Str) := [nq "Ratio" "own_top", nq "Ratio" "own_bottom", nq "Known" "own_rows", nq "Known" "own_shares", nq "Walk" "own_rows", nq "Walk" "own_shares", nq "Walk" "own_kept"]
/-- isinstance of a value of a class -/
def kits (K : PySem.W.Frag) : List (Value × Str × Bool) := [kq (.type "int") "Ratio" false, kq (.type "list") "Known" false, kq (.type "tuple") "Known" false, kq (.type "list") "Walk" false]
/-- where a class stands -/
abbrev ca (K : PySem.W.Frag) (x : Str) : Addr := He.ga K x
structure DefOk (K : PySem.W.Frag) (mg : Str → Option Value) (x : Str) (i : Nat) : Prop where
  fd : ∃ fd, FunD K x x (defArgs (top i)) (defBody (top i)) (defScope (top i)) [] [] (ca K x) fd
  mg : mg x = some (.ref (ca K x))
structure MethOk (K : PySem.W.Frag) (c m q : Str) (i j : Nat) (dvs : List V) : Prop where
  fd : ∃ fd, FunD K m q (defArgs (inClass (top i) j)) (defBody (inClass (top i) j)) (defScope (inClass (top i) j)) dvs [] (He.ma K (ca K c) m) fd
  me : Meth K (ca K c) m (He.ma K (ca K c) m)
structure PropOk (K : PySem.W.Frag) (c m q : Str) (i j : Nat) : Prop where
  fd : ∃ p g fd, FunD K m q (defArgs (inClass (top i) j)) (defBody (inClass (top i) j)) (defScope (inClass (top i) j)) [] [] g fd ∧ PropOf K (ca K c) m p g
structure Tx (K : PySem.W.Frag) (mg : Str → Option Value) : Prop where
  d : ∀ (i : Nat) (q : Str × Nat), defs[i]? = some q → DefOk K mg q.1 q.2
  l : ∀ (i : Nat) (q : Str × Nat), lawDefs[i]? = some q → DefOk K mg q.1 q.2
  m : ∀ (i : Nat) (q : Str × Str × Str × Nat × Nat × List V), meths[i]? = some q → MethOk K q.1 q.2.1 q.2.2.1 q.2.2.2.1 q.2.2.2.2.1 q.2.2.2.2.2
  p : ∀ (i : Nat) (q : Str × Str × Str × Nat × Nat), props[i]? = some q → PropOk K q.1 q.2.1 q.2.2.1 q.2.2.2.1 q.2.2.2.2
  fr : ∀ x ∈ frees, mg x = none
  gcd : mg "gcd" = some (.builtin "math.gcd")
  lcm : mg "lcm" = some (.builtin "math.lcm")
  least : ∃ t, mg "LEAST_PLACES" = some (.int 2 t)
  most : ∃ t, mg "MOST_PLACES" = some (.int 6 t)
  na : ∀ q ∈ noats, NoAttr K (ca K q.1) q.2
  cf : ∀ x ∈ (["Ratio", "Known", "Walk"] : List Str), ClsF K (ca K x)
  cg : ∀ x ∈ (["Ratio", "Known", "Walk", "NotWhole", "InvalidShares"] : List Str), mg x = some (.ref (ca K x))
  mkr : ∀ x ∈ (["Ratio", "Known", "Walk"] : List Str), Mk K (ca K x) (He.ma K (ca K x) "__init__")
  kit : ∀ q ∈ kits K, PySem.W.kitOne K q.1 (.ref (ca K q.2.1)) = some q.2.2
  kitR : PySem.W.kitOne K (.ref (ca K "Ratio")) (.type "int") = some false
  selfR : PySem.W.selfFirst K (ca K "Ratio") = true
  rsub : ∃ g, PySem.W.findIn K (.ref (ca K "Ratio")) "__rsub__" = some (some (.ref g))
  isub : ∃ fo, PySem.W.findIn K (.type "int") "__sub__" = some fo
  irsub : ∃ fo, PySem.W.findIn K (.type "int") "__rsub__" = some fo
  subI : PySem.W.subIn K (.type "int") (.ref (ca K "Ratio")) = some false
  subL : PySem.W.subIn K (.type "list") (.ref (ca K "Walk")) = some false
  neW : PySem.W.findIn K (.ref (ca K "Walk")) "__ne__" = some (some (.builtin "object.__ne__"))
  moW : PySem.W.mroIn K (ca K "Walk") (.type "object") = some true
  oex : OexC K (ca K "InvalidShares")
  oexNo : PySem.W.findIn K (.ref (ca K "InvalidShares")) "value" = some none
  oexFn : PySem.W.typeIn K (.ref (He.ma K (ca K "InvalidShares") "__init__")) = some (.type "function")
  xNW : PySem.W.excIn K (ca K "NotWhole") [.type "RuntimeError", .type "Exception", .type "BaseException", .type "object"] "RuntimeError.__new__" = true
  kNW : PySem.W.keepIn K (.ref (ca K "NotWhole")) = true
  bNW : PySem.W.subIn K (.ref (ca K "NotWhole")) (.type "BaseException") = some true
  tNW : PySem.W.typeIn K (.ref (ca K "NotWhole")) = some (.type "type")
  eNW : PySem.W.exmOne K (.ref (ca K "NotWhole")) (.ref (ca K "NotWhole")) = some true
  eIS : PySem.W.exmOne K (.ref (ca K "InvalidShares")) (.ref (ca K "InvalidShares")) = some true
section
variable {K : PySem.W.Frag} {mg : Str → Option Value}
theorem Tx.f (T : Tx K mg) (i : Nat) {x : Str} (h : frees[i]? = some x := by rfl) : mg x = none := T.fr x (List.mem_of_getElem? h)
theorem Tx.n (T : Tx K mg) (i : Nat) {q : Str × Str} (h : noats[i]? = some q := by rfl) : NoAttr K (ca K q.1) q.2 := T.na q (List.mem_of_getElem? h)
theorem Tx.cR (T : Tx K mg) : ClsF K (ca K "Ratio") := T.cf _ List.mem_cons_self
theorem Tx.cK (T : Tx K mg) : ClsF K (ca K "Known") := T.cf _ (List.mem_cons_of_mem _ List.mem_cons_self)
theorem Tx.cW (T : Tx K mg) : ClsF K (ca K "Walk") := T.cf _ (List.mem_cons_of_mem _ (List.mem_cons_of_mem _ List.mem_cons_self))
theorem Tx.gR (T : Tx K mg) : mg "Ratio" = some (.ref (ca K "Ratio")) := T.cg _ List.mem_cons_self
theorem Tx.gK (T : Tx K mg) : mg "Known" = some (.ref (ca K "Known")) := T.cg _ (List.mem_cons_of_mem _ List.mem_cons_self)
theorem Tx.gW (T : Tx K mg) : mg "Walk" = some (.ref (ca K "Walk")) := T.cg _ (List.mem_cons_of_mem _ (List.mem_cons_of_mem _ List.mem_cons_self))
theorem Tx.gNW (T : Tx K mg) : mg "NotWhole" = some (.ref (ca K "NotWhole")) := T.cg _ (List.mem_cons_of_mem _ (List.mem_cons_of_mem _ (List.mem_cons_of_mem _ List.mem_cons_self)))
theorem Tx.gIS (T : Tx K mg) : mg "InvalidShares" = some (.ref (ca K "InvalidShares")) := T.cg _ (List.mem_cons_of_mem _ (List.mem_cons_of_mem _ (List.mem_cons_of_mem _ (List.mem_cons_of_mem _ List.mem_cons_self))))
theorem Tx.mR (T : Tx K mg) : Mk K (ca K "Ratio") (He.ma K (ca K "Ratio") "__init__") := T.mkr _ List.mem_cons_self
theorem Tx.mK (T : Tx K mg) : Mk K (ca K "Known") (He.ma K (ca K "Known") "__init__") := T.mkr _ (List.mem_cons_of_mem _ List.mem_cons_self)
theorem Tx.mW (T : Tx K mg) : Mk K (ca K "Walk") (He.ma K (ca K "Walk") "__init__") := T.mkr _ (List.mem_cons_of_mem _ (List.mem_cons_of_mem _ List.mem_cons_self))
theorem Tx.kt (T : Tx K mg) (i : Nat) {q : Value × Str × Bool} (h : (kits K)[i]? = some q := by rfl) : PySem.W.kitOne K q.1 (.ref (ca K q.2.1)) = some q.2.2 := T.kit q (List.mem_of_getElem? h)
end

/-! ### built-ins by name -/
theorem b_enum : bootBuiltins "enumerate" = some (.type "enumerate") := by decide +kernel
theorem b_len : bootBuiltins "len" = some (.builtin "len") := by decide +kernel
theorem b_isi : bootBuiltins "isinstance" = some (.builtin "isinstance") := by decide +kernel
theorem b_int : bootBuiltins "int" = some (.type "int") := by decide +kernel
theorem b_bool : bootBuiltins "bool" = some (.type "bool") := by decide +kernel
theorem b_tuple : bootBuiltins "tuple" = some (.type "tuple") := by decide +kernel
theorem b_list : bootBuiltins "list" = some (.type "list") := by decide +kernel
theorem b_all : bootBuiltins "all" = some (.builtin "all") := by decide +kernel
theorem b_sum : bootBuiltins "sum" = some (.builtin "sum") := by decide +kernel
theorem b_sorted : bootBuiltins "sorted" = some (.builtin "sorted") := by decide +kernel
theorem b_abs : bootBuiltins "abs" = some (.builtin "abs") := by decide +kernel
theorem b_max : bootBuiltins "max" = some (.builtin "max") := by decide +kernel
theorem b_min : bootBuiltins "min" = some (.builtin "min") := by decide +kernel
theorem b_divmod : bootBuiltins "divmod" = some (.builtin "divmod") := by decide +kernel
theorem b_repr : bootBuiltins "repr" = some (.builtin "repr") := by decide +kernel
section
variable {X : Cx} {Γ : Ctx} {e e2 : Expr} {t : Ty} {ts : List Ty} {pos p : Pos} {i j : Int}
theorem k_len (T : Tx X.K X.mg) (h : Has X Γ e (tL ts)) (hg : Gl X "len" := by rfl) (he : starEach (e :: []) X.env = (false, eval e X.env) :: starEach [] X.env := by rfl) (hpl : (backTo pos (starEach [] X.env)).any (·.1) = false := by rfl) : Has X Γ (.Call (.Name "len" p) [e] [] pos) (tI (ts.length : Int)) :=
  has_callB ct_len hg (T.f 0) b_len (hasa_cons h hasa_nil he) (he := he) (hpl := hpl)
theorem k_lenT (T : Tx X.K X.mg) (h : Has X Γ e (tT ts)) (hg : Gl X "len" := by rfl) (he : starEach (e :: []) X.env = (false, eval e X.env) :: starEach [] X.env := by rfl) (hpl : (backTo pos (starEach [] X.env)).any (·.1) = false := by rfl) : Has X Γ (.Call (.Name "len" p) [e] [] pos) (tI (ts.length : Int)) :=
  has_callB ct_lenT hg (T.f 0) b_len (hasa_cons h hasa_nil he) (he := he) (hpl := hpl)
theorem k_lenQ (T : Tx X.K X.mg) (h : Has X Γ e (tQ ts)) (hg : Gl X "len" := by rfl) (he : starEach (e :: []) X.env = (false, eval e X.env) :: starEach [] X.env := by rfl) (hpl : (backTo pos (starEach [] X.env)).any (·.1) = false := by rfl) : Has X Γ (.Call (.Name "len" p) [e] [] pos) (tI (ts.length : Int)) :=
  has_callB ct_lenQ hg (T.f 0) b_len (hasa_cons h hasa_nil he) (he := he) (hpl := hpl)
theorem k_b1 {x : Str} {id : String} {u : Ty} (hm : X.mg x = none) (hv : bootBuiltins x = some (.builtin id)) (ho : CallT X (.builtin id) [t] u) (h : Has X Γ e t) (hg : Gl X x := by rfl) (hn : x ≠ "__name__" := by decide) (hdb : (x == ("__debug__" : Str)) = false := by decide)
    (he : starEach (e :: []) X.env = (false, eval e X.env) :: starEach [] X.env := by rfl) (hpl : (backTo pos (starEach [] X.env)).any (·.1) = false := by rfl) : Has X Γ (.Call (.Name x p) [e] [] pos) u :=
  has_callB ho hg hm hv (hasa_cons h hasa_nil he) hn hdb he hpl
theorem k_b2 {x : Str} {id : String} {u t2 : Ty} (hm : X.mg x = none) (hv : bootBuiltins x = some (.builtin id)) (ho : CallT X (.builtin id) [t, t2] u) (h : Has X Γ e t) (h2 : Has X Γ e2 t2) (hg : Gl X x := by rfl) (hn : x ≠ "__name__" := by decide) (hdb : (x == ("__debug__" : Str)) = false := by decide)
    (he : starEach (e :: [e2]) X.env = (false, eval e X.env) :: starEach [e2] X.env := by rfl) (he2 : starEach [e2] X.env = (false, eval e2 X.env) :: starEach [] X.env := by rfl) (hpl : (backTo pos (starEach [e2] X.env)).any (·.1) = false := by rfl) : Has X Γ (.Call (.Name x p) [e, e2] [] pos) u :=
  has_callB ho hg hm hv (hasa_cons h (hasa_cons h2 hasa_nil he2) he) hn hdb he hpl
theorem k_t1 {x : Str} {id : String} {u : Ty} (hm : X.mg x = none) (hv : bootBuiltins x = some (.type id)) (ho : CallT X (.type id) [t] u) (h : Has X Γ e t) (hg : Gl X x := by rfl) (hn : x ≠ "__name__" := by decide) (hdb : (x == ("__debug__" : Str)) = false := by decide)
    (he : starEach (e :: []) X.env = (false, eval e X.env) :: starEach [] X.env := by rfl) (hpl : (backTo pos (starEach [] X.env)).any (·.1) = false := by rfl) : Has X Γ (.Call (.Name x p) [e] [] pos) u :=
  has_callTy ho hg hm hv (hasa_cons h hasa_nil he) hn hdb he hpl
end
end Z
end
section
set_option Elab.async false
set_option linter.all false
set_option exponentiation.threshold 20000
set_option maxRecDepth 100000
set_option maxHeartbeats 2000000
/-! The head's Hook: what gives Tx. -/
namespace Z
open PySem PySem.Spec PyProof.Rows L2
def dvOf : V → He.Dv
  | .int i => .int i
  | _ => .non
def defD (q : Str × Nat) : He.DefD := ⟨(q.1, none), q.1, q.1, defArgs (top q.2), defBody (top q.2), defScope (top q.2), [], []⟩
def methD (q : Str × Str × Str × Nat × Nat × List V) : He.DefD := ⟨(q.1, some q.2.1), q.2.1, q.2.2.1, defArgs (inClass (top q.2.2.2.1) q.2.2.2.2.1), defBody (inClass (top q.2.2.2.1) q.2.2.2.2.1), defScope (inClass (top q.2.2.2.1) q.2.2.2.2.1), q.2.2.2.2.2.map dvOf, []⟩
def hfn : List He.DefD := defs.map defD ++ (lawDefs.map defD ++ meths.map methD)
def hfa : List He.Fa := defs.map (fun q => .glo q.1) ++ (lawDefs.map (fun q => .glo q.1) ++ (frees.map (fun x => .free x) ++ ([.int "LEAST_PLACES" 2, .int "MOST_PLACES" 6] ++ (noats.map (fun q => .noat q.1 q.2) ++ ((["Ratio", "Known", "Walk"] : List Str).map (fun x => .cls x) ++ ((["Ratio", "Known", "Walk", "NotWhole", "InvalidShares"] : List Str).map (fun x => .glo x) ++ ((["Ratio", "Known", "Walk"] : List Str).map (fun x => .mkr x) ++ meths.map fun q => .meth q.1 q.2.1)))))))
/-! properties -/
def prP (K : PySem.W.Frag) (q : Str × Str × Str × Nat × Nat) : Addr := He.ma K (ca K q.1) q.2.1
def prG (K : PySem.W.Frag) (q : Str × Str × Str × Nat × Nat) : Addr := match PySem.W.recIn K (prP K q) "property" with
  | some (.ref g :: _) => g
  | _ => 0
def fnA (K : PySem.W.Frag) (g : Addr) : He.FnW := match K.lookup g with
  | some ⟨_, _, .func fd, _⟩ => some (fd.name, fd.qualname, fd.params, fd.body, fd.scope, fd.globals, fd.closure, fd.builtins)
  | _ => none
def valA (q : Str × Str × Str × Nat × Nat) : He.FnW := some (q.2.1, q.2.2.1, defArgs (inClass (top q.2.2.2.1) q.2.2.2.2), .stmts (defBody (inClass (top q.2.2.2.1) q.2.2.2.2)), defScope (inClass (top q.2.2.2.1) q.2.2.2.2), mainGlobals, [], builtinsNs)
def okA (K : PySem.W.Frag) (g : Addr) (qual : Str) : Bool := PySem.W.keepIn K (.ref g) && (match K.lookup g with
  | some ⟨_, _, .func fd, _⟩ => PySem.W.codeIn K fd.code qual && (He.dflB K fd.defaults [] && He.kwdB K fd.kwdefaults [])
  | _ => false)
theorem funA {K : PySem.W.Frag} {g : Addr} {q : Str × Str × Str × Nat × Nat} (e : fnA K g = valA q) (c : okA K g q.2.2.1 = true) : ∃ fd, FunD K q.2.1 q.2.2.1 (defArgs (inClass (top q.2.2.2.1) q.2.2.2.2)) (defBody (inClass (top q.2.2.2.1) q.2.2.2.2)) (defScope (inClass (top q.2.2.2.1) q.2.2.2.2)) [] [] g fd := by
  obtain ⟨kp, k2⟩ := He.ba c
  unfold fnA at e
  match w : K.lookup g with
  | none =>
    rw [w] at k2
    cases k2
  | some ⟨oc, od, dt, osl⟩ =>
    rw [w] at k2 e
    match dt, k2, e with
    | .func ⟨m1, m2, m3, m4, m5, m6, m7, m8, m9, m10, m11, m12, m13, m14, m15⟩, k2, e =>
      have e3 : (some (m1, m2, m3, m4, m5, m6, m7, m15) : He.FnW) = valA q := e
      unfold valA at e3
      simp only [Option.some.injEq, Prod.mk.injEq] at e3
      obtain ⟨r1, r2, r3, r4, r5, r6, r7, r8⟩ := e3
      subst r1 r2 r3 r4 r5 r6 r7 r8
      obtain ⟨k3, k4⟩ := He.ba (show (PySem.W.codeIn K m13 _ && (He.dflB K m8 [] && He.kwdB K m9 [])) = true from k2)
      obtain ⟨k5, k6⟩ := He.ba k4
      exact ⟨_, ⟨oc, od, m8, m9, m10, m11, m12, m13, m14, osl, rfl, w, k3, He.dflB_ok k5, He.kwdB_ok k6⟩, kp⟩
def prB (K : PySem.W.Frag) (q : Str × Str × Str × Nat × Nat) : Bool := He.eqO (PySem.W.findIn K (.ref (ca K q.1)) q.2.1) (some (some (.ref (prP K q)))) && (decide (PySem.W.specialIn K (.ref (prP K q)) "__get__" = some (some (.builtin "property.__get__"))) && (decide (PySem.W.takesIn K (.ref (prP K q)) = some true) && ((match PySem.W.recIn K (prP K q) "property" with
  | some (.ref _ :: _) => true
  | _ => false) && okA K (prG K q) q.2.2.1)))
theorem prop_ok {K : PySem.W.Frag} {q : Str × Str × Str × Nat × Nat} (e : fnA K (prG K q) = valA q) (c : prB K q = true) : PropOk K q.1 q.2.1 q.2.2.1 q.2.2.2.1 q.2.2.2.2 := by
  obtain ⟨c1, c⟩ := He.ba c
  obtain ⟨c2, c⟩ := He.ba c
  obtain ⟨c3, c⟩ := He.ba c
  obtain ⟨c4, c5⟩ := He.ba c
  obtain ⟨fd, F⟩ := funA e c5
  refine ⟨prP K q, prG K q, fd, F, He.eqO_ok c1, of_decide_eq_true c2, of_decide_eq_true c3, ?_⟩
  unfold prG
  split at c4
  · rename_i g rest w
    rw [w]
    exact ⟨rest, rfl⟩
  · cases c4
/-! own exception classes -/
def oexB (K : PySem.W.Frag) (C : Addr) : Bool := (match K.lookup C with
  | some ⟨.type "type", _, .cls cd, sl⟩ => (match cd.mro, sl.toList with
    | .ref D :: bm, [_, _, _, _, some (.builtin n), _] => D == C && (n == "ValueError.__new__" && (!cd.hasDel && (cd.hasDict && PySem.HandSPX.refsVE bm)))
    | _, _ => false)
  | _ => false) && (He.eqO (PySem.W.findIn K (.ref C) "__setattr__") (some (some (.builtin "object.__setattr__"))) && (decide (PySem.W.subIn K (.ref C) (.type "BaseException") = some true) && (decide (PySem.W.typeIn K (.ref C) = some (.type "type")) && PySem.W.keepIn K (.ref C))))
theorem oex_ok {K : PySem.W.Frag} {C : Addr} (c : oexB K C = true) : OexC K C := by
  obtain ⟨c1, c⟩ := He.ba c
  obtain ⟨c2, c⟩ := He.ba c
  obtain ⟨c3, c⟩ := He.ba c
  obtain ⟨c4, c5⟩ := He.ba c
  refine ⟨?_, He.eqO_ok c2, of_decide_eq_true c3, of_decide_eq_true c4, c5⟩
  split at c1
  · rename_i dd cd sl ho
    split at c1
    · rename_i D bm k0 k1 k2 k3 n k5 hm hs
      simp only [Bool.and_eq_true, beq_iff_eq, Bool.not_eq_true'] at c1
      obtain ⟨rfl, rfl, hdel, hdc, hre⟩ := c1
      obtain ⟨nm, bs, mro, ns, qn, hd, sn, sub, ab, col, del⟩ := cd
      dsimp only at hm hdel hdc
      subst hm hdel hdc
      have hsl : sl = #[k0, k1, k2, k3, some (.builtin "ValueError.__new__"), k5] := by
        obtain ⟨l⟩ := sl
        dsimp only at hs
        rw [hs]
      subst hsl
      exact ⟨nm, qn, ns, bs, bm, sn, sub, ab, col, dd, k0, k1, k2, k3, k5, ho, hre⟩
    · cases c1
  · cases c1
/-! the rest -/
def clsB (K : PySem.W.Frag) (x : Str) : Bool := He.eqO (PySem.W.findIn K (.ref (ca K x)) "__class__") (some (some (.builtin "object.__class__"))) && decide (PySem.W.mroIn K (ca K x) (.type "object") = some true)
def refB (o : Option (Option Value)) : Bool := match o with
  | some (some (.ref _)) => true
  | _ => false
theorem refB_ok {o : Option (Option Value)} (h : refB o = true) : ∃ g, o = some (some (.ref g)) := by
  unfold refB at h
  split at h
  · exact ⟨_, rfl⟩
  · cases h
def exB (K : PySem.W.Frag) : List Bool :=
  [He.eqO (PySem.W.nsIn K mainGlobals "gcd") (some (some (.builtin "math.gcd"))),
   He.eqO (PySem.W.nsIn K mainGlobals "lcm") (some (some (.builtin "math.lcm"))),
   clsB K "Ratio", clsB K "Known", clsB K "Walk",
   decide (PySem.W.specialIn K (.builtin "object.__class__") "__get__" = some (some (.builtin "getset_descriptor.__get__"))),
   decide (PySem.W.takesIn K (.builtin "object.__class__") = some true),
   (kits K).all fun q => decide (PySem.W.kitOne K q.1 (.ref (ca K q.2.1)) = some q.2.2),
   decide (PySem.W.kitOne K (.ref (ca K "Ratio")) (.type "int") = some false),
   PySem.W.selfFirst K (ca K "Ratio"),
   refB (PySem.W.findIn K (.ref (ca K "Ratio")) "__rsub__"),
   (PySem.W.findIn K (.type "int") "__sub__").isSome,
   (PySem.W.findIn K (.type "int") "__rsub__").isSome,
   decide (PySem.W.subIn K (.type "int") (.ref (ca K "Ratio")) = some false),
   decide (PySem.W.subIn K (.type "list") (.ref (ca K "Walk")) = some false),
   He.eqO (PySem.W.findIn K (.ref (ca K "Walk")) "__ne__") (some (some (.builtin "object.__ne__"))),
   decide (PySem.W.mroIn K (ca K "Walk") (.type "object") = some true),
   oexB K (ca K "InvalidShares"),
   He.eqO (PySem.W.findIn K (.ref (ca K "InvalidShares")) "value") (some none),
   decide (PySem.W.typeIn K (.ref (He.ma K (ca K "InvalidShares") "__init__")) = some (.type "function")),
   PySem.W.excIn K (ca K "NotWhole") [.type "RuntimeError", .type "Exception", .type "BaseException", .type "object"] "RuntimeError.__new__",
   PySem.W.keepIn K (.ref (ca K "NotWhole")),
   decide (PySem.W.subIn K (.ref (ca K "NotWhole")) (.type "BaseException") = some true),
   decide (PySem.W.typeIn K (.ref (ca K "NotWhole")) = some (.type "type")),
   decide (PySem.W.exmOne K (.ref (ca K "NotWhole")) (.ref (ca K "NotWhole")) = some true),
   decide (PySem.W.exmOne K (.ref (ca K "InvalidShares")) (.ref (ca K "InvalidShares")) = some true),
   props.all fun q => prB K q]
abbrev AlZ : Type := He.AlD × List Bool × List He.FnW
def obsZ (K : PySem.W.Frag) : AlZ := (He.obsD hfa hfn K, exB K, props.map fun q => fnA K (prG K q))
def valZ : AlZ := (He.valD hfn, List.replicate 27 true, props.map valA)
def SaysZ (K : PySem.W.Frag) : Prop := obsZ K = valZ
/-- what the module's names reach in n steps: a mask of what was seen, all, the last -/
def bitAt (m a : Nat) : Bool := Nat.beq (Nat.land (Nat.shiftRight m a) 1) 1
def addZ : List Addr → Nat → List Addr → (Nat → List Addr → List Addr) → List Addr
  | [], m, new, k => k m new
  | a :: as, m, new, k => match bitAt m a with
    | true => addZ as m new k
    | false => addZ as (Nat.lor m (Nat.shiftLeft 1 a)) (a :: new) k
def refsZ (g : Addr → Option Obj) : List Addr → Nat → List Addr → (Nat → List Addr → List Addr) → List Addr
  | [], m, new, k => k m new
  | a :: as, m, new, k => match g a with
    | some o => addZ (He.refsD o) m new fun m2 new2 => refsZ g as m2 new2 k
    | none => refsZ g as m new k
def reachZ (g : Addr → Option Obj) : Nat → List Addr → Nat → List Addr → List Addr
  | 0, _, _, all => all
  | n + 1, last, m, all => refsZ g last m [] fun m2 new => reachZ g n new m2 (all ++ new)
def asZ (g : Addr → Option Obj) (n : Nat) : List Addr := reachZ g n [mainGlobals] (Nat.shiftLeft 1 mainGlobals) [mainGlobals]
def obsZG (n : Nat) (g : Addr → Option Obj) : AlZ := obsZ (He.frG g (asZ g n))
def hookZ (n : Nat) : PySem.W.Hook where
  α := AlZ
  obs := fun s => obsZG n s.heap.get?
  val := fun _ => valZ
  says := fun _ h => ∃ K : PySem.W.Frag, K.In h ∧ SaysZ K
  of := fun _ _ e => ⟨_, He.frG_in, e⟩
  keeps := fun _ _ _ ⟨K, hK, c⟩ k => ⟨K, PySem.W.Frag.In.keeps hK k, c⟩
theorem obsZG_eq {n : Nat} {g : Addr → Option Obj} {s : Shared} (h : ∀ a, g a = s.heap.get? a) : obsZG n g = (hookZ n).obs s := by
  have e : g = s.heap.get? := funext h
  rw [e]
  rfl
end Z
end
section
set_option Elab.async false
set_option linter.all false
set_option maxRecDepth 100000
set_option maxHeartbeats 0
namespace Z
open PySem PySem.Spec PyProof.Rows L2
abbrev Rw : PySem.W.OpenRow := PySem.W.OpenLaw.row PySem.Challenge.rw_surerwalks_k21_whole_walks_and_their_sha
abbrev qv : Program := PySem.W.view Rw.prog [0, 77]
def n1 : List PySem.Str := ["_wall", "WalkError", "StateError", "InvalidNumber", "InvalidWalk", "DividedByZero", "InvalidRows", "InvalidShares", "NotWhole", "is_integer", "is_list", "PART", "digits_of", "divisor_of", "Ratio", "told_pair", "is_number", "ratio_of", "wholes", "total_of", "ints_of", "bare_row", "cleared", "first_at", "headed_row", "int_steps", "head_of", "told_rows", "steps_of", "kernel_of"]
def n2 : List PySem.Str := ["LEAST_PLACES", "MOST_PLACES", "are_numbers", "told_numbers", "is_one", "are_chances", "are_rows", "told_rows_of", "led", "are_shares", "Known", "looked_at", "Walk", "walk_made", "want_walk", "come_to", "closed_in", "are_whole_rows", "only_shares", "walk_of", "is_whole", "closed_lot"]
def n3 : List PySem.Str := ["_law_pot", "_law_draw", "_law_order", "_law_flow", "_law_rows", "_law_shares", "_law_walk", "_law_reached", "_law_is_whole", "_law_minor", "_law_only", "_law_is_closed", "_law_lot_right", "_law_drawn_right", "_law_are_kept", "_law_rows_lead", "_law_apart", "_law_right"]
def lnames : List PySem.Str := n1 ++ (n2 ++ n3)
def obT (s : PySem.W.SharedT) : AlZ := obsZG 5 (HandSHeadRun.getT s)
theorem obT_eq (s : PySem.W.SharedT) : obT s = (hookZ 5).obs s.abs := obsZG_eq (HandSHeadRun.getT_eq s)
/-- the run, its state handed to k -/
noncomputable def after {α : Type} (w : World) (k : Shared × PySem.W.SharedT → α) : Option α := (HandSHeadRun.wholeF (fun p => HandSHeadRun.stepQ (HandSHeadRun.denQ HandSHeadRun.tabQ) p w) HandSHeadRun.fenceQ 20000 Rw.prog).map k
theorem after_three {α β γ δ : Type} {w : World} {f : Shared × PySem.W.SharedT → α} {g : Shared × PySem.W.SharedT → β} {h : Shared × PySem.W.SharedT → γ} {i : Shared × PySem.W.SharedT → δ} {a : α} {b : β} {c : γ} {d : δ} (p : after w f = some a) (q : after w g = some b) (r : after w h = some c) (t : after w i = some d) : after w (fun x => (f x, g x, h x, i x)) = some (a, b, c, d) := by
  unfold after at *
  cases e : HandSHeadRun.wholeF (fun p => HandSHeadRun.stepQ (HandSHeadRun.denQ HandSHeadRun.tabQ) p w) HandSHeadRun.fenceQ 20000 Rw.prog with
  | none =>
    rw [e] at p
    cases p
  | some x =>
    rw [e] at p q r t
    cases p
    cases q
    cases r
    cases t
    rfl
def kT (s : PySem.W.SharedT) : PySem.W.Frag := He.frG (HandSHeadRun.getT s) (asZ (HandSHeadRun.getT s) 5)
end Z
end
section
set_option Elab.async false
set_option linter.all false
set_option maxRecDepth 100000
set_option maxHeartbeats 0
namespace Z
open PySem PySem.Spec PyProof.Rows L2
theorem runC (w : World) : after w (fun x => exB (kT x.2)) = some (List.replicate 27 true) := by
  unfold after
  kernel_rfl
end Z
end
section
set_option Elab.async false
set_option linter.all false
set_option maxRecDepth 100000
set_option maxHeartbeats 0
namespace Z
open PySem PySem.Spec PyProof.Rows L2
theorem runD (w : World) : after w (fun x => props.map fun q => fnA (kT x.2) (prG (kT x.2) q)) = some (props.map valA) := by
  unfold after
  kernel_rfl
end Z
end
section
set_option Elab.async false
set_option linter.all false
set_option maxRecDepth 100000
set_option maxHeartbeats 0
namespace Z
open PySem PySem.Spec PyProof.Rows L2
theorem runB (w : World) : after w (fun x => He.obsD hfa hfn (kT x.2)) = some (He.valD hfn) := by
  unfold after
  kernel_rfl
end Z
end
section
set_option Elab.async false
set_option linter.all false
set_option maxRecDepth 100000
set_option maxHeartbeats 0
namespace Z
open PySem PySem.Spec PyProof.Rows L2
theorem runA (w : World) : after w (fun x => (HandSHeadRun.looksF Rw.prog x.1.heap x.2.abs, HandSHeadRun.seenQ qv lnames (importedModules Rw.prog.main.body) (fun s => PySem.W.xlAt qv [] s && PySem.W.recOk Rw.toRowW.records s) x.2.abs)) = some (true, PySem.W.openGood qv lnames) := by
  unfold after
  kernel_rfl
end Z
end
section
set_option Elab.async false
set_option linter.all false
set_option exponentiation.threshold 20000
set_option maxRecDepth 100000
set_option maxHeartbeats 2000000
namespace Z
open PySem PySem.Spec PyProof.Rows L2
section
variable {X : Cx} {Γ : Ctx} {M : Mt} {Kb Hb : Hp} {e a b : Expr} {t u : Ty} {ts : List Ty} {pos p : Pos} {x y : Str} {D : Ends} {rest : List Stmt}
/-- x, y = e, e a pair -/
theorem bl_two {px py pt : Pos} {kt} (i j : Nat) (h : Has X Γ e (tT [t, u])) (k : Bl X Kb Hb ((Γ.set i (some t)).set j (some u)) M rest D) (hN : X.N.Nodup) (hi : X.N[i]? = some x := by rfl) (hj : X.N[j]? = some y := by rfl) (hc : X.calm = true := by rfl)
    (hx : Loc X.env.scope x := by first | exact Or.inl rfl | exact Or.inr rfl) (hy : Loc X.env.scope y := by first | exact Or.inl rfl | exact Or.inr rfl)
    (hf : X.fn x = true ∨ X.env.scope.names.lookup x = some .local := by first | exact .inl rfl | exact .inr rfl) (hf2 : X.fn y = true ∨ X.env.scope.names.lookup y = some .local := by first | exact .inl rfl | exact .inr rfl)
    (hs : swapsWithSole [.Tuple [.Name x px, .Name y py] kt pt] e pos.line X.env = pure false := by rfl) (hw : swappedStores [.Tuple [.Name x px, .Name y py] kt pt] e X.env = pure none := by rfl) :
    Bl X Kb Hb Γ M (.Assign [.Tuple [.Name x px, .Name y py] kt pt] e pos :: rest) D := fun σ H s =>
  wss_cons (ws_of (ps_asg pe_we (pg_tup hc (pgs_cons (pg_name hN hi hx hf) (pgs_cons (pg_name hN hj hy hf2) pgs_nil))) hs hw) (h.at s fun v K' H' g sa m ⟨l, xs, ev, hl, xa⟩ => by
    obtain ⟨v1, v2, rfl, h1, h2⟩ := xa.two
    exact ⟨l, _, ev, SqT.of (g.s _ _ hl), rfl, v1, [v2], rfl, v2, [], rfl, rfl, k _ _ ⟨K', g, (sa.set h1).set h2, m⟩⟩))
/-- x, y = (a, b) -/
theorem bl_par {px py pt : Pos} {kt k2 pt2} (i j : Nat) (ha : Has X Γ a t) (hb : Has X Γ b u) (k : Bl X Kb Hb ((Γ.set i (some t)).set j (some u)) M rest D) (hN : X.N.Nodup) (hij : i ≠ j := by decide) (hi : X.N[i]? = some x := by rfl) (hj : X.N[j]? = some y := by rfl) (hc : X.calm = true := by rfl)
    (hx : X.env.scope.names.lookup x = some .local := by rfl) (hy : X.env.scope.names.lookup y = some .local := by rfl)
    (he : starEach (a :: [b]) X.env = (false, eval a X.env) :: starEach [b] X.env := by rfl) (he2 : starEach [b] X.env = (false, eval b X.env) :: starEach [] X.env := by rfl)
    (hw : swappedStores [.Tuple [.Name x px, .Name y py] kt pt] (.Tuple [a, b] k2 pt2) X.env = pure (some [x, y]) := by rfl)
    (hs : swapsWithSole [.Tuple [.Name x px, .Name y py] kt pt] (.Tuple [a, b] k2 pt2) pos.line X.env = pure false := by rfl) : Bl X Kb Hb Γ M (.Assign [.Tuple [.Name x px, .Name y py] kt pt] (.Tuple [a, b] k2 pt2) pos :: rest) D := fun σ H s => by
  obtain ⟨K, g, sa, m⟩ := s
  refine wss_cons (ws_of (ps_par hc hN hi hj hij hx hy pa_wa hw hs) (hasa_cons ha (hasa_cons hb hasa_nil he2) he σ K H g.s sa _ fun vs K' H' g1 h => ?_))
  obtain ⟨v1, v2, rfl, h1, h2⟩ := h.two
  exact ⟨v1, v2, rfl, k _ _ ⟨K', g.trans g1, ((sa.mo g1.k).set h1).set h2, M.st g1 m⟩⟩
end

/-! ### sizes -/
def Bd (k : Nat) (i : Int) : Prop := i.natAbs < 2 ^ k
theorem Bd.mono {j k : Nat} {i : Int} (h : Bd j i) (l : j ≤ k) : Bd k i := Nat.lt_of_lt_of_le h (Nat.pow_le_pow_right (by decide) l)
theorem Bd.log {k : Nat} {i : Int} (h : Bd k i) (hk : 0 < k) : i.natAbs.log2 < k := by
  by_cases z : i.natAbs = 0
  · rw [z]
    simpa using hk
  · exact (Nat.log2_lt z).mpr h
theorem Bd.mulW {j k : Nat} {a b : Int} (ha : Bd j a) (hb : Bd k b) (h : j + k < 900000) : CMulW a b := by
  have h1 := (ha.mono (Nat.le_add_right j 1)).log (Nat.succ_pos j)
  have h2 := (hb.mono (Nat.le_add_right k 1)).log (Nat.succ_pos k)
  unfold CMulW
  omega
theorem Bd.mul {j k : Nat} {a b : Int} (ha : Bd j a) (hb : Bd k b) : Bd (j + k) (a * b) := by
  unfold Bd at *
  rw [Int.natAbs_mul, Nat.pow_add]
  exact Nat.mul_lt_mul'' ha hb
theorem Bd.add {k : Nat} {a b : Int} (ha : Bd k a) (hb : Bd k b) : Bd (k + 1) (a + b) := by
  unfold Bd at *
  rw [Nat.pow_succ]
  omega
theorem Bd.sub {k : Nat} {a b : Int} (ha : Bd k a) (hb : Bd k b) : Bd (k + 1) (a - b) := by
  unfold Bd at *
  rw [Nat.pow_succ]
  omega
/-- a rational of less than k bits above and below -/
def Sz (k : Nat) (q : Rat) : Prop := Bd k q.num ∧ q.den < 2 ^ k
theorem Sz.mono {j k : Nat} {q : Rat} (h : Sz j q) (l : j ≤ k) : Sz k q := ⟨h.1.mono l, Nat.lt_of_lt_of_le h.2 (Nat.pow_le_pow_right (by decide) l)⟩
theorem Sz.den {k : Nat} {q : Rat} (h : Sz k q) : Bd k (q.den : Int) := by
  unfold Bd
  rw [Int.natAbs_natCast]
  exact h.2
theorem sz_mk {k : Nat} {a : Int} {b : Nat} (ha : Bd k a) (hb : b < 2 ^ k) (h0 : b ≠ 0) : Sz k (mkRat a b) := by
  constructor
  · unfold Bd
    rw [Rat.num_mkRat, if_neg h0]
    refine Nat.lt_of_le_of_lt ?_ ha
    rw [Int.natAbs_ediv_of_dvd]
    · exact Nat.div_le_self _ _
    · rw [← Int.natAbs_dvd_natAbs, Int.natAbs_natCast]
      exact Nat.gcd_dvd_right _ _
  · rw [Rat.den_mkRat]
    rw [if_neg h0]
    exact Nat.lt_of_le_of_lt (Nat.div_le_self _ _) hb
theorem bdn {j k a b : Nat} (ha : a < 2 ^ j) (hb : b < 2 ^ k) : a * b < 2 ^ (j + k) := by
  rw [Nat.pow_add]
  exact Nat.mul_lt_mul'' ha hb
theorem Sz.add {j k : Nat} {a b : Rat} (ha : Sz j a) (hb : Sz k b) : Sz (j + k + 1) (a + b) := by
  rw [Rat.add_def']
  refine sz_mk ((ha.1.mul hb.den).add (Nat.add_comm k j ▸ hb.1.mul ha.den)) ?_ (Nat.mul_ne_zero a.den_nz b.den_nz)
  exact Nat.lt_of_lt_of_le (bdn ha.2 hb.2) (Nat.pow_le_pow_right (by decide) (Nat.le_succ _))
theorem Sz.sub {j k : Nat} {a b : Rat} (ha : Sz j a) (hb : Sz k b) : Sz (j + k + 1) (a - b) := by
  rw [Rat.sub_def']
  refine sz_mk ((ha.1.mul hb.den).sub (Nat.add_comm k j ▸ hb.1.mul ha.den)) ?_ (Nat.mul_ne_zero a.den_nz b.den_nz)
  exact Nat.lt_of_lt_of_le (bdn ha.2 hb.2) (Nat.pow_le_pow_right (by decide) (Nat.le_succ _))
theorem Sz.mul {j k : Nat} {a b : Rat} (ha : Sz j a) (hb : Sz k b) : Sz (j + k) (a * b) := by
  rw [Rat.mul_def']
  exact sz_mk (ha.1.mul hb.1) (bdn ha.2 hb.2) (Nat.mul_ne_zero a.den_nz b.den_nz)
theorem Sz.neg {j : Nat} {a : Rat} (ha : Sz j a) : Sz j (-a) := by
  refine ⟨?_, ?_⟩
  · unfold Bd
    show (-a.num).natAbs < _; rw [Int.natAbs_neg]
    exact ha.1
  · show a.den < _
    exact ha.2
theorem sz_int {j : Nat} {i : Int} (h : Bd j i) (hj : 0 < j) : Sz j (i : Rat) := ⟨h, by
  show 1 < 2 ^ j
  exact Nat.one_lt_two_pow (by omega)⟩

/-! ### rationals -/
abbrev fR (q : Rat) : List (Str × Ty) := [("own_top", tI q.num), ("own_bottom", tI (q.den : Int))]
abbrev tR (K : PySem.W.Frag) (q : Rat) : Ty := tO (ca K "Ratio") (fR q)
inductive Nm where
  | r (q : Rat)
  | i (z : Int)
def Nm.q : Nm → Rat
  | .r q => q
  | .i z => z
def tN (K : PySem.W.Frag) : Nm → Ty
  | .r q => tR K q
  | .i z => tI z
section
variable {P : Program} {w : World} {K : PySem.W.Frag} {mg : Str → Option Value} {base : Heap} {α : Type} {pre : α → Prop} {args : α → List Ty} {res : α → Ty} {k : Nat}
theorem Tx.cal (T : Tx K mg) (n : Nat) {q : Str × Nat} (hi : defs[n]? = some q) {N ps : List Str} (S : FnScope N ps (defScope (top q.2))) (hl : ∀ a, (args a).length = ps.length)
    (hbi : ∀ (kV doc pm : Value) (an : Option Addr) (cdv ct : Value) (us : List Value), us.length = ps.length → bindArgs (PySem.W.fnOf q.1 q.1 (defArgs (top q.2)) (defBody (top q.2)) (defScope (top q.2)) .none kV doc pm an cdv ct) ⟨us, []⟩ = pure (ps.zip us))
    (hb : N.Nodup → ∀ a, pre a → ∀ b : Bc, Room k (cxB CX0 P w K mg base N q.1 (defScope (top q.2)) (ca K q.1) b).A → ∀ Kb Hb D, D.nx = (fun _ H' => D.rt .non H') → (∀ v K' H', Gr Kb Hb K' H' → (res a).p v K' → D.rt v H') →
      Bl (cxB CX0 P w K mg base N q.1 (defScope (top q.2)) (ca K q.1) b) Kb Hb ((args a).map some ++ List.replicate (N.length - (args a).length) none) mNone (defBody (top q.2)) D) : Cal P w K mg base q.1 (k + 1) (Spt pre args res) := by
  have d := T.d n q hi
  obtain ⟨fd, F⟩ := d.fd
  exact cal_ty F d.mg S hl hbi (hb S.nd)
/-- a method that is no __init__ -/
structure Met (P : Program) (w : World) (K : PySem.W.Frag) (mg : Str → Option Value) (base : Heap) (c m : Str) (k : Nat) (ps : List Str) (sp : Sp) : Prop where
  ex : ∃ fd, FnOk P w K mg base CX0 k (He.ma K (ca K c) m) fd ps sp ∧ Binds K fd ps []
  me : Meth K (ca K c) m (He.ma K (ca K c) m)
theorem Met.mono {c m : Str} {ps : List Str} {j k : Nat} {sp : Sp} (M : Met P w K mg base c m j ps sp) (h : j ≤ k) : Met P w K mg base c m k ps sp :=
  let ⟨fd, a, b⟩ := M.ex
  ⟨⟨fd, a.mono h, b⟩, M.me⟩
theorem Tx.met (T : Tx K mg) (n : Nat) {c m q : Str} {i j : Nat} (hi : meths[n]? = some (mq c m q i j [])) {N ps : List Str} (S : FnScope N ps (defScope (inClass (top i) j))) (hl : ∀ a, (args a).length = ps.length)
    (hbi : ∀ (kV doc pm : Value) (an : Option Addr) (cdv ct : Value) (us : List Value), us.length = ps.length → bindArgs (PySem.W.fnOf m q (defArgs (inClass (top i) j)) (defBody (inClass (top i) j)) (defScope (inClass (top i) j)) .none kV doc pm an cdv ct) ⟨us, []⟩ = pure (ps.zip us))
    (hb : N.Nodup → ∀ a, pre a → ∀ b : Bc, Room k (cxB CX0 P w K mg base N q (defScope (inClass (top i) j)) (He.ma K (ca K c) m) b).A → ∀ Kb Hb D, D.nx = (fun _ H' => D.rt .non H') → (∀ v K' H', Gr Kb Hb K' H' → (res a).p v K' → D.rt v H') →
      Bl (cxB CX0 P w K mg base N q (defScope (inClass (top i) j)) (He.ma K (ca K c) m) b) Kb Hb ((args a).map some ++ List.replicate (N.length - (args a).length) none) mNone (defBody (inClass (top i) j)) D) : Met P w K mg base c m (k + 1) ps (Spt pre args res) := by
  have d := T.m n _ hi
  obtain ⟨fd, F⟩ := d.fd
  exact ⟨⟨fd, fn_ty F S hl (hb S.nd), F.bindsN hbi⟩, d.me⟩
end
/-- is_integer of an int -/
abbrev sIsI : Sp := Spt (α := Int) (fun _ => True) (fun i => [tI i]) fun _ => tB true
theorem f_is_integer {P w K mg base} (T : Tx K mg) : Cal P w K mg base "is_integer" 1 sIsI :=
  T.cal 0 rfl (C8.fnScope_by (N := ["value"]) (P := ["value"]) (by decide +kernel)) (fun _ => rfl) (fun _ _ _ _ _ _ us hl => match us, hl with | [_], _ => rfl) fun nd i _ b r Kb Hb D _ hD =>
    bl_ret (has_and (k_b2 (T.f 4) b_isi (ct_isi (b := true) (.ty _) hty_int (kit_ty (by decide +kernel))) (has_var 0) (has_ty (T.f 5) b_int)) fun _ => has_one (has_not (k_b2 (T.f 4) b_isi (ct_isi (b := false) (.ty _) hty_int (kit_ty (by decide +kernel))) (has_var 0) (has_ty (T.f 6) b_bool)))) fun v K' H' g _ h => hD v K' H' g h
/-- divisor_of -/
abbrev sDiv : Sp := Spt (α := Int × Int) (fun _ => True) (fun a => [tI a.1, tI a.2]) fun a => tI ((Int.gcd a.1 a.2 : Nat) : Int)
theorem ct_gcd {X : Cx} {i j : Int} : CallT X (.builtin "math.gcd") [tI i, tI j] (tI ((Int.gcd i j : Nat) : Int)) := ⟨_, cr_gcd, fun vs K H s hv Q q => by
  obtain ⟨v, w, rfl, e, e2⟩ := hv.two
  have e' : v = .int i := e
  have e2' : w = .int j := e2
  subst e' e2'
  exact ⟨i, j, rfl, q _ K H (Gr.refl s) rfl⟩⟩
theorem has_callBf {X : Cx} {Γ : Ctx} {e : Expr} {es : List Expr} {t : Ty} {ts : List Ty} {pos p : Pos} {x : Str} {id : String} (ho : CallT X (.builtin id) ts t) (hm : X.mg x = some (.builtin id)) (ha : HasA X Γ (e :: es) ts) (hg : Gl X x := by rfl) (hdb : (x == ("__debug__" : Str)) = false := by decide)
    (he : starEach (e :: es) X.env = (false, eval e X.env) :: starEach es X.env := by rfl) (hpl : (backTo pos (starEach es X.env)).any (·.1) = false := by rfl) : Has X Γ (.Call (.Name x p) (e :: es) [] pos) t := fun σ K H s g Q q => by
  obtain ⟨r, hr, ht⟩ := ho
  refine we_of (pe_callBfun hr hg hm pa_wa hdb he hpl) (ha σ K H s g _ fun vs K1 H1 g1 h1 => ?_)
  exact ht vs K1 H1 g1.s h1 Q fun v K3 H3 g3 h3 => q v K3 H3 (g1.trans g3) h3
theorem f_divisor_of {P w K mg base} (T : Tx K mg) : Cal P w K mg base "divisor_of" 1 sDiv :=
  T.cal 2 rfl (C8.fnScope_by (N := ["one", "other"]) (P := ["one", "other"]) (by decide +kernel)) (fun _ => rfl) (fun _ _ _ _ _ _ us hl => match us, hl with | [_, _], _ => rfl) fun nd a _ b r Kb Hb D _ hD =>
    bl_ret (has_callBf ct_gcd T.gcd (hasa_cons (has_var 0) (hasa_cons (has_var 1) hasa_nil))) fun v K' H' g _ h => hD v K' H' g h
/-- Ratio(a, b) of 0 < b -/
def pMk (q : Int × Nat) : Prop := 0 < q.2 ∧ q.2 < 2 ^ 8000
theorem mk_fields {a : Int} {b : Nat} (h : 0 < b) : a / ((Int.gcd a b : Nat) : Int) = (mkRat a b).num ∧ (b : Int) / ((Int.gcd a b : Nat) : Int) = ((mkRat a b).den : Int) := by
  rw [Rat.num_mkRat, Rat.den_mkRat, if_neg (Nat.ne_of_gt h), if_neg (Nat.ne_of_gt h)]
  have e : b.gcd a.natAbs = Int.gcd a b := by
    rw [Nat.gcd_comm]
    rfl
  rw [e]
  exact ⟨rfl, (Int.natCast_ediv _ _).symm⟩
theorem gcd_ok {a : Int} {b : Nat} (h : pMk (a, b)) : CDivW a ((Int.gcd a b : Nat) : Int) := by
  have h1 : Int.gcd a b ≤ b := Nat.le_of_dvd h.1 (Nat.gcd_dvd_right _ _)
  have h0 : 0 < Int.gcd a b := Nat.gcd_pos_of_pos_right _ h.1
  refine ⟨by omega, ?_⟩
  have z : Bd 8000 ((Int.gcd a b : Nat) : Int) := by
    unfold Bd
    rw [Int.natAbs_natCast]
    exact Nat.lt_of_le_of_lt h1 h.2
  have := z.log (by decide)
  omega
theorem f_RInit {P w K mg base} (T : Tx K mg) {fd : FuncData} (F : FunD K "__init__" "Ratio.__init__" (defArgs (inClass (top 18) 0)) (defBody (inClass (top 18) 0)) (defScope (inClass (top 18) 0)) [.int 1] [] (He.ma K (ca K "Ratio") "__init__") fd) :
    FnOk P w K mg base CX0 2 (He.ma K (ca K "Ratio") "__init__") fd ["self", "top", "bottom"] (Spi (α := Int × Nat) (ca K "Ratio") pMk (fun a => [tI a.1, tI (a.2 : Int)]) fun a => fR (mkRat a.1 a.2)) :=
  init_ty F (C8.fnScope_by (N := ["self", "top", "bottom", "common"]) (P := ["self", "top", "bottom"]) (by decide +kernel)) (fun _ => rfl) fun a pa b r Kb Hb D y hy _ hD => by
    have nd : (["self", "top", "bottom", "common"] : List Str).Nodup := by decide +kernel
    obtain ⟨x, n⟩ := a
    have hn : (n : Int) ≠ 0 := by have := pa.1; simp only at this; omega
    refine bl_if (hast_not (hast_val (has_call (f_is_integer T) x trivial (hasa_cons (has_var 1) hasa_nil) r))) (fun h => by cases h) fun _ => bl_fall ?_
    refine bl_if (k := false) (hast_w ((hasw_or (l := false) (hast_not (hast_val (has_call (f_is_integer T) (n : Int) trivial (hasa_cons (has_var 2) hasa_nil) r))) fun _ => hasw_or1 ((hast_cmp (has_var 2) has_int ct_eqI).is (decide_eq_false hn))))) (fun h => by cases h) fun _ => bl_fall ?_
    refine bl_asg 3 (has_call (f_divisor_of T) (x, (n : Int)) trivial (hasa_cons (has_var 1) (hasa_cons (has_var 2) hasa_nil)) r) ?_ nd
    refine bl_if (k := false) ((hast_cmp (has_var 2) has_int ct_lt).is (decide_eq_false (by omega))) (fun h => by cases h) fun _ => bl_fall ?_
    have e := mk_fields (a := x) pa.1
    have c := gcd_ok pa
    refine bl_fld 0 rfl hy mNone.fr T.cR.cl (T.n 0 (q := nq "Ratio" "own_top")) rfl (by decide) ((has_op (has_var 1) (has_var 3) (bt_fdiv c)).is (by rw [e.1])) ?_
    refine bl_fld 0 rfl hy mNone.fr T.cR.cl (T.n 1 (q := nq "Ratio" "own_bottom")) rfl (by simp) ((has_op (has_var 2) (has_var 3) (bt_fdiv ⟨c.1, c.2⟩)).is (by rw [e.2])) ?_
    exact bl_nil fun σ H ⟨K', g, _, m, _⟩ => by
      rw [‹D.nx = _›]
      exact hD K' H g m
abbrev sRInit (K : PySem.W.Frag) : Sp := Spi (α := Int × Nat) (ca K "Ratio") pMk (fun a => [tI a.1, tI (a.2 : Int)]) fun a => fR (mkRat a.1 a.2)
section
variable {X : Cx} {Γ : Ctx} {e e2 : Expr} {pos p : Pos} {k : Nat}
/-- Ratio(e, e2) -/
theorem k_Ratio (T : Tx X.K X.mg) (a : Int) (b : Nat) (hp : pMk (a, b)) (h1 : Has X Γ e (tI a)) (h2 : Has X Γ e2 (tI (b : Int))) (hr : Room 3 X.A) (hg : Gl X "Ratio" := by rfl)
    (he : starEach (e :: [e2]) X.env = (false, eval e X.env) :: starEach [e2] X.env := by rfl) (he2 : starEach [e2] X.env = (false, eval e2 X.env) :: starEach [] X.env := by rfl) (hpl : (backTo pos (starEach [e2] X.env)).any (·.1) = false := by rfl) :
    Has X Γ (.Call (.Name "Ratio" p) [e, e2] [] pos) (tR X.K (mkRat a b)) := by
  obtain ⟨fd, F⟩ := (T.m 0 _ rfl).fd
  obtain ⟨ds, rd, bd⟩ := F.binds1 (ps := ["self", "top", "bottom"]) 3 1 (by simp) rfl fun T kV doc pm an cdv ct us its h1 h2 => match us, its, h1, h2 with | [_, _, _], [_], _, _ => ⟨_, rfl, rfl⟩
  have e0 : ds = [] := by cases rd; rfl
  subst e0
  exact has_make (dts := []) T.mR (f_RInit T F) bd .nil (fun _ => trivial) T.gR (a, b) hp rfl (hasa_cons h1 (hasa_cons h2 hasa_nil he2) he) hr hg (by decide) he hpl
/-- Ratio(e) -/
theorem k_Ratio1 (T : Tx X.K X.mg) (a : Int) (h1 : Has X Γ e (tI a)) (hr : Room 3 X.A) (hg : Gl X "Ratio" := by rfl)
    (he : starEach (e :: []) X.env = (false, eval e X.env) :: starEach [] X.env := by rfl) (hpl : (backTo pos (starEach [] X.env)).any (·.1) = false := by rfl) :
    Has X Γ (.Call (.Name "Ratio" p) [e] [] pos) (tR X.K (mkRat a 1)) := by
  obtain ⟨fd, F⟩ := (T.m 0 _ rfl).fd
  obtain ⟨ds, rd, bd⟩ := F.binds1 (ps := ["self", "top", "bottom"]) 2 0 (by simp) rfl fun T kV doc pm an cdv ct us its h1 h2 => match us, its, h1, h2 with | [_, _], [_], _, _ => ⟨_, rfl, rfl⟩
  exact has_make (dts := [tI 1]) T.mR (f_RInit T F) bd rd (fun _ => ⟨rfl, trivial⟩) T.gR (a, 1) ⟨Nat.one_pos, Nat.one_lt_two_pow (by decide)⟩ rfl (hasa_cons h1 hasa_nil he) hr hg (by decide) he hpl
/-- the fields of a rational -/
theorem k_top {q : Rat} (T : Tx X.K X.mg) (h : Has X Γ e (tR X.K q)) (hb : attributeBase e "own_top" X.env (eval e X.env) = eval e X.env := by rfl) : Has X Γ (.Attribute e "own_top" pos) (tI q.num) := has_fld T.cR.cl (T.n 0 (q := nq "Ratio" "own_top")) h rfl hb
theorem k_bot {q : Rat} (T : Tx X.K X.mg) (h : Has X Γ e (tR X.K q)) (hb : attributeBase e "own_bottom" X.env (eval e X.env) = eval e X.env := by rfl) : Has X Γ (.Attribute e "own_bottom" pos) (tI (q.den : Int)) := has_fld T.cR.cl (T.n 1 (q := nq "Ratio" "own_bottom")) h rfl hb
end
/-- told_pair -/
abbrev sTold (K : PySem.W.Frag) : Sp := Spt (α := Nm) (fun _ => True) (fun a => [tN K a]) fun a => tT [tI a.q.num, tI (a.q.den : Int)]
theorem hty_R {K : PySem.W.Frag} {mg} (T : Tx K mg) {q : Rat} : HTy K (tR K q) (.ref (ca K "Ratio")) := hty_O T.cR
theorem kit_same {K : PySem.W.Frag} {C : Addr} : PySem.W.kitOne K (.ref C) (.ref C) = some true := by
  unfold PySem.W.kitOne
  rw [if_pos (by simp)]
section
variable {X : Cx} {Γ : Ctx} {e e2 : Expr} {pos p p2 : Pos} {t : Ty}
theorem k_isi {C : V} {U U2 : Value} {b : Bool} (T : Tx X.K X.mg) (h : Has X Γ e t) (h2 : Has X Γ e2 (tV C)) (hc : ClsV C U) (ht : HTy X.K t U2) (hk : PySem.W.kitOne X.K U2 U = some b) (hg : Gl X "isinstance" := by rfl)
    (he : starEach (e :: [e2]) X.env = (false, eval e X.env) :: starEach [e2] X.env := by rfl) (he2 : starEach [e2] X.env = (false, eval e2 X.env) :: starEach [] X.env := by rfl) (hpl : (backTo pos (starEach [e2] X.env)).any (·.1) = false := by rfl) :
    Has X Γ (.Call (.Name "isinstance" p) [e, e2] [] pos) (tB b) := k_b2 (T.f 4) b_isi (ct_isi hc ht hk) h h2 hg (by decide) (by decide) he he2 hpl
/-- isinstance(e, Ratio) -/
theorem k_isR (T : Tx X.K X.mg) {a : Nm} (h : Has X Γ e (tN X.K a)) (hg : Gl X "isinstance" := by rfl) (hg2 : Gl X "Ratio" := by rfl)
    (he : starEach (e :: [.Name "Ratio" p2]) X.env = (false, eval e X.env) :: starEach [.Name "Ratio" p2] X.env := by rfl) (he2 : starEach [.Name "Ratio" p2] X.env = (false, eval (.Name "Ratio" p2) X.env) :: starEach [] X.env := by rfl) (hpl : (backTo pos (starEach [.Name "Ratio" p2] X.env)).any (·.1) = false := by rfl) :
    Has X Γ (.Call (.Name "isinstance" p) [e, .Name "Ratio" p2] [] pos) (tB (match a with | .r _ => true | .i _ => false)) := by
  cases a with
  | r q => exact k_isi T h (has_cls T.gR hg2) (.own _) (hty_R T) kit_same hg he he2 hpl
  | i z => exact k_isi T h (has_cls T.gR hg2) (.own _) hty_int (T.kt 0) hg he he2 hpl
end
theorem f_told_pair {P w K mg base} (T : Tx K mg) : Cal P w K mg base "told_pair" 2 (sTold K) :=
  T.cal 3 rfl (C8.fnScope_by (N := ["value"]) (P := ["value"]) (by decide +kernel)) (fun _ => rfl) (fun _ _ _ _ _ _ us hl => match us, hl with | [_], _ => rfl) fun nd a _ b r Kb Hb D _ hD => by
    refine bl_if (hast_val (k_isR T (has_var 0))) (fun h => ?_) fun h => bl_fall ?_
    · cases a with
      | i z => cases h
      | r q => exact bl_ret (has_tup (hasa_cons (k_top T (has_var 0)) (hasa_cons (k_bot T (has_var 0)) hasa_nil)) (by simp)) fun v K' H' g _ h => hD v K' H' g h
    · cases a with
      | r q => cases h
      | i z =>
        refine bl_if (hast_not (hast_val (has_call (f_is_integer T) z trivial (hasa_cons (has_var 0) hasa_nil) r))) (fun h => by cases h) fun _ => bl_fall ?_
        exact bl_ret (has_tup (hasa_cons (has_var 0) (hasa_cons has_int hasa_nil)) (by simp)) fun v K' H' g _ h => hD v K' H' g h
/-- + - * of a rational -/
def pOp (a : Rat × Nm) : Prop := Sz 4000 a.1 ∧ Sz 4000 a.2.q
theorem pOp.mk {a : Rat × Nm} (h : pOp a) (x : Int) : pMk (x, a.1.den * a.2.q.den) := ⟨Nat.mul_pos a.1.den_pos a.2.q.den_pos, by
  have := bdn h.1.2 h.2.2
  simpa using this⟩
theorem f_add {P w K mg base} (T : Tx K mg) : Met P w K mg base "Ratio" "__add__" 4 ["self", "other"] (Spt (α := Rat × Nm) pOp (fun a => [tR K a.1, tN K a.2]) fun a => tR K (a.1 + a.2.q)) :=
  T.met 1 rfl (C8.fnScope_by (N := ["self", "other", "top", "bottom"]) (P := ["self", "other"]) (by decide +kernel)) (fun _ => rfl) (fun _ _ _ _ _ _ us hl => match us, hl with | [_, _], _ => rfl) fun nd a pa b r Kb Hb D _ hD => by
    refine bl_two 2 3 (has_call ((f_told_pair T).mono (by decide)) a.2 trivial (hasa_cons (has_var 1) hasa_nil) r) ?_ nd
    refine bl_ret (k_Ratio T (a.1.num * (a.2.q.den : Int) + a.2.q.num * (a.1.den : Int)) (a.1.den * a.2.q.den) (pa.mk _) (has_op (has_op (k_top T (has_var 0)) (has_var 3) (bt_mul (pa.1.1.mulW pa.2.den (by decide)))) (has_op (has_var 2) (k_bot T (has_var 0)) (bt_mul (pa.2.1.mulW pa.1.den (by decide)))) bt_add)
      ((has_op (k_bot T (has_var 0)) (has_var 3) (bt_mul (pa.1.den.mulW pa.2.den (by decide)))).is (by rw [Int.natCast_mul])) r) fun v K' H' g _ h => hD v K' H' g ?_
    rw [Rat.add_def']
    exact h
theorem f_sub {P w K mg base} (T : Tx K mg) : Met P w K mg base "Ratio" "__sub__" 4 ["self", "other"] (Spt (α := Rat × Nm) pOp (fun a => [tR K a.1, tN K a.2]) fun a => tR K (a.1 - a.2.q)) :=
  T.met 2 rfl (C8.fnScope_by (N := ["self", "other", "top", "bottom"]) (P := ["self", "other"]) (by decide +kernel)) (fun _ => rfl) (fun _ _ _ _ _ _ us hl => match us, hl with | [_, _], _ => rfl) fun nd a pa b r Kb Hb D _ hD => by
    refine bl_two 2 3 (has_call ((f_told_pair T).mono (by decide)) a.2 trivial (hasa_cons (has_var 1) hasa_nil) r) ?_ nd
    refine bl_ret (k_Ratio T (a.1.num * (a.2.q.den : Int) - a.2.q.num * (a.1.den : Int)) (a.1.den * a.2.q.den) (pa.mk _) (has_op (has_op (k_top T (has_var 0)) (has_var 3) (bt_mul (pa.1.1.mulW pa.2.den (by decide)))) (has_op (has_var 2) (k_bot T (has_var 0)) (bt_mul (pa.2.1.mulW pa.1.den (by decide)))) bt_sub)
      ((has_op (k_bot T (has_var 0)) (has_var 3) (bt_mul (pa.1.den.mulW pa.2.den (by decide)))).is (by rw [Int.natCast_mul])) r) fun v K' H' g _ h => hD v K' H' g ?_
    rw [Rat.sub_def']
    exact h
theorem f_mul {P w K mg base} (T : Tx K mg) : Met P w K mg base "Ratio" "__mul__" 4 ["self", "other"] (Spt (α := Rat × Nm) pOp (fun a => [tR K a.1, tN K a.2]) fun a => tR K (a.1 * a.2.q)) :=
  T.met 3 rfl (C8.fnScope_by (N := ["self", "other", "top", "bottom"]) (P := ["self", "other"]) (by decide +kernel)) (fun _ => rfl) (fun _ _ _ _ _ _ us hl => match us, hl with | [_, _], _ => rfl) fun nd a pa b r Kb Hb D _ hD => by
    refine bl_two 2 3 (has_call ((f_told_pair T).mono (by decide)) a.2 trivial (hasa_cons (has_var 1) hasa_nil) r) ?_ nd
    refine bl_ret (k_Ratio T (a.1.num * a.2.q.num) (a.1.den * a.2.q.den) (pa.mk _) (has_op (k_top T (has_var 0)) (has_var 2) (bt_mul (pa.1.1.mulW pa.2.1 (by decide))))
      ((has_op (k_bot T (has_var 0)) (has_var 3) (bt_mul (pa.1.den.mulW pa.2.den (by decide)))).is (by rw [Int.natCast_mul])) r) fun v K' H' g _ h => hD v K' H' g ?_
    rw [Rat.mul_def']
    exact h
theorem f_neg {P w K mg base} (T : Tx K mg) : Met P w K mg base "Ratio" "__neg__" 4 ["self"] (Spt (α := Rat) (Sz 4000) (fun a => [tR K a]) fun a => tR K (-a)) :=
  T.met 4 rfl (C8.fnScope_by (N := ["self"]) (P := ["self"]) (by decide +kernel)) (fun _ => rfl) (fun _ _ _ _ _ _ us hl => match us, hl with | [_], _ => rfl) fun nd a pa b r Kb Hb D _ hD => by
    refine bl_ret (k_Ratio T (0 - a.num) a.den ⟨a.den_pos, Nat.lt_of_lt_of_le pa.2 (Nat.pow_le_pow_right (by decide) (by decide))⟩ (has_op has_int (k_top T (has_var 0)) bt_sub) (k_bot T (has_var 0)) r) fun v K' H' g _ h => hD v K' H' g ?_
    have e : mkRat (0 - a.num) a.den = -a := by
      rw [Int.zero_sub, ← Rat.neg_mkRat, Rat.mkRat_self]
    rw [← e]
    exact h
/-- over: a divisor above 0 -/
def pOv (a : Rat × Rat) : Prop := Sz 4000 a.1 ∧ Sz 4000 a.2 ∧ 0 < a.2.num
theorem div_mk {a b : Rat} (h : 0 < b.num) : mkRat (a.num * (b.den : Int)) (a.den * b.num.toNat) = a / b := by
  have hb : b.num.toNat ≠ 0 := by omega
  rw [Rat.mkRat_eq_div]
  have e1 : ((b.num.toNat : Nat) : Int) = b.num := Int.toNat_of_nonneg (Int.le_of_lt h)
  have ea : a = (a.num : Rat) / (a.den : Rat) := by rw [← Rat.mkRat_eq_div, Rat.mkRat_self]
  have eb : b = (b.num : Rat) / (b.den : Rat) := by rw [← Rat.mkRat_eq_div, Rat.mkRat_self]
  have ha0 : (a.den : Rat) ≠ 0 := by
    intro z
    exact a.den_nz (by exact_mod_cast z)
  have hb0 : (b.den : Rat) ≠ 0 := by
    intro z
    exact b.den_nz (by exact_mod_cast z)
  have hn0 : (b.num : Rat) ≠ 0 := by
    intro z
    have : b.num = 0 := by exact_mod_cast z
    omega
  have e2 : ((a.den * b.num.toNat : Nat) : Rat) = (a.den : Rat) * (b.num : Rat) := by
    rw [Rat.natCast_mul]
    congr 1
    have : ((b.num.toNat : Int) : Rat) = (b.num : Rat) := by rw [e1]
    exact this
  rw [e2, Rat.intCast_mul]
  generalize hx : (a.num : Rat) = x at *
  generalize hy : (a.den : Rat) = y at *
  generalize hz : (b.num : Rat) = z at *
  have h4 : ((b.den : Int) : Rat) = (b.den : Rat) := rfl
  rw [h4]
  generalize hu : (b.den : Rat) = u at *
  rw [ea, eb]
  grind
theorem f_over {P w K mg base} (T : Tx K mg) : Met P w K mg base "Ratio" "over" 4 ["self", "other"] (Spt (α := Rat × Rat) pOv (fun a => [tR K a.1, tR K a.2]) fun a => tR K (a.1 / a.2)) :=
  T.met 5 rfl (C8.fnScope_by (N := ["self", "other", "top", "bottom"]) (P := ["self", "other"]) (by decide +kernel)) (fun _ => rfl) (fun _ _ _ _ _ _ us hl => match us, hl with | [_, _], _ => rfl) fun nd a pa b r Kb Hb D _ hD => by
    have e1 : ((a.2.num.toNat : Nat) : Int) = a.2.num := Int.toNat_of_nonneg (Int.le_of_lt pa.2.2)
    have h0 : 0 < a.2.num.toNat := by have := pa.2.2; omega
    refine bl_two 2 3 (has_call ((f_told_pair T).mono (by decide)) (Nm.r a.2) trivial (hasa_cons (has_var 1) hasa_nil) r) ?_ nd
    refine bl_if (k := false) ((hast_cmp (has_var 2) has_int ct_eqI).is (decide_eq_false (Int.ne_of_gt pa.2.2))) (fun h => by cases h) fun _ => bl_fall ?_
    refine bl_ret (k_Ratio T (a.1.num * (a.2.den : Int)) (a.1.den * a.2.num.toNat) ⟨Nat.mul_pos a.1.den_pos h0, ?_⟩ (has_op (k_top T (has_var 0)) (has_var 3) (bt_mul (pa.1.1.mulW pa.2.1.den (by decide))))
      ((has_op (k_bot T (has_var 0)) (has_var 2) (bt_mul (pa.1.den.mulW pa.2.1.1 (by decide)))).is (by rw [Int.natCast_mul, e1])) r) fun v K' H' g _ h => hD v K' H' g ?_
    · have h1 : a.2.num.toNat < 2 ^ 4000 := by
        have := pa.2.1.1
        unfold Bd at this
        omega
      have := bdn pa.1.2 h1
      simpa using this
    · rw [← div_mk pa.2.2]
      exact h
theorem rat_eq {a b : Rat} : (decide (a.num = b.num) && decide ((a.den : Int) = (b.den : Int))) = decide (a = b) := by
  by_cases h : a = b
  · subst h
    simp
  · rw [decide_eq_false h, Bool.and_eq_false_iff, decide_eq_false_iff_not, decide_eq_false_iff_not]
    by_cases h1 : a.num = b.num
    · exact .inr fun z => h (Rat.ext h1 (by omega))
    · exact .inl h1
abbrev sREq (K : PySem.W.Frag) : Sp := Spt (α := Rat × Rat) (fun _ => True) (fun a => [tR K a.1, tR K a.2]) fun a => tB (decide (a.1 = a.2))
theorem f_Req {P w K mg base} (T : Tx K mg) : Met P w K mg base "Ratio" "__eq__" 1 ["self", "other"] (sREq K) :=
  T.met 6 rfl (C8.fnScope_by (N := ["self", "other"]) (P := ["self", "other"]) (by decide +kernel)) (fun _ => rfl) (fun _ _ _ _ _ _ us hl => match us, hl with | [_, _], _ => rfl) fun nd a pa b r Kb Hb D _ hD => by
    refine bl_if (hast_not (hast_val (k_isR T (a := .r a.2) (has_var 1)))) (fun h => by cases h) fun _ => bl_fall ?_
    refine bl_ret ((has_and (has_cmp (k_top T (has_var 0)) (k_top T (has_var 1)) ct_eqI) fun _ => has_one (has_cmp (k_bot T (has_var 0)) (k_bot T (has_var 1)) ct_eqI)).is (by rw [rat_eq])) fun v K' H' g _ h => hD v K' H' g h
end Z
end
section
set_option Elab.async false
set_option linter.all false
set_option exponentiation.threshold 20000
set_option maxRecDepth 100000
set_option maxHeartbeats 2000000
/-! Expressions that change what may change; looks at lists that may change; more statements. -/
namespace Z
open PySem PySem.Spec PyProof.Rows L2
def mPure (p : Prop) : Mt := ⟨fun _ _ => p, fun _ h => h⟩
theorem mPure.fr {p : Prop} {m : Addr} : (mPure p).fr m := fun _ _ _ h => h
theorem mPure.fz {p : Prop} {m : Addr} : (mPure p).fz m := fun _ _ _ _ _ h => h
def HasC (X : Cx) (Kb Hb : Hp) (Γ : Ctx) (M : Mt) (e : Expr) (t : Ty) (M' : Mt) : Prop := ∀ σ K H, Gr Kb Hb K H → Sat Γ σ K → M.p K H → ∀ Q : VK, (∀ v K' H', Gr Kb Hb K' H' → Ex K K' → M'.p K' H' → t.p v K' → Q v H') → we X e σ H Q
def HasTC (X : Cx) (Kb Hb : Hp) (Γ : Ctx) (M : Mt) (e : Expr) (b : Bool → Prop) (M' : Mt) : Prop := ∀ σ K H, Gr Kb Hb K H → Sat Γ σ K → M.p K H → ∀ Q : Bool → Hp → Prop, (∀ k K' H', Gr Kb Hb K' H' → Ex K K' → M'.p K' H' → b k → Q k H') → wt X e σ H Q
def HasAC (X : Cx) (Kb Hb : Hp) (Γ : Ctx) (M : Mt) (es : List Expr) (ts : List Ty) (M' : Mt) : Prop := ∀ σ K H, Gr Kb Hb K H → Sat Γ σ K → M.p K H → ∀ Q : List V → Hp → Prop, (∀ vs K' H', Gr Kb Hb K' H' → Ex K K' → M'.p K' H' → All2 ts vs K' → Q vs H') → wa X es σ H Q
section
variable {X : Cx} {Γ : Ctx} {M M' M1 M2 : Mt} {Kb Hb : Hp} {e a b c : Expr} {es : List Expr} {t u ta tb : Ty} {ts : List Ty} {pos p : Pos} {x y : Str} {D : Ends} {rest sts sts2 : List Stmt}
theorem Has.cc (h : Has X Γ e t) : HasC X Kb Hb Γ M e t M := fun σ K H g sa m Q q => h σ K H g.s sa Q fun v K1 H1 g1 tv => q v K1 H1 (g.trans g1) g1.k (M.st g1 m) tv
theorem HasT.cc {k : Bool} (h : HasT X Γ e k) : HasTC X Kb Hb Γ M e (· = k) M := fun σ K H g sa m Q q => h σ K H g.s sa Q fun K1 H1 g1 => q _ K1 H1 (g.trans g1) g1.k (M.st g1 m) rfl
theorem HasA.cc (h : HasA X Γ es ts) : HasAC X Kb Hb Γ M es ts M := fun σ K H g sa m Q q => h σ K H g.s sa Q fun v K1 H1 g1 tv => q v K1 H1 (g.trans g1) g1.k (M.st g1 m) tv
theorem HasC.imp (h : HasC X Kb Hb Γ M e t M') (k : ∀ v H, t.p v H → u.p v H) : HasC X Kb Hb Γ M e u M' := fun σ K H g sa m Q q => h σ K H g sa m Q fun v K1 H1 g1 e1 m1 tv => q v K1 H1 g1 e1 m1 (k v K1 tv)
theorem hasac_nil : HasAC X Kb Hb Γ M [] [] M := hasa_nil.cc
theorem hasac_cons (h : HasC X Kb Hb Γ M e t M1) (h2 : HasAC X Kb Hb Γ M1 es ts M2) (hs : starEach (e :: es) X.env = (false, eval e X.env) :: starEach es X.env := by rfl) : HasAC X Kb Hb Γ M (e :: es) (t :: ts) M2 := fun σ K H g sa m Q q =>
  wa_of (pa_cons pe_we pa_wa hs) (h σ K H g sa m _ fun v K1 H1 g1 e1 m1 tv => h2 σ K1 H1 g1 (sa.mo e1) m1 _ fun vs K2 H2 g2 e2 m2 hv => q _ K2 H2 g2 (e1.trans e2) m2 ⟨t.mo e2 tv, hv⟩)
theorem hasc_op {op : Operator} (ha : HasC X Kb Hb Γ M a ta M1) (hb : HasC X Kb Hb Γ M1 b tb M2) (ho : BinT X op ta tb t) : HasC X Kb Hb Γ M (.BinOp a op b pos) t M2 := fun σ K H g sa m Q q => by
  obtain ⟨r, hr, ht⟩ := ho
  refine we_of (pe_op hr pe_we pe_we) (ha σ K H g sa m _ fun x K1 H1 g1 e1 m1 h1 => hb σ K1 H1 g1 (sa.mo e1) m1 _ fun y K2 H2 g2 e2 m2 h2 => ?_)
  exact ht x y K2 H2 g2.s (ta.mo e2 h1) h2 Q fun v K3 H3 g3 h3 => q v K3 H3 (g2.trans g3) ((e1.trans e2).trans g3.k) (M2.st g3 m2) h3
theorem hasc_cmp {op : CmpOp} (ha : HasC X Kb Hb Γ M a ta M1) (hb : HasC X Kb Hb Γ M1 b tb M2) (ho : CmpT X op ta tb t) (hm : behindInMarks op b = false := by first | exact nomark _ | rfl) : HasC X Kb Hb Γ M (.Compare a [op] [b] pos) t M2 := fun σ K H g sa m Q q => by
  obtain ⟨r, hr, ht⟩ := ho
  refine we_of (pe_cmpR hr pe_we pe_we hm) (ha σ K H g sa m _ fun x K1 H1 g1 e1 m1 h1 => hb σ K1 H1 g1 (sa.mo e1) m1 _ fun y K2 H2 g2 e2 m2 h2 => ?_)
  exact ht x y K2 H2 g2.s (ta.mo e2 h1) h2 Q fun v K3 H3 g3 h3 => q v K3 H3 (g2.trans g3) ((e1.trans e2).trans g3.k) (M2.st g3 m2) h3
theorem hastc_cmp {op : CmpOp} {P : Bool → Prop} (ha : HasC X Kb Hb Γ M a ta M1) (hb : HasC X Kb Hb Γ M1 b tb M2) (ho : CmpT X op ta tb (tE P tB)) (hm : behindInMarks op b = false := by first | exact nomark _ | rfl) : HasTC X Kb Hb Γ M (.Compare a [op] [b] pos) P M2 := fun σ K H g sa m Q q => by
  obtain ⟨r, hr, ht⟩ := ho
  refine wt_of (pt_cmpR hr pe_we pe_we hm) (ha σ K H g sa m _ fun x K1 H1 g1 e1 m1 h1 => hb σ K1 H1 g1 (sa.mo e1) m1 _ fun y K2 H2 g2 e2 m2 h2 => ?_)
  exact ht x y K2 H2 g2.s (ta.mo e2 h1) h2 _ fun v K3 H3 g3 ⟨k, hk, h3⟩ => ⟨k, h3, q k K3 H3 (g2.trans g3) ((e1.trans e2).trans g3.k) (M2.st g3 m2) hk⟩
theorem CmpT.ee {op : CmpOp} {k : Bool} (h : CmpT X op ta tb (tB k)) : CmpT X op ta tb (tE (· = k) tB) := by
  obtain ⟨r, hr, ht⟩ := h
  exact ⟨r, hr, fun x y K H s hx hy Q q => ht x y K H s hx hy Q fun v K' H' g tv => q v K' H' g ⟨k, rfl, tv⟩⟩
theorem hastc_not {P : Bool → Prop} (h : HasTC X Kb Hb Γ M e P M') : HasTC X Kb Hb Γ M (.UnaryOp .Not e pos) (fun k => P (!k)) M' := fun σ K H g sa m Q q =>
  wt_of (pt_not pt_wt) (h σ K H g sa m _ fun k K1 H1 g1 e1 m1 hk => q (!k) K1 H1 g1 e1 m1 (by show P (!(!k)); rw [Bool.not_not]; exact hk))
theorem hasc_callB {id : String} (ho : CallT X (.builtin id) ts t) (hm : X.mg x = none) (hv : bootBuiltins x = some (.builtin id)) (ha : HasAC X Kb Hb Γ M (e :: es) ts M') (hg : Gl X x := by rfl) (hn : x ≠ "__name__" := by decide) (hdb : (x == ("__debug__" : Str)) = false := by decide)
    (he : starEach (e :: es) X.env = (false, eval e X.env) :: starEach es X.env := by rfl) (hpl : (backTo pos (starEach es X.env)).any (·.1) = false := by rfl) : HasC X Kb Hb Γ M (.Call (.Name x p) (e :: es) [] pos) t M' := fun σ K H g sa m Q q => by
  obtain ⟨r, hr, ht⟩ := ho
  refine we_of (pe_callB hr hg hm hv pa_wa hn hdb he hpl) (ha σ K H g sa m _ fun vs K1 H1 g1 e1 m1 h1 => ?_)
  exact ht vs K1 H1 g1.s h1 Q fun v K3 H3 g3 h3 => q v K3 H3 (g1.trans g3) (e1.trans g3.k) (M'.st g3 m1) h3
theorem hasc_callTy {T : String} (ho : CallT X (.type T) ts t) (hm : X.mg x = none) (hv : bootBuiltins x = some (.type T)) (ha : HasAC X Kb Hb Γ M (e :: es) ts M') (hg : Gl X x := by rfl) (hn : x ≠ "__name__" := by decide) (hdb : (x == ("__debug__" : Str)) = false := by decide)
    (he : starEach (e :: es) X.env = (false, eval e X.env) :: starEach es X.env := by rfl) (hpl : (backTo pos (starEach es X.env)).any (·.1) = false := by rfl) : HasC X Kb Hb Γ M (.Call (.Name x p) (e :: es) [] pos) t M' := fun σ K H g sa m Q q => by
  obtain ⟨r, hr, ht⟩ := ho
  refine we_of (pe_callTy hr hg hm hv pa_wa hn hdb he hpl) (ha σ K H g sa m _ fun vs K1 H1 g1 e1 m1 h1 => ?_)
  exact ht vs K1 H1 g1.s h1 Q fun v K3 H3 g3 h3 => q v K3 H3 (g1.trans g3) (e1.trans g3.k) (M'.st g3 m1) h3
theorem hasc_call {k : Nat} {α : Type} {pre : α → Prop} {args : α → List Ty} {res : α → Ty} (F : Cal X.prog X.w X.K X.mg X.base x k (Spt pre args res)) (i : α) (hp : pre i) (ha : HasAC X Kb Hb Γ M (e :: es) (args i) M') (hr : Room k X.A) (hg : Gl X x := by rfl) (hdb : (x == ("__debug__" : Str)) = false := by decide)
    (he : starEach (e :: es) X.env = (false, eval e X.env) :: starEach es X.env := by rfl) (hpl : (backTo pos (starEach es X.env)).any (·.1) = false := by rfl) : HasC X Kb Hb Γ M (.Call (.Name x p) (e :: es) [] pos) (res i) M' := fun σ K H g sa m Q q => by
  obtain ⟨f, fd, ps, G, hm, hk, hb⟩ := F.ex
  refine we_of (pe_call G hr hg hm hk hb .nil pass0 pa_wa hdb he hpl) (ha σ K H g sa m _ fun vs K1 H1 g1 e1 m1 h1 => ?_)
  refine ⟨i, K1, hp, g1.s, ?_, fun v K2 H2 g2 h2 => q v K2 H2 (g1.trans g2) (e1.trans g2.k) (M'.st g2 m1) h2⟩
  rw [List.append_nil]
  exact h1
/-! statements -/
theorem bl_pure {q : Prop} (h : q → Bl X Kb Hb Γ M sts D) : Bl X Kb Hb Γ (mAnd (mPure q) M) sts D := fun σ H ⟨K, g, sa, m⟩ => h m.1 σ H ⟨K, g, sa, m.2⟩
theorem bl_retC (h : HasC X Kb Hb Γ M e t M') (q : ∀ v K' H', Gr Kb Hb K' H' → M'.p K' H' → t.p v K' → D.rt v H') : Bl X Kb Hb Γ M (.Return (some e) pos :: rest) D := fun σ H ⟨K, g, sa, m⟩ =>
  wss_cons (ws_of (ps_ret pe_we) (h σ K H g sa m _ fun v K' H' g1 _ m1 tv => q v K' H' g1 m1 tv))
theorem bl_asgC {pos' : Pos} (i : Nat) (h : HasC X Kb Hb Γ M e t M') (k : Bl X Kb Hb (Γ.set i (some t)) M' rest D) (hN : X.N.Nodup) (hi : X.N[i]? = some x := by rfl) (hx : Loc X.env.scope x := by first | exact Or.inl rfl | exact Or.inr rfl)
    (hs : swapsWith e (some (.Name x pos')) pos.line X.env = pure false := by rfl) (hf : X.fn x = true ∨ X.env.scope.names.lookup x = some .local := by first | exact .inl rfl | exact .inr rfl) : Bl X Kb Hb Γ M (.Assign [.Name x pos'] e pos :: rest) D := fun σ H ⟨K, g, sa, m⟩ =>
  wss_cons (ws_of (ps_set hN hi hx pe_we hs hf) (h σ K H g sa m _ fun v K' H' g1 e1 m1 tv => k _ _ ⟨K', g1, (sa.mo e1).set tv, m1⟩))
theorem bl_exprC (h : HasC X Kb Hb Γ M e t M') (k : Bl X Kb Hb Γ M' rest D) (hs : swapsWith e none pos.line X.env = pure false := by rfl) : Bl X Kb Hb Γ M (.Expr e pos :: rest) D := fun σ H ⟨K, g, sa, m⟩ =>
  wss_cons (ws_of (ps_expr pe_we hs) (h σ K H g sa m _ fun v K' H' g1 e1 m1 _ => k _ _ ⟨K', g1, sa.mo e1, m1⟩))
theorem bl_ifC {P : Bool → Prop} (hc : HasTC X Kb Hb Γ M c P M') (ht : P true → Bl X Kb Hb Γ M' sts { D with nx := wss X rest D }) (he : P false → Bl X Kb Hb Γ M' sts2 { D with nx := wss X rest D }) : Bl X Kb Hb Γ M (.If c sts sts2 pos :: rest) D := fun σ H ⟨K, g, sa, m⟩ => by
  refine wss_cons (ws_of (ps_if pt_wt pss_wss pss_wss) (hc σ K H g sa m _ fun k K1 H1 g1 e1 m1 hk => ?_))
  have s1 : Stt Kb Hb Γ M' σ H1 := ⟨K1, g1, sa.mo e1, m1⟩
  cases k with
  | true =>
    rw [if_pos rfl]
    exact ht hk σ H1 s1
  | false =>
    rw [if_neg Bool.false_ne_true]
    exact he hk σ H1 s1
/-! a look at a list that may change -/
def Flat (t : Ty) : Prop := ∀ v H H', t.p v H → t.p v H'
theorem flat_V {v : V} : Flat (tV v) := fun _ _ _ h => h
theorem flat_E {α : Type} {P : α → Prop} {f : α → V} : Flat (tE P fun a => tV (f a)) := fun _ _ _ ⟨a, h, q⟩ => ⟨a, h, q⟩
theorem set_here {σ : St} {i : Nat} {v : V} (e1 : σ[i]? = some (some v)) : σ.set i (some v) = σ := by
  refine List.ext_getElem? fun j => ?_
  by_cases h : i = j
  · subst h
    rw [List.getElem?_set_self (List.getElem?_eq_some_iff.mp e1).1, e1]
  · rw [List.getElem?_set_ne h]
/-- while m is taken for frozen -/
theorem peek {K H : Hp} {m : Addr} {xs : List V} {σ : St} {i : Nat} (ma : K m = none) (mb : H m = some (.lst xs)) (mc : All2 ts xs K) (s : Ex K H) (sa : Sat Γ σ K) (hG : Γ[i]? = some (some (tV (.ref m)))) :
    Ex (upd K m (.lst xs)) H ∧ Sat (Γ.set i (some (tL ts))) σ (upd K m (.lst xs)) ∧ ∀ K1 H1, Gr (upd K m (.lst xs)) H K1 H1 → Gr K H (hide m K1) H1 ∧ (mLst m ts).p (hide m K1) H1 := by
  obtain ⟨v, e1, e2⟩ := sa.get hG
  have e2' : v = .ref m := e2
  subst e2'
  have ek : Ex K (upd K m (.lst xs)) := Ex.new ma
  refine ⟨fun a o q => ?_, ?_, fun K1 H1 g => ?_⟩
  · by_cases am : a = m
    · subst am
      rw [upd_same] at q
      rw [← q]
      exact mb
    · rw [upd_ne am] at q
      exact s a o q
  · have s2 := (sa.mo ek).set (i := i) (t := tL ts) (v := V.ref m) ⟨m, xs, rfl, upd_same, mc.mo ek⟩
    rw [set_here e1] at s2
    exact s2
  · have k1 : Ex K (hide m K1) := fun a o q => by
      have am : a ≠ m := fun z => by rw [z, ma] at q; cases q
      rw [hide_ne am]
      exact g.k a o (by rw [upd_ne am]; exact q)
    refine ⟨⟨g.h, k1, hide_ex.trans g.s, fun a ha ka => ?_⟩, hide_same, xs, g.h _ _ mb, mc.mo k1⟩
    by_cases am : a = m
    · rw [am]
      exact hide_same
    · rw [hide_ne am]
      exact g.f a ha (by rw [upd_ne am]; exact ka)
theorem hasc_peek {m : Addr} (i : Nat) (hG : Γ[i]? = some (some (tV (.ref m)))) (h : Has X (Γ.set i (some (tL ts))) e t) (hf : Flat t) : HasC X Kb Hb Γ (mAnd (mLst m ts) M) e t (mAnd (mLst m ts) M) := fun σ K H g sa ⟨⟨ma, xs, mb, mc⟩, mm⟩ Q q => by
  obtain ⟨p1, p2, p3⟩ := peek ma mb mc g.s sa hG
  refine h σ _ H p1 p2 Q fun v K1 H1 g1 tv => ?_
  obtain ⟨g2, m2⟩ := p3 K1 H1 g1
  exact q v _ H1 (g.trans g2) g2.k ⟨m2, M.st g2 mm⟩ (hf v _ _ tv)
theorem hastc_peek {m : Addr} {k : Bool} (i : Nat) (hG : Γ[i]? = some (some (tV (.ref m)))) (h : HasT X (Γ.set i (some (tL ts))) e k) : HasTC X Kb Hb Γ (mAnd (mLst m ts) M) e (· = k) (mAnd (mLst m ts) M) := fun σ K H g sa ⟨⟨ma, xs, mb, mc⟩, mm⟩ Q q => by
  obtain ⟨p1, p2, p3⟩ := peek ma mb mc g.s sa hG
  refine h σ _ H p1 p2 Q fun K1 H1 g1 => ?_
  obtain ⟨g2, m2⟩ := p3 K1 H1 g1
  exact q _ _ H1 (g.trans g2) g2.k ⟨m2, M.st g2 mm⟩ rfl
/-! what changes a list -/
theorem bl_appC {p1 p2 p3 : Pos} {m : Addr} (i : Nat) (hG : Γ[i]? = some (some (tV (.ref m)))) (hb : Hb m = none) (hM : M2.fr m) (hl : ts.length < 1000) (h : HasC X Kb Hb Γ (mAnd (mLst m ts) M) e t (mAnd (mLst m ts) M2)) (k : Bl X Kb Hb Γ (mAnd (mLst m (ts ++ [t])) M2) rest D) (hi : X.N[i]? = some y := by rfl)
    (hv : Vis X.env.scope y := by first | exact Or.inl rfl | exact Or.inr (Or.inl rfl) | exact Or.inr (Or.inr rfl))
    (hd : (y == ("__debug__" : Str)) = false := by decide) (hcd : (y == ("__classdict__" : Str)) = false := by decide)
    (hs1 : swapsWith (.Call (.Attribute (.Name y p1) "append" p2) [e] [] p3) none pos.line X.env = pure false := by rfl)
    (hbase : attributeBase (.Name y p1) "append" X.env (eval (.Name y p1) X.env) = eval (.Name y p1) X.env := by rfl)
    (hfew : ((backTo p3 (starEach [e] X.env)).all (fun x => !x.1) && (backToKw p3 (keywordEach [] X.env)).all (fun x => x.1.isSome)
      && decide ([e].length + ([] : List Keyword).length + (if ([] : List Keyword).isEmpty then 0 else 1) < 30)) = true := by rfl)
    (hline : (p2.endLine == p3.line) = true := by rfl) (hs : starEach [e] X.env = (false, eval e X.env) :: starEach [] X.env := by rfl) (hplain : (backTo p3 (starEach [] X.env)).any (·.1) = false := by rfl) :
    Bl X Kb Hb Γ (mAnd (mLst m ts) M) (.Expr (.Call (.Attribute (.Name y p1) "append" p2) [e] [] p3) pos :: rest) D := fun σ H ⟨K, g, sa, mm⟩ => by
  refine wss_cons (ws_of (ps_expr (pe_bm PySem.F.plainAttrs_list PySem.F.slot_list_append PySem.F.type_list_append mt_append (pe_var hi hv hd hcd) (pa_cons pe_we pa_nil hs) hbase hfew hline hs hplain) hs1) ?_)
  obtain ⟨v, e1, e2⟩ := sa.get hG
  have e2' : v = .ref m := e2
  subst e2'
  obtain ⟨xs0, mb0, _⟩ := mm.1.2
  refine ⟨_, e1, .inl ⟨rfl, _, SqL.of mb0⟩, ?_⟩
  refine h σ K H g sa mm _ fun v K1 H1 g1 ek ⟨⟨ma, xs, mb, mc⟩, m2⟩ tv => ?_
  refine ⟨m, xs, v, rfl, rfl, mb, small1000 (by rw [mc.len]; omega), ?_⟩
  exact k σ _ ⟨K1, g1.change hb ma, sa.mo ek, ⟨ma, _, upd_same, mc.app ⟨tv, trivial⟩⟩, hM _ _ _ m2⟩
/-- xs[j] = v -/
theorem bl_setC {p1 p2 : Pos} {m : Addr} {j : Nat} (i : Nat) (hG : Γ[i]? = some (some (tV (.ref m)))) (hb : Hb m = none) (hM : M2.fr m) (hj : j < ts.length) (h : HasC X Kb Hb Γ (mAnd (mLst m ts) M) e t (mAnd (mLst m ts) M2)) (hix : Has X Γ a (tI (j : Int)))
    (k : Bl X Kb Hb Γ (mAnd (mLst m (ts.set j t)) M2) rest D) (hi : X.N[i]? = some y := by rfl)
    (hv : Vis X.env.scope y := by first | exact Or.inl rfl | exact Or.inr (Or.inl rfl) | exact Or.inr (Or.inr rfl))
    (hd : (y == ("__debug__" : Str)) = false := by decide) (hcd : (y == ("__classdict__" : Str)) = false := by decide)
    (ha : ∀ v, assign (.Subscript (.Name y p1) a p2) X.env v = (do
      let ov ← holding [v] (eval (.Name y p1) X.env)
      let iv ← holding [v, ov] (eval a X.env)
      standAt p2
      holding [v, ov, iv] (setItem ov iv v)
      release [v, ov, iv] []) := by intro _; rfl)
    (hs : swapsWithSole [.Subscript (.Name y p1) a p2] e pos.line X.env = pure false := by rfl) (hw : swappedStores [.Subscript (.Name y p1) a p2] e X.env = pure none := by rfl)
    (h1 : (assignEach [.Subscript (.Name y p1) a p2] X.env).map (·.2) = [assign (.Subscript (.Name y p1) a p2) X.env] := by rfl) :
    Bl X Kb Hb Γ (mAnd (mLst m ts) M) (.Assign [.Subscript (.Name y p1) a p2] e pos :: rest) D := fun σ H ⟨K, g, sa, mm⟩ => by
  refine wss_cons (ws_of (ps_asg pe_we (pg_sub (pe_var hi hv hd hcd) pe_we set_list ha) hs hw h1) (h σ K H g sa mm _ fun v K1 H1 g1 ek m1 tv => ?_))
  obtain ⟨v0, e1, e2⟩ := sa.get hG
  have e2' : v0 = .ref m := e2
  subst e2'
  refine ⟨_, e1, hix σ K1 H1 g1.s (sa.mo ek) _ fun iv K2 H2 g2 hiv => ?_⟩
  have hiv' : iv = .int (j : Int) := hiv
  subst hiv'
  obtain ⟨⟨ma, xs, mb, mc⟩, m3⟩ := (mAnd (mLst m ts) M2).st g2 m1
  have hlen : xs.length = ts.length := mc.len
  refine ⟨m, xs, (j : Int), j, rfl, rfl, mb, ?_, ?_⟩
  · unfold ixN
    simp
    omega
  · refine k σ _ ⟨K2, (g1.trans g2).change hb ma, (sa.mo ek).mo g2.k, ⟨ma, _, upd_same, ?_⟩, hM _ _ _ m3⟩
    have set2 : ∀ {ts : List Ty} {vs : List V} {H : Hp} (j : Nat) (t : Ty) (v : V), All2 ts vs H → t.p v H → All2 (ts.set j t) (vs.set j v) H := fun {ts} => by
      induction ts with
      | nil => intro vs H j t v h _; cases vs with | nil => exact trivial | cons _ _ => exact h.elim
      | cons t0 ts ih =>
        intro vs H j t v h hv
        cases vs with
        | nil => exact h.elim
        | cons v0 vs =>
          cases j with
          | zero => exact ⟨hv, h.2⟩
          | succ j => exact ⟨h.1, ih j t v h.2 hv⟩
    exact set2 j t v mc (t.mo g2.k tv)
end
end Z
end
section
set_option Elab.async false
set_option linter.all false
set_option exponentiation.threshold 20000
set_option maxRecDepth 100000
set_option maxHeartbeats 2000000
/-! enumerate(t) of a tuple. -/
namespace Z
open PySem PySem.Spec PyProof.Rows L2
section
variable {P : Program} {w : World} {A : Around} {E : Value → Shared → Prop} {s : Shared}
abbrev tiO (t : Addr) : Obj := { cls := .type "tuple_iterator", data := .fields #[.ref t, .int 0 0] }
abbrev enO (it : Addr) : Obj := { cls := .type "enumerate", data := .fields #[.none, .bool false, .ref it, rawInt 0, .none, .none] }
theorem enum_newT (t : Addr) (xs : Array Value) : Meets (Builtin.«enumerate.__new__» ⟨[.type "enumerate", .ref t], []⟩) (fun _ R s => s.heap.IsTuple t xs ∧
    R (.ok (.ret (.ref (s.heap.push (tiO t)).objs.size))) { s with heap := (s.heap.push (tiO t)).push (enO s.heap.objs.size) }) :=
  .of_wp fun _ _ _ _ s q => by
    obtain ⟨hh, gg, dd, tt, oo⟩ := s
    obtain ⟨it, q⟩ := q
    have sb := sub_enumerate
    have isT : Heap.IsTuple (Shared.heap ⟨hh, gg, dd, tt, oo⟩) t xs := it
    wp_walk using wpAny_pyIter_tuple isT
    refine wpAny_stack_any fun _ => wpAny_pure ?_
    split
    · rename_i c _ _ _ _ _
      cases (c == Value.type "enumerate") <;> (wp_walk using wpAny_pyIter_tuple isT; exact ⟨_, rfl, q⟩)
    · wp_walk using wpAny_pyIter_tuple isT
      exact ⟨_, rfl, q⟩
theorem call_enumT {t : Addr} {xs : Array Value} {Q : Value → Shared → Prop} (hT : s.heap.IsTuple t xs)
    (q : ∀ h', IsEnum h' (s.heap.objs.size + 1) s.heap.objs.size 0 .none → h'.IsTupleIter s.heap.objs.size t 0 → (∀ b o, s.heap.get? b = some o → h'.get? b = some o) → Q (.ref (s.heap.objs.size + 1)) { s with heap := h' }) :
    wpAny (model P w) A (call (.type "enumerate") [.ref t]) Q E s := by
  refine callType_new F.called_enumerate (by decide) (F.typeCall_enumerate_1 _) (F.newCall_enumerate_1 _) (fun o => F.args_object_init_2 o _) F.entry_enumerate_new (enum_newT t xs) ⟨hT, ?_⟩
  have z : (s.heap.push (tiO t)).objs.size = s.heap.objs.size + 1 := Heap.size_push ..
  show _ ∧ _
  rw [z]
  have e1 : IsEnum ((s.heap.push (tiO t)).push (enO s.heap.objs.size)) (s.heap.objs.size + 1) s.heap.objs.size 0 .none := by
    have y := Heap.get?_push_size (s.heap.push (tiO t)) (o := enO s.heap.objs.size) rfl
    rw [z] at y
    exact y
  exact ⟨⟨_, e1, rfl⟩, q _ e1 ⟨_, Heap.get?_push_of_some _ (Heap.get?_push_size _ rfl), rfl, rfl⟩ fun b o x => Heap.get?_push_of_some _ (Heap.get?_push_of_some _ x)⟩
end
/-- item by item, from the tuple at a -/
def IteT (K : PySem.W.Frag) (a : Addr) : It where
  go i H := ∃ (xs : List V) (x : V), SqT K H a xs ∧ xs[i]? = some x
  yld i H v H' := ∃ T x, v = .ref T ∧ H T = none ∧ H' = upd H T (.tup [.int (i : Nat), x]) ∧ ∀ xs, SqT K H a xs → xs[i]? = some x
  stop i H := ∃ xs : List V, SqT K H a xs ∧ xs.length ≤ i
theorem trn_enumT {P : Program} {w : World} {K : PySem.W.Frag} {elts : List Expr} {kk : Nat} {tpos : Pos} (a en it : Addr) (na : a ≠ en) (ni : a ≠ it) (ne : en ≠ it) :
    Turn P w K (.Tuple elts kk tpos) (IteT K a) [en, it] en (fun i h => (∃ old, IsEnum h en it ((i : Nat) : Int) old) ∧ h.IsTupleIter it a i) where
  mem := List.mem_cons_self
  obj i h st b hb := by
    obtain ⟨⟨old, he⟩, o, ho, hc, hd⟩ := st
    rcases List.mem_cons.mp hb with z | z
    · exact z ▸ ⟨_, he, fun v q => nomatch q⟩
    · rw [List.mem_singleton.mp z]
      exact ⟨o, ho, fun v q => by rw [hd] at q; cases q⟩
  keep i h h' st k := by
    obtain ⟨⟨old, he⟩, hi⟩ := st
    exact ⟨⟨old, k en List.mem_cons_self _ he⟩, hi.at fun o q => k it (List.mem_cons_of_mem _ List.mem_cons_self) o q⟩
  item := by
    intro X hP hw hK hc i pins s σ H E I hf st hg
    subst hP hw hK
    obtain ⟨⟨old, he⟩, hit⟩ := st
    obtain ⟨xs, x, hq, hx⟩ := hg
    obtain ⟨its, rv, p, _⟩ := I.tuple hq
    have hel : en < s.heap.objs.size := Heap.lt_size he
    have hil : it < s.heap.objs.size := by
      obtain ⟨_, q, _⟩ := hit
      exact Heap.lt_size q
    obtain ⟨u, hu, ru⟩ := rv.get hx
    have hlt : i < its.toArray.size := by
      rw [List.size_toArray]
      exact (List.getElem?_eq_some_iff.mp hu).1
    have hh : X.A.in1.handled = none := I.ok.hd hc
    refine wpAny_pyNext_enum_itemD (Draws.tuple hh it a ni its.toArray) he ⟨hit, p⟩ hlt ne (by simp [ne, na.symm]) fun y h' tk hy ho hst hT hsz hk => ?_
    have hyu : y = u := by
      rw [List.getElem?_toArray, hu] at hy
      exact (Option.some.inj hy).symm
    subst hyu
    refine ⟨_, rfl, wpAny_letOwnedTupleGo_enum (s := { s with heap := h', toks := tk + 1 }) ho fun h2 he2 sb => ?_⟩
    have hT2 : h2.get? s.heap.objs.size = some { cls := .type "tuple", data := .seq #[.int i tk, y] } := (sb.2 _ (Nat.ne_of_gt hel)).trans hT
    have nw : ObjOk X.prog X.w (upd H s.heap.objs.size (.tup [.int (i : Nat), x])) h2 s.heap.objs.size (.tup [.int (i : Nat), x]) :=
      ⟨Nat.le_of_lt (small1000 (by simp)), [.int i tk, y], .cons ⟨_, rfl⟩ (.cons ru .nil), ⟨_, hT2, rfl, _, rfl⟩⟩
    have I1 : Inv X pins σ (upd H s.heap.objs.size (.tup [.int (i : Nat), x])) { s with heap := h2, toks := tk + 1 } :=
      I.turnedNew (ch := [en, it]) (fun b o hb q => by
        have b1 : b ≠ en := fun z => hb (z ▸ List.mem_cons_self)
        have b2 : b ≠ it := fun z => hb (z ▸ List.mem_cons_of_mem _ List.mem_cons_self)
        exact (sb.2 b b1).trans (hk b o b1 b2 q)) hf (Nat.le_refl _) nw
    have ec : ((i + 1 : Nat) : Int) = (i : Int) + 1 := Int.natCast_succ i
    refine ⟨.ref s.heap.objs.size, _, I1, rfl, ⟨_, x, rfl, I.hok.fresh (Nat.le_refl _), rfl, fun ys hy => I.tuple_inj hy hq ▸ hx⟩, ⟨⟨y, ec ▸ he2⟩, hst.1.at fun o q => (sb.2 it ne.symm).trans q⟩, fun b hb => ?_⟩
    have hb' : b < s.heap.objs.size := by
      rcases List.mem_cons.mp hb with z | z
      · exact z ▸ hel
      · exact List.mem_singleton.mp z ▸ hil
    rw [upd_ne (Nat.ne_of_lt hb')]
    exact (hf b hb).1
  done := by
    intro X hP hw hK hc i pins s σ H E I hf st hg
    subst hP hw hK
    obtain ⟨⟨old, he⟩, hit⟩ := st
    obtain ⟨xs, hq, hx⟩ := hg
    obtain ⟨its, rv, p, _⟩ := I.tuple hq
    obtain ⟨f0, f1, f2, f3, f4, f5⟩ := hf it (List.mem_cons_of_mem _ List.mem_cons_self)
    have hl := rv.length
    have hh : X.A.in1.handled = none := I.ok.hd hc
    unfold pyNext
    have hTy : s.TypeIs (.ref en) "enumerate" := ⟨_, he, rfl⟩
    refine wpAny_bind (wpAny_attempt (wpAny_callSpecial?_slot (name := Str.ofString "__next__") hTy F.slot_enumerate_next (wpAny_call_entry F.slot_enumerate_next hTy F.entry_enumerate_next ?_ (F.args_enumerate_next_1 _))))
    show wpAny _ _ (field (.ref en) 2 >>= _) _ _ _
    refine wpAny_bind (wpAny_field he rfl (x := .ref it) rfl ?_)
    have hn : its.toArray[i]? = none := by
      rw [List.getElem?_toArray]
      exact List.getElem?_eq_none (by omega)
    refine wpAny_bind (wpAny_nextOf_tuple_end hh hit p hn fun h' x he' hx' => ?_)
    obtain ⟨o, ho, hoc⟩ := hx'
    refine wpAny_bind (wpAny_isInstance (T := "StopIteration") (b := true) ⟨o, ho, hoc⟩ isSubtype_stop ?_)
    exact wpAny_pure ⟨rfl, I.turned (t' := s.toks) (fun b o hb q => he' b o hb q) f0 f1 f3 f4 f5⟩
  self A i s Q E st h := let ⟨⟨_, he⟩, _⟩ := st; wpAny_pyIter_enum he h
def iEnumT (K : PySem.W.Frag) (ta : TA) : TI := fun σ H R => ta σ H fun vs H1 => ∃ a xs, vs = [.ref a] ∧ H1 a = some (.tup xs) ∧ R (IteT K a) H1
theorem pi_enumT {X : Cx} {e : Expr} {ta : TA} {p pos tpos : Pos} {elts : List Expr} {kk : Nat} (hg : Gl X "enumerate") (hm : X.mg "enumerate" = none) (ha : PA X [e] ta) (hs : starEach [e] X.env = [(false, eval e X.env)] := by rfl) :
    PI X (.Tuple elts kk tpos) (.Call (.Name "enumerate" p) [e] [] pos) (iEnumT X.K ta) := ⟨fun pins s σ H R I h => by
  refine Call_ (ld_blt I hg hm b_enum (PyProof.Rows.callWith_type1 (thn (ha.run pos pins s σ H _ I h) fun us s1 ⟨vs, H1, I1, r1, q1⟩ => ?_) hs rfl))
  obtain ⟨a, xs, ex, hq, q⟩ := q1
  subst ex
  obtain ⟨u, rfl, ru⟩ := r1.one
  cases ru
  obtain ⟨its, rv, p', _⟩ := I1.tuple (SqT.of hq)
  have hlt : a < s1.heap.objs.size := by
    obtain ⟨_, e1, _⟩ := id p'
    exact Heap.lt_size e1
  refine call_enumT p' fun h' he hit hk => wpAny_pyIter_enum he ?_
  have I2 : Inv X pins σ H1 { s1 with heap := h' } := I1.kept (t' := s1.toks) hk
  refine ⟨s1.heap.objs.size + 1, [s1.heap.objs.size + 1, s1.heap.objs.size], _, _, H1, rfl, I2, trn_enumT a (s1.heap.objs.size + 1) s1.heap.objs.size (Nat.ne_of_lt (Nat.lt_succ_of_lt hlt)) (Nat.ne_of_lt hlt) (Nat.succ_ne_self _), ⟨⟨.none, he⟩, hit⟩, fun b hb => ?_, q⟩
  have hle : s1.heap.objs.size ≤ b := by
    rcases List.mem_cons.mp hb with z | z
    · rw [z]
      exact Nat.le_succ _
    · rw [List.mem_singleton.mp z]
      exact Nat.le_refl _
  exact I1.fpOk hle (I1.hok.fresh hle)⟩
theorem wk_enumT {α : Type} {K : PySem.W.Frag} {as : List α} {G : α → Ty} {a : Addr} {xs : List V} {K1 : Hp} {j j2 : Nat} (ha : K1 a = some (.tup xs)) (hx : All2 (as.map G) xs K1) :
    WkOk (gTup K 2 (gCons (gName j) (gCons (gName j2) gNil))) (bd2 j j2 (fun i : Nat => tI (i : Int)) G) [j, j2] (IteT K a) ((List.range as.length).zip as) K1 := by
  have l1 : xs.length = as.length := by rw [hx.len, List.length_map]
  refine ⟨fun i H hi e => ?_, fun H e => ⟨xs, SqT.of (e _ _ ha), by rw [List.length_zip, List.length_range]; omega⟩, fun i d K2 H2 x H3 hd e1 e2 y => ?_⟩
  · rw [List.length_zip, List.length_range] at hi
    exact ⟨xs, xs[i]'(by omega), SqT.of (e _ _ ha), List.getElem?_eq_getElem _⟩
  · obtain ⟨T, u, rfl, hT, rfl, y1⟩ := y
    obtain ⟨d1, d2⟩ := zip_get hd
    have q1 := list_yld hx d2 (y1 xs (SqT.of (e2 _ _ (e1 _ _ ha))))
    have ed : d.1 = i := by
      obtain ⟨h1, h2⟩ := List.getElem?_eq_some_iff.mp d1
      rw [List.getElem_range] at h2
      exact h2.symm
    exact pair_bind (F := fun i : Nat => tI (i : Int)) e2 hT (by rw [ed]; rfl) ((G d.2).mo e1 q1)
theorem src_enumT {α : Type} {X : Cx} {Γ : Ctx} {l : Expr} {p pos tpos : Pos} {elts : List Expr} {kk j j2 : Nat} {as : List α} {G : α → Ty} (h : HasA X Γ [l] [tT (as.map G)]) (hm : X.mg "enumerate" = none) (hg : Gl X "enumerate" := by rfl) (hs : starEach [l] X.env = [(false, eval l X.env)] := by rfl) :
    Src X Γ (.Tuple elts kk tpos) (.Call (.Name "enumerate" p) [l] [] pos) ((List.range as.length).zip as) (bd2 j j2 (fun i : Nat => tI (i : Int)) G) [j, j2] (gTup X.K 2 (gCons (gName j) (gCons (gName j2) gNil))) :=
  ⟨fun σ K H s g => ⟨_, pi_enumT hg hm pa_wa hs, fun R k => h σ K H s g _ fun vs K1 H1 g1 hv => by
    obtain ⟨v, rfl, ⟨a, xs, rfl, ha, hx⟩⟩ := hv.one
    exact ⟨a, xs, rfl, g1.s _ _ ha, k _ K1 H1 g1 (wk_enumT ha hx)⟩⟩⟩
end Z
end
section
set_option Elab.async false
set_option linter.all false
set_option exponentiation.threshold 20000
set_option maxRecDepth 100000
set_option maxHeartbeats 2000000
/-! Comprehensions whose list may change later; pairs of new lists; pop, extend. -/
namespace Z
open PySem PySem.Spec PyProof.Rows L2
theorem lc_mainM {Γ : Ctx} {α : Type} {K1 H1 K0 H0 : Hp} {J : It} {ds : List α} {bd : α → Ctx → Ctx} {sl : List Nat} {g : TG} {σ : St} {tt : TT} {te : TE} {vs : List Nat} {f : α → Bool} {F : α → Ty} {Q : VK} (W : WkOk g bd sl J ds K1) (hd : ds.length < 1000) (hsl : ∀ j ∈ sl, j ∈ vs) (g1 : Gr K0 H0 K1 H1) (sa : Sat Γ σ K1)
    (ht : ∀ d ∈ ds, ∀ σ K H, Ex K H → Sat (bd d (wipeC Γ vs)) σ K → ∀ Q : Bool → Hp → Prop, (∀ K' H', Gr K H K' H' → Q (f d) H') → tt σ H Q)
    (he : ∀ d ∈ ds, f d = true → ∀ σ K H, Ex K H → Sat (bd d (wipeC Γ vs)) σ K → ∀ Q : VK, (∀ v K' H', Gr K H K' H' → (F d).p v K' → Q v H') → te σ H Q)
    (D : Addr) (hD : H1 D = none) (q : ∀ K' H' xs, Gr K0 H0 K' H' → K' D = none → H0 D = none → H' D = some (.lst xs) → All2 ((ds.filter f).map F) xs K' → Q (.ref D) H') :
    ∃ W : Nat → Nat → Hp → Prop, (∃ m, W 0 m (upd H1 D (.lst []))) ∧ ∀ i m H, W i m H →
      (J.stop i H ∧ Q (.ref D) H) ∨ (J.go i H ∧ ∃ Nx : Hp → Prop, (∀ H', Nx H' → ∃ m', m' < m ∧ W (i + 1) m' H') ∧ ∀ x H', J.yld i H x H' → g x (L2.wipe σ vs) H' fun σ2 H2 => L2.wipe σ2 vs = L2.wipe σ vs ∧ tt σ2 H2 fun b H3 =>
        if b = true then te σ2 H3 fun y H4 => ∃ acc, H4 D = some (.lst acc) ∧ acc.length < sizeLine ∧ Nx (upd H4 D (.lst (acc ++ [y]))) else Nx H3) := by
  have kD : K1 D = none := g1.s.back hD
  have bD : H0 D = none := g1.h.back hD
  -- behind i turns
  let St0 : Nat → Hp → Prop := fun i H => ∃ K acc, Gr K1 H0 K H ∧ K D = none ∧ H D = some (.lst acc) ∧ All2 (((ds.take i).filter f).map F) acc K
  refine ⟨fun i m H => m = ds.length - i ∧ i ≤ ds.length ∧ St0 i H, ⟨ds.length, rfl, Nat.zero_le _, K1, [], ⟨g1.h.past bD, Ex.refl _, g1.s.past kD, fun a ha ka => ka⟩, kD, upd_same, trivial⟩, ?_⟩
  rintro i m H ⟨rfl, hi, K, acc, gr, ka, ha, hacc⟩
  by_cases hlt : i < ds.length
  · refine .inr ⟨W.go i H hlt (gr.k.trans gr.s), St0 (i + 1), fun H' p' => ⟨ds.length - (i + 1), by omega, rfl, hlt, p'⟩, fun x H' y => ?_⟩
    have hdi : ds[i]? = some ds[i] := List.getElem?_eq_getElem hlt
    have hmem : ds[i] ∈ ds := List.getElem_mem hlt
    obtain ⟨K3, g3, step⟩ := W.turn i ds[i] K H x H' hdi gr.k gr.s y
    have hlen : acc.length < 1000 := by
      have z := hacc.len
      rw [List.length_map] at z
      have z2 := List.length_filter_le f (ds.take i)
      rw [List.length_take] at z2
      omega
    have ka3 : K3 D = none := g3.f D (by rw [ha]; exact Option.some_ne_none _) ka
    refine step _ (wipeC Γ vs) _ ((sa.mo gr.k).wipe vs) fun σ' s3 hw => ⟨by rw [hw vs hsl]; exact wipe_twice σ vs, ?_⟩
    refine ht _ hmem σ' K3 H' g3.s s3 _ fun K4 H4 g4 => ?_
    have g34 := g3.trans g4
    have ka4 : K4 D = none := g34.f D (by rw [ha]; exact Option.some_ne_none _) ka
    have gd := gdom (F := F) (f := f) hdi
    have base : Gr K1 H0 K4 H4 := ⟨gr.h.trans g34.h, gr.k.trans g34.k, g34.s, fun a h1 h2 => g34.f a (gr.h.ne h1) (gr.f a h1 h2)⟩
    by_cases hf : f ds[i] = true
    · rw [if_pos hf]
      rw [if_pos hf] at gd
      refine he _ hmem hf σ' K4 H4 g4.s (s3.mo g4.k) _ fun v K5 H5 g5 tv => ?_
      have ka5 : K5 D = none := g5.f D ((g34.h.ne (by rw [ha]; exact Option.some_ne_none _))) ka4
      refine ⟨acc, g5.h _ _ (g34.h _ _ ha), small1000 (Nat.le_of_lt hlen), K5, acc ++ [v], ?_, ka5, upd_same, ?_⟩
      · exact ⟨(base.h.trans g5.h).past bD, base.k.trans g5.k, g5.s.past ka5, fun a h1 h2 => g5.f a (base.h.ne h1) (base.f a h1 h2)⟩
      · rw [gd]
        exact (hacc.mo (g34.k.trans g5.k)).app ⟨tv, trivial⟩
    · rw [if_neg hf]
      rw [if_neg hf, List.append_nil] at gd
      exact ⟨K4, acc, base, ka4, g34.h _ _ ha, by rw [gd]; exact hacc.mo g34.k⟩
  · have e : i = ds.length := by omega
    subst e
    rw [List.take_length] at hacc
    exact .inl ⟨W.stop H (gr.k.trans gr.s), q K H acc ⟨gr.h, g1.k.trans gr.k, gr.s, fun a h1 h2 => gr.f a h1 (g1.f a h1 h2)⟩ ka bD ha hacc⟩

section
variable {X : Cx} {Γ : Ctx} {M M' M1 M2 : Mt} {Kb Hb : Hp} {e a b c : Expr} {es : List Expr} {t u ta tb : Ty} {ts us : List Ty} {pos p : Pos} {x y : Str} {D : Ends} {rest sts sts2 : List Stmt} {α : Type} {elt tg iter : Expr} {scope : Scope} {py spos : Pos}
/-- name = [..] on one line; the list may change later -/
theorem bl_lcM {g : TG} {ds : List α} {bd : α → Ctx → Ctx} {sl : List Nat} (i : Nat) (own : List (Str × Nat)) (S : Src X Γ tg iter ds bd sl g) (F : α → Ty) (he : ∀ d ∈ ds, ∀ s H C cl fp, Has (blkX X scope s H C cl fp) (bd d (wipeC Γ (own.map (·.2)))) elt (F d))
    (hd : ds.length < 1000) (hN : X.N.Nodup) (hg : ∀ s H C cl fp, PG (blkX X scope s H C cl fp) tg g) (k : ∀ m, Hb m = none → (∃ K H, M.p K H ∧ H m = none) → Bl X Kb Hb (Γ.set i (some (tV (.ref m)))) (mAnd (mLst m (ds.map F)) M) rest D) (hy : X.N[i]? = some y := by rfl) (hyl : X.env.scope.names.lookup y = some .local := by rfl)
    (hsw : swapsWith (.ListComp elt [⟨tg, iter, [], 0⟩] scope pos) (some (.Name y py)) spos.line X.env = pure true := by exact sw_true rfl rfl rfl (by kernel_rfl))
    (hsl : ∀ j ∈ sl, j ∈ own.map (·.2) := by decide) (ok : BlkOk X.N X.env.scope scope own := by exact blkOk_by (by kernel_rfl)) (hc : X.calm = true := by rfl) (hs : ∀ x, foldedSetIterable iter X.env x = pure x := by intro _; rfl) :
    Bl X Kb Hb Γ M (.Assign [.Name y py] (.ListComp elt [⟨tg, iter, [], 0⟩] scope pos) spos :: rest) D := fun σ H s => by
  obtain ⟨K, g0, ga, m⟩ := s
  obtain ⟨wi, hi, k2⟩ := S.ex σ K H g0.s ga
  refine wss_cons (ws_of (ps_setLc hc hN hy hyl hsw hi ok hg (fun _ _ _ _ _ => pts_nil) (fun s H C cl fp => (⟨fun pins s1 σ H1 Q I h => h s H C cl fp pins s1 I⟩ : PE (blkX X scope s H C cl fp) elt (weB X scope elt))) hs) ?_)
  refine k2 _ fun J K1 H1 g1 W Dl hD => lc_mainM (tt := tYes) (te := weB X scope elt) (Q := fun x H1 => wss X rest D (σ.set i (some x)) H1) (f := fun _ => true) W hd hsl g1 (ga.mo g1.k) (fun d _ σ K H s _ Q q => q K H (Gr.refl s)) (fun d hm _ σ K H s g Q q s0 H0 C cl fp => he d hm s0 H0 C cl fp σ K H s g Q q) Dl hD (fun K' H' xs g2 kd hd0 hx xa => ?_)
  rw [filt_all] at xa
  exact k Dl (g0.h.back hd0) ⟨K, H, m, hd0⟩ _ _ ⟨K', g0.trans g2, (ga.mo g2.k).set rfl, ⟨kd, xs, hx, xa⟩, M.st g2 m⟩
/-- a list that is new -/
def HasN (X : Cx) (Γ : Ctx) (e : Expr) (ts : List Ty) : Prop := ∀ σ K H, Ex K H → Sat Γ σ K → ∀ Q : VK, (∀ m K' H' xs, Gr K H K' H' → K' m = none → H m = none → H' m = some (.lst xs) → All2 ts xs K' → Q (.ref m) H') → we X e σ H Q
theorem hasn_lst (h : HasA X Γ es ts) (hl : ts.length ≤ 1000) : HasN X Γ (.List es pos) ts := fun σ K H s g Q q =>
  we_of (pe_lst pa_wa) (h σ K H s g _ fun vs K1 H1 g1 h1 => ⟨by rw [h1.len]; exact Nat.le_of_lt (small1000 hl), fun p hp =>
    q p K1 _ vs (g1.trans (Gr.newM g1.s hp)) (g1.s.back hp) (g1.h.back hp) upd_same h1⟩)
theorem bl_newN {pos' : Pos} (i : Nat) (h : HasN X Γ e ts) (k : ∀ m, Hb m = none → (∃ K H, M.p K H ∧ H m = none) → Bl X Kb Hb (Γ.set i (some (tV (.ref m)))) (mAnd (mLst m ts) M) rest D) (hN : X.N.Nodup) (hi : X.N[i]? = some x := by rfl) (hx : Loc X.env.scope x := by first | exact Or.inl rfl | exact Or.inr rfl)
    (hs : swapsWith e (some (.Name x pos')) pos.line X.env = pure false := by rfl) (hf : X.fn x = true ∨ X.env.scope.names.lookup x = some .local := by first | exact .inl rfl | exact .inr rfl) : Bl X Kb Hb Γ M (.Assign [.Name x pos'] e pos :: rest) D := fun σ H ⟨K, g, sa, m⟩ =>
  wss_cons (ws_of (ps_set hN hi hx pe_we hs hf) (h σ K H g.s sa _ fun m' K' H' xs g1 k1 h1 hx xa => k m' (g.h.back h1) ⟨K, H, m, h1⟩ _ _ ⟨K', g.trans g1, (sa.mo g1.k).set rfl, ⟨k1, xs, hx, xa⟩, M.st g1 m⟩))
variable {px pt : Pos} {kt k2 : _} {pt2 : Pos}
/-- x, y = (a, b): b a new list -/
theorem bl_parN {px py pt : Pos} {kt k2 pt2} (i j : Nat) (ha : Has X Γ a t) (hb : HasN X Γ b ts) (k : ∀ m, Hb m = none → (∃ K H, M.p K H ∧ H m = none) → Bl X Kb Hb ((Γ.set i (some t)).set j (some (tV (.ref m)))) (mAnd (mLst m ts) M) rest D) (hN : X.N.Nodup) (hij : i ≠ j := by decide) (hi : X.N[i]? = some x := by rfl) (hj : X.N[j]? = some y := by rfl) (hc : X.calm = true := by rfl)
    (hx : X.env.scope.names.lookup x = some .local := by rfl) (hy : X.env.scope.names.lookup y = some .local := by rfl)
    (he : starEach (a :: [b]) X.env = (false, eval a X.env) :: starEach [b] X.env := by rfl) (he2 : starEach [b] X.env = (false, eval b X.env) :: starEach [] X.env := by rfl)
    (hw : swappedStores [.Tuple [.Name x px, .Name y py] kt pt] (.Tuple [a, b] k2 pt2) X.env = pure (some [x, y]) := by rfl)
    (hs : swapsWithSole [.Tuple [.Name x px, .Name y py] kt pt] (.Tuple [a, b] k2 pt2) pos.line X.env = pure false := by rfl) : Bl X Kb Hb Γ M (.Assign [.Tuple [.Name x px, .Name y py] kt pt] (.Tuple [a, b] k2 pt2) pos :: rest) D := fun σ H ⟨K, g, sa, m⟩ => by
  refine wss_cons (ws_of (ps_par hc hN hi hj hij hx hy (pa_cons pe_we (pa_cons pe_we pa_nil he2) he) hw hs) (ha σ K H g.s sa _ fun v K1 H1 g1 tv => hb σ K1 H1 g1.s (sa.mo g1.k) _ fun n K2 H2 xs g2 kn hn hx xa => ?_))
  exact ⟨v, .ref n, rfl, k n (g.h.back (g1.h.back hn)) ⟨K1, H1, M.st g1 m, hn⟩ _ _ ⟨K2, (g.trans g1).trans g2, (((sa.mo g1.k).mo g2.k).set (t.mo g2.k tv)).set rfl, ⟨kn, xs, hx, xa⟩, M.st g2 (M.st g1 m)⟩⟩
/-- x, y = (a, b): two new lists -/
theorem bl_parNN {px py pt : Pos} {kt k2 pt2} (i j : Nat) (ha : HasN X Γ a us) (hb : HasN X Γ b ts) (k : ∀ m n, Hb m = none → Hb n = none → m ≠ n → (∃ K H, M.p K H ∧ H m = none) → (∃ K H, M.p K H ∧ H n = none) → Bl X Kb Hb ((Γ.set i (some (tV (.ref m)))).set j (some (tV (.ref n)))) (mAnd (mLst m us) (mAnd (mLst n ts) M)) rest D) (hN : X.N.Nodup) (hij : i ≠ j := by decide) (hi : X.N[i]? = some x := by rfl) (hj : X.N[j]? = some y := by rfl) (hc : X.calm = true := by rfl)
    (hx : X.env.scope.names.lookup x = some .local := by rfl) (hy : X.env.scope.names.lookup y = some .local := by rfl)
    (he : starEach (a :: [b]) X.env = (false, eval a X.env) :: starEach [b] X.env := by rfl) (he2 : starEach [b] X.env = (false, eval b X.env) :: starEach [] X.env := by rfl)
    (hw : swappedStores [.Tuple [.Name x px, .Name y py] kt pt] (.Tuple [a, b] k2 pt2) X.env = pure (some [x, y]) := by rfl)
    (hs : swapsWithSole [.Tuple [.Name x px, .Name y py] kt pt] (.Tuple [a, b] k2 pt2) pos.line X.env = pure false := by rfl) : Bl X Kb Hb Γ M (.Assign [.Tuple [.Name x px, .Name y py] kt pt] (.Tuple [a, b] k2 pt2) pos :: rest) D := fun σ H ⟨K, g, sa, m⟩ => by
  refine wss_cons (ws_of (ps_par hc hN hi hj hij hx hy (pa_cons pe_we (pa_cons pe_we pa_nil he2) he) hw hs) (ha σ K H g.s sa _ fun m1 K1 H1 xs1 g1 km hm hx1 xa1 => hb σ K1 H1 g1.s (sa.mo g1.k) _ fun n K2 H2 xs g2 kn hn hx xa => ?_))
  have ne : m1 ≠ n := fun z => by rw [z, hn] at hx1; cases hx1
  exact ⟨_, .ref n, rfl, k m1 n (g.h.back hm) (g.h.back (g1.h.back hn)) ne ⟨K, H, m, hm⟩ ⟨K1, H1, M.st g1 m, hn⟩ _ _ ⟨K2, (g.trans g1).trans g2, (((sa.mo g1.k).mo g2.k).set rfl).set rfl, (mLst m1 us).st g2 ⟨km, xs1, hx1, xa1⟩, ⟨kn, xs, hx, xa⟩, M.st g2 (M.st g1 m)⟩⟩
/-- y.pop() -/
theorem hasc_pop {p1 p2 : Pos} {m : Addr} (i : Nat) (hG : Γ[i]? = some (some (tV (.ref m)))) (hb : Hb m = none) (hM : M.fr m) (hi : X.N[i]? = some y := by rfl)
    (hv : Vis X.env.scope y := by first | exact Or.inl rfl | exact Or.inr (Or.inl rfl) | exact Or.inr (Or.inr rfl))
    (hd : (y == ("__debug__" : Str)) = false := by decide) (hcd : (y == ("__classdict__" : Str)) = false := by decide)
    (hbase : attributeBase (.Name y p1) "pop" X.env (eval (.Name y p1) X.env) = eval (.Name y p1) X.env := by rfl) (hline : (p2.endLine == pos.line) = true := by rfl) :
    HasC X Kb Hb Γ (mAnd (mLst m (ts ++ [t])) M) (.Call (.Attribute (.Name y p1) "pop" p2) [] [] pos) t (mAnd (mLst m ts) M) := fun σ K H g sa ⟨⟨ma, xs, mb, mc⟩, mm⟩ Q q => by
  refine we_of (pe_bm0 PySem.F.plainAttrs_list PySem.F.slot_list_pop PySem.F.type_list_pop mt_pop (pe_var hi hv hd hcd) hbase hline) ?_
  obtain ⟨v, e1, e2⟩ := sa.get hG
  have e2' : v = .ref m := e2
  subst e2'
  have sp : ∀ {ts : List Ty} {vs : List V}, All2 (ts ++ [t]) vs K → ∃ ws w, vs = ws ++ [w] ∧ All2 ts ws K ∧ t.p w K := fun {ts} => by
    induction ts with
    | nil => exact fun {vs} h => let ⟨v, e, h1⟩ := h.one; ⟨[], v, e, trivial, h1⟩
    | cons t0 ts ih =>
      intro vs h
      cases vs with
      | nil => exact h.elim
      | cons v0 vs =>
        obtain ⟨ws, w, e, h1, h2⟩ := ih h.2
        exact ⟨v0 :: ws, w, by rw [e]; rfl, ⟨h.1, h1⟩, h2⟩
  obtain ⟨ws, w, rfl, h1, h2⟩ := sp mc
  refine ⟨_, e1, .inl ⟨rfl, _, SqL.of mb⟩, m, _, w, rfl, rfl, mb, by simp, ?_⟩
  rw [List.dropLast_concat]
  exact q w K _ (g.change hb ma) (Ex.refl _) ⟨⟨ma, ws, upd_same, h1⟩, hM _ _ _ mm⟩ h2
/-- y.extend(e) -/
theorem bl_extC {p1 p2 p3 : Pos} {m : Addr} (i : Nat) (hG : Γ[i]? = some (some (tV (.ref m)))) (hb : Hb m = none) (hM : M.fr m) (hl : ts.length + us.length ≤ 1000) (h : Has X Γ e (tL us)) (k : Bl X Kb Hb Γ (mAnd (mLst m (ts ++ us)) M) rest D) (hi : X.N[i]? = some y := by rfl)
    (hv : Vis X.env.scope y := by first | exact Or.inl rfl | exact Or.inr (Or.inl rfl) | exact Or.inr (Or.inr rfl))
    (hd : (y == ("__debug__" : Str)) = false := by decide) (hcd : (y == ("__classdict__" : Str)) = false := by decide)
    (hs1 : swapsWith (.Call (.Attribute (.Name y p1) "extend" p2) [e] [] p3) none pos.line X.env = pure false := by rfl)
    (hbase : attributeBase (.Name y p1) "extend" X.env (eval (.Name y p1) X.env) = eval (.Name y p1) X.env := by rfl)
    (hfew : ((backTo p3 (starEach [e] X.env)).all (fun x => !x.1) && (backToKw p3 (keywordEach [] X.env)).all (fun x => x.1.isSome)
      && decide ([e].length + ([] : List Keyword).length + (if ([] : List Keyword).isEmpty then 0 else 1) < 30)) = true := by rfl)
    (hline : (p2.endLine == p3.line) = true := by rfl) (hs : starEach [e] X.env = (false, eval e X.env) :: starEach [] X.env := by rfl) (hplain : (backTo p3 (starEach [] X.env)).any (·.1) = false := by rfl) :
    Bl X Kb Hb Γ (mAnd (mLst m ts) M) (.Expr (.Call (.Attribute (.Name y p1) "extend" p2) [e] [] p3) pos :: rest) D := fun σ H ⟨K, g, sa, ⟨ma, xs, mb, mc⟩, mm⟩ => by
  refine wss_cons (ws_of (ps_expr (pe_bm PySem.F.plainAttrs_list PySem.F.slot_list_extend PySem.F.type_list_extend mt_extend (pe_var hi hv hd hcd) (pa_cons pe_we pa_nil hs) hbase hfew hline hs hplain) hs1) ?_)
  obtain ⟨v, e1, e2⟩ := sa.get hG
  have e2' : v = .ref m := e2
  subst e2'
  refine ⟨_, e1, .inl ⟨rfl, _, SqL.of mb⟩, ?_⟩
  refine h σ K H g.s sa _ fun v K1 H1 g1 ⟨l, zs, ev, hl1, za⟩ => ?_
  subst ev
  have ma1 := g1.f m (by rw [mb]; exact Option.some_ne_none _) ma
  refine ⟨m, l, xs, zs, rfl, rfl, g1.h _ _ mb, g1.s _ _ hl1, Nat.le_of_lt (small1000 (by rw [mc.len, za.len]; exact hl)), ?_⟩
  exact k σ _ ⟨K1, (g.trans g1).change hb ma1, sa.mo g1.k, ⟨ma1, _, upd_same, (mc.mo g1.k).app za⟩, hM _ _ _ (M.st g1 mm)⟩
end
section
variable {α β : Type} {X : Cx} {Γ : Ctx} {tg l l2 : Expr} {j j2 : Nat} {pos p tpos : Pos} {elts : List Expr} {kk : Nat}
theorem s_range {n : Nat} (hm : X.mg "range" = none) (hn : n < 1000) (h : Has X Γ l (tI (n : Int))) (hg : Gl X "range" := by rfl) (hs : starEach [l] X.env = [(false, eval l X.env)] := by rfl) : Src X Γ tg (.Call (.Name "range" p) [l] [] pos) (List.range n) (bd1 j fun i : Nat => tI (i : Int)) [j] (gName j) :=
  src_range (hasa_cons h hasa_nil (by rw [hs]; rfl)) hn hg hm hs
theorem s_zip {as : List α} {bs : List β} {F : α → Ty} {G : β → Ty} (hm : X.mg "zip" = none) (h1 : Has X Γ l (tL (as.map F))) (h2 : Has X Γ l2 (tL (bs.map G))) (hg : Gl X "zip" := by rfl)
    (hs : starEach [l, l2] X.env = (false, eval l X.env) :: starEach [l2] X.env := by rfl) (hs2 : starEach [l2] X.env = (false, eval l2 X.env) :: starEach [] X.env := by rfl) (hpl : (backTo pos (starEach [l2] X.env)).any (·.1) = false := by rfl) :
    Src X Γ (.Tuple elts kk tpos) (.Call (.Name "zip" p) [l, l2] [] pos) (as.zip bs) (bd2 j j2 F G) [j, j2] (gTup X.K 2 (gCons (gName j) (gCons (gName j2) gNil))) := src_zip (hasa_cons h1 (hasa_cons h2 hasa_nil hs2) hs) hg hm hs hpl
theorem s_zipT {as : List α} {bs : List β} {F : α → Ty} {G : β → Ty} (hm : X.mg "zip" = none) (h1 : Has X Γ l (tT (as.map F))) (h2 : Has X Γ l2 (tT (bs.map G))) (hg : Gl X "zip" := by rfl)
    (hs : starEach [l, l2] X.env = (false, eval l X.env) :: starEach [l2] X.env := by rfl) (hs2 : starEach [l2] X.env = (false, eval l2 X.env) :: starEach [] X.env := by rfl) (hpl : (backTo pos (starEach [l2] X.env)).any (·.1) = false := by rfl) :
    Src X Γ (.Tuple elts kk tpos) (.Call (.Name "zip" p) [l, l2] [] pos) (as.zip bs) (bd2 j j2 F G) [j, j2] (gTup X.K 2 (gCons (gName j) (gCons (gName j2) gNil))) := src_zipT (hasa_cons h1 (hasa_cons h2 hasa_nil hs2) hs) hg hm hs hpl
theorem s_enum {as : List α} {G : α → Ty} (hm : X.mg "enumerate" = none) (h : Has X Γ l (tL (as.map G))) (hg : Gl X "enumerate" := by rfl) (hs : starEach [l] X.env = [(false, eval l X.env)] := by rfl) :
    Src X Γ (.Tuple elts kk tpos) (.Call (.Name "enumerate" p) [l] [] pos) ((List.range as.length).zip as) (bd2 j j2 (fun i : Nat => tI (i : Int)) G) [j, j2] (gTup X.K 2 (gCons (gName j) (gCons (gName j2) gNil))) := src_enum (hasa_cons h hasa_nil (by rw [hs]; rfl)) hg hm hs
/-- a name as a target -/
theorem pg_1 {x : Str} {px : Pos} (hN : X.N.Nodup) (hi : X.N[j]? = some x := by rfl) (hx : Loc X.env.scope x := by first | exact Or.inl rfl | exact Or.inr rfl) (hf : X.fn x = true ∨ X.env.scope.names.lookup x = some .local := by first | exact .inl rfl | exact .inr rfl) : PG X (.Name x px) (gName j) := pg_name hN hi hx hf
/-- two names as a target -/
theorem pg_2 {x y : Str} {px py : Pos} (hN : X.N.Nodup) (hc : X.calm = true) (hi : X.N[j]? = some x := by rfl) (hj : X.N[j2]? = some y := by rfl) (hx : Loc X.env.scope x := by first | exact Or.inl rfl | exact Or.inr rfl) (hy : Loc X.env.scope y := by first | exact Or.inl rfl | exact Or.inr rfl)
    (hf : X.fn x = true ∨ X.env.scope.names.lookup x = some .local := by first | exact .inl rfl | exact .inr rfl) (hf2 : X.fn y = true ∨ X.env.scope.names.lookup y = some .local := by first | exact .inl rfl | exact .inr rfl)
    (hn : (assignEach [.Name x px, .Name y py] X.env).length = 2 := by rfl) (hst : (assignEach [.Name x px, .Name y py] X.env).findIdx? (·.1) = none := by rfl) :
    PG X (.Tuple [.Name x px, .Name y py] kk pos) (gTup X.K 2 (gCons (gName j) (gCons (gName j2) gNil))) := pg_tup hc (pgs_cons (pg_name hN hi hx hf) (pgs_cons (pg_name hN hj hy hf2) pgs_nil)) hn hst
end
section
variable {X : Cx} {Γ : Ctx} {M : Mt} {Kb Hb : Hp} {pos : Pos} {D : Ends} {rest sts : List Stmt}
theorem bl_whileC {ι : Type} {c : Expr} (P : ι → Prop) (μ : ι → Nat) (Γs : ι → Ctx) (Ms : ι → Mt) (b : ι → Bool) (z : ι) (hz : P z) (h0 : Sub2 Γ (Γs z)) (m0 : ∀ K H, M.p K H → (Ms z).p K H)
    (test : ∀ i, P i → ∀ Kb' Hb', HasTC X Kb' Hb' (Γs i) (Ms i) c (· = b i) (Ms i))
    (body : ∀ i, P i → b i = true → Bl X Kb Hb (Γs i) (Ms i) sts { D with nx := fun σ H => ∃ i', P i' ∧ μ i' < μ i ∧ Stt Kb Hb (Γs i') (Ms i') σ H, ct := fun σ H => ∃ i', P i' ∧ μ i' < μ i ∧ Stt Kb Hb (Γs i') (Ms i') σ H, bk := wss X rest D })
    (k : ∀ i, P i → b i = false → Bl X Kb Hb (Γs i) (Ms i) rest D) (hp : PassesOwn (model X.prog X.w) X.A X.env X.xe := by exact PassesOwn.never) : Bl X Kb Hb Γ M (.While c sts [] pos :: rest) D :=
  bl_while P μ Γs Ms b z hz h0 m0 (fun i hi Kb' Hb' σ H ⟨K, g, sa, m⟩ Q q => test i hi Kb' Hb' σ K H g sa m Q fun k K' H' g' e' m' hk => by
    subst hk
    exact q H' ⟨K', g', sa.mo e', m'⟩) body k hp
end
end Z
end
section
/-! What the solving part computes, in plain Lean. -/
namespace M
def total (qs : List Rat) : Rat := qs.foldl (· + ·) 0
def lcms (qs : List Rat) : Nat := qs.foldl (fun b q => Nat.lcm b q.den) 1
def wholes (qs : List Rat) : List Int := qs.map fun q => q.num * ((lcms qs : Int) / (q.den : Int))
def common (row : List Int) : Nat := row.foldl (fun c n => if n = 0 then c else Int.gcd c n) 0
def bare (row : List Int) : List Int := if 1 < common row then row.map (· / (common row : Int)) else row
def cleared (head : List Int) (p : Nat) (row : List Int) : List Int := if row.getD p 0 = 0 then row else bare ((row.zip head).map fun d => head.getD p 0 * d.1 - row.getD p 0 * d.2)
def firstAt (rows : List (List Int)) (p : Nat) : Option Nat := rows.findIdx? fun r => !decide (r.getD p 0 = 0)
def headed (row : List Int) (p : Nat) : List Int := if 0 < (bare row).getD p 0 then bare row else (bare row).map (0 - ·)
structure Sp where
  left : List (List Int)
  found : List (List Int)
def stepAt (s : Sp) (p : Nat) : Sp := match firstAt s.left p with
  | none => s
  | some k =>
    let head := headed (s.left.getD k []) p
    ⟨(s.left.take k ++ s.left.drop (k + 1)).map (cleared head p), s.found.map (cleared head p) ++ [head]⟩
def intSteps (rows : List (List Int)) : List (List Int) := ((List.range (rows.headD []).length).foldl stepAt ⟨rows, []⟩).found
def headOf (row : List Int) : Nat := row.findIdx fun n => !decide (n = 0)
def toldRow (row : List Int) : List Rat := row.map fun n => mkRat n (row.getD (headOf row) 0).toNat
def toldRows (rows : List (List Int)) : List (List Rat) := rows.map toldRow
def stepsOf (rows : List (List Rat)) : List (List Rat) := toldRows (intSteps (rows.map wholes))
def heads (solved : List (List Rat)) : List Nat := solved.map fun row => headOf (row.map (·.num))
def freeRow (solved : List (List Rat)) (wide free : Nat) : List Rat := ((heads solved).zip solved).foldl (fun r d => r.set d.1 (-(d.2.getD free 0))) ((List.range wide).map fun i => if i = free then 1 else 0)
def kernelFound (rows : List (List Rat)) (wide : Nat) : List (List Rat) := ((List.range wide).filter fun f => !(decide (f ∈ heads (stepsOf rows)))).map (freeRow (stepsOf rows) wide)
def kernelOf (rows : List (List Rat)) (wide : Nat) : List (List Rat) := stepsOf (kernelFound rows wide)
def columns (rows : List (List Rat)) : List (List Rat) := (List.range rows.length).map fun p => (List.range rows.length).map fun h => (rows.getD h []).getD p 0 - if h = p then 1 else 0
def onlyShares (rows : List (List Rat)) : List Rat := ((kernelOf (columns rows) rows.length).getD 0 []).map (· / total ((kernelOf (columns rows) rows.length).getD 0 []))
end M
namespace M
def led (shares : List Rat) (rows : List (List Rat)) : List Rat := (List.range rows.length).map fun p => total ((shares.zip rows).map fun d => d.1 * d.2.getD p 0)
/-- rows and shares that are proper -/
structure Good (qs : List Rat) : Prop where
  len : qs.length ≤ 6
  ge : ∀ q ∈ qs, 0 ≤ q.num
  sum : total qs = 1
end M
namespace M
def rowOf (row : List Nat) : List Rat := row.map fun x : Nat => mkRat (x : Int) row.sum
def rowsOf (flow : List (List Nat)) : List (List Rat) := flow.map rowOf
def allSum (flow : List (List Nat)) : Nat := (flow.map List.sum).sum
def sharesOf (flow : List (List Nat)) : List Rat := flow.map fun row => mkRat (row.sum : Int) (allSum flow)
def cut {α : Type} (p : Nat) (l : List α) : List α := l.take p ++ l.drop (p + 1)
def minor : Nat → List (List Int) → Int
  | 0, _ => 1
  | k + 1, rows => ((List.range (rows.headD []).length).zip (rows.headD [])).foldl (fun acc d => acc + (if d.1 % 2 = 0 then d.2 * minor k ((rows.drop 1).map (cut d.1)) else 0 - d.2 * minor k ((rows.drop 1).map (cut d.1)))) 0
def lapRow (here : Nat) (row : List Nat) : List Int := ((List.range row.length).zip row).map fun d => (if d.1 = here then (row.sum : Int) else 0) - (d.2 : Int)
def lap (flow : List (List Nat)) : List (List Int) := ((List.range flow.length).zip flow).map fun d => lapRow d.1 d.2
def onlyAt (flow : List (List Nat)) (p : Nat) : Int := (((flow.getD p []).sum : Nat) : Int) * minor (flow.length - 1) ((cut p (lap flow)).map (cut p))
def onlys (flow : List (List Nat)) : List Int := (List.range flow.length).map (onlyAt flow)
def only (flow : List (List Nat)) : List Rat := (onlys flow).map fun x => mkRat x (onlys flow).sum.toNat
end M
end
section
set_option linter.all false
/-! Lengths and sizes along the integer steps. -/
namespace M
def Bd (k : Nat) (i : Int) : Prop := i.natAbs < 2 ^ k
theorem Bd.mono {j k : Nat} {i : Int} (h : Bd j i) (l : j ≤ k) : Bd k i := Nat.lt_of_lt_of_le h (Nat.pow_le_pow_right (by decide) l)
theorem Bd.mul {j k : Nat} {a b : Int} (ha : Bd j a) (hb : Bd k b) : Bd (j + k) (a * b) := by
  unfold Bd at *
  rw [Int.natAbs_mul, Nat.pow_add]
  exact Nat.mul_lt_mul'' ha hb
theorem Bd.sub {k : Nat} {a b : Int} (ha : Bd k a) (hb : Bd k b) : Bd (k + 1) (a - b) := by
  unfold Bd at *
  rw [Nat.pow_succ]
  omega
theorem bd0 {k : Nat} : Bd k 0 := Nat.pow_pos (by decide)
def BdL (k : Nat) (r : List Int) : Prop := ∀ x ∈ r, Bd k x
def Rect (n : Nat) (rows : List (List Int)) : Prop := ∀ r ∈ rows, r.length = n
def BdR (k : Nat) (rows : List (List Int)) : Prop := ∀ r ∈ rows, BdL k r
theorem BdL.mono {j k : Nat} {r : List Int} (h : BdL j r) (l : j ≤ k) : BdL k r := fun x hx => (h x hx).mono l
theorem BdR.mono {j k : Nat} {r : List (List Int)} (h : BdR j r) (l : j ≤ k) : BdR k r := fun x hx => (h x hx).mono l
theorem BdL.at {k : Nat} {r : List Int} (h : BdL k r) (p : Nat) : Bd k (r.getD p 0) := by
  by_cases q : p < r.length
  · rw [List.getD_eq_getElem?_getD, List.getElem?_eq_getElem q]
    exact h _ (List.getElem_mem q)
  · rw [List.getD_eq_getElem?_getD, List.getElem?_eq_none (by omega)]
    exact bd0
/-- the common divisor -/
theorem common_dvd {row : List Int} : ∀ x ∈ row, (common row : Int) ∣ x := by
  have key : ∀ (row : List Int) (c : Nat), ((row.foldl (fun c n => if n = 0 then c else Int.gcd c n) c : Nat) : Int) ∣ (c : Int) ∧ ∀ x ∈ row, ((row.foldl (fun c n => if n = 0 then c else Int.gcd c n) c : Nat) : Int) ∣ x := by
    intro row
    induction row with
    | nil => exact fun c => ⟨Int.dvd_refl _, fun x hx => by cases hx⟩
    | cons a row ih =>
      intro c
      rw [List.foldl_cons]
      obtain ⟨h1, h2⟩ := ih (if a = 0 then c else Int.gcd c a)
      by_cases ha : a = 0
      · rw [if_pos ha] at h1 h2 ⊢
        refine ⟨h1, fun x hx => ?_⟩
        rcases List.mem_cons.mp hx with e | hx
        · rw [e, ha]
          exact Int.dvd_zero _
        · exact h2 x hx
      · rw [if_neg ha] at h1 h2 ⊢
        refine ⟨Int.dvd_trans h1 (Int.gcd_dvd_left ..), fun x hx => ?_⟩
        rcases List.mem_cons.mp hx with e | hx
        · rw [e]
          exact Int.dvd_trans h1 (Int.gcd_dvd_right ..)
        · exact h2 x hx
  exact (key row 0).2
theorem bare_len {row : List Int} : (bare row).length = row.length := by
  unfold bare
  split
  · rw [List.length_map]
  · rfl
/-- what bare does: each is the common divisor times what is left -/
theorem bare_mul {row : List Int} : ∃ c : Int, 0 < c ∧ row = (bare row).map (c * ·) := by
  unfold bare
  by_cases h : 1 < common row
  · refine ⟨(common row : Int), by omega, ?_⟩
    rw [if_pos h, List.map_map]
    refine (List.map_id' row).symm.trans (List.map_congr_left fun x hx => ?_)
    exact (Int.mul_ediv_cancel' (common_dvd x hx)).symm
  · rw [if_neg h]
    exact ⟨1, by decide, by simp⟩
theorem bare_bd {row : List Int} {k : Nat} (h : BdL k row) : BdL k (bare row) := by
  unfold bare
  split
  · intro x hx
    obtain ⟨y, hy, rfl⟩ := List.mem_map.mp hx
    have := h y hy
    unfold Bd at *
    rw [Int.natAbs_ediv_of_dvd (common_dvd y hy)]
    exact Nat.lt_of_le_of_lt (Nat.div_le_self _ _) this
  · exact h
theorem cleared_len {row head : List Int} {p n : Nat} (h1 : row.length = n) (h2 : head.length = n) : (cleared head p row).length = n := by
  unfold cleared
  split
  · exact h1
  · rw [bare_len, List.length_map, List.length_zip, h1, h2, Nat.min_self]
theorem cross_bd {row head : List Int} {p k : Nat} (h1 : BdL k row) (h2 : BdL k head) : BdL (2 * k + 1) ((row.zip head).map fun d => head.getD p 0 * d.1 - row.getD p 0 * d.2) := by
  intro x hx
  obtain ⟨⟨a, b⟩, hd, rfl⟩ := List.mem_map.mp hx
  obtain ⟨ha, hb⟩ := List.of_mem_zip hd
  have e : 2 * k = k + k := by omega
  rw [e]
  exact ((h2.at p).mul (h1 a ha)).sub ((h1.at p).mul (h2 b hb))
theorem cleared_bd {row head : List Int} {p k : Nat} (h1 : BdL k row) (h2 : BdL k head) : BdL (2 * k + 1) (cleared head p row) := by
  unfold cleared
  split
  · exact h1.mono (by omega)
  · exact bare_bd (cross_bd h1 h2)
theorem headed_len {row : List Int} {p : Nat} : (headed row p).length = row.length := by
  unfold headed
  split
  · exact bare_len
  · rw [List.length_map, bare_len]
theorem headed_bd {row : List Int} {p k : Nat} (h : BdL k row) : BdL k (headed row p) := by
  unfold headed
  split
  · exact bare_bd h
  · intro x hx
    obtain ⟨y, hy, rfl⟩ := List.mem_map.mp hx
    have := bare_bd h y hy
    unfold Bd at *
    omega
theorem getD_at {α : Type} {l : List α} {k : Nat} {d : α} (h : k < l.length) : l.getD k d = l[k] := by
  rw [List.getD_eq_getElem?_getD, List.getElem?_eq_getElem h]
  rfl
theorem firstAt_lt {rows : List (List Int)} {p k : Nat} (h : firstAt rows p = some k) : k < rows.length ∧ (rows.getD k []).getD p 0 ≠ 0 := by
  unfold firstAt at h
  obtain ⟨h1, h2, _⟩ := List.findIdx?_eq_some_iff_getElem.mp h
  refine ⟨h1, ?_⟩
  rw [getD_at h1]
  simpa only [Bool.not_eq_true', decide_eq_false_iff_not] using h2
theorem getD_mem {α : Type} {l : List α} {k : Nat} {d : α} (h : k < l.length) : l.getD k d ∈ l := by
  rw [List.getD_eq_getElem?_getD, List.getElem?_eq_getElem h]
  exact List.getElem_mem h
theorem cut_mem {α : Type} {l : List α} {k : Nat} {x : α} (h : x ∈ l.take k ++ l.drop (k + 1)) : x ∈ l := by
  rcases List.mem_append.mp h with h | h
  · exact List.mem_of_mem_take h
  · exact List.mem_of_mem_drop h
/-- the sizes as the steps go on -/
structure Inv1 (n m b : Nat) (s : Sp) : Prop where
  ll : Rect n s.left
  lf : Rect n s.found
  cnt : s.left.length + s.found.length ≤ m
  bl : BdR ((b + 1) * 2 ^ s.found.length - 1) s.left
  bf : BdR ((b + 1) * 2 ^ s.found.length - 1) s.found
theorem pow_step (b j : Nat) : 2 * ((b + 1) * 2 ^ j - 1) + 1 = (b + 1) * 2 ^ (j + 1) - 1 := by
  have h : 0 < (b + 1) * 2 ^ j := Nat.mul_pos (Nat.succ_pos b) (Nat.pow_pos (by decide))
  rw [Nat.pow_succ, ← Nat.mul_assoc]
  omega
theorem inv1_step {n m b p : Nat} {s : Sp} (i : Inv1 n m b s) : Inv1 n m b (stepAt s p) := by
  unfold stepAt
  cases h : firstAt s.left p with
  | none => exact i
  | some k =>
    obtain ⟨hk, _⟩ := firstAt_lt h
    have hm : s.left.getD k [] ∈ s.left := getD_mem hk
    have l1 := i.ll _ hm
    have hl : (headed (s.left.getD k []) p).length = n := headed_len.trans l1
    have hb := headed_bd (p := p) (i.bl _ hm)
    have pe := pow_step b s.found.length
    refine ⟨?_, ?_, ?_, ?_, ?_⟩
    · intro r hr
      obtain ⟨q, hq, rfl⟩ := List.mem_map.mp hr
      exact cleared_len (i.ll _ (cut_mem hq)) hl
    · intro r hr
      rcases List.mem_append.mp hr with hr | hr
      · obtain ⟨q, hq, rfl⟩ := List.mem_map.mp hr
        exact cleared_len (i.lf _ hq) hl
      · rw [List.mem_singleton.mp hr]
        exact hl
    · have := i.cnt
      simp only [List.length_map, List.length_append, List.length_take, List.length_drop, List.length_singleton]
      omega
    · simp only [List.length_map, List.length_append, List.length_singleton]
      rw [← pe]
      intro r hr
      obtain ⟨q, hq, rfl⟩ := List.mem_map.mp hr
      exact cleared_bd (i.bl _ (cut_mem hq)) hb
    · simp only [List.length_map, List.length_append, List.length_singleton]
      rw [← pe]
      intro r hr
      rcases List.mem_append.mp hr with hr | hr
      · obtain ⟨q, hq, rfl⟩ := List.mem_map.mp hr
        exact cleared_bd (i.bf _ hq) hb
      · rw [List.mem_singleton.mp hr]
        exact hb.mono (by omega)
/-- the state behind the first i places -/
def stAt (rows : List (List Int)) (i : Nat) : Sp := ((List.range (rows.headD []).length).take i).foldl stepAt ⟨rows, []⟩
theorem stAt_zero {rows : List (List Int)} : stAt rows 0 = ⟨rows, []⟩ := rfl
theorem stAt_succ {rows : List (List Int)} {i : Nat} (h : i < (rows.headD []).length) : stAt rows (i + 1) = stepAt (stAt rows i) i := by
  unfold stAt
  rw [List.take_add_one, List.getElem?_eq_getElem (by simpa using h), List.foldl_append]
  simp
theorem stAt_end {rows : List (List Int)} : (stAt rows (rows.headD []).length).found = intSteps rows := by
  unfold stAt intSteps
  rw [List.take_of_length_le (by simp)]
theorem inv1_at {n b : Nat} {rows : List (List Int)} (h1 : Rect n rows) (h2 : BdR b rows) : ∀ i, i ≤ (rows.headD []).length → Inv1 n rows.length b (stAt rows i)
  | 0, _ => by
    rw [stAt_zero]
    exact ⟨h1, fun r hr => (List.not_mem_nil hr).elim, by simp, by simpa using h2, fun r hr => (List.not_mem_nil hr).elim⟩
  | i + 1, h => by
    rw [stAt_succ (by omega)]
    exact inv1_step (inv1_at h1 h2 i (by omega))
/-- the heads as the steps go on: what is left has nothing ahead of p; each found row begins above 0, its head apart from the others' -/
structure Led (p : Nat) (r : List Int) (h : Nat) : Prop where
  lt : h < p
  pos : 0 < r.getD h 0
  zero : ∀ c, c < h → r.getD c 0 = 0
structure Inv2 (p : Nat) (s : Sp) : Prop where
  z : ∀ r ∈ s.left, ∀ c, c < p → r.getD c 0 = 0
  f : ∀ r ∈ s.found, ∃ h, Led p r h
theorem getD_map0 {r : List Int} {f : Int → Int} (h0 : f 0 = 0) (c : Nat) : (r.map f).getD c 0 = f (r.getD c 0) := by
  rw [List.getD_eq_getElem?_getD, List.getD_eq_getElem?_getD, List.getElem?_map]
  cases r[c]? with
  | none => exact h0.symm
  | some x => rfl
theorem bare_at {row : List Int} : ∃ c : Int, 0 < c ∧ ∀ i, row.getD i 0 = c * (bare row).getD i 0 := by
  obtain ⟨c, h, e⟩ := bare_mul (row := row)
  refine ⟨c, h, fun i => ?_⟩
  have this : row.getD i 0 = ((bare row).map (c * ·)).getD i 0 := congrArg (fun l : List Int => l.getD i 0) e
  rw [this, getD_map0 (by simp)]
theorem cross_at {row head : List Int} {p n c : Nat} (h1 : row.length = n) (h2 : head.length = n) : ((row.zip head).map fun d => head.getD p 0 * d.1 - row.getD p 0 * d.2).getD c 0 = head.getD p 0 * row.getD c 0 - row.getD p 0 * head.getD c 0 := by
  by_cases h : c < n
  · have a1 : row[c]? = some (row.getD c 0) := by
      rw [List.getD_eq_getElem?_getD, List.getElem?_eq_getElem (by omega)]
      rfl
    have a2 : head[c]? = some (head.getD c 0) := by
      rw [List.getD_eq_getElem?_getD, List.getElem?_eq_getElem (by omega)]
      rfl
    have hz : (row.zip head)[c]? = some (row.getD c 0, head.getD c 0) := by
      rw [List.getElem?_zip_eq_some]
      exact ⟨a1, a2⟩
    rw [List.getD_eq_getElem?_getD, List.getElem?_map, hz]
    rfl
  · have b0 : ∀ l : List Int, l.length = n → l.getD c 0 = 0 := fun l hl => by
      rw [List.getD_eq_getElem?_getD, List.getElem?_eq_none (by omega)]
      rfl
    rw [b0 row h1, b0 head h2, List.getD_eq_getElem?_getD, List.getElem?_eq_none (by rw [List.length_map, List.length_zip]; omega)]
    simp
/-- cleared: a positive multiple away from the cross -/
theorem cleared_at {row head : List Int} {p n : Nat} (h1 : row.length = n) (h2 : head.length = n) (hp : 0 < head.getD p 0) : ∃ a b : Int, 0 < a ∧ 0 < b ∧ ∀ c, b * (cleared head p row).getD c 0 = a * row.getD c 0 - (a * row.getD p 0 / head.getD p 0) * head.getD c 0 ∧ head.getD p 0 ∣ a := by
  unfold cleared
  by_cases h : row.getD p 0 = 0
  · refine ⟨head.getD p 0, head.getD p 0, hp, hp, fun c => ⟨?_, Int.dvd_refl _⟩⟩
    rw [if_pos h, h]
    simp
  · obtain ⟨b, hb, e⟩ := bare_at (row := (row.zip head).map fun d => head.getD p 0 * d.1 - row.getD p 0 * d.2)
    refine ⟨head.getD p 0, b, hp, hb, fun c => ⟨?_, Int.dvd_refl _⟩⟩
    rw [if_neg h, ← e, cross_at h1 h2, Int.mul_ediv_cancel_left _ (by omega)]
theorem headed_at {row : List Int} {p : Nat} (h : row.getD p 0 ≠ 0) : 0 < (headed row p).getD p 0 ∧ ∃ a b : Int, a ≠ 0 ∧ 0 < b ∧ ∀ c, b * (headed row p).getD c 0 = a * row.getD c 0 := by
  obtain ⟨c, hc, e⟩ := bare_at (row := row)
  unfold headed
  by_cases g : 0 < (bare row).getD p 0
  · rw [if_pos g]
    refine ⟨g, 1, c, by decide, hc, fun i => ?_⟩
    rw [e i, Int.one_mul]
  · rw [if_neg g]
    have e0 := e p
    have g0 : (bare row).getD p 0 ≠ 0 := fun z => h (by rw [e0, z, Int.mul_zero])
    refine ⟨?_, -1, c, by decide, hc, fun i => ?_⟩
    · rw [getD_map0 (by simp)]
      omega
    · rw [getD_map0 (by simp), e i]
      grind
theorem inv2_step {n m b p : Nat} {s : Sp} (i1 : Inv1 n m b s) (i : Inv2 p s) : Inv2 (p + 1) (stepAt s p) := by
  unfold stepAt
  cases h : firstAt s.left p with
  | none =>
    refine ⟨fun r hr c hc => ?_, fun r hr => ?_⟩
    · by_cases e : c = p
      · have := List.findIdx?_eq_none_iff.mp h r hr
        subst e
        simpa using this
      · exact i.z r hr c (by omega)
    · obtain ⟨g, a⟩ := i.f r hr
      exact ⟨g, by have := a.lt; omega, a.pos, a.zero⟩
  | some k =>
    obtain ⟨hk, hne⟩ := firstAt_lt h
    have hm : s.left.getD k [] ∈ s.left := getD_mem hk
    have hl : (headed (s.left.getD k []) p).length = n := headed_len.trans (i1.ll _ hm)
    obtain ⟨hpos, a, b2, ha, hb, hat⟩ := headed_at hne
    have hz : ∀ c, c < p → (headed (s.left.getD k []) p).getD c 0 = 0 := fun c hc => by
      have e := hat c
      rw [i.z _ hm c hc, Int.mul_zero] at e
      rcases Int.mul_eq_zero.mp e with q | q
      · omega
      · exact q
    have clr : ∀ r : List Int, r.length = n → ∀ c, c < p → ∃ x y : Int, 0 < x ∧ 0 < y ∧ y * (cleared (headed (s.left.getD k []) p) p r).getD c 0 = x * r.getD c 0 := fun r hr c hc => by
      obtain ⟨x, y, hx, hy, e⟩ := cleared_at hr hl hpos
      refine ⟨x, y, hx, hy, ?_⟩
      rw [(e c).1, hz c hc]
      simp
    have sgn : ∀ {x y u v : Int}, 0 < x → 0 < y → y * u = x * v → (v = 0 → u = 0) ∧ (0 < v → 0 < u) := fun {x y u v} hx hy e => by
      refine ⟨fun z => ?_, fun z => ?_⟩
      · rw [z, Int.mul_zero] at e
        rcases Int.mul_eq_zero.mp e with q | q
        · omega
        · exact q
      · have h3 : 0 < y * u := by rw [e]; exact Int.mul_pos hx z
        exact Int.pos_of_mul_pos_right h3 hy |> fun w => w
    refine ⟨fun r hr c hc => ?_, fun r hr => ?_⟩
    · obtain ⟨q, hq, rfl⟩ := List.mem_map.mp hr
      have hq' := cut_mem hq
      by_cases e : c = p
      · obtain ⟨x, y, hx, hy, ee⟩ := cleared_at (i1.ll _ hq') hl hpos
        obtain ⟨e1, e2⟩ := ee c
        subst e
        have e3 : x * q.getD c 0 / (headed (s.left.getD k []) c).getD c 0 * (headed (s.left.getD k []) c).getD c 0 = x * q.getD c 0 := Int.ediv_mul_cancel (Int.dvd_trans e2 (Int.dvd_mul_right _ _))
        rw [e3, Int.sub_self] at e1
        rcases Int.mul_eq_zero.mp e1 with w | w
        · omega
        · exact w
      · obtain ⟨x, y, hx, hy, ee⟩ := clr q (i1.ll _ hq') c (by omega)
        exact (sgn hx hy ee).1 (i.z _ hq' c (by omega))
    · rcases List.mem_append.mp hr with hr | hr
      · obtain ⟨q, hq, rfl⟩ := List.mem_map.mp hr
        obtain ⟨g, a⟩ := i.f q hq
        refine ⟨g, by have := a.lt; omega, ?_, fun c hc => ?_⟩
        · obtain ⟨x, y, hx, hy, ee⟩ := clr q (i1.lf _ hq) g a.lt
          exact (sgn hx hy ee).2 a.pos
        · obtain ⟨x, y, hx, hy, ee⟩ := clr q (i1.lf _ hq) c (by have := a.lt; omega)
          exact (sgn hx hy ee).1 (a.zero c hc)
      · rw [List.mem_singleton.mp hr]
        exact ⟨p, by omega, hpos, hz⟩
theorem inv2_at {n b : Nat} {rows : List (List Int)} (h1 : Rect n rows) (h2 : BdR b rows) : ∀ i, i ≤ (rows.headD []).length → Inv2 i (stAt rows i)
  | 0, _ => ⟨fun r _ c h => by omega, fun r hr => (List.not_mem_nil hr).elim⟩
  | i + 1, h => by
    rw [stAt_succ (by omega)]
    exact inv2_step (inv1_at h1 h2 i (by omega)) (inv2_at h1 h2 i (by omega))
theorem led_head {p h : Nat} {r : List Int} (l : Led p r h) (hp : p ≤ r.length) : headOf r = h := by
  unfold headOf
  have hh : h < r.length := by have := l.lt; omega
  rw [List.findIdx_eq hh]
  have e : ∀ c (hc : c < r.length), r[c] = r.getD c 0 := fun c hc => by
    rw [List.getD_eq_getElem?_getD, List.getElem?_eq_getElem hc]
    rfl
  refine ⟨?_, fun c hc => ?_⟩
  · rw [e h hh]
    have := l.pos
    rw [decide_eq_false (by omega)]
    rfl
  · rw [e c (by omega), l.zero c hc]
    rfl
/-- what comes out: heads above 0, sizes -/
structure Out (n k : Nat) (r : List Int) : Prop where
  len : r.length = n
  hd : headOf r < n
  pos : 0 < r.getD (headOf r) 0
  bd : BdL k r
theorem intSteps_out {n b : Nat} {rows : List (List Int)} (h1 : Rect n rows) (h2 : BdR b rows) : (intSteps rows).length ≤ rows.length ∧ ∀ r ∈ intSteps rows, Out n ((b + 1) * 2 ^ rows.length) r := by
  have i1 := inv1_at h1 h2 _ (Nat.le_refl _)
  have i2 := inv2_at h1 h2 _ (Nat.le_refl _)
  rw [← stAt_end]
  have hc := i1.cnt
  refine ⟨by omega, fun r hr => ?_⟩
  have hlen := i1.lf r hr
  obtain ⟨h, l⟩ := i2.f r hr
  have hw : (rows.headD []).length ≤ r.length := by
    cases rows with
    | nil => exact Nat.zero_le _
    | cons a t =>
      rw [hlen]
      exact Nat.le_of_eq (h1 a List.mem_cons_self)
  have e := led_head l hw
  refine ⟨hlen, ?_, ?_, (i1.bf r hr).mono (Nat.le_trans (Nat.sub_le _ _) (Nat.mul_le_mul_left _ (Nat.pow_le_pow_right (by decide) (by omega))))⟩
  · rw [e]
    have := l.lt
    omega
  · rw [e]
    exact l.pos
end M
end
section
set_option linter.all false
/-! A look through a graph. -/
namespace M
inductive Reach (E : Nat → Nat → Bool) (n p : Nat) : Nat → Prop where
  | refl : Reach E n p p
  | step {q r : Nat} : Reach E n p q → E q r = true → r < n → Reach E n p r
open Classical in
noncomputable def reachL (E : Nat → Nat → Bool) (n p : Nat) : List Nat := (List.range n).filter fun q => decide (Reach E n p q)
def more (E : Nat → Nat → Bool) (n here : Nat) (found : List Nat) (i : Nat) : List Nat := ((List.range n).take i).filter fun q => E here q && !(decide (q ∈ found))
structure Dfs (E : Nat → Nat → Bool) (n p : Nat) (d : List Nat × List Nat) : Prop where
  nd : d.1.Nodup
  ndl : d.2.Nodup
  st : p ∈ d.1
  sub : ∀ q ∈ d.2, q ∈ d.1
  rch : ∀ q ∈ d.1, q < n ∧ Reach E n p q
  cl : ∀ q ∈ d.1, q ∉ d.2 → ∀ r, r < n → E q r = true → r ∈ d.1
def dMu (n : Nat) (d : List Nat × List Nat) : Nat := 2 * (n - d.1.length) + d.2.length
theorem nodup_le {l : List Nat} {n : Nat} (h : l.Nodup) (hl : ∀ q ∈ l, q < n) : l.length ≤ n := by
  have := (List.nodup_range (n := n)).length_le_of_subset (l₂ := l)
  have h2 : l ⊆ List.range n := fun q hq => List.mem_range.mpr (hl q hq)
  have := h.length_le_of_subset h2
  rwa [List.length_range] at this
theorem dfs_start {E : Nat → Nat → Bool} {n p : Nat} (hp : p < n) : Dfs E n p ([p], [p]) := ⟨by simp, by simp, by simp, fun q h => h, fun q hq => by
  have e : q = p := by simpa using hq
  rw [e]
  exact ⟨hp, .refl⟩, fun q h1 h2 => absurd h1 h2⟩
theorem mem_more {E : Nat → Nat → Bool} {n here i q : Nat} {found : List Nat} : q ∈ more E n here found i ↔ q < n ∧ q < i ∧ E here q = true ∧ q ∉ found := by
  unfold more
  rw [List.mem_filter, List.take_range, List.mem_range]
  simp only [Bool.and_eq_true, Bool.not_eq_true', decide_eq_false_iff_not, Nat.lt_min]
  exact ⟨fun ⟨⟨h1, h2⟩, h3, h4⟩ => ⟨h2, h1, h3, h4⟩, fun ⟨h1, h2, h3, h4⟩ => ⟨⟨h2, h1⟩, h3, h4⟩⟩
theorem more_nd {E : Nat → Nat → Bool} {n here i : Nat} {found : List Nat} : (more E n here found i).Nodup := by
  unfold more
  rw [List.take_range]
  exact (List.nodup_range).filter _
theorem dfs_step {E : Nat → Nat → Bool} {n p here : Nat} {found left : List Nat} (d : Dfs E n p (found, left ++ [here])) : Dfs E n p (found ++ more E n here found n, left ++ more E n here found n) ∧ dMu n (found ++ more E n here found n, left ++ more E n here found n) < dMu n (found, left ++ [here]) := by
  have hh : here ∈ found := d.sub here (by simp)
  have nd2 : (found ++ more E n here found n).Nodup := by
    rw [List.nodup_append]
    exact ⟨d.nd, more_nd, fun a ha b hb e => (mem_more.mp hb).2.2.2 (e ▸ ha)⟩
  have rc : ∀ q ∈ found ++ more E n here found n, q < n ∧ Reach E n p q := fun q hq => by
    rcases List.mem_append.mp hq with h | h
    · exact d.rch q h
    · obtain ⟨h1, _, h3, _⟩ := mem_more.mp h
      exact ⟨h1, .step (d.rch here hh).2 h3 h1⟩
  have ndl2 : (left ++ more E n here found n).Nodup := by
    have h0 := d.ndl
    simp only [List.nodup_append] at h0 ⊢
    exact ⟨h0.1, more_nd, fun a ha b hb e => (mem_more.mp hb).2.2.2 (d.sub b (List.mem_append_left _ (e ▸ ha)))⟩
  refine ⟨⟨nd2, ndl2, List.mem_append_left _ d.st, fun q hq => ?_, rc, fun q h1 h2 r hr he => ?_⟩, ?_⟩
  · rcases List.mem_append.mp hq with h | h
    · exact List.mem_append_left _ (d.sub q (List.mem_append_left _ h))
    · exact List.mem_append_right _ h
  · simp only [List.mem_append, not_or] at h1 h2 ⊢
    rcases h1 with h1 | h1
    · by_cases e : q = here
      · by_cases hf : r ∈ found
        · exact .inl hf
        · exact .inr (mem_more.mpr ⟨hr, hr, e ▸ he, hf⟩)
      · exact .inl (d.cl q h1 (by simp only [List.mem_append, List.mem_singleton, not_or]; exact ⟨h2.1, e⟩) r hr he)
    · exact absurd h1 h2.2
  · have := nodup_le nd2 fun q hq => (rc q hq).1
    unfold dMu
    simp only [List.length_append, List.length_singleton] at *
    omega
theorem dfs_all {E : Nat → Nat → Bool} {n p q : Nat} {found : List Nat} (d : Dfs E n p (found, [])) (hr : Reach E n p q) : q ∈ found := by
  induction hr with
  | refl => exact d.st
  | step h e hr ih => exact d.cl _ ih (by simp) _ hr e
theorem dfs_end {E : Nat → Nat → Bool} {n p : Nat} {found : List Nat} (d : Dfs E n p (found, [])) (q : Nat) : q ∈ found ↔ q < n ∧ Reach E n p q := by
  exact ⟨d.rch q, fun h => dfs_all d h.2⟩
open Classical in
theorem mem_reachL {E : Nat → Nat → Bool} {n p q : Nat} : q ∈ reachL E n p ↔ q < n ∧ Reach E n p q := by
  unfold reachL
  rw [List.mem_filter, List.mem_range, decide_eq_true_iff]
theorem reachL_nd {E : Nat → Nat → Bool} {n p : Nat} : (reachL E n p).Nodup := (List.nodup_range).filter _
theorem reachL_le {E : Nat → Nat → Bool} {n p : Nat} : (reachL E n p).length ≤ n := by
  have := List.length_filter_le (fun q => @decide (Reach E n p q) (Classical.propDecidable _)) (List.range n)
  rw [List.length_range] at this
  exact this
theorem reachL_sorted {E : Nat → Nat → Bool} {n p : Nat} : (reachL E n p).Pairwise (· ≤ ·) := (List.pairwise_lt_range (n := n)).imp (fun h => Nat.le_of_lt h) |>.filter _
theorem perm_same {l m : List Nat} (h1 : l.Nodup) (h2 : m.Nodup) (h : ∀ q, q ∈ l ↔ q ∈ m) : l.Perm m := (List.perm_ext_iff_of_nodup h1 h2).mpr h
theorem dfs_perm {E : Nat → Nat → Bool} {n p : Nat} {found : List Nat} (d : Dfs E n p (found, [])) : found.Perm (reachL E n p) := perm_same d.nd reachL_nd fun q => by rw [dfs_end d q, mem_reachL]
/-- sorted lists with the same items -/
theorem sorted_eq : ∀ {l m : List Int}, l.Perm m → l.Pairwise (· ≤ ·) → m.Pairwise (· ≤ ·) → l = m
  | [], m, h, _, _ => h.nil_eq
  | a :: l, [], h, _, _ => absurd h.length_eq (by simp)
  | a :: l, b :: m, h, hl, hm => by
    have hl' := List.pairwise_cons.mp hl
    have hm' := List.pairwise_cons.mp hm
    have ha : a ∈ b :: m := h.mem_iff.mp List.mem_cons_self
    have hb : b ∈ a :: l := h.mem_iff.mpr List.mem_cons_self
    have e : a = b := by
      rcases List.mem_cons.mp ha with e | ha
      · exact e
      · rcases List.mem_cons.mp hb with e | hb
        · exact e.symm
        · have := hl'.1 b hb
          have := hm'.1 a ha
          omega
    subst e
    rw [sorted_eq (List.Perm.cons_inv h) hl'.2 hm'.2]
theorem cast_sorted {l : List Nat} (h : l.Pairwise (· ≤ ·)) : (l.map fun q : Nat => (q : Int)).Pairwise (· ≤ ·) := by
  rw [List.pairwise_map]
  exact h.imp fun h => by omega
/-- a closed lot, if there is one -/
noncomputable def closedIn (E : Nat → Nat → Bool) (n : Nat) : Option (List Nat) := (List.range n).findSome? fun p => if (reachL E n p).length < n then some (reachL E n p) else none
end M
end
section
set_option linter.all false
namespace M
/-- rows of the places apart -/
def apRow (flow : List (List Nat)) (c a : Nat) : List Nat := (List.range flow.length).map fun o => if (decide (a < c) == decide (o < c)) = true then (flow.getD (min a o) []).getD (max a o) 0 else 0
def apOne (n a : Nat) : List Nat := (List.range n).map fun o => if a = o then 1 else 0
def apart (flow : List (List Nat)) (c : Nat) : List (List Nat) := (List.range flow.length).map fun a => if 0 < (apRow flow c a).sum then apRow flow c a else apOne flow.length a
/-- a step leads out of the place 0 or of the place 1 -/
def leads (flow : List (List Nat)) : Bool := !decide ((flow.getD 0 []).drop 1 = List.replicate (flow.length - 1) 0) || !decide (cut 1 (flow.getD 1 []) = List.replicate (flow.length - 1) 0)
end M
end
section
set_option linter.all false
/-! Flows. -/
namespace M
def S : Nat → (Nat → Nat) → Nat
  | 0, _ => 0
  | n + 1, f => S n f + f n
theorem S_congr {f g : Nat → Nat} : ∀ {n : Nat}, (∀ q, q < n → f q = g q) → S n f = S n g
  | 0, _ => rfl
  | n + 1, h => by
    show S n f + f n = S n g + g n
    rw [S_congr fun q hq => h q (Nat.lt_succ_of_lt hq), h n (Nat.lt_succ_self n)]
theorem S_add {f : Nat → Nat} {a v : Nat} : ∀ {n : Nat}, S n (fun q => if q = a then f q + v else f q) = S n f + if a < n then v else 0
  | 0 => by simp [S]
  | n + 1 => by
    show S n _ + (if n = a then f n + v else f n) = S n f + f n + _
    rw [S_add]
    by_cases h : n = a
    · rw [if_pos h, if_neg (by omega), if_pos (by omega)]
      omega
    · rw [if_neg h]
      by_cases h2 : a < n
      · rw [if_pos h2, if_pos (by omega)]
        omega
      · rw [if_neg h2, if_neg (by omega)]
        omega
theorem S_le {f : Nat → Nat} {a : Nat} : ∀ {n : Nat}, a < n → f a ≤ S n f
  | n + 1, h => by
    show f a ≤ S n f + f n
    by_cases e : a = n
    · rw [e]
      omega
    · have := S_le (f := f) (n := n) (a := a) (by omega)
      omega
theorem S_bd {f : Nat → Nat} {b : Nat} : ∀ {n : Nat}, (∀ q, q < n → f q ≤ b) → S n f ≤ n * b
  | 0, _ => by simp [S]
  | n + 1, h => by
    show S n f + f n ≤ (n + 1) * b
    have := S_bd (n := n) fun q hq => h q (Nat.lt_succ_of_lt hq)
    have := h n (Nat.lt_succ_self n)
    rw [Nat.succ_mul]
    omega
theorem sum_S : ∀ (l : List Nat), l.sum = S l.length fun q => l.getD q 0 := fun l => by
  have key : ∀ (l : List Nat) (k : Nat), k ≤ l.length → (l.take k).sum = S k fun q => l.getD q 0 := fun l k => by
    induction k with
    | zero => exact fun _ => by simp [S]
    | succ k ih =>
      intro h
      show _ = S k _ + l.getD k 0
      rw [← ih (by omega), List.take_add_one, List.getElem?_eq_getElem (by omega), List.sum_append]
      have : l.getD k 0 = l[k] := getD_at (by omega)
      rw [this]
      simp
  have := key l l.length (Nat.le_refl _)
  rwa [List.take_length] at this
def ent (rows : List (List Nat)) (p q : Nat) : Nat := (rows.getD p []).getD q 0
def put (rows : List (List Nat)) (p q v : Nat) : List (List Nat) := rows.set p ((rows.getD p []).set q v)
structure Box (n : Nat) (rows : List (List Nat)) : Prop where
  len : rows.length = n
  rect : ∀ r ∈ rows, r.length = n
theorem Box.row {n p : Nat} {rows : List (List Nat)} (b : Box n rows) (hp : p < n) : (rows.getD p []).length = n := b.rect _ (getD_mem (by rw [b.len]; exact hp))
theorem getD_set {α : Type} {l : List α} {p a : Nat} {x d : α} (h : p < l.length) : (l.set p x).getD a d = if a = p then x else l.getD a d := by
  rw [List.getD_eq_getElem?_getD, List.getD_eq_getElem?_getD]
  by_cases e : a = p
  · rw [if_pos e, e, List.getElem?_set_self h]
    rfl
  · rw [if_neg e, List.getElem?_set_ne (Ne.symm e)]
theorem Box.put {n p q v : Nat} {rows : List (List Nat)} (b : Box n rows) (hp : p < n) : Box n (put rows p q v) := by
  refine ⟨by unfold M.put; rw [List.length_set]; exact b.len, fun r hr => ?_⟩
  rcases List.mem_or_eq_of_mem_set hr with h | h
  · exact b.rect r h
  · rw [h, List.length_set]
    exact b.row hp
theorem ent_put {n p q v a c : Nat} {rows : List (List Nat)} (b : Box n rows) (hp : p < n) (hq : q < n) : ent (put rows p q v) a c = if a = p ∧ c = q then v else ent rows a c := by
  unfold ent put
  rw [getD_set (by rw [b.len]; exact hp)]
  by_cases e : a = p
  · rw [if_pos e, getD_set (by rw [b.row hp]; exact hq)]
    by_cases f : c = q
    · rw [if_pos f, if_pos ⟨e, f⟩]
    · rw [if_neg f, if_neg fun z => f z.2, e]
  · rw [if_neg e, if_neg fun z => e z.1]
theorem row_sum {n p : Nat} {rows : List (List Nat)} (b : Box n rows) (hp : p < n) : (rows.getD p []).sum = S n (ent rows p) := by
  rw [sum_S, b.row hp]
  rfl
def out (n : Nat) (rows : List (List Nat)) (p : Nat) : Nat := S n (ent rows p)
def inn (n : Nat) (rows : List (List Nat)) (p : Nat) : Nat := S n fun q => ent rows q p
theorem out_put {n p q v a : Nat} {rows : List (List Nat)} (b : Box n rows) (hp : p < n) (hq : q < n) : out n (put rows p q (ent rows p q + v)) a = out n rows a + if a = p then v else 0 := by
  unfold out
  by_cases e : a = p
  · have : S n (ent (put rows p q (ent rows p q + v)) a) = S n fun c => if c = q then ent rows a c + v else ent rows a c := S_congr fun c _ => by
      rw [ent_put b hp hq]
      by_cases f : c = q
      · rw [if_pos ⟨e, f⟩, if_pos f, e, f]
      · rw [if_neg fun z => f z.2, if_neg f]
    rw [this, S_add, if_pos hq, if_pos e]
  · rw [if_neg e, Nat.add_zero]
    exact S_congr fun c _ => by rw [ent_put b hp hq, if_neg fun z => e z.1]
theorem inn_put {n p q v a : Nat} {rows : List (List Nat)} (b : Box n rows) (hp : p < n) (hq : q < n) : inn n (put rows p q (ent rows p q + v)) a = inn n rows a + if a = q then v else 0 := by
  unfold inn
  by_cases e : a = q
  · have : (S n fun c => ent (put rows p q (ent rows p q + v)) c a) = S n fun c => if c = p then ent rows c a + v else ent rows c a := S_congr fun c _ => by
      rw [ent_put b hp hq]
      by_cases f : c = p
      · rw [if_pos ⟨f, e⟩, if_pos f, e, f]
      · rw [if_neg fun z => f z.1, if_neg f]
    rw [this, S_add, if_pos hp, if_pos e]
  · rw [if_neg e, Nat.add_zero]
    exact S_congr fun c _ => by rw [ent_put b hp hq, if_neg fun z => e z.2]
/-- the same both ways, small -/
structure Sym (n b : Nat) (rows : List (List Nat)) : Prop extends Box n rows where
  sym : ∀ p q, p < n → q < n → ent rows p q = ent rows q p
  lt : ∀ p q, p < n → q < n → ent rows p q < b
/-- as much leads into each place as out of it -/
structure Bal (n b : Nat) (rows : List (List Nat)) : Prop extends Box n rows where
  bal : ∀ p, p < n → out n rows p = inn n rows p
  lt : ∀ p q, p < n → q < n → ent rows p q < b
theorem Sym.bal {n b : Nat} {rows : List (List Nat)} (s : Sym n b rows) : Bal n b rows := ⟨s.toBox, fun p hp => S_congr fun q hq => s.sym p q hp hq, s.lt⟩
theorem sym_diag {n b p v : Nat} {rows : List (List Nat)} (s : Sym n b rows) (hp : p < n) (hv : v < b) : Sym n b (put rows p p v) := by
  refine ⟨s.toBox.put hp, fun a c ha hc => ?_, fun a c ha hc => ?_⟩
  · rw [ent_put s.toBox hp hp, ent_put s.toBox hp hp]
    by_cases e : a = p ∧ c = p
    · rw [if_pos e, if_pos ⟨e.2, e.1⟩]
    · rw [if_neg e, if_neg fun z => e ⟨z.2, z.1⟩]
      exact s.sym a c ha hc
  · rw [ent_put s.toBox hp hp]
    split
    · exact hv
    · exact s.lt a c ha hc
theorem sym_two {n b p q v : Nat} {rows : List (List Nat)} (s : Sym n b rows) (hp : p < n) (hq : q < n) (hv : v < b) : Sym n b (put (put rows p q v) q p v) := by
  have b1 := s.toBox.put (q := q) (v := v) hp
  have e : ∀ a c, ent (put (put rows p q v) q p v) a c = if (a = q ∧ c = p) ∨ (a = p ∧ c = q) then v else ent rows a c := fun a c => by
    rw [ent_put b1 hq hp, ent_put s.toBox hp hq]
    by_cases h1 : a = q ∧ c = p
    · rw [if_pos h1, if_pos (.inl h1)]
    · rw [if_neg h1]
      by_cases h2 : a = p ∧ c = q
      · rw [if_pos h2, if_pos (.inr h2)]
      · rw [if_neg h2, if_neg fun z => z.elim h1 h2]
  refine ⟨b1.put hq, fun a c ha hc => ?_, fun a c ha hc => ?_⟩
  · rw [e, e]
    by_cases h : (a = q ∧ c = p) ∨ (a = p ∧ c = q)
    · rw [if_pos h, if_pos (h.elim (fun z => .inr ⟨z.2, z.1⟩) fun z => .inl ⟨z.2, z.1⟩)]
    · rw [if_neg h, if_neg fun z => h (z.elim (fun z => .inr ⟨z.2, z.1⟩) fun z => .inl ⟨z.2, z.1⟩)]
      exact s.sym a c ha hc
  · rw [e]
    split
    · exact hv
    · exact s.lt a c ha hc
/-- more leads round a ring -/
def addStep (v : Nat) (rows : List (List Nat)) (d : Nat × Nat) : List (List Nat) := put rows d.1 d.2 (ent rows d.1 d.2 + v)
structure Fed (n b v : Nat) (rows0 : List (List Nat)) (l : List (Nat × Nat)) (rows : List (List Nat)) : Prop extends Box n rows where
  out : ∀ p, out n rows p = out n rows0 p + v * (l.map (·.1)).count p
  inn : ∀ p, inn n rows p = inn n rows0 p + v * (l.map (·.2)).count p
  lt : ∀ p q, p < n → q < n → ent rows p q < b + v * l.length
theorem fed_zero {n b v : Nat} {rows : List (List Nat)} (s : Bal n b rows) : Fed n b v rows [] rows := ⟨s.toBox, fun p => by simp, fun p => by simp, fun p q hp hq => by simpa using s.lt p q hp hq⟩
theorem count_snoc {l : List Nat} {a p : Nat} : (l ++ [a]).count p = l.count p + if p = a then 1 else 0 := by
  rw [List.count_append, List.count_singleton]
  congr 1
  by_cases h : p = a
  · rw [if_pos h, h]
    simp
  · rw [if_neg h]
    simp [Ne.symm h]
theorem fed_step {n b v : Nat} {rows0 rows : List (List Nat)} {l : List (Nat × Nat)} {d : Nat × Nat} (f : Fed n b v rows0 l rows) (h1 : d.1 < n) (h2 : d.2 < n) : Fed n b v rows0 (l ++ [d]) (addStep v rows d) := by
  unfold addStep
  refine ⟨f.toBox.put h1, fun p => ?_, fun p => ?_, fun p q hp hq => ?_⟩
  · rw [out_put f.toBox h1 h2, f.out, List.map_append, List.map_singleton, count_snoc, Nat.mul_add]
    by_cases e : p = d.1
    · rw [if_pos e, if_pos e]
      omega
    · rw [if_neg e, if_neg e]
      omega
  · rw [inn_put f.toBox h1 h2, f.inn, List.map_append, List.map_singleton, count_snoc, Nat.mul_add]
    by_cases e : p = d.2
    · rw [if_pos e, if_pos e]
      omega
    · rw [if_neg e, if_neg e]
      omega
  · rw [ent_put f.toBox h1 h2, List.length_append, List.length_singleton, Nat.mul_add]
    split
    · have := f.lt d.1 d.2 h1 h2
      omega
    · have := f.lt p q hp hq
      omega
theorem fed_ring {n b v : Nat} {rows0 rows : List (List Nat)} {r : List Nat} (s : Bal n b rows0) (f : Fed n b v rows0 (r.zip (r.drop 1 ++ r.take 1)) rows) (hv : v ≤ 3) (hr : r.length ≤ 6) : Bal n (b + 18) rows := by
  have hl : (r.drop 1 ++ r.take 1).length = r.length := by
    rw [List.length_append, List.length_drop, List.length_take]
    omega
  have e1 : (r.zip (r.drop 1 ++ r.take 1)).map (·.1) = r := List.map_fst_zip (by omega)
  have e2 : (r.zip (r.drop 1 ++ r.take 1)).map (·.2) = r.drop 1 ++ r.take 1 := List.map_snd_zip (by omega)
  refine ⟨f.toBox, fun p hp => ?_, fun p q hp hq => ?_⟩
  · rw [f.out, f.inn, e1, e2, s.bal p hp]
    have : (r.drop 1 ++ r.take 1).Perm r := by
      have h := List.perm_append_comm (l₁ := r.drop 1) (l₂ := r.take 1)
      rwa [List.take_append_drop] at h
    rw [this.count_eq]
  · have := f.lt p q hp hq
    rw [List.length_zip, hl, Nat.min_self] at this
    have : v * r.length ≤ 3 * 6 := Nat.mul_le_mul hv hr
    omega
/-- a place with no step stays where it is -/
theorem bal_one {n b p : Nat} {rows : List (List Nat)} (s : Bal n b rows) (hp : p < n) (h0 : out n rows p = 0) (hb : 1 < b) : Bal n b (put rows p p 1) ∧ ∀ a, out n (put rows p p 1) a = out n rows a + if a = p then 1 else 0 := by
  have e0 : ent rows p p = 0 := by
    have := S_le (f := ent rows p) hp
    unfold out at h0
    omega
  have e : put rows p p 1 = put rows p p (ent rows p p + 1) := by rw [e0]
  refine ⟨⟨s.toBox.put hp, fun a ha => ?_, fun a c ha hc => ?_⟩, fun a => ?_⟩
  · rw [e, out_put s.toBox hp hp, inn_put s.toBox hp hp, s.bal a ha]
  · rw [ent_put s.toBox hp hp]
    split
    · exact hb
    · exact s.lt a c ha hc
  · rw [e, out_put s.toBox hp hp]
/-- a flow -/
structure Flow (n : Nat) (rows : List (List Nat)) : Prop extends Bal n 100 rows where
  pos : ∀ p, p < n → 0 < out n rows p
end M
end
section
set_option linter.all false
/-! The places apart. -/
namespace M
theorem getD_range {α : Type} {n i : Nat} {f : Nat → α} {d : α} (h : i < n) : ((List.range n).map f).getD i d = f i := by
  rw [getD_at (l := (List.range n).map f) (by simpa using h), List.getElem_map, List.getElem_range]
theorem sum_range {n : Nat} {f : Nat → Nat} : ((List.range n).map f).sum = S n f := by
  rw [sum_S, List.length_map, List.length_range]
  exact S_congr fun q hq => getD_range hq
theorem S_zero {f : Nat → Nat} {n : Nat} (h : S n f = 0) {q : Nat} (hq : q < n) : f q = 0 := by
  have := S_le (f := f) hq
  omega
theorem S_pos {f : Nat → Nat} {n q : Nat} (hq : q < n) (h : 0 < f q) : 0 < S n f := by
  have := S_le (f := f) hq
  omega
theorem apart_flow {n c : Nat} {flow : List (List Nat)} (f : Flow n flow) : Flow n (apart flow c) := by
  have hl := f.toBox.len
  let s : Nat → Nat → Nat := fun a o => if (decide (a < c) == decide (o < c)) = true then ent flow (min a o) (max a o) else 0
  have hsym : ∀ a o, s a o = s o a := fun a o => by
    show (if (decide (a < c) == decide (o < c)) = true then ent flow (min a o) (max a o) else 0) = if (decide (o < c) == decide (a < c)) = true then ent flow (min o a) (max o a) else 0
    rw [Nat.min_comm, Nat.max_comm, Bool.beq_comm]
  have hrow : ∀ a, apRow flow c a = (List.range n).map (s a) := fun a => by
    unfold apRow
    rw [hl]
    rfl
  have e : ∀ a o, a < n → o < n → ent (apart flow c) a o = if 0 < S n (s a) then s a o else if a = o then 1 else 0 := fun a o ha ho => by
    unfold ent apart
    rw [hl, getD_range ha, hrow, sum_range]
    by_cases h : 0 < S n (s a)
    · rw [if_pos h, if_pos h, getD_range ho]
    · rw [if_neg h, if_neg h]
      unfold apOne
      rw [getD_range ho]
  have bx : Box n (apart flow c) := ⟨by unfold apart; simp [hl], fun r hr => by
    obtain ⟨a, ha, rfl⟩ := List.mem_map.mp hr
    split
    · rw [hrow]
      simp
    · unfold apOne
      simp [hl]⟩
  have sym : ∀ a o, a < n → o < n → ent (apart flow c) a o = ent (apart flow c) o a := fun a o ha ho => by
    rw [e a o ha ho, e o a ho ha]
    by_cases ho2 : a = o
    · subst ho2
      rfl
    · rw [if_neg ho2, if_neg (Ne.symm ho2)]
      by_cases h1 : 0 < S n (s a)
      · rw [if_pos h1]
        by_cases h2 : 0 < S n (s o)
        · rw [if_pos h2, hsym]
        · rw [if_neg h2, hsym]
          exact S_zero (by omega) ha
      · rw [if_neg h1]
        by_cases h2 : 0 < S n (s o)
        · rw [if_pos h2, ← hsym]
          exact (S_zero (by omega) ho).symm
        · rw [if_neg h2]
  refine ⟨⟨bx, fun p hp => S_congr fun q hq => sym p q hp hq, fun p q hp hq => ?_⟩, fun p hp => ?_⟩
  · rw [e p q hp hq]
    split
    · show (if (decide (p < c) == decide (q < c)) = true then ent flow (min p q) (max p q) else 0) < 100
      split
      · exact f.lt _ _ (by omega) (by omega)
      · decide
    · split <;> decide
  · by_cases h : 0 < S n (s p)
    · have : out n (apart flow c) p = S n (s p) := S_congr fun q hq => by rw [e p q hp hq, if_pos h]
      rw [this]
      exact h
    · refine S_pos (q := p) hp ?_
      rw [e p p hp hp, if_neg h, if_pos rfl]
      decide
end M
end
section
set_option Elab.async false
set_option linter.all false
/-! Sums of rationals; shares of a flow. -/
namespace M
def SR : Nat → (Nat → Rat) → Rat
  | 0, _ => 0
  | n + 1, f => SR n f + f n
theorem SR_congr {f g : Nat → Rat} : ∀ {n : Nat}, (∀ q, q < n → f q = g q) → SR n f = SR n g
  | 0, _ => rfl
  | n + 1, h => by
    show SR n f + f n = SR n g + g n
    rw [SR_congr fun q hq => h q (Nat.lt_succ_of_lt hq), h n (Nat.lt_succ_self n)]
theorem total_range {f : Nat → Rat} : ∀ {n : Nat}, total ((List.range n).map f) = SR n f
  | 0 => rfl
  | n + 1 => by
    rw [List.range_succ, List.map_append]
    show (List.map f (List.range n) ++ [f n]).foldl (· + ·) 0 = SR n f + f n
    rw [List.foldl_append]
    have := total_range (f := f) (n := n)
    unfold total at this
    rw [this]
    rfl
theorem SR_cast {f : Nat → Nat} : ∀ {n : Nat}, (SR n fun q => (f q : Rat)) = ((S n f : Nat) : Rat)
  | 0 => rfl
  | n + 1 => by
    show SR n _ + (f n : Rat) = ((S n f + f n : Nat) : Rat)
    rw [SR_cast, Rat.natCast_add]
theorem SR_div {f : Nat → Rat} {c : Rat} : ∀ {n : Nat}, (SR n fun q => f q / c) = SR n f / c
  | 0 => by
    show (0 : Rat) = 0 / c
    rw [Rat.div_def, Rat.zero_mul]
  | n + 1 => by
    show SR n _ + f n / c = (SR n f + f n) / c
    rw [SR_div, Rat.div_def, Rat.div_def, Rat.div_def, Rat.add_mul]
theorem map_get {α β : Type} {l : List α} {d : α} {f : α → β} : l.map f = (List.range l.length).map fun i => f (l.getD i d) := by
  refine List.ext_getElem (by simp) fun i h1 h2 => ?_
  rw [List.getElem_map, List.getElem_map, List.getElem_range, getD_at (by simpa using h1)]
theorem mk_div {a b : Nat} : mkRat (a : Int) b = (a : Rat) / (b : Rat) := Rat.mkRat_eq_div _ _
theorem cast_ne {b : Nat} (h : 0 < b) : (b : Rat) ≠ 0 := fun z => by
  have : b = 0 := by exact_mod_cast z
  omega
theorem div_one {b : Nat} (h : 0 < b) : (b : Rat) / (b : Rat) = 1 := by
  rw [Rat.div_def]
  exact Rat.mul_inv_cancel _ (cast_ne h)
theorem allSum_S {n : Nat} {flow : List (List Nat)} (b : Box n flow) : allSum flow = S n (out n flow) := by
  unfold allSum
  rw [map_get (d := [])]
  rw [sum_S, List.length_map, List.length_range, b.len]
  refine S_congr fun q hq => ?_
  rw [getD_at (by simpa using hq), List.getElem_map, List.getElem_range]
  exact row_sum b hq
theorem total_row {row : List Nat} (h : 0 < row.sum) : total (rowOf row) = 1 := by
  unfold rowOf
  rw [map_get (d := 0), total_range]
  have : (SR row.length fun i => mkRat ((row.getD i 0 : Nat) : Int) row.sum) = SR row.length fun i => ((row.getD i 0 : Nat) : Rat) / (row.sum : Rat) := SR_congr fun q _ => mk_div
  rw [this, SR_div, SR_cast, ← sum_S, div_one h]
theorem shares_get {flow : List (List Nat)} {i : Nat} (h : i < flow.length) : (sharesOf flow).getD i 0 = (((flow.getD i []).sum : Nat) : Rat) / (allSum flow : Rat) := by
  unfold sharesOf
  rw [getD_at (l := flow.map _) (by simpa using h), List.getElem_map, getD_at h, mk_div]
theorem rows_get {flow : List (List Nat)} {i p : Nat} (h : i < flow.length) (h2 : p < (flow.getD i []).length) : ((rowsOf flow).getD i []).getD p 0 = ((ent flow i p : Nat) : Rat) / (((flow.getD i []).sum : Nat) : Rat) := by
  unfold rowsOf
  rw [getD_at (l := flow.map rowOf) (by simpa using h), List.getElem_map]
  unfold ent
  rw [getD_at h] at h2 ⊢
  unfold rowOf
  rw [getD_at (l := List.map _ _) (by simpa using h2), List.getElem_map, getD_at h2, mk_div]
theorem total_shares {n : Nat} {flow : List (List Nat)} (b : Box n flow) (h : 0 < allSum flow) : total (sharesOf flow) = 1 := by
  have : sharesOf flow = (List.range n).map fun i => ((out n flow i : Nat) : Rat) / (allSum flow : Rat) := by
    unfold sharesOf
    rw [map_get (d := []), b.len]
    refine List.map_congr_left fun i hi => ?_
    rw [mk_div, row_sum b (List.mem_range.mp hi)]
    rfl
  rw [this, total_range, SR_div, SR_cast, ← allSum_S b, div_one h]
theorem zip_map {α β γ : Type} {as : List α} {bs : List β} {d : α} {e : β} {f : α × β → γ} (h : as.length = bs.length) : (as.zip bs).map f = (List.range bs.length).map fun i => f (as.getD i d, bs.getD i e) := by
  refine List.ext_getElem (by simp [h]) fun i h1 h2 => ?_
  have hi : i < bs.length := by simpa using h2
  rw [List.getElem_map, List.getElem_map, List.getElem_range, List.getElem_zip, getD_at (by omega), getD_at hi]
theorem led_get {shares : List Rat} {rows : List (List Rat)} (h : shares.length = rows.length) : led shares rows = (List.range rows.length).map fun p => SR rows.length fun i => shares.getD i 0 * (rows.getD i []).getD p 0 := by
  unfold led
  refine List.map_congr_left fun p _ => ?_
  rw [zip_map (d := 0) (e := []) h, total_range]
theorem list_get {l : List Rat} {n : Nat} {f : Nat → Rat} (h : l.length = n) (k : ∀ i, i < n → l.getD i 0 = f i) : l = (List.range n).map f := by
  refine List.ext_getElem (by simp [h]) fun i h1 h2 => ?_
  rw [List.getElem_map, List.getElem_range, ← k i (by omega), getD_at h1]
theorem flow_kept {n : Nat} {flow : List (List Nat)} (f : Flow n flow) (h : 0 < allSum flow) : led (sharesOf flow) (rowsOf flow) = sharesOf flow := by
  have b := f.toBox
  have l1 : (rowsOf flow).length = n := by unfold rowsOf; rw [List.length_map, b.len]
  have l2 : (sharesOf flow).length = n := by unfold sharesOf; rw [List.length_map, b.len]
  rw [led_get (by omega), l1]
  refine (list_get l2 fun p hp => ?_).symm
  rw [shares_get (by rw [b.len]; exact hp), row_sum b hp]
  have e1 : (SR n fun i => (sharesOf flow).getD i 0 * ((rowsOf flow).getD i []).getD p 0) = SR n fun i => ((ent flow i p : Nat) : Rat) / (allSum flow : Rat) := SR_congr fun i hi => by
    rw [shares_get (by rw [b.len]; exact hi), rows_get (by rw [b.len]; exact hi) (by rw [b.row hi]; exact hp), row_sum b hi]
    have hs := cast_ne (f.pos i hi)
    have ht := cast_ne h
    unfold out at hs
    generalize (((S n (ent flow i)) : Nat) : Rat) = s at hs
    generalize ((allSum flow : Nat) : Rat) = t at ht
    generalize ((ent flow i p : Nat) : Rat) = x
    grind
  rw [e1, SR_div, SR_cast]
  have : S n (ent flow p) = S n fun i => ent flow i p := f.bal p hp
  rw [this]
end M
end
section
set_option Elab.async false
set_option linter.all false
/-! What the steps keep: the kernel, and heads apart. -/
namespace M
theorem SR_lin {f g : Nat → Rat} {a b : Rat} : ∀ {n : Nat}, (SR n fun i => a * f i - b * g i) = a * SR n f - b * SR n g
  | 0 => by
    show (0 : Rat) = a * 0 - b * 0
    grind
  | n + 1 => by
    show SR n _ + (a * f n - b * g n) = a * (SR n f + f n) - b * (SR n g + g n)
    rw [SR_lin]
    grind
theorem SR_mul {f : Nat → Rat} {a : Rat} : ∀ {n : Nat}, (SR n fun i => a * f i) = a * SR n f
  | 0 => by
    show (0 : Rat) = a * 0
    grind
  | n + 1 => by
    show SR n _ + a * f n = a * (SR n f + f n)
    rw [SR_mul]
    grind
theorem SR_nil {f : Nat → Rat} : ∀ {n : Nat}, (∀ i, i < n → f i = 0) → SR n f = 0
  | 0, _ => rfl
  | n + 1, h => by
    show SR n f + f n = 0
    rw [SR_nil fun i hi => h i (by omega), h n (by omega)]
    grind
theorem SR_at {f : Nat → Rat} {a : Nat} : ∀ {n : Nat}, a < n → (∀ i, i < n → i ≠ a → f i = 0) → SR n f = f a
  | 0, h, _ => by omega
  | n + 1, h, k => by
    show SR n f + f n = f a
    by_cases e : a = n
    · rw [SR_nil fun i hi => k i (by omega) (by omega), e]
      grind
    · rw [SR_at (a := a) (by omega) fun i hi => k i (by omega), k n (by omega) (by omega)]
      grind
theorem SR_at2 {f : Nat → Rat} {a b : Nat} : ∀ {n : Nat}, a < n → b < n → a ≠ b → (∀ i, i < n → i ≠ a → i ≠ b → f i = 0) → SR n f = f a + f b
  | 0, h, _, _, _ => by omega
  | n + 1, ha, hb, hab, k => by
    show SR n f + f n = f a + f b
    by_cases e : a = n
    · rw [SR_at (a := b) (by omega) fun i hi hn => k i (by omega) (by omega) hn, e]
      grind
    · by_cases e2 : b = n
      · rw [SR_at (a := a) (by omega) fun i hi hn => k i (by omega) hn (by omega), e2]
      · rw [SR_at2 (a := a) (b := b) (by omega) (by omega) hab fun i hi => k i (by omega), k n (by omega) (by omega) (by omega)]
        grind
/-- a row led through x -/
def dt (n : Nat) (r : List Int) (x : Nat → Rat) : Rat := SR n fun i => ((r.getD i 0 : Int) : Rat) * x i
theorem dt_cross {n : Nat} {r s h : List Int} {x : Nat → Rat} {a b q : Int} (e : ∀ i, b * s.getD i 0 = a * r.getD i 0 - q * h.getD i 0) : (b : Rat) * dt n s x = (a : Rat) * dt n r x - (q : Rat) * dt n h x := by
  unfold dt
  rw [← SR_mul, ← SR_lin]
  refine SR_congr fun i _ => ?_
  have e1 : ((b * s.getD i 0 : Int) : Rat) = ((a * r.getD i 0 - q * h.getD i 0 : Int) : Rat) := by rw [e i]
  rw [Rat.intCast_mul, Rat.intCast_sub, Rat.intCast_mul, Rat.intCast_mul] at e1
  grind
theorem dt_mul {n : Nat} {r s : List Int} {x : Nat → Rat} {a b : Int} (e : ∀ i, b * s.getD i 0 = a * r.getD i 0) : (b : Rat) * dt n s x = (a : Rat) * dt n r x := by
  have := dt_cross (n := n) (r := r) (s := s) (h := r) (x := x) (a := a) (b := b) (q := 0) fun i => by rw [e i, Int.zero_mul, Int.sub_zero]
  rw [this]
  grind
theorem cast_nz {b : Int} (h : b ≠ 0) : (b : Rat) ≠ 0 := fun z => h (by exact_mod_cast z)
theorem zero_of {a b u v : Rat} (ha : a ≠ 0) (hb : b ≠ 0) (e : b * u = a * v) : u = 0 ↔ v = 0 := by
  constructor
  · intro z
    rw [z, Rat.mul_zero] at e
    rcases Rat.mul_eq_zero.mp e.symm with h | h
    · exact absurd h ha
    · exact h
  · intro z
    rw [z, Rat.mul_zero] at e
    rcases Rat.mul_eq_zero.mp e with h | h
    · exact absurd h hb
    · exact h
def Ker (n : Nat) (rows : List (List Int)) (x : Nat → Rat) : Prop := ∀ r ∈ rows, dt n r x = 0
def KerS (n : Nat) (s : Sp) (x : Nat → Rat) : Prop := Ker n s.left x ∧ Ker n s.found x
theorem mem_cut {α : Type} {l : List α} {k : Nat} {d : α} (hk : k < l.length) {r : α} : r ∈ l ↔ r = l.getD k d ∨ r ∈ l.take k ++ l.drop (k + 1) := by
  have e : l = l.take k ++ l.getD k d :: l.drop (k + 1) := by
    conv => lhs; rw [← List.take_append_drop k l]
    rw [List.drop_eq_getElem_cons hk, getD_at hk]
  constructor
  · intro h
    rw [e] at h
    rcases List.mem_append.mp h with h | h
    · exact .inr (List.mem_append_left _ h)
    · rcases List.mem_cons.mp h with h | h
      · exact .inl h
      · exact .inr (List.mem_append_right _ h)
  · intro h
    rcases h with h | h
    · rw [h]
      exact getD_mem hk
    · exact cut_mem h
theorem ker_step {n m b p : Nat} {s : Sp} (i1 : Inv1 n m b s) {x : Nat → Rat} : KerS n (stepAt s p) x ↔ KerS n s x := by
  unfold stepAt
  cases h : firstAt s.left p with
  | none => exact Iff.rfl
  | some k =>
    obtain ⟨hk, hne⟩ := firstAt_lt h
    have hm : s.left.getD k [] ∈ s.left := getD_mem hk
    have hl : (headed (s.left.getD k []) p).length = n := headed_len.trans (i1.ll _ hm)
    obtain ⟨hpos, a, b2, ha, hb, hat⟩ := headed_at hne
    have eh : dt n (headed (s.left.getD k []) p) x = 0 ↔ dt n (s.left.getD k []) x = 0 := zero_of (cast_nz ha) (cast_nz (by omega)) (dt_mul hat)
    have ec : dt n (headed (s.left.getD k []) p) x = 0 → ∀ r : List Int, r.length = n → (dt n (cleared (headed (s.left.getD k []) p) p r) x = 0 ↔ dt n r x = 0) := fun z r hr => by
      obtain ⟨u, v, hu, hv, e⟩ := cleared_at hr hl hpos
      have := dt_cross (n := n) (x := x) fun c => (e c).1
      rw [z, Rat.mul_zero] at this
      refine zero_of (cast_nz (by omega : u ≠ 0)) (cast_nz (by omega : v ≠ 0)) (this.trans ?_)
      grind
    constructor
    · rintro ⟨k1, k2⟩
      have z : dt n (headed (s.left.getD k []) p) x = 0 := k2 _ (List.mem_append_right _ List.mem_cons_self)
      refine ⟨fun r hr => ?_, fun r hr => ?_⟩
      · rcases (mem_cut (d := []) hk).mp hr with e | e
        · rw [e]
          exact eh.mp z
        · exact (ec z r (i1.ll _ hr)).mp (k1 _ (List.mem_map_of_mem e))
      · exact (ec z r (i1.lf _ hr)).mp (k2 _ (List.mem_append_left _ (List.mem_map_of_mem hr)))
    · rintro ⟨k1, k2⟩
      have z := eh.mpr (k1 _ hm)
      refine ⟨fun r hr => ?_, fun r hr => ?_⟩
      · obtain ⟨q, hq, rfl⟩ := List.mem_map.mp hr
        exact (ec z q (i1.ll _ (cut_mem hq))).mpr (k1 _ (cut_mem hq))
      · rcases List.mem_append.mp hr with hr | hr
        · obtain ⟨q, hq, rfl⟩ := List.mem_map.mp hr
          exact (ec z q (i1.lf _ hq)).mpr (k2 _ hq)
        · rw [List.mem_singleton.mp hr]
          exact z
theorem ker_at {n b : Nat} {rows : List (List Int)} (h1 : Rect n rows) (h2 : BdR b rows) {x : Nat → Rat} : ∀ i, i ≤ (rows.headD []).length → (KerS n (stAt rows i) x ↔ Ker n rows x)
  | 0, _ => ⟨fun h => h.1, fun h => ⟨h, fun r hr => (List.not_mem_nil hr).elim⟩⟩
  | i + 1, h => by
    rw [stAt_succ (by omega)]
    exact (ker_step (inv1_at h1 h2 i (by omega))).trans (ker_at h1 h2 i (by omega))
theorem ker_steps {n b : Nat} {rows : List (List Int)} (h1 : Rect n rows) (h2 : BdR b rows) (h3 : (rows.headD []).length = n) {x : Nat → Rat} : Ker n (intSteps rows) x ↔ Ker n rows x := by
  rw [← ker_at (x := x) h1 h2 _ (Nat.le_refl _), ← stAt_end]
  refine ⟨fun h => ⟨fun r hr => SR_nil fun i hi => ?_, h⟩, fun h => h.2⟩
  have := (inv2_at h1 h2 _ (Nat.le_refl _)).z r hr i (by omega)
  rw [this]
  show (0 : Rat) * _ = 0
  exact Rat.zero_mul _
/-- heads apart -/
def Apart (r t : List Int) : Prop := r.getD (headOf t) 0 = 0 ∧ t.getD (headOf r) 0 = 0
theorem inv3_step {n m b p : Nat} {s : Sp} (i1 : Inv1 n m b s) (i2 : Inv2 p s) (hp : p < n) (i : s.found.Pairwise Apart) : (stepAt s p).found.Pairwise Apart := by
  unfold stepAt
  cases h : firstAt s.left p with
  | none => exact i
  | some k =>
    obtain ⟨hk, hne⟩ := firstAt_lt h
    have hm : s.left.getD k [] ∈ s.left := getD_mem hk
    have hl : (headed (s.left.getD k []) p).length = n := headed_len.trans (i1.ll _ hm)
    obtain ⟨hpos, a, b2, ha, hb, hat⟩ := headed_at hne
    have hz : ∀ c, c < p → (headed (s.left.getD k []) p).getD c 0 = 0 := fun c hc => by
      have e := hat c
      rw [i2.z _ hm c hc, Int.mul_zero] at e
      rcases Int.mul_eq_zero.mp e with q | q
      · omega
      · exact q
    have hh : headOf (headed (s.left.getD k []) p) = p := led_head (p := p + 1) ⟨by omega, hpos, hz⟩ (by omega)
    have clr : ∀ r : List Int, r.length = n → ∀ c, c < p → ∃ u v : Int, 0 < u ∧ 0 < v ∧ v * (cleared (headed (s.left.getD k []) p) p r).getD c 0 = u * r.getD c 0 := fun r hr c hc => by
      obtain ⟨u, v, hu, hv, e⟩ := cleared_at hr hl hpos
      refine ⟨u, v, hu, hv, ?_⟩
      rw [(e c).1, hz c hc]
      simp
    have z0 : ∀ r : List Int, r.length = n → ∀ c, c < p → r.getD c 0 = 0 → (cleared (headed (s.left.getD k []) p) p r).getD c 0 = 0 := fun r hr c hc z => by
      obtain ⟨u, v, hu, hv, e⟩ := clr r hr c hc
      rw [z, Int.mul_zero] at e
      rcases Int.mul_eq_zero.mp e with w | w
      · omega
      · exact w
    have pz : ∀ r : List Int, r.length = n → (cleared (headed (s.left.getD k []) p) p r).getD p 0 = 0 := fun r hr => by
      obtain ⟨u, v, hu, hv, e⟩ := cleared_at hr hl hpos
      obtain ⟨e1, e2⟩ := e p
      rw [Int.ediv_mul_cancel (Int.dvd_trans e2 (Int.dvd_mul_right _ _)), Int.sub_self] at e1
      rcases Int.mul_eq_zero.mp e1 with w | w
      · omega
      · exact w
    have hd : ∀ r ∈ s.found, headOf r < p ∧ headOf (cleared (headed (s.left.getD k []) p) p r) = headOf r := fun r hr => by
      obtain ⟨g, l⟩ := i2.f r hr
      have hr' := i1.lf _ hr
      have e0 : headOf r = g := led_head l (by omega)
      rw [e0]
      refine ⟨l.lt, led_head (p := p) ⟨l.lt, ?_, fun c hc => z0 r hr' c (by have := l.lt; omega) (l.zero c hc)⟩ (by rw [cleared_len hr' hl]; omega)⟩
      obtain ⟨u, v, hu, hv, e⟩ := clr r hr' g l.lt
      have h3 : 0 < v * (cleared (headed (s.left.getD k []) p) p r).getD g 0 := by rw [e]; exact Int.mul_pos hu l.pos
      exact Int.pos_of_mul_pos_right h3 hv
    rw [List.pairwise_append]
    refine ⟨?_, List.pairwise_singleton _ _, fun r hr t ht => ?_⟩
    · rw [List.pairwise_map]
      refine List.Pairwise.imp_of_mem ?_ i
      intro r t hr ht ⟨a1, a2⟩
      unfold Apart
      rw [(hd r hr).2, (hd t ht).2]
      exact ⟨z0 r (i1.lf _ hr) _ (hd t ht).1 a1, z0 t (i1.lf _ ht) _ (hd r hr).1 a2⟩
    · rw [List.mem_singleton.mp ht]
      obtain ⟨q, hq, rfl⟩ := List.mem_map.mp hr
      unfold Apart
      rw [hh, (hd q hq).2]
      exact ⟨pz q (i1.lf _ hq), hz _ (hd q hq).1⟩
theorem inv3_at {n b : Nat} {rows : List (List Int)} (h1 : Rect n rows) (h2 : BdR b rows) (h3 : (rows.headD []).length = n) : ∀ i, i ≤ (rows.headD []).length → (stAt rows i).found.Pairwise Apart
  | 0, _ => List.Pairwise.nil
  | i + 1, h => by
    rw [stAt_succ (by omega)]
    exact inv3_step (inv1_at h1 h2 i (by omega)) (inv2_at h1 h2 i (by omega)) (by omega) (inv3_at h1 h2 h3 i (by omega))
theorem steps_apart {n b : Nat} {rows : List (List Int)} (h1 : Rect n rows) (h2 : BdR b rows) (h3 : (rows.headD []).length = n) : (intSteps rows).Pairwise Apart := by
  rw [← stAt_end]
  exact inv3_at h1 h2 h3 _ (Nat.le_refl _)
end M
end
section
set_option Elab.async false
set_option linter.all false
/-! One free column. -/
namespace M
theorem cast_pos {b : Int} (h : 0 < b) : (0 : Rat) < (b : Rat) := by exact_mod_cast h
theorem getD_map {α β : Type} {l : List α} {f : α → β} {d : α} {e : β} (h : f d = e) (i : Nat) : (l.map f).getD i e = f (l.getD i d) := by
  rw [List.getD_eq_getElem?_getD, List.getD_eq_getElem?_getD, List.getElem?_map]
  cases l[i]? with
  | none => exact h.symm
  | some x => rfl
theorem mk_int {a b : Int} (h : 0 < b) : mkRat a b.toNat = (a : Rat) / (b : Rat) := by
  rw [Rat.mkRat_eq_div]
  have : ((b.toNat : Nat) : Int) = b := Int.toNat_of_nonneg (by omega)
  have e : ((b.toNat : Nat) : Rat) = (b : Rat) := by
    rw [← Rat.intCast_natCast, this]
  rw [e]
theorem told_get {r : List Int} (hp : 0 < r.getD (headOf r) 0) (i : Nat) : (toldRow r).getD i 0 = ((r.getD i 0 : Int) : Rat) / ((r.getD (headOf r) 0 : Int) : Rat) := by
  unfold toldRow
  rw [getD_map (d := 0) (by rw [Rat.zero_mkRat]), mk_int hp]
theorem told_len {r : List Int} : (toldRow r).length = r.length := by
  unfold toldRow
  rw [List.length_map]
theorem told_head {r : List Int} (hp : 0 < r.getD (headOf r) 0) : headOf ((toldRow r).map (·.num)) = headOf r := by
  unfold toldRow
  rw [List.map_map]
  generalize r.getD (headOf r) 0 = h at hp
  unfold headOf
  rw [List.findIdx_map]
  congr 1
  funext x
  show (!decide ((mkRat x h.toNat).num = 0)) = !decide (x = 0)
  congr 1
  rw [decide_eq_decide, Rat.num_eq_zero, Rat.mkRat_eq_zero (by omega)]
structure Red (n : Nat) (found : List (List Int)) : Prop where
  out : ∀ r ∈ found, r.length = n ∧ headOf r < n ∧ 0 < r.getD (headOf r) 0
  ap : found.Pairwise Apart
theorem Red.heads {n : Nat} {found : List (List Int)} (d : Red n found) : heads (toldRows found) = found.map headOf := by
  unfold M.heads toldRows
  rw [List.map_map]
  exact List.map_congr_left fun r hr => told_head (d.out r hr).2.2
theorem Red.nd {n : Nat} {found : List (List Int)} (d : Red n found) : (found.map headOf).Nodup := by
  unfold List.Nodup
  rw [List.pairwise_map]
  refine List.Pairwise.imp_of_mem ?_ d.ap
  intro r t hr ht ⟨a, _⟩ e
  have := (d.out r hr).2.2
  rw [e] at this
  omega
theorem Red.zero {n : Nat} {found : List (List Int)} (d : Red n found) {r t : List Int} (hr : r ∈ found) (ht : t ∈ found) (h : headOf t ≠ headOf r) : r.getD (headOf t) 0 = 0 := by
  obtain ⟨i, hi, rfl⟩ := List.getElem_of_mem hr
  obtain ⟨j, hj, rfl⟩ := List.getElem_of_mem ht
  have p := List.pairwise_iff_getElem.mp d.ap
  rcases Nat.lt_trichotomy i j with h1 | h1 | h1
  · exact (p i j hi hj h1).1
  · subst h1
    exact absurd rfl h
  · exact (p j i hj hi h1).2
theorem fold_out {free c : Nat} : ∀ {l : List (Nat × List Rat)} {r : List Rat}, c ∉ l.map (·.1) → (l.foldl (fun r d => r.set d.1 (-(d.2.getD free 0))) r).getD c 0 = r.getD c 0
  | [], _, _ => rfl
  | a :: l, r, h => by
    rw [List.map_cons, List.mem_cons, not_or] at h
    rw [List.foldl_cons, fold_out h.2, List.getD_eq_getElem?_getD, List.getElem?_set_ne (Ne.symm h.1), ← List.getD_eq_getElem?_getD]
theorem fold_in {free : Nat} {d : Nat × List Rat} : ∀ {l : List (Nat × List Rat)} {r : List Rat}, (l.map (·.1)).Nodup → d ∈ l → d.1 < r.length → (l.foldl (fun r d => r.set d.1 (-(d.2.getD free 0))) r).getD d.1 0 = -(d.2.getD free 0)
  | [], _, _, h, _ => by cases h
  | a :: l, r, nd, h, hl => by
    rw [List.map_cons, List.nodup_cons] at nd
    rw [List.foldl_cons]
    rcases List.mem_cons.mp h with e | h
    · subst e
      rw [fold_out nd.1, getD_set hl, if_pos rfl]
    · exact fold_in nd.2 h (by rw [List.length_set]; exact hl)
theorem Red.zip {n : Nat} {found : List (List Int)} (d : Red n found) : (M.heads (toldRows found)).zip (toldRows found) = found.map fun r => (headOf r, toldRow r) := by
  rw [d.heads]
  unfold toldRows
  rw [List.zip_map']
theorem Red.freeHead {n f : Nat} {found : List (List Int)} (d : Red n found) {r : List Int} (hr : r ∈ found) : (freeRow (toldRows found) n f).getD (headOf r) 0 = -(((r.getD f 0 : Int) : Rat) / ((r.getD (headOf r) 0 : Int) : Rat)) := by
  unfold freeRow
  rw [d.zip, ← told_get (d.out r hr).2.2]
  have h := fold_in (free := f) (d := (headOf r, toldRow r)) (l := found.map fun r => (headOf r, toldRow r)) (r := (List.range n).map fun i => if i = f then (1 : Rat) else 0) ?_ (List.mem_map_of_mem hr) ?_
  · exact h
  · rw [List.map_map]
    exact d.nd
  · rw [List.length_map, List.length_range]
    exact (d.out r hr).2.1
theorem Red.freeElse {n f c : Nat} {found : List (List Int)} (d : Red n found) (hc : c < n) (h : c ∉ found.map headOf) : (freeRow (toldRows found) n f).getD c 0 = if c = f then 1 else 0 := by
  unfold freeRow
  rw [d.zip, fold_out (by rw [List.map_map]; exact h), getD_range hc]
theorem freeRow_len {n f : Nat} {solved : List (List Rat)} : (freeRow solved n f).length = n := by
  have : ∀ (l : List (Nat × List Rat)) (r : List Rat), (l.foldl (fun r d => r.set d.1 (-(d.2.getD f 0))) r).length = r.length := fun l => by
    induction l with
    | nil => exact fun r => rfl
    | cons a l ih =>
      intro r
      rw [List.foldl_cons, ih, List.length_set]
  unfold freeRow
  rw [this, List.length_map, List.length_range]
theorem Red.freeKer {n f : Nat} {found : List (List Int)} (d : Red n found) (hf : f < n) (h : f ∉ found.map headOf) : Ker n found fun i => (freeRow (toldRows found) n f).getD i 0 := fun r hr => by
  have hne : headOf r ≠ f := fun e => h (e ▸ List.mem_map_of_mem hr)
  have o := d.out r hr
  unfold dt
  rw [SR_at2 (a := headOf r) (b := f) o.2.1 hf hne fun i hi h1 h2 => ?_]
  · show _ * (freeRow (toldRows found) n f).getD (headOf r) 0 + _ * (freeRow (toldRows found) n f).getD f 0 = 0
    rw [d.freeHead hr, d.freeElse hf h, if_pos rfl]
    have := cast_nz (show r.getD (headOf r) 0 ≠ 0 by omega)
    grind
  · by_cases m : i ∈ found.map headOf
    · obtain ⟨t, ht, rfl⟩ := List.mem_map.mp m
      rw [d.zero hr ht h1]
      show (0 : Rat) * _ = 0
      exact Rat.zero_mul _
    · show _ * (freeRow (toldRows found) n f).getD i 0 = 0
      rw [d.freeElse hi m, if_neg h2, Rat.mul_zero]
theorem one_list {l : List Nat} (nd : l.Nodup) (h : ∀ a ∈ l, ∀ b ∈ l, a = b) (h0 : l ≠ []) : ∃ a, l = [a] := by
  match l, nd, h, h0 with
  | [a], _, _, _ => exact ⟨a, rfl⟩
  | a :: b :: t, nd, h, _ =>
    have e := h a List.mem_cons_self b (List.mem_cons_of_mem _ List.mem_cons_self)
    rw [List.nodup_cons] at nd
    exact absurd (e ▸ List.mem_cons_self) nd.1
theorem Red.one {n : Nat} {found : List (List Int)} {c : Nat → Rat} (d : Red n found) (h0 : 0 < n) (hc : ∀ i, i < n → 0 < c i) (hk : Ker n found c) (hu : ∀ x, Ker n found x → ∀ i, i < n → x i * c 0 = x 0 * c i) :
    ∃ f, f < n ∧ ((List.range n).filter fun f => !(decide (f ∈ M.heads (toldRows found)))) = [f] ∧ ∀ i, i < n → (freeRow (toldRows found) n f).getD i 0 = c i / c f := by
  rw [d.heads]
  have key : ∀ f, f < n → f ∉ found.map headOf → ∀ i, i < n → (freeRow (toldRows found) n f).getD i 0 = c i / c f := fun f hf h i hi => by
    have e1 := hu _ (d.freeKer hf h) f hf
    have e2 := hu _ (d.freeKer hf h) i hi
    rw [d.freeElse hf h, if_pos rfl] at e1
    have p0 := hc 0 h0
    have pf := hc f hf
    have n0 : c 0 ≠ 0 := fun z => by rw [z] at p0; exact absurd p0 Rat.lt_irrefl
    have nf : c f ≠ 0 := fun z => by rw [z] at pf; exact absurd pf Rat.lt_irrefl
    grind
  have mem : ∀ f, f ∈ ((List.range n).filter fun f => !(decide (f ∈ found.map headOf))) ↔ f < n ∧ f ∉ found.map headOf := fun f => by
    rw [List.mem_filter, List.mem_range, Bool.not_eq_true', decide_eq_false_iff_not]
  have ne : ((List.range n).filter fun f => !(decide (f ∈ found.map headOf))) ≠ [] := fun e => by
    have all : ∀ i, i < n → i ∈ found.map headOf := fun i hi => Decidable.byContradiction fun z => by
      have := (mem i).mpr ⟨hi, z⟩
      rw [e] at this
      cases this
    obtain ⟨r, hr, h⟩ := List.mem_map.mp (all 0 h0)
    have o := d.out r hr
    have hd := hk r hr
    unfold dt at hd
    rw [SR_at (a := 0) h0 fun i hi hne => ?_] at hd
    · have p0 := hc 0 h0
      have n0 : c 0 ≠ 0 := fun z => by rw [z] at p0; exact absurd p0 Rat.lt_irrefl
      rcases Rat.mul_eq_zero.mp hd with z | z
      · have := o.2.2
        rw [h] at this
        exact cast_nz (by omega) z
      · exact n0 z
    · obtain ⟨t, ht, e2⟩ := List.mem_map.mp (all i hi)
      have := d.zero hr ht (by omega)
      rw [e2] at this
      rw [this]
      exact Rat.zero_mul _
  have same : ∀ a ∈ ((List.range n).filter fun f => !(decide (f ∈ found.map headOf))), ∀ b ∈ ((List.range n).filter fun f => !(decide (f ∈ found.map headOf))), a = b := fun a ha b hb => by
    obtain ⟨a1, a2⟩ := (mem a).mp ha
    obtain ⟨b1, b2⟩ := (mem b).mp hb
    refine Decidable.byContradiction fun e => ?_
    have e1 := key a a1 a2 b b1
    rw [d.freeElse b1 b2, if_neg (Ne.symm e)] at e1
    have pa := hc a a1
    have pb := hc b b1
    have na : c a ≠ 0 := fun z => by rw [z] at pa; exact absurd pa Rat.lt_irrefl
    have nb : c b ≠ 0 := fun z => by rw [z] at pb; exact absurd pb Rat.lt_irrefl
    grind
  obtain ⟨f, hf⟩ := one_list ((List.nodup_range).filter _) same ne
  have hm := (mem f).mp (by rw [hf]; exact List.mem_cons_self)
  exact ⟨f, hm.1, hf, key f hm.1 hm.2⟩
end M
end
section
set_option Elab.async false
set_option linter.all false
/-! The kernel's only row. -/
namespace M
theorem lcms_dvd {qs : List Rat} : lcms qs ≠ 0 ∧ ∀ q ∈ qs, q.den ∣ lcms qs := by
  have key : ∀ (qs : List Rat) (b : Nat), b ≠ 0 → (qs.foldl (fun b q => Nat.lcm b q.den) b) ≠ 0 ∧ b ∣ (qs.foldl (fun b q => Nat.lcm b q.den) b) ∧ ∀ q ∈ qs, q.den ∣ (qs.foldl (fun b q => Nat.lcm b q.den) b) := by
    intro qs
    induction qs with
    | nil => exact fun b h => ⟨h, Nat.dvd_refl _, fun q hq => by cases hq⟩
    | cons a qs ih =>
      intro b h
      rw [List.foldl_cons]
      obtain ⟨h1, h2, h3⟩ := ih (Nat.lcm b a.den) (Nat.lcm_ne_zero h a.den_nz)
      refine ⟨h1, Nat.dvd_trans (Nat.dvd_lcm_left _ _) h2, fun q hq => ?_⟩
      rcases List.mem_cons.mp hq with e | hq
      · rw [e]
        exact Nat.dvd_trans (Nat.dvd_lcm_right _ _) h2
      · exact h3 q hq
  have := key qs 1 (by decide)
  exact ⟨this.1, this.2.2⟩
theorem whole_q {q : Rat} {l : Nat} (h : q.den ∣ l) : (((q.num * ((l : Int) / (q.den : Int))) : Int) : Rat) = (l : Rat) * q := by
  obtain ⟨k, rfl⟩ := h
  have hd : (q.den : Int) ≠ 0 := by
    have := q.den_nz
    omega
  rw [Int.natCast_mul, Int.mul_ediv_cancel_left _ hd, Rat.intCast_mul, Rat.natCast_mul]
  have e : q = (q.num : Rat) / (q.den : Rat) := by rw [← Rat.mkRat_eq_div, Rat.mkRat_self]
  have hd2 : ((q.den : Nat) : Rat) ≠ 0 := fun z => q.den_nz (by exact_mod_cast z)
  have ek : ((k : Int) : Rat) = ((k : Nat) : Rat) := Rat.intCast_natCast k
  rw [ek]
  generalize (q.num : Rat) = a at e
  generalize ((q.den : Nat) : Rat) = b at e hd2
  generalize ((k : Nat) : Rat) = c
  rw [e]
  grind
theorem wholes_get {qs : List Rat} (i : Nat) : (((wholes qs).getD i 0 : Int) : Rat) = (lcms qs : Rat) * qs.getD i 0 := by
  unfold wholes
  rw [getD_map (d := (0 : Rat)) (by show (0 : Int) * _ = 0; exact Int.zero_mul _)]
  by_cases h : i < qs.length
  · exact whole_q (lcms_dvd.2 _ (getD_mem h))
  · have e : qs.getD i 0 = 0 := by
      rw [List.getD_eq_getElem?_getD, List.getElem?_eq_none (by omega)]
      rfl
    rw [e, Rat.mul_zero]
    show (((0 : Int) * _ : Int) : Rat) = 0
    rw [Int.zero_mul]
    rfl
theorem wholes_len {qs : List Rat} : (wholes qs).length = qs.length := by
  unfold wholes
  rw [List.length_map]
theorem lcms_nz {qs : List Rat} : ((lcms qs : Nat) : Rat) ≠ 0 := fun z => (lcms_dvd (qs := qs)).1 (by exact_mod_cast z)
theorem ker_wholes {n : Nat} {rows : List (List Rat)} {x : Nat → Rat} : Ker n (rows.map wholes) x ↔ ∀ r ∈ rows, (SR n fun i => r.getD i 0 * x i) = 0 := by
  have e : ∀ r : List Rat, dt n (wholes r) x = (lcms r : Rat) * SR n fun i => r.getD i 0 * x i := fun r => by
    unfold dt
    rw [← SR_mul]
    exact SR_congr fun i _ => by rw [wholes_get, Rat.mul_assoc]
  constructor
  · intro h r hr
    have := h _ (List.mem_map_of_mem hr)
    rw [e] at this
    rcases Rat.mul_eq_zero.mp this with z | z
    · exact absurd z lcms_nz
    · exact z
  · intro h r hr
    obtain ⟨q, hq, rfl⟩ := List.mem_map.mp hr
    rw [e, h q hq, Rat.mul_zero]
theorem bdr_ex (rows : List (List Int)) : ∃ b, BdR b rows := by
  have one : ∀ r : List Int, ∃ b, BdL b r := fun r => by
    induction r with
    | nil => exact ⟨0, fun x hx => by cases hx⟩
    | cons a r ih =>
      obtain ⟨b, h⟩ := ih
      refine ⟨a.natAbs + b, fun x hx => ?_⟩
      rcases List.mem_cons.mp hx with e | hx
      · rw [e]
        exact Bd.mono (k := a.natAbs + b) (Nat.lt_two_pow_self : a.natAbs < 2 ^ a.natAbs) (by omega)
      · exact (h x hx).mono (by omega)
  induction rows with
  | nil => exact ⟨0, fun x hx => by cases hx⟩
  | cons a rows ih =>
    obtain ⟨b, h⟩ := ih
    obtain ⟨c, hc⟩ := one a
    refine ⟨b + c, fun x hx => ?_⟩
    rcases List.mem_cons.mp hx with e | hx
    · rw [e]
      exact hc.mono (by omega)
    · exact (h x hx).mono (by omega)
/-- one row alone -/
theorem fold_none : ∀ {l : List Nat} {f : List (List Int)}, l.foldl stepAt ⟨[], f⟩ = ⟨[], f⟩
  | [], _ => rfl
  | a :: l, f => by
    rw [List.foldl_cons]
    exact fold_none
theorem steps_one {w : List Int} (h : 0 < w.getD 0 0) : intSteps [w] = [bare w] ∧ 0 < (bare w).getD 0 0 ∧ ∀ i, ((w.getD i 0 : Int) : Rat) / ((w.getD 0 0 : Int) : Rat) = (((bare w).getD i 0 : Int) : Rat) / (((bare w).getD 0 0 : Int) : Rat) := by
  obtain ⟨c, hc, e⟩ := bare_at (row := w)
  have hb : 0 < (bare w).getD 0 0 := by
    have e0 := e 0
    rw [e0] at h
    exact Int.pos_of_mul_pos_right h hc
  refine ⟨?_, hb, fun i => ?_⟩
  · have hl : ∃ k, w.length = k + 1 := by
      cases w with
      | nil => exact absurd h (by decide)
      | cons a t => exact ⟨t.length, rfl⟩
    obtain ⟨k, hk⟩ := hl
    unfold intSteps
    show ((List.range w.length).foldl stepAt ⟨[w], []⟩).found = _
    rw [hk, List.range_succ_eq_map, List.foldl_cons]
    have f0 : firstAt [w] 0 = some 0 := by
      unfold firstAt
      rw [List.findIdx?_cons, if_pos (by rw [decide_eq_false (by omega)]; rfl)]
    have s0 : stepAt ⟨[w], []⟩ 0 = ⟨[], [headed w 0]⟩ := by
      unfold stepAt
      rw [f0]
      rfl
    rw [s0, fold_none]
    show [headed w 0] = _
    unfold headed
    rw [if_pos hb]
  · rw [e i, e 0, Rat.intCast_mul, Rat.intCast_mul]
    have n1 := cast_nz (show c ≠ 0 by omega)
    have n2 := cast_nz (show (bare w).getD 0 0 ≠ 0 by omega)
    grind
theorem pos_ne {a : Rat} (h : 0 < a) : a ≠ 0 := fun z => by rw [z] at h; exact absurd h Rat.lt_irrefl
theorem stepsOf_one {v : List Rat} {n : Nat} (hl : v.length = n) (h0 : 0 < n) (hv : 0 < v.getD 0 0) : stepsOf [v] = [(List.range n).map fun i => v.getD i 0 / v.getD 0 0] := by
  have hw : 0 < (wholes v).getD 0 0 := by
    have e := wholes_get (qs := v) 0
    have : (0 : Rat) < (((wholes v).getD 0 0 : Int) : Rat) := by
      rw [e]
      refine Rat.mul_pos ?_ hv
      have := lcms_dvd (qs := v)
      have h2 : 0 < lcms v := by omega
      exact_mod_cast h2
    exact_mod_cast this
  obtain ⟨e1, hb, e2⟩ := steps_one hw
  unfold stepsOf toldRows
  rw [List.map_cons, List.map_nil, e1, List.map_cons, List.map_nil]
  congr 1
  have hh : headOf (bare (wholes v)) = 0 := led_head (p := 1) ⟨by decide, hb, fun c hc => by omega⟩ (by rw [bare_len, wholes_len]; omega)
  refine list_get (by rw [told_len, bare_len, wholes_len, hl]) fun i hi => ?_
  rw [told_get (by rw [hh]; exact hb), hh, ← e2, wholes_get, wholes_get]
  have n1 := lcms_nz (qs := v)
  have n2 := pos_ne hv
  grind
/-- x is led to 0 by the columns -/
def Null (n : Nat) (R : List (List Rat)) (x : Nat → Rat) : Prop := ∀ p, p < n → (SR n fun h => ((R.getD h []).getD p 0 - if h = p then 1 else 0) * x h) = 0
theorem ker_columns {n : Nat} {R : List (List Rat)} (hl : R.length = n) {x : Nat → Rat} : Ker n ((columns R).map wholes) x ↔ Null n R x := by
  rw [ker_wholes]
  unfold columns Null
  rw [hl]
  have e : ∀ p, (SR n fun i => (((List.range n).map fun h => (R.getD h []).getD p 0 - if h = p then 1 else 0).getD i 0) * x i) = SR n fun h => ((R.getD h []).getD p 0 - if h = p then 1 else 0) * x h := fun p => SR_congr fun i hi => by rw [getD_range hi]
  constructor
  · intro h p hp
    rw [← e]
    exact h _ (List.mem_map_of_mem (List.mem_range.mpr hp))
  · intro h r hr
    obtain ⟨p, hp, rfl⟩ := List.mem_map.mp hr
    rw [e]
    exact h p (List.mem_range.mp hp)
theorem kernel_is {n : Nat} {R : List (List Rat)} {c : Nat → Rat} (hl : R.length = n) (h0 : 0 < n) (hc : ∀ i, i < n → 0 < c i) (hk : Null n R c) (hu : ∀ x, Null n R x → ∀ i, i < n → x i * c 0 = x 0 * c i) :
    (kernelFound (columns R) n).length = 1 ∧ kernelOf (columns R) n = [(List.range n).map fun i => c i / c 0] := by
  have hrect : Rect n ((columns R).map wholes) := fun r hr => by
    obtain ⟨q, hq, rfl⟩ := List.mem_map.mp hr
    unfold columns at hq
    obtain ⟨p, hp, rfl⟩ := List.mem_map.mp hq
    rw [wholes_len, List.length_map, List.length_range, hl]
  obtain ⟨b, hb⟩ := bdr_ex ((columns R).map wholes)
  have hh : (((columns R).map wholes).headD []).length = n := by
    have hlen : ((columns R).map wholes).length = n := by
      unfold columns
      simp [hl]
    cases h : (columns R).map wholes with
    | nil =>
      rw [h] at hlen
      simp at hlen
      omega
    | cons a t =>
      rw [h] at hrect
      exact hrect a List.mem_cons_self
  obtain ⟨_, ho⟩ := intSteps_out hrect hb
  have d : Red n (intSteps ((columns R).map wholes)) := ⟨fun r hr => ⟨(ho r hr).len, (ho r hr).hd, (ho r hr).pos⟩, steps_apart hrect hb hh⟩
  have ke : ∀ {x : Nat → Rat}, Ker n (intSteps ((columns R).map wholes)) x ↔ Null n R x := fun {x} => (ker_steps hrect hb hh).trans (ker_columns hl)
  obtain ⟨f, hf, e1, e2⟩ := d.one h0 hc (ke.mpr hk) fun x hx => hu x (ke.mp hx)
  have ef : kernelFound (columns R) n = [freeRow (toldRows (intSteps ((columns R).map wholes))) n f] := by
    unfold kernelFound
    show List.map _ (List.filter (fun f => !(decide (f ∈ M.heads (toldRows (intSteps ((columns R).map wholes)))))) (List.range n)) = _
    rw [e1]
    rfl
  have eo : kernelOf (columns R) n = stepsOf (kernelFound (columns R) n) := rfl
  have p0 := hc 0 h0
  have pf := hc f hf
  rw [eo, ef]
  refine ⟨rfl, ?_⟩
  rw [stepsOf_one freeRow_len h0 (by rw [e2 0 h0, Rat.div_def]; exact Rat.mul_pos p0 (Rat.inv_pos.mpr pf))]
  congr 1
  refine List.map_congr_left fun i hi => ?_
  rw [e2 i (List.mem_range.mp hi), e2 0 h0]
  have n1 := pos_ne p0
  have n2 := pos_ne pf
  grind
theorem only_is {n : Nat} {R : List (List Rat)} {c : Nat → Rat} (hl : R.length = n) (h0 : 0 < n) (hc : ∀ i, i < n → 0 < c i) (ho : kernelOf (columns R) n = [(List.range n).map fun i => c i / c 0]) :
    onlyShares R = (List.range n).map fun i => c i / SR n c := by
  unfold onlyShares
  rw [hl, ho]
  show List.map (· / total ((List.range n).map fun i => c i / c 0)) ((List.range n).map fun i => c i / c 0) = _
  rw [total_range, SR_div, List.map_map]
  refine List.map_congr_left fun i _ => ?_
  show c i / c 0 / (SR n c / c 0) = c i / SR n c
  have n1 := pos_ne (hc 0 h0)
  by_cases z : SR n c = 0
  · rw [z]
    grind
  · grind
theorem SR_pos {c : Nat → Rat} : ∀ {n : Nat}, 0 < n → (∀ i, i < n → 0 < c i) → 0 < SR n c
  | 1, _, h => by
    show 0 < (0 : Rat) + c 0
    rw [Rat.zero_add]
    exact h 0 (by decide)
  | n + 2, _, h => by
    show 0 < SR (n + 1) c + c (n + 1)
    have h1 := SR_pos (c := c) (n := n + 1) (by omega) fun i hi => h i (by omega)
    have h2 := h (n + 1) (by omega)
    grind
end M
end
section
set_option Elab.async false
set_option linter.all false
set_option maxRecDepth 10000
/-! Trees that lead to a place: 2, 3 or 4 places. -/
namespace M
def T2 (xr xy yr yx : Nat) : Nat := xr * yr + xr * yx + yr * xy
def T3 (xr xy xz yr yx yz zr zx zy : Nat) : Nat :=
  xr * yr * zr + xr * yr * zx + xr * yr * zy + xr * zr * yx + xr * zr * yz + yr * zr * xy + yr * zr * xz
  + xr * yx * zx + xr * yx * zy + xr * yz * zx + yr * xy * zy + yr * xy * zx + yr * xz * zy + zr * xz * yz + zr * xz * yx + zr * xy * yz
def tr (n : Nat) (e : Nat → Nat → Nat) (i : Nat) : Nat := match n with
  | 2 => if i = 0 then e 1 0 else e 0 1
  | 3 => if i = 0 then T2 (e 1 0) (e 1 2) (e 2 0) (e 2 1) else if i = 1 then T2 (e 0 1) (e 0 2) (e 2 1) (e 2 0) else T2 (e 0 2) (e 0 1) (e 1 2) (e 1 0)
  | _ => if i = 0 then T3 (e 1 0) (e 1 2) (e 1 3) (e 2 0) (e 2 1) (e 2 3) (e 3 0) (e 3 1) (e 3 2)
    else if i = 1 then T3 (e 0 1) (e 0 2) (e 0 3) (e 2 1) (e 2 0) (e 2 3) (e 3 1) (e 3 0) (e 3 2)
    else if i = 2 then T3 (e 0 2) (e 0 1) (e 0 3) (e 1 2) (e 1 0) (e 1 3) (e 3 2) (e 3 0) (e 3 1)
    else T3 (e 0 3) (e 0 1) (e 0 2) (e 1 3) (e 1 0) (e 1 2) (e 2 3) (e 2 0) (e 2 1)
/-! the minors -/
theorem minor1 (a : Int) : minor 1 [[a]] = a := by
  simp [minor, List.range, List.range.loop]
theorem minor2 (a b c d : Int) : minor 2 [[a, b], [c, d]] = a * d - b * c := by
  simp [minor, cut, List.range, List.range.loop]
  grind
theorem minor3 (a b c d e f g h i : Int) : minor 3 [[a, b, c], [d, e, f], [g, h, i]] = a * (e * i - f * h) - b * (d * i - f * g) + c * (d * h - e * g) := by
  have q : ∀ rows, minor 3 rows = ((List.range (rows.headD []).length).zip (rows.headD [])).foldl (fun acc d => acc + (if d.1 % 2 = 0 then d.2 * minor 2 ((rows.drop 1).map (cut d.1)) else 0 - d.2 * minor 2 ((rows.drop 1).map (cut d.1)))) 0 := fun rows => rfl
  rw [q]
  simp [cut, List.range, List.range.loop, minor2]
  grind
theorem only2 (a b c d : Nat) : onlyAt [[a, b], [c, d]] 0 = (((a + b : Nat) : Int)) * (c : Int) ∧ onlyAt [[a, b], [c, d]] 1 = (((c + d : Nat) : Int)) * (b : Int) := by
  constructor <;> (unfold onlyAt lap lapRow; simp [cut, List.range, List.range.loop, minor1]; try grind)
theorem only3 (a b c d e f g h i : Nat) : onlyAt [[a, b, c], [d, e, f], [g, h, i]] 0 = (((a + b + c : Nat) : Int)) * (T2 d f g h : Int) ∧ onlyAt [[a, b, c], [d, e, f], [g, h, i]] 1 = (((d + e + f : Nat) : Int)) * (T2 b c h g : Int) ∧ onlyAt [[a, b, c], [d, e, f], [g, h, i]] 2 = (((g + h + i : Nat) : Int)) * (T2 c b f d : Int) := by
  refine ⟨?_, ?_, ?_⟩ <;> (unfold onlyAt lap lapRow T2; simp [cut, List.range, List.range.loop, minor2]; grind)
end M
namespace M
theorem only4 (a0 a1 a2 a3 b0 b1 b2 b3 c0 c1 c2 c3 d0 d1 d2 d3 : Nat) :
    onlyAt [[a0, a1, a2, a3], [b0, b1, b2, b3], [c0, c1, c2, c3], [d0, d1, d2, d3]] 0 = (((a0 + a1 + a2 + a3 : Nat) : Int)) * (T3 b0 b2 b3 c0 c1 c3 d0 d1 d2 : Int)
    ∧ onlyAt [[a0, a1, a2, a3], [b0, b1, b2, b3], [c0, c1, c2, c3], [d0, d1, d2, d3]] 1 = (((b0 + b1 + b2 + b3 : Nat) : Int)) * (T3 a1 a2 a3 c1 c0 c3 d1 d0 d2 : Int)
    ∧ onlyAt [[a0, a1, a2, a3], [b0, b1, b2, b3], [c0, c1, c2, c3], [d0, d1, d2, d3]] 2 = (((c0 + c1 + c2 + c3 : Nat) : Int)) * (T3 a2 a1 a3 b2 b0 b3 d2 d0 d1 : Int)
    ∧ onlyAt [[a0, a1, a2, a3], [b0, b1, b2, b3], [c0, c1, c2, c3], [d0, d1, d2, d3]] 3 = (((d0 + d1 + d2 + d3 : Nat) : Int)) * (T3 a3 a1 a2 b3 b0 b2 c3 c0 c1 : Int) := by
  refine ⟨?_, ?_, ?_, ?_⟩ <;> (unfold onlyAt lap lapRow T3; simp [cut, List.range, List.range.loop, minor3]; refine congr (congrArg HMul.hMul (by grind)) (by grind))
theorem box2 {flow : List (List Nat)} (b : Box 2 flow) : ∃ a b c d, flow = [[a, b], [c, d]] := by
  obtain ⟨hl, hr⟩ := b
  match flow, hl, hr with
  | [r, s], _, hr =>
    have h1 := hr r (by simp)
    have h2 := hr s (by simp)
    match r, s, h1, h2 with
    | [a, b], [c, d], _, _ => exact ⟨a, b, c, d, rfl⟩
theorem box3 {flow : List (List Nat)} (b : Box 3 flow) : ∃ a b c d e f g h i, flow = [[a, b, c], [d, e, f], [g, h, i]] := by
  obtain ⟨hl, hr⟩ := b
  match flow, hl, hr with
  | [r, s, t], _, hr =>
    have h1 := hr r (by simp)
    have h2 := hr s (by simp)
    have h3 := hr t (by simp)
    match r, s, t, h1, h2, h3 with
    | [a, b, c], [d, e, f], [g, h, i], _, _, _ => exact ⟨a, b, c, d, e, f, g, h, i, rfl⟩
theorem box4 {flow : List (List Nat)} (b : Box 4 flow) : ∃ a0 a1 a2 a3 b0 b1 b2 b3 c0 c1 c2 c3 d0 d1 d2 d3, flow = [[a0, a1, a2, a3], [b0, b1, b2, b3], [c0, c1, c2, c3], [d0, d1, d2, d3]] := by
  obtain ⟨hl, hr⟩ := b
  match flow, hl, hr with
  | [r, s, t, u], _, hr =>
    have h1 := hr r (by simp)
    have h2 := hr s (by simp)
    have h3 := hr t (by simp)
    have h4 := hr u (by simp)
    match r, s, t, u, h1, h2, h3, h4 with
    | [a0, a1, a2, a3], [b0, b1, b2, b3], [c0, c1, c2, c3], [d0, d1, d2, d3], _, _, _, _ => exact ⟨a0, a1, a2, a3, b0, b1, b2, b3, c0, c1, c2, c3, d0, d1, d2, d3, rfl⟩
/-- the minors are sums of trees -/
theorem only_tr {n : Nat} {flow : List (List Nat)} (b : Box n flow) (h2 : 2 ≤ n) (h4 : n ≤ 4) {i : Nat} (hi : i < n) : onlyAt flow i = (out n flow i : Int) * (tr n (ent flow) i : Int) := by
  rcases (show n = 2 ∨ n = 3 ∨ n = 4 by omega) with rfl | rfl | rfl
  · obtain ⟨a, a1, c, d, rfl⟩ := box2 b
    obtain ⟨h0, h1⟩ := only2 a a1 c d
    match i, hi with
    | 0, _ =>
      rw [h0]
      simp [out, S, ent, tr]
    | 1, _ =>
      rw [h1]
      simp [out, S, ent, tr]
  · obtain ⟨a, a1, c, d, e, f, g, h, j, rfl⟩ := box3 b
    obtain ⟨h0, h1, h2⟩ := only3 a a1 c d e f g h j
    match i, hi with
    | 0, _ =>
      rw [h0]
      simp [out, S, ent, tr]
    | 1, _ =>
      rw [h1]
      simp [out, S, ent, tr]
    | 2, _ =>
      rw [h2]
      simp [out, S, ent, tr]
  · obtain ⟨a0, a1, a2, a3, b0, b1, b2, b3, c0, c1, c2, c3, d0, d1, d2, d3, rfl⟩ := box4 b
    obtain ⟨k0, k1, k2, k3⟩ := only4 a0 a1 a2 a3 b0 b1 b2 b3 c0 c1 c2 c3 d0 d1 d2 d3
    match i, hi with
    | 0, _ =>
      rw [k0]
      simp [out, S, ent, tr]
    | 1, _ =>
      rw [k1]
      simp [out, S, ent, tr]
    | 2, _ =>
      rw [k2]
      simp [out, S, ent, tr]
    | 3, _ =>
      rw [k3]
      simp [out, S, ent, tr]
/-! positive, where all is reached -/
theorem cut_edge {E : Nat → Nat → Bool} {n p q : Nat} (S : Nat → Bool) (hp : p < n) (r : Reach E n p q) (h1 : S p = true) (h2 : S q = false) : ∃ a b, a < n ∧ b < n ∧ S a = true ∧ S b = false ∧ E a b = true := by
  have key : ∀ z, Reach E n p z → z < n ∧ (S z = true ∨ ∃ a b, a < n ∧ b < n ∧ S a = true ∧ S b = false ∧ E a b = true) := fun z r => by
    induction r with
    | refl => exact ⟨hp, .inl h1⟩
    | @step a b _ e hb ih =>
      refine ⟨hb, ?_⟩
      obtain ⟨ha, sa | k⟩ := ih
      · cases sb : S b with
        | true => exact .inl rfl
        | false => exact .inr ⟨a, b, ha, hb, sa, sb, e⟩
      · exact .inr k
  obtain ⟨_, k | k⟩ := key q r
  · rw [h2] at k
    cases k
  · exact k
theorem bool3 : ∀ xr xy xz yr yx yz zr zx zy : Bool, (xr || xy || xz) = true → (yr || yx || yz) = true → (zr || zx || zy) = true → (xr || xz || yr || yz) = true → (xr || xy || zr || zy) = true → (yr || yx || zr || zx) = true → (xr || yr || zr) = true →
    (xr && yr && zr || xr && yr && zx || xr && yr && zy || xr && zr && yx || xr && zr && yz || yr && zr && xy || yr && zr && xz || xr && yx && zx || xr && yx && zy || xr && yz && zx || yr && xy && zy || yr && xy && zx || yr && xz && zy || zr && xz && yz || zr && xz && yx || zr && xy && yz) = true := by
  decide +kernel
def nz (x : Nat) : Bool := !decide (x = 0)
theorem nz_pos {x : Nat} : nz x = true ↔ 0 < x := by
  unfold nz
  rw [Bool.not_eq_true', decide_eq_false_iff_not]
  omega
theorem pos3 {a b c : Nat} (h : (nz a && nz b && nz c) = true) : 0 < a * b * c := by
  rw [Bool.and_eq_true, Bool.and_eq_true, nz_pos, nz_pos, nz_pos] at h
  exact Nat.mul_pos (Nat.mul_pos h.1.1 h.1.2) h.2
theorem T3_pos {xr xy xz yr yx yz zr zx zy : Nat} (h1 : (nz xr || nz xy || nz xz) = true) (h2 : (nz yr || nz yx || nz yz) = true) (h3 : (nz zr || nz zx || nz zy) = true) (h4 : (nz xr || nz xz || nz yr || nz yz) = true) (h5 : (nz xr || nz xy || nz zr || nz zy) = true) (h6 : (nz yr || nz yx || nz zr || nz zx) = true) (h7 : (nz xr || nz yr || nz zr) = true) : 0 < T3 xr xy xz yr yx yz zr zx zy := by
  have h := bool3 _ _ _ _ _ _ _ _ _ h1 h2 h3 h4 h5 h6 h7
  clear h1 h2 h3 h4 h5 h6 h7
  unfold T3
  simp only [Bool.or_eq_true] at h
  repeat rw [or_assoc] at h
  rcases h with h | h | h | h | h | h | h | h | h | h | h | h | h | h | h | h <;> (have := pos3 h; omega)
theorem T2_pos {xr xy yr yx : Nat} (h1 : (nz xr || nz xy) = true) (h2 : (nz yr || nz yx) = true) (h3 : (nz xr || nz yr) = true) : 0 < T2 xr xy yr yx := by
  simp only [Bool.or_eq_true, nz_pos] at h1 h2 h3
  unfold T2
  rcases h3 with h | h
  · rcases h2 with k | k
    · have := Nat.mul_pos h k
      omega
    · have := Nat.mul_pos h k
      omega
  · rcases h1 with k | k
    · have := Nat.mul_pos k h
      omega
    · have := Nat.mul_pos h k
      omega
theorem tree4 {E : Nat → Nat → Nat} {r x y z : Nat} (hr : r < 4) (hx : x < 4) (hy : y < 4) (hz : z < 4) (hn : ∀ i, i < 4 → i = r ∨ i = x ∨ i = y ∨ i = z) (d : r ≠ x ∧ r ≠ y ∧ r ≠ z ∧ x ≠ y ∧ x ≠ z ∧ y ≠ z)
    (h : ∀ p, p < 4 → Reach (fun a b => nz (E a b)) 4 p r) : 0 < T3 (E x r) (E x y) (E x z) (E y r) (E y x) (E y z) (E z r) (E z x) (E z y) := by
  obtain ⟨d1, d2, d3, d4, d5, d6⟩ := d
  refine T3_pos ?_ ?_ ?_ ?_ ?_ ?_ ?_
  · obtain ⟨a, b, ha, hb, sa, sb, e⟩ := cut_edge (fun i => decide (i = x)) hx (h x hx) (by simp) (by simp [d1])
    have := hn b hb
    grind
  · obtain ⟨a, b, ha, hb, sa, sb, e⟩ := cut_edge (fun i => decide (i = y)) hy (h y hy) (by simp) (by simp [d2])
    have := hn b hb
    grind
  · obtain ⟨a, b, ha, hb, sa, sb, e⟩ := cut_edge (fun i => decide (i = z)) hz (h z hz) (by simp) (by simp [d3])
    have := hn b hb
    grind
  · obtain ⟨a, b, ha, hb, sa, sb, e⟩ := cut_edge (fun i => decide (i = x ∨ i = y)) hx (h x hx) (by simp) (by simp [d1, d2])
    have := hn b hb
    grind
  · obtain ⟨a, b, ha, hb, sa, sb, e⟩ := cut_edge (fun i => decide (i = x ∨ i = z)) hx (h x hx) (by simp) (by simp [d1, d3])
    have := hn b hb
    grind
  · obtain ⟨a, b, ha, hb, sa, sb, e⟩ := cut_edge (fun i => decide (i = y ∨ i = z)) hy (h y hy) (by simp) (by simp [d2, d3])
    have := hn b hb
    grind
  · obtain ⟨a, b, ha, hb, sa, sb, e⟩ := cut_edge (fun i => decide (i ≠ r)) hx (h x hx) (by simp; omega) (by simp)
    have := hn a ha
    have := hn b hb
    grind
theorem tree3 {E : Nat → Nat → Nat} {r x y : Nat} (hr : r < 3) (hx : x < 3) (hy : y < 3) (hn : ∀ i, i < 3 → i = r ∨ i = x ∨ i = y) (d : r ≠ x ∧ r ≠ y ∧ x ≠ y)
    (h : ∀ p, p < 3 → Reach (fun a b => nz (E a b)) 3 p r) : 0 < T2 (E x r) (E x y) (E y r) (E y x) := by
  obtain ⟨d1, d2, d3⟩ := d
  refine T2_pos ?_ ?_ ?_
  · obtain ⟨a, b, ha, hb, sa, sb, e⟩ := cut_edge (fun i => decide (i = x)) hx (h x hx) (by simp) (by simp [d1])
    have := hn b hb
    grind
  · obtain ⟨a, b, ha, hb, sa, sb, e⟩ := cut_edge (fun i => decide (i = y)) hy (h y hy) (by simp) (by simp [d2])
    have := hn b hb
    grind
  · obtain ⟨a, b, ha, hb, sa, sb, e⟩ := cut_edge (fun i => decide (i ≠ r)) hx (h x hx) (by simp; omega) (by simp)
    have := hn a ha
    have := hn b hb
    grind
theorem tr_pos {n : Nat} {E : Nat → Nat → Nat} (h2 : 2 ≤ n) (h4 : n ≤ 4) (h : ∀ p q, p < n → q < n → Reach (fun a b => nz (E a b)) n p q) {i : Nat} (hi : i < n) : 0 < tr n E i := by
  rcases (show n = 2 ∨ n = 3 ∨ n = 4 by omega) with rfl | rfl | rfl
  · match i, hi with
    | 0, _ =>
      obtain ⟨a, b, ha, hb, sa, sb, e⟩ := cut_edge (fun i => decide (i = 1)) (by decide) (h 1 0 (by decide) (by decide)) (by simp) (by simp)
      show 0 < E 1 0
      have : b = 0 := by simp at sb; omega
      have : a = 1 := by simpa using sa
      subst_vars
      exact nz_pos.mp e
    | 1, _ =>
      obtain ⟨a, b, ha, hb, sa, sb, e⟩ := cut_edge (fun i => decide (i = 0)) (by decide) (h 0 1 (by decide) (by decide)) (by simp) (by simp)
      show 0 < E 0 1
      have : b = 1 := by simp at sb; omega
      have : a = 0 := by simpa using sa
      subst_vars
      exact nz_pos.mp e
  · match i, hi with
    | 0, _ => exact tree3 (r := 0) (x := 1) (y := 2) (by decide) (by decide) (by decide) (fun i hi => by omega) (by decide) fun p hp => h p 0 hp (by decide)
    | 1, _ => exact tree3 (r := 1) (x := 0) (y := 2) (by decide) (by decide) (by decide) (fun i hi => by omega) (by decide) fun p hp => h p 1 hp (by decide)
    | 2, _ => exact tree3 (r := 2) (x := 0) (y := 1) (by decide) (by decide) (by decide) (fun i hi => by omega) (by decide) fun p hp => h p 2 hp (by decide)
  · match i, hi with
    | 0, _ => exact tree4 (r := 0) (x := 1) (y := 2) (z := 3) (by decide) (by decide) (by decide) (by decide) (fun i hi => by omega) (by decide) fun p hp => h p 0 hp (by decide)
    | 1, _ => exact tree4 (r := 1) (x := 0) (y := 2) (z := 3) (by decide) (by decide) (by decide) (by decide) (fun i hi => by omega) (by decide) fun p hp => h p 1 hp (by decide)
    | 2, _ => exact tree4 (r := 2) (x := 0) (y := 1) (z := 3) (by decide) (by decide) (by decide) (by decide) (fun i hi => by omega) (by decide) fun p hp => h p 2 hp (by decide)
    | 3, _ => exact tree4 (r := 3) (x := 0) (y := 1) (z := 2) (by decide) (by decide) (by decide) (by decide) (fun i hi => by omega) (by decide) fun p hp => h p 3 hp (by decide)
/-! small -/
theorem mul3_le {a b c : Nat} (ha : a ≤ 2) (hb : b ≤ 2) (hc : c ≤ 2) : a * b * c ≤ 8 := Nat.mul_le_mul (Nat.mul_le_mul ha hb) hc
theorem T3_le {xr xy xz yr yx yz zr zx zy : Nat} (h1 : xr ≤ 2) (h2 : xy ≤ 2) (h3 : xz ≤ 2) (h4 : yr ≤ 2) (h5 : yx ≤ 2) (h6 : yz ≤ 2) (h7 : zr ≤ 2) (h8 : zx ≤ 2) (h9 : zy ≤ 2) : T3 xr xy xz yr yx yz zr zx zy ≤ 128 := by
  unfold T3
  have := mul3_le h1 h4 h7
  have := mul3_le h1 h4 h8
  have := mul3_le h1 h4 h9
  have := mul3_le h1 h7 h5
  have := mul3_le h1 h7 h6
  have := mul3_le h4 h7 h2
  have := mul3_le h4 h7 h3
  have := mul3_le h1 h5 h8
  have := mul3_le h1 h5 h9
  have := mul3_le h1 h6 h8
  have := mul3_le h4 h2 h9
  have := mul3_le h4 h2 h8
  have := mul3_le h4 h3 h9
  have := mul3_le h7 h3 h6
  have := mul3_le h7 h3 h5
  have := mul3_le h7 h2 h6
  omega
theorem T2_le {xr xy yr yx : Nat} (h1 : xr ≤ 2) (h2 : xy ≤ 2) (h3 : yr ≤ 2) (h4 : yx ≤ 2) : T2 xr xy yr yx ≤ 128 := by
  unfold T2
  have : xr * yr ≤ 2 * 2 := Nat.mul_le_mul h1 h3
  have : xr * yx ≤ 2 * 2 := Nat.mul_le_mul h1 h4
  have : yr * xy ≤ 2 * 2 := Nat.mul_le_mul h3 h2
  omega
theorem tr_le {n : Nat} {E : Nat → Nat → Nat} (h2 : 2 ≤ n) (h4 : n ≤ 4) (h : ∀ p q, p < n → q < n → E p q ≤ 2) {i : Nat} (hi : i < n) : tr n E i ≤ 128 := by
  rcases (show n = 2 ∨ n = 3 ∨ n = 4 by omega) with rfl | rfl | rfl
  · match i, hi with
    | 0, _ => exact Nat.le_trans (h 1 0 (by decide) (by decide)) (by decide)
    | 1, _ => exact Nat.le_trans (h 0 1 (by decide) (by decide)) (by decide)
  · match i, hi with
    | 0, _ => exact T2_le (h _ _ (by decide) (by decide)) (h _ _ (by decide) (by decide)) (h _ _ (by decide) (by decide)) (h _ _ (by decide) (by decide))
    | 1, _ => exact T2_le (h _ _ (by decide) (by decide)) (h _ _ (by decide) (by decide)) (h _ _ (by decide) (by decide)) (h _ _ (by decide) (by decide))
    | 2, _ => exact T2_le (h _ _ (by decide) (by decide)) (h _ _ (by decide) (by decide)) (h _ _ (by decide) (by decide)) (h _ _ (by decide) (by decide))
  · match i, hi with
    | 0, _ => exact T3_le (h _ _ (by decide) (by decide)) (h _ _ (by decide) (by decide)) (h _ _ (by decide) (by decide)) (h _ _ (by decide) (by decide)) (h _ _ (by decide) (by decide)) (h _ _ (by decide) (by decide)) (h _ _ (by decide) (by decide)) (h _ _ (by decide) (by decide)) (h _ _ (by decide) (by decide))
    | 1, _ => exact T3_le (h _ _ (by decide) (by decide)) (h _ _ (by decide) (by decide)) (h _ _ (by decide) (by decide)) (h _ _ (by decide) (by decide)) (h _ _ (by decide) (by decide)) (h _ _ (by decide) (by decide)) (h _ _ (by decide) (by decide)) (h _ _ (by decide) (by decide)) (h _ _ (by decide) (by decide))
    | 2, _ => exact T3_le (h _ _ (by decide) (by decide)) (h _ _ (by decide) (by decide)) (h _ _ (by decide) (by decide)) (h _ _ (by decide) (by decide)) (h _ _ (by decide) (by decide)) (h _ _ (by decide) (by decide)) (h _ _ (by decide) (by decide)) (h _ _ (by decide) (by decide)) (h _ _ (by decide) (by decide))
    | 3, _ => exact T3_le (h _ _ (by decide) (by decide)) (h _ _ (by decide) (by decide)) (h _ _ (by decide) (by decide)) (h _ _ (by decide) (by decide)) (h _ _ (by decide) (by decide)) (h _ _ (by decide) (by decide)) (h _ _ (by decide) (by decide)) (h _ _ (by decide) (by decide)) (h _ _ (by decide) (by decide))
end M
end
section
set_option Elab.async false
set_option linter.all false
set_option maxRecDepth 10000
/-! Trees are kept, and nothing else is. -/
namespace M
def Q3 (xr xy xz yr yx yz zr zx zy : Rat) : Rat :=
  xr * yr * zr + xr * yr * zx + xr * yr * zy + xr * zr * yx + xr * zr * yz + yr * zr * xy + yr * zr * xz
  + xr * yx * zx + xr * yx * zy + xr * yz * zx + yr * xy * zy + yr * xy * zx + yr * xz * zy + zr * xz * yz + zr * xz * yx + zr * xy * yz
def Q2 (xr xy yr yx : Rat) : Rat := xr * yr + xr * yx + yr * xy
theorem T3_cast {xr xy xz yr yx yz zr zx zy : Nat} : ((T3 xr xy xz yr yx yz zr zx zy : Nat) : Rat) = Q3 xr xy xz yr yx yz zr zx zy := by
  unfold T3 Q3
  simp only [Rat.natCast_add, Rat.natCast_mul]
theorem T2_cast {xr xy yr yx : Nat} : ((T2 xr xy yr yx : Nat) : Rat) = Q2 xr xy yr yx := by
  unfold T2 Q2
  simp only [Rat.natCast_add, Rat.natCast_mul]
theorem null4 (rx ry rz xr xy xz yr yx yz zr zx zy : Rat) : Q3 xr xy xz yr yx yz zr zx zy * (rx + ry + rz) = Q3 rx ry rz yx yr yz zx zr zy * xr + Q3 ry rx rz xy xr xz zy zr zx * yr + Q3 rz rx ry xz xr xy yz yr yx * zr := by
  unfold Q3
  grind
theorem null3 (rx ry xr xy yr yx : Rat) : Q2 xr xy yr yx * (rx + ry) = Q2 rx ry yx yr * xr + Q2 ry rx xy xr * yr := by
  unfold Q2
  grind
theorem cram4 {rx ry rz xr xy xz yr yx yz zr zx zy r x y z : Rat} (ex : r * rx + y * yx + z * zx = x * (xr + xy + xz)) (ey : r * ry + x * xy + z * zy = y * (yr + yx + yz)) (ez : r * rz + x * xz + y * yz = z * (zr + zx + zy)) :
    x * Q3 xr xy xz yr yx yz zr zx zy = r * Q3 rx ry rz yx yr yz zx zr zy := by
  have key : x * Q3 xr xy xz yr yx yz zr zx zy - r * Q3 rx ry rz yx yr yz zx zr zy
      = (x * (xr + xy + xz) - (r * rx + y * yx + z * zx)) * ((yr + yx + yz) * (zr + zx + zy) - yz * zy)
        + (y * (yr + yx + yz) - (r * ry + x * xy + z * zy)) * (yx * (zr + zx + zy) + yz * zx)
        + (z * (zr + zx + zy) - (r * rz + x * xz + y * yz)) * (yx * zy + (yr + yx + yz) * zx) := by
    unfold Q3
    grind
  rw [ex, ey, ez] at key
  grind
theorem cram3 {rx ry xr xy yr yx r x y : Rat} (ex : r * rx + y * yx = x * (xr + xy)) (ey : r * ry + x * xy = y * (yr + yx)) :
    x * Q2 xr xy yr yx = r * Q2 rx ry yx yr := by
  have key : x * Q2 xr xy yr yx - r * Q2 rx ry yx yr
      = (x * (xr + xy) - (r * rx + y * yx)) * (yr + yx) + (y * (yr + yx) - (r * ry + x * xy)) * yx := by
    unfold Q2
    grind
  rw [ex, ey] at key
  grind
end M
namespace M
theorem tr_null {n : Nat} {E : Nat → Nat → Nat} (h2 : 2 ≤ n) (h4 : n ≤ 4) {p : Nat} (hp : p < n) : (SR n fun h => ((tr n E h : Nat) : Rat) * ((E h p : Nat) : Rat)) = ((tr n E p : Nat) : Rat) * ((S n (E p) : Nat) : Rat) := by
  rcases (show n = 2 ∨ n = 3 ∨ n = 4 by omega) with rfl | rfl | rfl
  · match p, hp with
    | 0, _ =>
      show (0 + ((E 1 0 : Nat) : Rat) * ((E 0 0 : Nat) : Rat)) + ((E 0 1 : Nat) : Rat) * ((E 1 0 : Nat) : Rat) = ((E 1 0 : Nat) : Rat) * ((0 + E 0 0 + E 0 1 : Nat) : Rat)
      simp only [Rat.natCast_add]
      grind
    | 1, _ =>
      show (0 + ((E 1 0 : Nat) : Rat) * ((E 0 1 : Nat) : Rat)) + ((E 0 1 : Nat) : Rat) * ((E 1 1 : Nat) : Rat) = ((E 0 1 : Nat) : Rat) * ((0 + E 1 0 + E 1 1 : Nat) : Rat)
      simp only [Rat.natCast_add]
      grind
  · match p, hp with
    | 0, _ | 1, _ | 2, _ =>
      simp only [SR, S, tr, Rat.natCast_add, ↓reduceIte, Nat.reduceEqDiff, Nat.reduceAdd, T2_cast, Q2, Nat.one_ne_zero]
      grind
  · match p, hp with
    | 0, _ | 1, _ | 2, _ | 3, _ =>
      simp only [SR, S, tr, Rat.natCast_add, ↓reduceIte, Nat.reduceEqDiff, Nat.reduceAdd, T3_cast, Q3, Nat.one_ne_zero]
      grind
end M
namespace M
theorem Q3_xy {xr xy xz yr yx yz zr zx zy : Rat} : Q3 xr xy xz yr yx yz zr zx zy = Q3 yr yx yz xr xy xz zr zy zx := by
  unfold Q3
  grind
theorem Q3_xz {xr xy xz yr yx yz zr zx zy : Rat} : Q3 xr xy xz yr yx yz zr zx zy = Q3 zr zx zy xr xz xy yr yz yx := by
  unfold Q3
  grind
theorem Q2_xy {xr xy yr yx : Rat} : Q2 xr xy yr yx = Q2 yr yx xr xy := by
  unfold Q2
  grind
theorem tr_uniq {n : Nat} {E : Nat → Nat → Nat} (h2 : 2 ≤ n) (h4 : n ≤ 4) {u : Nat → Rat} (h : ∀ p, p < n → (SR n fun h => u h * ((E h p : Nat) : Rat)) = u p * ((S n (E p) : Nat) : Rat)) {i : Nat} (hi : i < n) : u i * ((tr n E 0 : Nat) : Rat) = u 0 * ((tr n E i : Nat) : Rat) := by
  rcases (show n = 2 ∨ n = 3 ∨ n = 4 by omega) with rfl | rfl | rfl
  · match i, hi with
    | 0, _ => rfl
    | 1, _ =>
      have e := h 1 (by decide)
      simp only [SR, S, Rat.natCast_add, Nat.reduceAdd] at e
      show u 1 * ((E 1 0 : Nat) : Rat) = u 0 * ((E 0 1 : Nat) : Rat)
      grind
  · match i, hi with
    | 0, _ => rfl
    | 1, _ =>
      have e1 := h 1 (by decide)
      have e2 := h 2 (by decide)
      simp only [SR, S, Rat.natCast_add, Nat.reduceAdd] at e1 e2
      show u 1 * ((T2 (E 1 0) (E 1 2) (E 2 0) (E 2 1) : Nat) : Rat) = u 0 * ((T2 (E 0 1) (E 0 2) (E 2 1) (E 2 0) : Nat) : Rat)
      rw [T2_cast, T2_cast]
      exact cram3 (y := u 2) (by grind) (by grind)
    | 2, _ =>
      have e1 := h 1 (by decide)
      have e2 := h 2 (by decide)
      simp only [SR, S, Rat.natCast_add, Nat.reduceAdd] at e1 e2
      show u 2 * ((T2 (E 1 0) (E 1 2) (E 2 0) (E 2 1) : Nat) : Rat) = u 0 * ((T2 (E 0 2) (E 0 1) (E 1 2) (E 1 0) : Nat) : Rat)
      rw [T2_cast, T2_cast, Q2_xy]
      exact cram3 (y := u 1) (by grind) (by grind)
  · match i, hi with
    | 0, _ => rfl
    | 1, _ =>
      have e1 := h 1 (by decide)
      have e2 := h 2 (by decide)
      have e3 := h 3 (by decide)
      simp only [SR, S, Rat.natCast_add, Nat.reduceAdd] at e1 e2 e3
      show u 1 * ((T3 (E 1 0) (E 1 2) (E 1 3) (E 2 0) (E 2 1) (E 2 3) (E 3 0) (E 3 1) (E 3 2) : Nat) : Rat) = u 0 * ((T3 (E 0 1) (E 0 2) (E 0 3) (E 2 1) (E 2 0) (E 2 3) (E 3 1) (E 3 0) (E 3 2) : Nat) : Rat)
      rw [T3_cast, T3_cast]
      exact cram4 (y := u 2) (z := u 3) (by grind) (by grind) (by grind)
    | 2, _ =>
      have e1 := h 1 (by decide)
      have e2 := h 2 (by decide)
      have e3 := h 3 (by decide)
      simp only [SR, S, Rat.natCast_add, Nat.reduceAdd] at e1 e2 e3
      show u 2 * ((T3 (E 1 0) (E 1 2) (E 1 3) (E 2 0) (E 2 1) (E 2 3) (E 3 0) (E 3 1) (E 3 2) : Nat) : Rat) = u 0 * ((T3 (E 0 2) (E 0 1) (E 0 3) (E 1 2) (E 1 0) (E 1 3) (E 3 2) (E 3 0) (E 3 1) : Nat) : Rat)
      rw [T3_cast, T3_cast, Q3_xy]
      exact cram4 (y := u 1) (z := u 3) (by grind) (by grind) (by grind)
    | 3, _ =>
      have e1 := h 1 (by decide)
      have e2 := h 2 (by decide)
      have e3 := h 3 (by decide)
      simp only [SR, S, Rat.natCast_add, Nat.reduceAdd] at e1 e2 e3
      show u 3 * ((T3 (E 1 0) (E 1 2) (E 1 3) (E 2 0) (E 2 1) (E 2 3) (E 3 0) (E 3 1) (E 3 2) : Nat) : Rat) = u 0 * ((T3 (E 0 3) (E 0 1) (E 0 2) (E 1 3) (E 1 0) (E 1 2) (E 2 3) (E 2 0) (E 2 1) : Nat) : Rat)
      rw [T3_cast, T3_cast, Q3_xz]
      exact cram4 (y := u 1) (z := u 2) (by grind) (by grind) (by grind)
end M
end
section
set_option Elab.async false
set_option linter.all false
/-! The only shares of whole rows. -/
namespace M
/-- drawn rows, all reached -/
structure Wh (n : Nat) (flow : List (List Nat)) : Prop extends Box n flow where
  lo : 2 ≤ n
  hi : n ≤ 4
  pos : ∀ p, p < n → 0 < out n flow p
  le : ∀ p q, p < n → q < n → ent flow p q ≤ 2
  all : ∀ p q, p < n → q < n → Reach (fun a b => nz (ent flow a b)) n p q
section
variable {n : Nat} {flow : List (List Nat)}
theorem rows_len (b : Box n flow) : (rowsOf flow).length = n := by
  unfold rowsOf
  rw [List.length_map, b.len]
theorem rows_at (b : Box n flow) {h p : Nat} (hh : h < n) (hp : p < n) : ((rowsOf flow).getD h []).getD p 0 = ((ent flow h p : Nat) : Rat) / ((out n flow h : Nat) : Rat) := by
  rw [rows_get (by rw [b.len]; exact hh) (by rw [b.row hh]; exact hp), row_sum b hh]
  rfl
def cc (flow : List (List Nat)) (i : Nat) : Rat := ((onlyAt flow i : Int) : Rat)
theorem Wh.tr (w : Wh n flow) {i : Nat} (hi : i < n) : cc flow i = ((out n flow i : Nat) : Rat) * ((M.tr n (ent flow) i : Nat) : Rat) := by
  unfold cc
  rw [only_tr w.toBox w.lo w.hi hi, Rat.intCast_mul, Rat.intCast_natCast, Rat.intCast_natCast]
theorem out_le (w : Wh n flow) {i : Nat} (hi : i < n) : out n flow i ≤ 8 := by
  have : S n (ent flow i) ≤ n * 2 := S_bd fun q hq => w.le i q hi hq
  have := w.hi
  unfold out
  omega
theorem Wh.at_pos (w : Wh n flow) {i : Nat} (hi : i < n) : 0 < onlyAt flow i ∧ onlyAt flow i ≤ 1024 := by
  rw [only_tr w.toBox w.lo w.hi hi]
  have h1 := w.pos i hi
  have h2 := tr_pos w.lo w.hi w.all hi
  have h3 := out_le w hi
  have h4 := tr_le w.lo w.hi w.le hi
  have h5 := Nat.mul_pos h1 h2
  have h6 : out n flow i * M.tr n (ent flow) i ≤ 8 * 128 := Nat.mul_le_mul h3 h4
  omega
theorem Wh.cpos (w : Wh n flow) {i : Nat} (hi : i < n) : 0 < cc flow i := by
  unfold cc
  have := (w.at_pos hi).1
  exact_mod_cast this
theorem null_iff (b : Box n flow) {x : Nat → Rat} : Null n (rowsOf flow) x ↔ ∀ p, p < n → (SR n fun h => (x h / ((out n flow h : Nat) : Rat)) * ((ent flow h p : Nat) : Rat)) = x p := by
  unfold Null
  have key : ∀ p, p < n → (SR n fun h => (((rowsOf flow).getD h []).getD p 0 - if h = p then 1 else 0) * x h) = (SR n fun h => (x h / ((out n flow h : Nat) : Rat)) * ((ent flow h p : Nat) : Rat)) - x p := fun p hp => by
    have e1 : (SR n fun h => (((rowsOf flow).getD h []).getD p 0 - if h = p then 1 else 0) * x h) = SR n fun h => 1 * ((x h / ((out n flow h : Nat) : Rat)) * ((ent flow h p : Nat) : Rat)) - 1 * ((if h = p then 1 else 0) * x h) := SR_congr fun h hh => by
      rw [rows_at b hh hp, Rat.div_def, Rat.div_def]
      grind
    have e2 : (SR n fun h => (if h = p then (1 : Rat) else 0) * x h) = x p := by
      rw [SR_at (a := p) hp fun i _ hne => by rw [if_neg hne, Rat.zero_mul], if_pos rfl, Rat.one_mul]
    rw [e1, SR_lin, e2, Rat.one_mul, Rat.one_mul]
  constructor
  · intro h p hp
    have := h p hp
    rw [key p hp] at this
    grind
  · intro h p hp
    rw [key p hp, h p hp]
    grind
theorem Wh.null (w : Wh n flow) : Null n (rowsOf flow) (cc flow) := (null_iff w.toBox).mpr fun p hp => by
  rw [w.tr hp]
  have e : (SR n fun h => (cc flow h / ((out n flow h : Nat) : Rat)) * ((ent flow h p : Nat) : Rat)) = SR n fun h => ((M.tr n (ent flow) h : Nat) : Rat) * ((ent flow h p : Nat) : Rat) := SR_congr fun h hh => by
    rw [w.tr hh]
    have := cast_ne (w.pos h hh)
    grind
  rw [e, tr_null w.lo w.hi hp]
  show _ * ((out n flow p : Nat) : Rat) = _
  exact Rat.mul_comm _ _
theorem Wh.uniq (w : Wh n flow) {x : Nat → Rat} (hx : Null n (rowsOf flow) x) {i : Nat} (hi : i < n) : x i * cc flow 0 = x 0 * cc flow i := by
  have h0 : 0 < n := by have := w.lo; omega
  have h := (null_iff w.toBox).mp hx
  have e := tr_uniq w.lo w.hi (E := ent flow) (u := fun h => x h / ((out n flow h : Nat) : Rat)) (fun p hp => by
    refine (h p hp).trans ?_
    show x p = x p / ((out n flow p : Nat) : Rat) * ((out n flow p : Nat) : Rat)
    have := cast_ne (w.pos p hp)
    grind) hi
  rw [w.tr h0, w.tr hi]
  have n0 := cast_ne (w.pos 0 h0)
  have ni := cast_ne (w.pos i hi)
  grind
theorem Wh.kernel (w : Wh n flow) : (kernelFound (columns (rowsOf flow)) n).length = 1 ∧ kernelOf (columns (rowsOf flow)) n = [(List.range n).map fun i => cc flow i / cc flow 0] :=
  kernel_is (rows_len w.toBox) (by have := w.lo; omega) (fun i hi => w.cpos hi) w.null fun x hx i hi => w.uniq hx hi
theorem sum_int {f : Nat → Int} : ∀ {n : Nat}, ((((List.range n).map f).sum : Int) : Rat) = SR n fun i => ((f i : Int) : Rat)
  | 0 => rfl
  | n + 1 => by
    show _ = SR n (fun i => ((f i : Int) : Rat)) + ((f n : Int) : Rat)
    rw [List.range_succ, List.map_append, List.sum_append, Rat.intCast_add, sum_int]
    simp
theorem Wh.sumpos (w : Wh n flow) : 0 < SR n (cc flow) := SR_pos (by have := w.lo; omega) fun i hi => w.cpos hi
theorem Wh.onlys (w : Wh n flow) : (((onlys flow).sum : Int) : Rat) = SR n (cc flow) := by
  unfold M.onlys
  rw [w.len, sum_int]
  rfl
theorem sum_le_int {f : Nat → Int} {b : Int} : ∀ {n : Nat}, (∀ i, i < n → f i ≤ b) → ((List.range n).map f).sum ≤ n * b
  | 0, _ => by simp
  | n + 1, h => by
    rw [List.range_succ, List.map_append, List.sum_append]
    have h1 := sum_le_int (n := n) fun i hi => h i (by omega)
    have h2 := h n (by omega)
    have e : ((n + 1 : Nat) : Int) * b = (n : Int) * b + b := by
      rw [Int.natCast_add, Int.add_mul]
      simp
    rw [e]
    simp
    omega
theorem Wh.sum (w : Wh n flow) : 0 < (M.onlys flow).sum ∧ (M.onlys flow).sum ≤ 4096 := by
  constructor
  · have h := w.sumpos
    rw [← w.onlys] at h
    exact_mod_cast h
  · unfold M.onlys
    rw [w.len]
    have := sum_le_int (n := n) (f := onlyAt flow) (b := 1024) fun i hi => (w.at_pos hi).2
    have := w.hi
    omega
theorem Wh.only (w : Wh n flow) : only flow = (List.range n).map fun i => cc flow i / SR n (cc flow) := by
  unfold M.only
  rw [← w.onlys]
  show (M.onlys flow).map _ = _
  conv => lhs; rw [show M.onlys flow = (List.range n).map (onlyAt flow) by unfold M.onlys; rw [w.len]]
  rw [List.map_map]
  refine List.map_congr_left fun i _ => ?_
  show mkRat (onlyAt flow i) _ = _
  rw [show ((List.range n).map (onlyAt flow)) = M.onlys flow by unfold M.onlys; rw [w.len], mk_int w.sum.1]
  rfl
theorem Wh.same (w : Wh n flow) : onlyShares (rowsOf flow) = M.only flow := by
  rw [w.only]
  exact only_is (rows_len w.toBox) (by have := w.lo; omega) (fun i hi => w.cpos hi) w.kernel.2
theorem Wh.len_only (w : Wh n flow) : (M.only flow).length = n := by
  rw [w.only, List.length_map, List.length_range]
theorem Wh.kept (w : Wh n flow) : led (M.only flow) (rowsOf flow) = M.only flow := by
  have l1 := rows_len w.toBox
  rw [led_get (by rw [w.len_only, l1]), l1]
  conv => rhs; rw [w.only]
  refine List.map_congr_left fun p hp => ?_
  have hp := List.mem_range.mp hp
  have e : (SR n fun i => (M.only flow).getD i 0 * ((rowsOf flow).getD i []).getD p 0) = SR n fun i => ((cc flow i / ((out n flow i : Nat) : Rat)) * ((ent flow i p : Nat) : Rat)) / SR n (cc flow) := SR_congr fun i hi => by
    rw [w.only, getD_range hi, rows_at w.toBox hi hp, Rat.div_def, Rat.div_def, Rat.div_def, Rat.div_def]
    grind
  rw [e, SR_div, (null_iff w.toBox).mp w.null p hp]
theorem Wh.total (w : Wh n flow) : M.total (M.only flow) = 1 := by
  rw [w.only, total_range, SR_div, Rat.div_def]
  exact Rat.mul_inv_cancel _ (pos_ne w.sumpos)
end
end M
end
section
set_option Elab.async false
set_option linter.all false
set_option exponentiation.threshold 20000
set_option maxRecDepth 100000
set_option maxHeartbeats 2000000
/-! The rest of ratios; the solving part up to the steps. -/
namespace Z
open PySem PySem.Spec PyProof.Rows L2
abbrev tIs (ns : List Int) : Ty := tL (ns.map tI)
abbrev tII (rows : List (List Int)) : Ty := tL (rows.map tIs)
abbrev tRs (K : PySem.W.Frag) (qs : List Rat) : Ty := tL (qs.map (tR K))
abbrev tRR (K : PySem.W.Frag) (rows : List (List Rat)) : Ty := tL (rows.map (tRs K))
abbrev tRt (K : PySem.W.Frag) (qs : List Rat) : Ty := tT (qs.map (tR K))
abbrev tRtt (K : PySem.W.Frag) (rows : List (List Rat)) : Ty := tT (rows.map (tRt K))
abbrev tRq (K : PySem.W.Frag) (qs : List Rat) : Ty := tQ (qs.map (tR K))
theorem Has.q {X : Cx} {Γ : Ctx} {e : Expr} {ts : List Ty} (h : Has X Γ e (tL ts)) : Has X Γ e (tQ ts) := h.imp fun _ _ => .inl
theorem Has.qT {X : Cx} {Γ : Ctx} {e : Expr} {ts : List Ty} (h : Has X Γ e (tT ts)) : Has X Γ e (tQ ts) := h.imp fun _ _ => .inr
/-! lcm -/
theorem pow_le_log {k n : Nat} (h : n < 2 ^ k) (hk : 0 < k) : n.log2 < k := by
  by_cases z : n = 0
  · rw [z]
    simpa using hk
  · exact (Nat.log2_lt z).mpr h
theorem lcm_le {a b : Nat} (ha : 0 < a) (hb : 0 < b) : Nat.lcm a b ≤ a * b := Nat.le_of_dvd (Nat.mul_pos ha hb) (Nat.lcm_dvd (Nat.dvd_mul_right _ _) (Nat.dvd_mul_left _ _))
theorem ct_lcm {X : Cx} {a b : Nat} (ha : 0 < a) (hb : 0 < b) (ha2 : a < 2 ^ 6000) (hb2 : b < 2 ^ 6000) : CallT X (.builtin "math.lcm") [tI (a : Int), tI (b : Int)] (tI ((Nat.lcm a b : Nat) : Int)) := by
  refine ⟨fun vs H Q => vs = [.int (a : Int), .int (b : Int)] ∧ Q (.int ((Nat.lcm a b : Nat) : Int)) H, fun pins s σ H vs us Q I r h => ?_, fun vs K H s hv Q q => ?_⟩
  · obtain ⟨rfl, q⟩ := h
    obtain ⟨t, u, rfl⟩ := Vals.int2 r
    have e : (((Nat.lcm 1 (a : Int).natAbs).lcm (b : Int).natAbs : Nat) : Int) = ((Nat.lcm a b : Nat) : Int) := by
      rw [Int.natAbs_natCast, Int.natAbs_natCast, Nat.lcm_one_left]
    have h1 : (max 1 (a : Int).natAbs).log2 < 6001 := pow_le_log (by
      rw [Int.natAbs_natCast]
      have : (1 : Nat) < 2 ^ 6001 := Nat.one_lt_two_pow (by decide)
      have : (2 : Nat) ^ 6000 < 2 ^ 6001 := Nat.pow_lt_pow_right (by decide) (by decide)
      omega) (by decide)
    have h2 : (max (a : Int).natAbs (b : Int).natAbs).log2 < 6000 := pow_le_log (by
      rw [Int.natAbs_natCast, Int.natAbs_natCast]
      omega) (by decide)
    have h3 : (((Nat.lcm a b : Nat) : Int)).natAbs.log2 < 12000 := pow_le_log (by
      rw [Int.natAbs_natCast]
      exact Nat.lt_of_le_of_lt (lcm_le ha hb) (bdn ha2 hb2)) (by decide)
    refine PySem.call_function_meets PySem.W.MGF.kind_lcm PySem.W.MGF.plain_lcm PySem.W.MGF.entry_lcm (PySem.W.MGF.args_lcm _ _) (PySem.W.mg_run_lcm (a : Int) t (b : Int) u (by omega) (by omega) (by
      rw [e, bitsLine_eq]
      omega)).meets ?_
    rw [e]
    exact ⟨.int _, H, I.tok _, ⟨_, rfl⟩, q⟩
  · obtain ⟨v, w, rfl, e, e2⟩ := hv.two
    have e' : v = .int (a : Int) := e
    have e2' : w = .int (b : Int) := e2
    subst e' e2'
    exact ⟨rfl, q _ K H (Gr.refl s) rfl⟩
section
variable {P : Program} {w : World} {K : PySem.W.Frag} {mg : Str → Option Value} {base : Heap}
/-- is_integer of a rational -/
abbrev sIsI2 (K : PySem.W.Frag) : Sp := Spt (α := Rat) (fun _ => True) (fun q => [tR K q]) fun _ => tB false
theorem f_is_integerR (T : Tx K mg) : Cal P w K mg base "is_integer" 1 (sIsI2 K) :=
  T.cal 0 rfl (C8.fnScope_by (N := ["value"]) (P := ["value"]) (by decide +kernel)) (fun _ => rfl) (fun _ _ _ _ _ _ us hl => match us, hl with | [_], _ => rfl) fun nd i _ b r Kb Hb D _ hD =>
    bl_ret (has_and (l := false) (k_isi T (has_var 0) (has_ty (T.f 5) b_int) (.ty _) (hty_R T) T.kitR) fun h => by cases h) fun v K' H' g _ h => hD v K' H' g h
theorem f_is_number (T : Tx K mg) : Cal P w K mg base "is_number" 2 (Spt (α := Rat) (fun _ => True) (fun q => [tR K q]) fun _ => tB true) :=
  T.cal 4 rfl (C8.fnScope_by (N := ["value"]) (P := ["value"]) (by decide +kernel)) (fun _ => rfl) (fun _ _ _ _ _ _ us hl => match us, hl with | [_], _ => rfl) fun nd i _ b r Kb Hb D _ hD =>
    bl_ret (has_or (has_call (f_is_integerR T) i trivial (hasa_cons (has_var 0) hasa_nil) r) fun _ => has_one (k_isR T (a := .r i) (has_var 0))) fun v K' H' g _ h => hD v K' H' g h
theorem f_ratio_of (T : Tx K mg) : Cal P w K mg base "ratio_of" 1 (Spt (α := Rat) (fun _ => True) (fun q => [tR K q]) fun q => tR K q) :=
  T.cal 5 rfl (C8.fnScope_by (N := ["number"]) (P := ["number"]) (by decide +kernel)) (fun _ => rfl) (fun _ _ _ _ _ _ us hl => match us, hl with | [_], _ => rfl) fun nd i _ b r Kb Hb D _ hD =>
    bl_ret (has_if (hast_val (k_isR T (a := .r i) (has_var 0))) (fun _ => has_var 0) fun h => by cases h) fun v K' H' g _ h => hD v K' H' g h
/-! wholes -/
def SzL (k : Nat) (qs : List Rat) : Prop := ∀ q ∈ qs, Sz k q
abbrev lcmsT (qs : List Rat) (i : Nat) : Nat := (qs.take i).foldl (fun b q => Nat.lcm b q.den) 1
theorem lcmsT_succ {qs : List Rat} {i : Nat} {d : Rat} (h : qs[i]? = some d) : lcmsT qs (i + 1) = Nat.lcm (lcmsT qs i) d.den := by
  unfold lcmsT
  rw [List.take_add_one, h, List.foldl_append]
  rfl
theorem lcmsT_ok {qs : List Rat} {k : Nat} (hk : 0 < k) (h : SzL k qs) : ∀ i, i ≤ qs.length → 0 < lcmsT qs i ∧ lcmsT qs i < 2 ^ (k * i + 1)
  | 0, _ => ⟨Nat.one_pos, Nat.one_lt_two_pow (by omega)⟩
  | i + 1, hi => by
    have e : qs[i]? = some qs[i] := List.getElem?_eq_getElem (by omega)
    rw [lcmsT_succ e]
    obtain ⟨h1, h2⟩ := lcmsT_ok hk h i (by omega)
    have z := h qs[i] (List.getElem_mem (by omega))
    refine ⟨Nat.lcm_pos h1 qs[i].den_pos, Nat.lt_of_le_of_lt (lcm_le h1 qs[i].den_pos) ?_⟩
    have := bdn h2 z.2
    rw [show k * (i + 1) + 1 = k * i + 1 + k by rw [Nat.mul_succ]; omega]
    exact this
theorem lcmsT_end {qs : List Rat} : lcmsT qs qs.length = M.lcms qs := by
  unfold lcmsT M.lcms
  rw [List.take_length]
def pWh (qs : List Rat) : Prop := qs.length ≤ 8 ∧ SzL 400 qs
theorem f_wholes (T : Tx K mg) : Cal P w K mg base "wholes" 1 (Spt (α := List Rat) pWh (fun qs => [tRs K qs]) fun qs => tT [tI (M.lcms qs : Int), tIs (M.wholes qs)]) :=
  T.cal 6 rfl (C8.fnScope_by (N := ["ratios", "bottom", "ratio"]) (P := ["ratios"]) (by decide +kernel)) (fun _ => rfl) (fun _ _ _ _ _ _ us hl => match us, hl with | [_], _ => rfl) fun nd qs pq b r Kb Hb D _ hD => by
    refine bl_asg 1 has_int ?_ nd
    refine bl_for (src_list (F := tR K) (j := 2) (has_var 0)) (pg_1 nd) (fun i => [some (tRs K qs), some (tI (lcmsT qs i : Int)), none]) (fun _ => mNone) ⟨fun _ _ h => h, fun _ _ h => h, trivial⟩ (fun _ _ h => h) (fun i d hd K1 up => ?_) ?_
    · have hi : i < qs.length := (List.getElem?_eq_some_iff.mp hd).1
      obtain ⟨l1, l2⟩ := lcmsT_ok (by decide) pq.2 i (Nat.le_of_lt hi)
      have z := pq.2 d (List.mem_of_getElem? hd)
      have hp := pq.1
      have e1 : lcmsT qs i < 2 ^ 6000 := Nat.lt_of_lt_of_le l2 (Nat.pow_le_pow_right (by decide) (by omega))
      have e2 : d.den < 2 ^ 6000 := Nat.lt_of_lt_of_le z.2 (Nat.pow_le_pow_right (by decide) (by decide))
      refine bl_asg 1 (has_callBf (ct_lcm l1 d.den_pos e1 e2) T.lcm (hasa_cons (has_var 1) (hasa_cons (k_bot T (has_var 2)) hasa_nil))) ?_ nd
      refine bl_nil fun σ H s => s.sub ⟨fun _ _ h => h, ?_, trivial⟩ fun _ _ h => h
      rw [lcmsT_succ hd]
      exact fun _ _ h => h
    · obtain ⟨l1, l2⟩ := lcmsT_ok (by decide) pq.2 qs.length (Nat.le_refl _)
      rw [lcmsT_end] at l1 l2
      have hp := pq.1
      refine bl_ret (has_tup (hasa_cons (has_var 1) (hasa_cons (has_lc [("ratio", 2)] (src_list (F := tR K) (j := 2) (has_var 0)) (fun q => tI (q.num * ((M.lcms qs : Int) / (q.den : Int)))) (fun q hq s H C cl fp => ?_) (by omega) nd (fun s H C cl fp => pg_1 nd)) hasa_nil)) (by simp)) fun v K' H' g _ h => hD v K' H' g ?_
      · have z := pq.2 q hq
        have dp := q.den_pos
        have ld := z.den.log (by decide)
        refine has_op (k_top T (has_var 2)) (has_op ((has_var 1).is (by rw [lcmsT_end])) (k_bot T (has_var 2)) (bt_fdiv ⟨by omega, by omega⟩)) (bt_mul ?_)
        refine z.1.mulW (k := 4000) ?_ (by decide)
        unfold Bd
        have e : ((M.lcms qs : Int) / (q.den : Int)).natAbs = M.lcms qs / q.den := by
          rw [← Int.natCast_ediv, Int.natAbs_natCast]
        rw [e]
        exact Nat.lt_of_le_of_lt (Nat.div_le_self _ _) (Nat.lt_of_lt_of_le l2 (Nat.pow_le_pow_right (by decide) (by omega)))
      · unfold tIs M.wholes
        rw [List.map_map]
        rw [lcmsT_end] at h
        exact h
/-! sums -/
abbrev totT (qs : List Rat) (i : Nat) : Rat := (qs.take i).foldl (· + ·) 0
theorem totT_succ {qs : List Rat} {i : Nat} {d : Rat} (h : qs[i]? = some d) : totT qs (i + 1) = totT qs i + d := by
  unfold totT
  rw [List.take_add_one, h, List.foldl_append]
  rfl
theorem sz0 {k : Nat} (hk : 0 < k) : Sz k 0 := ⟨by unfold Bd; exact Nat.pow_pos (by decide), Nat.one_lt_two_pow (by omega)⟩
theorem totT_ok {qs : List Rat} {k : Nat} (h : SzL k qs) : ∀ i, i ≤ qs.length → Sz ((k + 1) * i + 1) (totT qs i)
  | 0, _ => sz0 (by omega)
  | i + 1, hi => by
    have e : qs[i]? = some qs[i] := List.getElem?_eq_getElem (by omega)
    rw [totT_succ e]
    have z := h qs[i] (List.getElem_mem (by omega))
    have := (totT_ok h i (by omega)).add z
    rw [show (k + 1) * (i + 1) + 1 = (k + 1) * i + 1 + k + 1 by rw [Nat.mul_succ]; omega]
    exact this
theorem totT_end {qs : List Rat} : totT qs qs.length = M.total qs := by
  unfold totT M.total
  rw [List.take_length]
def pTo (qs : List Rat) : Prop := qs.length ≤ 8 ∧ SzL 400 qs
theorem ratAdd (T : Tx K mg) {X : Cx} {a b : Rat} (F : Met X.prog X.w X.K X.mg X.base "Ratio" "__add__" 4 ["self", "other"] (Spt (α := Rat × Nm) pOp (fun a => [tR X.K a.1, tN X.K a.2]) fun a => tR X.K (a.1 + a.2.q))) (T2 : Tx X.K X.mg) (hr : Room 4 X.A) (ha : Sz 4000 a) (hb : Sz 4000 b) : BinT X .Add (tR X.K a) (tR X.K b) (tR X.K (a + b)) := by
  obtain ⟨fd, G, bd⟩ := F.ex
  exact bin_own (nm := "__add__") rfl ⟨F.me.at_, F.me.fn, T2.selfR⟩ G bd hr (a, Nm.r b) ⟨ha, hb⟩ rfl
end
end Z
end
section
set_option Elab.async false
set_option linter.all false
set_option exponentiation.threshold 20000
set_option maxRecDepth 100000
set_option maxHeartbeats 2000000
namespace Z
open PySem PySem.Spec PyProof.Rows L2
section
variable {P : Program} {w : World} {K : PySem.W.Frag} {mg : Str → Option Value} {base : Heap}
theorem bt_ratAdd {X : Cx} (T : Tx X.K X.mg) {a b : Rat} (hr : Room 4 X.A) (ha : Sz 4000 a) (hb : Sz 4000 b) : BinT X .Add (tR X.K a) (tR X.K b) (tR X.K (a + b)) := by
  have F := f_add (P := X.prog) (w := X.w) (base := X.base) T
  obtain ⟨fd, G, bd⟩ := F.ex
  exact bin_own (nm := "__add__") rfl ⟨F.me.at_, F.me.fn, T.selfR⟩ G bd hr (a, Nm.r b) ⟨ha, hb⟩ rfl
theorem bt_ratMul {X : Cx} (T : Tx X.K X.mg) {a b : Rat} (hr : Room 4 X.A) (ha : Sz 4000 a) (hb : Sz 4000 b) : BinT X .Mult (tR X.K a) (tR X.K b) (tR X.K (a * b)) := by
  have F := f_mul (P := X.prog) (w := X.w) (base := X.base) T
  obtain ⟨fd, G, bd⟩ := F.ex
  exact bin_own (nm := "__mul__") rfl ⟨F.me.at_, F.me.fn, T.selfR⟩ G bd hr (a, Nm.r b) ⟨ha, hb⟩ rfl
theorem bt_ratSub {X : Cx} (T : Tx X.K X.mg) {a b : Rat} (hr : Room 4 X.A) (ha : Sz 4000 a) (hb : Sz 4000 b) : BinT X .Sub (tR X.K a) (tR X.K b) (tR X.K (a - b)) := by
  have F := f_sub (P := X.prog) (w := X.w) (base := X.base) T
  obtain ⟨fd, G, bd⟩ := F.ex
  exact bin_own (nm := "__sub__") rfl ⟨F.me.at_, F.me.fn, T.selfR⟩ G bd hr (a, Nm.r b) ⟨ha, hb⟩ rfl
theorem bt_ratSubI {X : Cx} (T : Tx X.K X.mg) {a : Rat} {i : Int} (hr : Room 4 X.A) (ha : Sz 4000 a) (hb : Sz 4000 (i : Rat)) : BinT X .Sub (tR X.K a) (tI i) (tR X.K (a - i)) := by
  have F := f_sub (P := X.prog) (w := X.w) (base := X.base) T
  obtain ⟨fd, G, bd⟩ := F.ex
  obtain ⟨g1, e1⟩ := T.rsub
  obtain ⟨g2, e2⟩ := T.isub
  obtain ⟨g3, e3⟩ := T.irsub
  exact bin_ownI (op := .Sub) (C := ca X.K "Ratio") (f := He.ma X.K (ca X.K "Ratio") "__sub__") (nm := "__sub__") (fo := g2) (ro := g3) (rc := some (.ref g1)) (by rfl) ⟨F.me.at_, F.me.fn, T.selfR⟩ e1 (.inr ⟨g1, rfl⟩) e2 e3 T.subI G bd hr (a, Nm.i i) ⟨ha, hb⟩ rfl
theorem un_ratNeg {X : Cx} (T : Tx X.K X.mg) {a : Rat} (hr : Room 4 X.A) (ha : Sz 4000 a) : UnT X .USub (tR X.K a) (tR X.K (-a)) := by
  have F := f_neg (P := X.prog) (w := X.w) (base := X.base) T
  obtain ⟨fd, G, bd⟩ := F.ex
  exact neg_own ⟨F.me.at_, F.me.fn, T.selfR⟩ G bd hr a ha rfl
theorem Bl.nxt {X : Cx} {Kb Hb : Hp} {Γ Γ' : Ctx} {M M' : Mt} {D : Ends} (h : ∀ σ H, Stt Kb Hb Γ' M' σ H → D.nx σ H) (k : Sub2 Γ Γ') (m : ∀ K H, M.p K H → M'.p K H) : Bl X Kb Hb Γ M [] D := bl_nil fun σ H s => h σ H (s.sub k m)
theorem f_total_of (T : Tx K mg) : Cal P w K mg base "total_of" 5 (Spt (α := List Rat) pTo (fun qs => [tRq K qs]) fun qs => tR K (M.total qs)) :=
  T.cal 7 rfl (C8.fnScope_by (N := ["ratios", "found", "ratio"]) (P := ["ratios"]) (by decide +kernel)) (fun _ => rfl) (fun _ _ _ _ _ _ us hl => match us, hl with | [_], _ => rfl) fun nd qs pq b r Kb Hb D _ hD => by
    have hp := pq.1
    refine bl_asg 1 (k_Ratio1 T 0 has_int (r.mono (by decide))) ?_ nd
    refine bl_for (src_seq (F := tR K) (j := 2) 0) (pg_1 nd) (fun i => [some (tRq K qs), some (tR K (totT qs i)), none]) (fun _ => mNone) ⟨fun _ _ h => h, fun _ _ h => h, trivial⟩ (fun _ _ h => h) (fun i d hd K1 up => ?_) ?_
    · have hi : i < qs.length := (List.getElem?_eq_some_iff.mp hd).1
      have z := pq.2 d (List.mem_of_getElem? hd)
      have y := totT_ok pq.2 i (Nat.le_of_lt hi)
      refine bl_asg 1 (has_op (has_var 1) (has_var 2) (bt_ratAdd T r (y.mono (by omega)) (z.mono (by omega)))) ?_ nd
      refine Bl.nxt (fun _ _ h => h) ⟨fun _ _ h => h, ?_, trivial⟩ fun _ _ h => h
      rw [totT_succ hd]
      exact fun _ _ h => h
    · exact bl_ret ((has_var 1).is (by rw [totT_end])) fun v K' H' g _ h => hD v K' H' g h
def pInts (rows : List (List Rat)) : Prop := rows.length ≤ 8 ∧ ∀ r ∈ rows, pWh r
theorem f_ints_of (T : Tx K mg) : Cal P w K mg base "ints_of" 2 (Spt (α := List (List Rat)) pInts (fun rows => [tRR K rows]) fun rows => tII (rows.map M.wholes)) :=
  T.cal 8 rfl (C8.fnScope_by (N := ["rows", "row"]) (P := ["rows"]) (by decide +kernel)) (fun _ => rfl) (fun _ _ _ _ _ _ us hl => match us, hl with | [_], _ => rfl) fun nd rows pq b r Kb Hb D _ hD => by
    have hp := pq.1
    refine bl_ret (has_lc [("row", 1)] (src_list (F := tRs K) (j := 1) (has_var 0)) (fun q => tIs (M.wholes q)) (fun q hq s H C cl fp => has_ix (has_call (f_wholes T) q (pq.2 q hq) (hasa_cons (has_var 1) hasa_nil) r) has_int (ix_T (k := 1) rfl)) (by omega) nd (fun s H C cl fp => pg_1 nd)) fun v K' H' g _ h => hD v K' H' g ?_
    show (tL ((rows.map M.wholes).map tIs)).p v K'
    rw [List.map_map]
    exact h
/-! rows of whole numbers -/
abbrev comT (row : List Int) (i : Nat) : Nat := (row.take i).foldl (fun c n => if n = 0 then c else Int.gcd c n) 0
theorem comT_succ {row : List Int} {i : Nat} {d : Int} (h : row[i]? = some d) : comT row (i + 1) = if d = 0 then comT row i else Int.gcd (comT row i) d := by
  unfold comT
  rw [List.take_add_one, h, List.foldl_append]
  rfl
theorem comT_end {row : List Int} : comT row row.length = M.common row := by
  unfold comT M.common
  rw [List.take_length]
theorem com_bd {row : List Int} {k : Nat} (h : M.BdL k row) (h1 : 1 < M.common row) : M.common row < 2 ^ k := by
  have : ∃ x ∈ row, x ≠ 0 := Classical.byContradiction fun z => by
    have all0 : ∀ x ∈ row, x = 0 := fun x hx => Classical.byContradiction fun y => z ⟨x, hx, y⟩
    have : ∀ (l : List Int), (∀ x ∈ l, x = 0) → l.foldl (fun c n => if n = 0 then c else Int.gcd c n) 0 = 0 := fun l => by
      induction l with
      | nil => exact fun _ => rfl
      | cons a l ih =>
        intro hl
        rw [List.foldl_cons, if_pos (hl a List.mem_cons_self)]
        exact ih fun x hx => hl x (List.mem_cons_of_mem _ hx)
    have e : M.common row = 0 := this row all0
    omega
  obtain ⟨x, hx, x0⟩ := this
  have d := M.common_dvd x hx
  have b := h x hx
  unfold M.Bd at b
  have : M.common row ≤ x.natAbs := Nat.le_of_dvd (Int.natAbs_pos.mpr x0) (by
    have := Int.natAbs_dvd_natAbs.mpr d
    rwa [Int.natAbs_natCast] at this)
  omega
def pBare (row : List Int) : Prop := row.length ≤ 8 ∧ M.BdL 8000 row
theorem f_bare_row (T : Tx K mg) : Cal P w K mg base "bare_row" 2 (Spt (α := List Int) pBare (fun row => [tIs row]) fun row => tIs (M.bare row)) :=
  T.cal 9 rfl (C8.fnScope_by (N := ["row", "common", "number"]) (P := ["row"]) (by decide +kernel)) (fun _ => rfl) (fun _ _ _ _ _ _ us hl => match us, hl with | [_], _ => rfl) fun nd row pq b r Kb Hb D _ hD => by
    have hp := pq.1
    refine bl_asg 1 has_int ?_ nd
    refine bl_for (src_list (F := tI) (j := 2) (has_var 0)) (pg_1 nd) (fun i => [some (tIs row), some (tI (comT row i : Int)), none]) (fun _ => mNone) ⟨fun _ _ h => h, fun _ _ h => h, trivial⟩ (fun _ _ h => h) (fun i d hd K1 up => ?_) ?_
    · refine bl_if (hast_cmp (has_var 2) has_int ct_neI) (fun h => ?_) fun h => bl_fall ?_
      · have d0 : d ≠ 0 := by simpa using h
        refine bl_asg 1 (has_call (f_divisor_of T) ((comT row i : Int), d) trivial (hasa_cons (has_var 1) (hasa_cons (has_var 2) hasa_nil)) r) ?_ nd
        refine bl_fall (Bl.nxt (fun _ _ h => h) ⟨fun _ _ h => h, ?_, trivial⟩ fun _ _ h => h)
        rw [comT_succ hd, if_neg d0]
        exact fun _ _ h => h
      · have d0 : d = 0 := by simpa using h
        refine Bl.nxt (fun _ _ h => h) ⟨fun _ _ h => h, ?_, trivial⟩ fun _ _ h => h
        rw [comT_succ hd, if_pos d0]
        exact fun _ _ h => h
    · refine bl_ret (t := tIs (M.bare row)) (has_if (hast_cmp (has_var 1) has_int ct_gt) (fun h => ?_) fun h => ?_) fun v K' H' g _ h => hD v K' H' g h
      · rw [comT_end] at h
        have h1 : 1 < M.common row := by
          have := of_decide_eq_true h
          omega
        have l := pow_le_log (com_bd pq.2 h1) (by decide)
        have e : M.bare row = row.map (· / (M.common row : Int)) := if_pos h1
        unfold tIs
        rw [e, List.map_map]
        exact has_lc [("number", 2)] (src_list (F := tI) (j := 2) (has_var 0)) (fun n => tI (n / (M.common row : Int))) (fun n hn s H C cl fp => has_op (has_var 2) ((has_var 1).is (by rw [comT_end])) (bt_fdiv ⟨by omega, by rw [Int.natAbs_natCast]; omega⟩)) (by omega) nd (fun s H C cl fp => pg_1 nd)
      · rw [comT_end] at h
        have h1 : ¬ 1 < M.common row := by
          have := of_decide_eq_false h
          omega
        have e : M.bare row = row := if_neg h1
        rw [e]
        exact has_var 0
/-- head, place, row -/
abbrev Cl := List Int × Nat × List Int
def pCl (a : Cl) : Prop := ∃ n, n ≤ 8 ∧ a.1.length = n ∧ a.2.2.length = n ∧ a.2.1 < n ∧ M.BdL 3999 a.1 ∧ M.BdL 3999 a.2.2
theorem getI {row : List Int} {p : Nat} (h : p < row.length) : (row.map tI)[p]? = some (tI (row.getD p 0)) := by
  rw [List.getElem?_map, List.getD_eq_getElem?_getD, List.getElem?_eq_getElem h]
  rfl
theorem f_cleared (T : Tx K mg) : Cal P w K mg base "cleared" 3 (Spt (α := Cl) pCl (fun a => [tIs a.2.2, tIs a.1, tI (a.2.1 : Int)]) fun a => tIs (M.cleared a.1 a.2.1 a.2.2)) :=
  T.cal 10 rfl (C8.fnScope_by (N := ["row", "head", "place", "near", "far"]) (P := ["row", "head", "place"]) (by decide +kernel)) (fun _ => rfl) (fun _ _ _ _ _ _ us hl => match us, hl with | [_, _, _], _ => rfl) fun nd a pq b r Kb Hb D _ hD => by
    obtain ⟨head, p, row⟩ := a
    obtain ⟨n, hn, h1, h2, h3, h4, h5⟩ := pq
    simp only at h1 h2 h3 h4 h5
    have i1 := getI (row := row) (p := p) (by omega)
    have i2 := getI (row := head) (p := p) (by omega)
    refine bl_if (hast_cmp (has_ix (has_var 0) (has_var 2) (ix_L i1)) has_int ct_eqI) (fun h => ?_) fun h => bl_fall ?_
    · have e : M.cleared head p row = row := if_pos (of_decide_eq_true h)
      exact bl_ret (has_var 0) fun v K' H' g _ h => hD v K' H' g (by rw [e]; exact h)
    · let cr : Int × Int → Int := fun d => head.getD p 0 * d.1 - row.getD p 0 * d.2
      have e : M.cleared head p row = M.bare ((row.zip head).map cr) := if_neg (of_decide_eq_false h)
      have hz : (row.zip head).length = n := by rw [List.length_zip]; omega
      have cb : M.BdL 8000 ((row.zip head).map cr) := (M.cross_bd (p := p) h5 h4).mono (by decide)
      refine bl_ret (has_call (f_bare_row T) ((row.zip head).map cr) ⟨by rw [List.length_map, hz]; exact hn, cb⟩ (hasa_cons ?_ hasa_nil) r) fun v K' H' g _ h => hD v K' H' g (by rw [e]; exact h)
      unfold tIs
      rw [List.map_map]
      refine has_lc [("near", 3), ("far", 4)] (s_zip (F := tI) (G := tI) (j := 3) (j2 := 4) (as := row) (bs := head) (T.f 2) (has_var 0) (has_var 1)) (fun d => tI (cr d)) (fun d hd s H C cl fp => ?_) (by omega) nd (fun s H C cl fp => pg_2 nd rfl)
      obtain ⟨m1, m2⟩ := List.of_mem_zip (show (d.1, d.2) ∈ row.zip head from hd)
      have c1 : M.Bd 3999 (head.getD p 0) := h4.at p
      have c2 : M.Bd 3999 (row.getD p 0) := h5.at p
      have c3 : M.Bd 3999 d.1 := h5 d.1 m1
      have c4 : M.Bd 3999 d.2 := h4 d.2 m2
      exact has_op (has_op (has_ix (has_var 1) (has_var 2) (ix_L i2)) (has_var 3) (bt_mul (Bd.mulW (j := 3999) (k := 3999) c1 c3 (by decide)))) (has_op (has_ix (has_var 0) (has_var 2) (ix_L i1)) (has_var 4) (bt_mul (Bd.mulW (j := 3999) (k := 3999) c2 c4 (by decide)))) bt_sub
end
end Z
end
section
set_option Elab.async false
set_option linter.all false
set_option exponentiation.threshold 20000
set_option maxRecDepth 100000
set_option maxHeartbeats 2000000
namespace Z
open PySem PySem.Spec PyProof.Rows L2
section
variable {P : Program} {w : World} {K : PySem.W.Frag} {mg : Str → Option Value} {base : Heap}
def atOf : Option Nat → Int
  | none => -1
  | some k => (k : Int)
def pFa (a : List (List Int) × Nat) : Prop := a.1.length ≤ 8 ∧ ∀ r ∈ a.1, a.2 < r.length
theorem zip_range {α : Type} {l : List α} {i : Nat} {d : Nat × α} (h : ((List.range l.length).zip l)[i]? = some d) : d.1 = i ∧ l[i]? = some d.2 := by
  obtain ⟨a, b⟩ := zip_get h
  obtain ⟨h1, h2⟩ := List.getElem?_eq_some_iff.mp a
  rw [List.getElem_range] at h2
  exact ⟨h2.symm, b⟩
theorem f_first_at (T : Tx K mg) : Cal P w K mg base "first_at" 1 (Spt (α := List (List Int) × Nat) pFa (fun a => [tII a.1, tI (a.2 : Int)]) fun a => tI (atOf (M.firstAt a.1 a.2))) :=
  T.cal 11 rfl (C8.fnScope_by (N := ["rows", "place", "at", "row"]) (P := ["rows", "place"]) (by decide +kernel)) (fun _ => rfl) (fun _ _ _ _ _ _ us hl => match us, hl with | [_, _], _ => rfl) fun nd a pq b r Kb Hb D _ hD => by
    obtain ⟨rows, p⟩ := a
    obtain ⟨hl, hr⟩ := pq
    simp only at hl hr
    have lz : ((List.range rows.length).zip rows).length = rows.length := by rw [List.length_zip, List.length_range, Nat.min_self]
    refine bl_for (s_enum (as := rows) (G := tIs) (j := 2) (j2 := 3) (T.f 3) (has_var 0)) (pg_2 nd rfl) (fun _ => [some (tII rows), some (tI (p : Int)), none, none]) (fun i => mAnd (mPure (∀ k r, k < i → rows[k]? = some r → r.getD p 0 = 0)) mNone) ⟨fun _ _ h => h, fun _ _ h => h, trivial⟩ (fun _ _ h => ⟨fun k r z => absurd z (Nat.not_lt_zero _), trivial⟩) (fun i d hd K1 up => bl_pure fun hz => ?_) ?_
    · obtain ⟨e1, e2⟩ := zip_range hd
      have hm : d.2 ∈ rows := List.mem_of_getElem? e2
      have i1 := getI (hr d.2 hm)
      refine bl_if (hast_cmp (has_ix (has_var 3) (has_var 1) (ix_L i1)) has_int ct_neI) (fun h => ?_) fun h => bl_fall ?_
      · have d0 : d.2.getD p 0 ≠ 0 := by simpa using h
        have hi : i < rows.length := (List.getElem?_eq_some_iff.mp e2).1
        have e : M.firstAt rows p = some i := by
          unfold M.firstAt
          rw [List.findIdx?_eq_some_iff_getElem]
          refine ⟨hi, ?_, fun j hj => ?_⟩
          · have : rows[i] = d.2 := by
              rw [List.getElem?_eq_getElem hi] at e2
              exact Option.some.inj e2
            rw [this, decide_eq_false d0]
            rfl
          · have := hz j rows[j] hj (List.getElem?_eq_getElem (by omega))
            rw [decide_eq_true this]
            decide
        refine bl_ret (has_var 2) fun v K' H' g _ h => hD v K' H' (up K' H' g) ?_
        show v = V.int (atOf (M.firstAt rows p))
        rw [e]
        have h' : v = V.int (d.1 : Int) := h
        rw [h', e1]
        rfl
      · have d0 : d.2.getD p 0 = 0 := by simpa using h
        refine Bl.nxt (fun _ _ h => h) ⟨fun _ _ h => h, fun _ _ h => h, trivial⟩ fun _ _ h => ⟨fun k r hk hr => ?_, h⟩
        by_cases hki : k = i
        · rw [hki, e2] at hr
          rw [← Option.some.inj hr]
          exact d0
        · exact hz k r (by omega) hr
    · rw [lz]
      refine bl_pure fun hz => ?_
      have e : M.firstAt rows p = none := by
        unfold M.firstAt
        rw [List.findIdx?_eq_none_iff]
        intro r hr
        obtain ⟨k, hk, e⟩ := List.getElem_of_mem hr
        rw [hz k r hk (by rw [List.getElem?_eq_getElem hk, e])]
        rfl
      refine bl_ret (t := tI (-1)) (has_un has_int ⟨_, un_neg, fun x K H s hx Q q => ?_⟩) fun v K' H' g _ h => hD v K' H' g ?_
      · exact ⟨1, hx, q _ K H (Gr.refl s) rfl⟩
      · show v = V.int (atOf (M.firstAt rows p))
        rw [e]
        exact h
def pHr (a : List Int × Nat) : Prop := a.1.length ≤ 8 ∧ a.2 < a.1.length ∧ M.BdL 8000 a.1
theorem f_headed_row (T : Tx K mg) : Cal P w K mg base "headed_row" 3 (Spt (α := List Int × Nat) pHr (fun a => [tIs a.1, tI (a.2 : Int)]) fun a => tIs (M.headed a.1 a.2)) :=
  T.cal 12 rfl (C8.fnScope_by (N := ["row", "place", "found", "number"]) (P := ["row", "place"]) (by decide +kernel)) (fun _ => rfl) (fun _ _ _ _ _ _ us hl => match us, hl with | [_, _], _ => rfl) fun nd a pq b r Kb Hb D _ hD => by
    obtain ⟨row, p⟩ := a
    obtain ⟨h1, h2, h3⟩ := pq
    simp only at h1 h2 h3
    have hlb : (M.bare row).length = row.length := M.bare_len
    have i1 := getI (row := M.bare row) (p := p) (by omega)
    refine bl_asg 2 (has_call (f_bare_row T) row ⟨h1, h3⟩ (hasa_cons (has_var 0) hasa_nil) r) ?_ nd
    refine bl_ret (t := tIs (M.headed row p)) (has_if (hast_cmp (has_ix (has_var 2) (has_var 1) (ix_L i1)) has_int ct_gt) (fun h => ?_) fun h => ?_) fun v K' H' g _ h => hD v K' H' g h
    · have e : M.headed row p = M.bare row := if_pos (of_decide_eq_true h)
      rw [e]
      exact has_var 2
    · have e : M.headed row p = (M.bare row).map (0 - ·) := if_neg (of_decide_eq_false h)
      rw [e]
      unfold tIs
      rw [List.map_map]
      exact has_lc [("number", 3)] (src_list (F := tI) (j := 3) (has_var 2)) (fun n => tI (0 - n)) (fun n hn s H C cl fp => has_op has_int (has_var 3) bt_sub) (by omega) nd (fun s H C cl fp => pg_1 nd)
/-! int_steps -/
def pIs (rows : List (List Int)) : Prop := ∃ n b, n ≤ 8 ∧ rows.length ≤ 8 ∧ M.Rect n rows ∧ M.BdR b rows ∧ (b + 1) * 2 ^ rows.length ≤ 3900
theorem getII {rows : List (List Int)} {k : Nat} (h : k < rows.length) : (rows.map tIs)[k]? = some (tIs (rows.getD k [])) := by
  rw [List.getElem?_map, M.getD_at h, List.getElem?_eq_getElem h]
  rfl
theorem f_int_steps (T : Tx K mg) : Cal P w K mg base "int_steps" 4 (Spt (α := List (List Int)) pIs (fun rows => [tII rows]) fun rows => tII (M.intSteps rows)) :=
  T.cal 13 rfl (C8.fnScope_by (N := ["rows", "left", "found", "place", "at", "head", "others", "row"]) (P := ["rows"]) (by decide +kernel)) (fun _ => rfl) (fun _ _ _ _ _ _ us hl => match us, hl with | [_], _ => rfl) fun nd rows pq b r Kb Hb D _ hD => by
    obtain ⟨n, bb, hn, hm, hre, hbd, hsz⟩ := pq
    have hw : (rows.headD []).length ≤ n := by
      cases rows with
      | nil => exact Nat.zero_le _
      | cons a t => exact Nat.le_of_eq (hre a List.mem_cons_self)
    refine bl_par (t := tII rows) (u := tII []) 1 2 (has_var 0) (has_lst hasa_nil (by simp)) ?_ nd
    refine bl_for (s_range (n := (rows.headD []).length) (j := 3) (T.f 1) (by omega) (has_if (hast_cmp (k_len T (has_var 0)) has_int ct_gt) (fun h => ?_) fun h => ?_)) (pg_1 nd)
      (fun i => [some (tII rows), some (tII (M.stAt rows i).left), some (tII (M.stAt rows i).found), none, none, none, none, none]) (fun _ => mNone) ⟨fun _ _ h => h, fun _ _ h => h, fun _ _ h => h, trivial⟩ (fun _ _ h => h) (fun i d hd K1 up => ?_) ?_
    · cases rows with
      | nil => exact absurd (of_decide_eq_true h) (by simp)
      | cons a t => exact (k_len T (has_ix (t := tIs a) (has_var 0) has_int (ix_L (k := 0) rfl))).is (by rw [List.length_map]; rfl)
    · cases rows with
      | nil => exact has_int
      | cons a t => exact absurd (of_decide_eq_false h) (by simp)
    · have hi : i < (rows.headD []).length := by
        have := (List.getElem?_eq_some_iff.mp hd).1
        simpa using this
      have hdi : d = i := by
        obtain ⟨h1, h2⟩ := List.getElem?_eq_some_iff.mp hd
        rw [List.getElem_range] at h2
        exact h2.symm
      subst hdi
      have iv := M.inv1_at hre hbd d (Nat.le_of_lt hi)
      have es := M.stAt_succ hi
      generalize M.stAt rows d = S at iv es
      have hcl : S.left.length ≤ 8 := by have := iv.cnt; omega
      have hcf : S.found.length ≤ 8 := by have := iv.cnt; omega
      have hpw : (bb + 1) * 2 ^ S.found.length - 1 ≤ 3900 := by
        have : (bb + 1) * 2 ^ S.found.length ≤ (bb + 1) * 2 ^ rows.length := Nat.mul_le_mul_left _ (Nat.pow_le_pow_right (by decide) (by have := iv.cnt; omega))
        omega
      refine bl_asg 4 (has_call (f_first_at T) (S.left, d) ⟨hcl, fun q hq => by have := iv.ll q hq; omega⟩ (hasa_cons (has_var 1) (hasa_cons (has_var 3) hasa_nil)) (r.mono (by decide))) ?_ nd
      refine bl_if (hast_cmp (has_var 4) has_int ct_ge) (fun h => ?_) fun h => bl_fall ?_
      · cases hf : M.firstAt S.left d with
        | none =>
          rw [hf] at h
          exact absurd (of_decide_eq_true h) (by decide)
        | some k =>
          obtain ⟨hk, _⟩ := M.firstAt_lt hf
          have hmem : S.left.getD k [] ∈ S.left := M.getD_mem hk
          have l1 := iv.ll _ hmem
          have b1 := (iv.bl _ hmem).mono (k := 8000) (by omega)
          have hh : (M.headed (S.left.getD k []) d).length = n := M.headed_len.trans l1
          have hb2 := M.headed_bd (p := d) (iv.bl _ hmem)
          have es2 : M.stepAt S d = ⟨(S.left.take k ++ S.left.drop (k + 1)).map (M.cleared (M.headed (S.left.getD k []) d) d), S.found.map (M.cleared (M.headed (S.left.getD k []) d) d) ++ [M.headed (S.left.getD k []) d]⟩ := by
            unfold M.stepAt
            rw [hf]
          refine bl_asg 5 (has_call (f_headed_row T) (S.left.getD k [], d) ⟨by rw [l1]; exact hn, by simp only; omega, b1⟩ (hasa_cons (has_ix (has_var 1) (has_var (t := tI (k : Int)) 4) (ix_L (getII hk))) (hasa_cons (has_var 3) hasa_nil)) r) ?_ nd
          have hlen : ((S.left.map tIs).take k ++ (S.left.map tIs).drop (k + 1)).length ≤ 1000 := by
            simp only [List.length_append, List.length_take, List.length_drop, List.length_map]
            omega
          refine bl_asg (t := tII (S.left.take k ++ S.left.drop (k + 1))) 6 (Has.is (has_op (has_sliceHi (has_var 1) (has_var (t := tI (k : Int)) 4)) (has_sliceLo (n := k + 1) (has_var 1) ((has_op (has_var (t := tI (k : Int)) 4) has_int bt_add).is (by rw [Int.natCast_succ]))) (bt_cat (by rw [← List.length_append]; exact hlen))) (by unfold tII; rw [List.map_append, List.map_take, List.map_drop])) ?_ nd
          have clr : ∀ q : List Int, q.length = n → M.BdL ((bb + 1) * 2 ^ S.found.length - 1) q → pCl (M.headed (S.left.getD k []) d, d, q) := fun q h1 h2 => ⟨n, hn, hh, h1, by simp only; omega, hb2.mono (by omega), h2.mono (by omega)⟩
          refine bl_asg (t := tII (S.found.map (M.cleared (M.headed (S.left.getD k []) d) d) ++ [M.headed (S.left.getD k []) d])) 2 (Has.is (has_op (has_lc [("row", 7)] (src_list (F := tIs) (j := 7) (has_var 2)) (fun q => tIs (M.cleared (M.headed (S.left.getD k []) d) d q)) (fun q hq s H C cl fp => has_call (f_cleared T) (M.headed (S.left.getD k []) d, d, q) (clr q (iv.lf q hq) (iv.bf q hq)) (hasa_cons (has_var 7) (hasa_cons (has_var 5) (hasa_cons (has_var 3) hasa_nil))) r) (by omega) nd (fun s H C cl fp => pg_1 nd))
            (has_lst (hasa_cons (has_var 5) hasa_nil) (by simp)) (bt_cat (by simp; omega))) (by unfold tII; rw [List.map_append, List.map_map]; rfl)) ?_ nd
          refine bl_lc 1 [("row", 7)] (src_list (F := tIs) (j := 7) (has_var 6)) (fun q => tIs (M.cleared (M.headed (S.left.getD k []) d) d q)) (fun q hq s H C cl fp => has_call (f_cleared T) (M.headed (S.left.getD k []) d, d, q) (clr q (iv.ll q (M.cut_mem hq)) (iv.bl q (M.cut_mem hq))) (hasa_cons (has_var 7) (hasa_cons (has_var 5) (hasa_cons (has_var 3) hasa_nil))) r) (by rw [List.length_append, List.length_take, List.length_drop]; omega) nd (fun s H C cl fp => pg_1 nd) ?_
          refine bl_fall (Bl.nxt (fun _ _ h => h) ?_ fun _ _ h => h)
          rw [es, es2]
          refine ⟨fun _ _ h => h, fun v H h => ?_, fun _ _ h => h, trivial⟩
          show (tL (((S.left.take k ++ S.left.drop (k + 1)).map (M.cleared (M.headed (S.left.getD k []) d) d)).map tIs)).p v H
          rw [List.map_map]
          exact h
      · have hf : M.firstAt S.left d = none := by
          cases hf : M.firstAt S.left d with
          | none => rfl
          | some k =>
            rw [hf] at h
            exact absurd (Int.natCast_nonneg k) (of_decide_eq_false h)
        have es2 : M.stepAt S d = S := by
          unfold M.stepAt
          rw [hf]
        refine Bl.nxt (fun _ _ h => h) ?_ fun _ _ h => h
        rw [es, es2]
        exact ⟨fun _ _ h => h, fun _ _ h => h, fun _ _ h => h, trivial⟩
    · have e : (M.stAt rows (List.range (rows.headD []).length).length).found = M.intSteps rows := by
        rw [List.length_range]
        exact M.stAt_end
      exact bl_ret ((has_var 2).is (by rw [e])) fun v K' H' g _ h => hD v K' H' g h
end
end Z
end
section
set_option Elab.async false
set_option linter.all false
set_option exponentiation.threshold 20000
set_option maxRecDepth 100000
set_option maxHeartbeats 2000000
namespace Z
open PySem PySem.Spec PyProof.Rows L2
section
variable {P : Program} {w : World} {K : PySem.W.Frag} {mg : Str → Option Value} {base : Heap}
def pHd (row : List Int) : Prop := row.length ≤ 8 ∧ M.headOf row < row.length
theorem head_zero {row : List Int} {i : Nat} (h : i < M.headOf row) : row.getD i 0 = 0 := by
  unfold M.headOf at h
  have hl : i < row.length := Nat.lt_of_lt_of_le h List.findIdx_le_length
  have := List.not_of_lt_findIdx h
  rw [M.getD_at hl]
  simpa using this
theorem head_nz {row : List Int} (h : M.headOf row < row.length) : row.getD (M.headOf row) 0 ≠ 0 := by
  have := List.findIdx_getElem (w := h)
  rw [M.getD_at h]
  unfold M.headOf
  simpa using this
theorem f_head_of (T : Tx K mg) : Cal P w K mg base "head_of" 1 (Spt (α := List Int) pHd (fun row => [tIs row]) fun row => tI (M.headOf row : Int)) :=
  T.cal 14 rfl (C8.fnScope_by (N := ["row", "place"]) (P := ["row"]) (by decide +kernel)) (fun _ => rfl) (fun _ _ _ _ _ _ us hl => match us, hl with | [_], _ => rfl) fun nd row pq b r Kb Hb D _ hD => by
    obtain ⟨h1, h2⟩ := pq
    refine bl_asg 1 has_int ?_ nd
    refine bl_whileC (ι := Nat) (fun i => i ≤ M.headOf row) (fun i => M.headOf row - i) (fun i => [some (tIs row), some (tI (i : Int))]) (fun _ => mNone) (fun i => decide (row.getD i 0 = 0)) 0 (Nat.zero_le _) ⟨fun _ _ h => h, fun _ _ h => h, trivial⟩ (fun _ _ h => h) (fun i hi Kb' Hb' => HasT.cc (hast_cmp (has_ix (has_var 0) (has_var 1) (ix_L (getI (by omega)))) has_int ct_eqI)) (fun i hi hb => ?_) fun i hi hb => ?_
    · have hne : i ≠ M.headOf row := fun z => head_nz h2 (z ▸ of_decide_eq_true hb)
      refine bl_asg 1 (has_op (has_var 1) has_int bt_add) ?_ nd
      refine bl_nil fun σ H s => ⟨i + 1, by omega, by omega, s.sub ⟨fun _ _ h => h, ?_, trivial⟩ fun _ _ h => h⟩
      rw [Int.natCast_succ]
      exact fun _ _ h => h
    · have e : i = M.headOf row := by
        by_cases z : i < M.headOf row
        · exact absurd (head_zero z) (of_decide_eq_false hb)
        · omega
      exact bl_ret ((has_var 1).is (by rw [e])) fun v K' H' g _ h => hD v K' H' g h
/-! told_rows -/
def pTr (rows : List (List Int)) : Prop := rows.length ≤ 8 ∧ ∃ n k, n ≤ 8 ∧ k ≤ 3990 ∧ ∀ r ∈ rows, M.Out n k r
theorem f_told_rows (T : Tx K mg) : Cal P w K mg base "told_rows" 4 (Spt (α := List (List Int)) pTr (fun rows => [tII rows]) fun rows => tRR K (M.toldRows rows)) :=
  T.cal 15 rfl (C8.fnScope_by (N := ["steps_now", "found", "row", "head", "number"]) (P := ["steps_now"]) (by decide +kernel)) (fun _ => rfl) (fun _ _ _ _ _ _ us hl => match us, hl with | [_], _ => rfl) fun nd rows pq b r Kb Hb D _ hD => by
    obtain ⟨hl, n, k, hn, hk, ho⟩ := pq
    refine bl_newM 1 (fun m hm _ => ?_) nd
    refine bl_for (src_list (F := tIs) (j := 2) (has_var 0)) (pg_1 nd) (fun i => [some (tII rows), some (tV (.ref m)), none, none, none]) (fun i => mAnd (mLst m (((rows.take i).map M.toldRow).map (tRs K))) mNone) ⟨fun _ _ h => h, fun _ _ h => h, trivial⟩ (fun _ _ h => h) (fun i d hd K1 up => ?_) ?_
    · have o := ho d (List.mem_of_getElem? hd)
      have hdl : M.headOf d < d.length := by rw [o.len]; exact o.hd
      have ht : ((d.getD (M.headOf d) 0).toNat : Int) = d.getD (M.headOf d) 0 := Int.toNat_of_nonneg (Int.le_of_lt o.pos)
      have hp := o.pos
      have hb := o.bd.at (M.headOf d)
      unfold M.Bd at hb
      refine bl_asg 3 (has_ix (has_var 2) (has_call (f_head_of T) d ⟨by rw [o.len]; exact hn, hdl⟩ (hasa_cons (has_var 2) hasa_nil) (r.mono (by decide))) (ix_L (getI hdl))) ?_ nd
      have hlt : (((rows.take i).map M.toldRow).map (tRs K)).length < 1000 := by
        simp only [List.length_map, List.length_take]
        omega
      refine bl_appC (t := tRs K (M.toldRow d)) 1 rfl hm mNone.fr hlt (Has.cc ?_) ?_
      · unfold tRs M.toldRow
        rw [List.map_map]
        have hk2 : (d.getD (M.headOf d) 0).toNat < 2 ^ 8000 := by
          have : (2 : Nat) ^ k ≤ 2 ^ 8000 := Nat.pow_le_pow_right (by decide) (by omega)
          omega
        exact has_lc [("number", 4)] (src_list (F := tI) (j := 4) (has_var 2)) (fun x => tR K (mkRat x (d.getD (M.headOf d) 0).toNat)) (fun x hx s H C cl fp => k_Ratio T x (d.getD (M.headOf d) 0).toNat ⟨by simp only; omega, hk2⟩ (has_var 4) ((has_var 3).is (by rw [ht])) r) (by rw [o.len]; omega) nd (fun s H C cl fp => pg_1 nd)
      · refine Bl.nxt (fun _ _ h => h) ⟨fun _ _ h => h, fun _ _ h => h, trivial⟩ fun _ _ h => ?_
        rw [List.take_add_one, hd, List.map_append, List.map_append]
        exact h
    · rw [List.take_length]
      refine bl_freeze 1 rfl hm mNone.fz ?_
      exact bl_ret (has_var 1) fun v K' H' g _ h => hD v K' H' g h
/-! steps_of -/
/-- all of n places, at most 8 rows, sizes: k the entries', b the whole numbers' -/
structure pSt (rows : List (List Rat)) : Prop where
  ex : ∃ n k, n ≤ 8 ∧ (∀ r ∈ rows, r.length = n) ∧ rows.length ≤ 8 ∧ (∀ r ∈ rows, SzL k r) ∧ 0 < k ∧ k ≤ 400 ∧ (k * n + k + 2) * 2 ^ rows.length ≤ 3900
theorem wholes_bd {r : List Rat} {k : Nat} (hk : 0 < k) (h : SzL k r) : M.BdL (k + (k * r.length + 1)) (M.wholes r) := by
  intro x hx
  obtain ⟨q, hq, rfl⟩ := List.mem_map.mp hx
  have z := h q hq
  obtain ⟨l1, l2⟩ := lcmsT_ok hk h r.length (Nat.le_refl _)
  rw [lcmsT_end] at l1 l2
  refine M.Bd.mul z.1 ?_
  unfold M.Bd
  have e : ((M.lcms r : Int) / (q.den : Int)).natAbs = M.lcms r / q.den := by rw [← Int.natCast_ediv, Int.natAbs_natCast]
  rw [e]
  exact Nat.lt_of_le_of_lt (Nat.div_le_self _ _) l2
theorem steps_facts {rows : List (List Rat)} {n k : Nat} (hr : ∀ r ∈ rows, r.length = n) (hs : ∀ r ∈ rows, SzL k r) (hk : 0 < k) :
    M.Rect n (rows.map M.wholes) ∧ M.BdR (k * n + k + 1) (rows.map M.wholes) ∧ (M.intSteps (rows.map M.wholes)).length ≤ rows.length ∧ ∀ r ∈ M.intSteps (rows.map M.wholes), M.Out n ((k * n + k + 2) * 2 ^ rows.length) r := by
  have h1 : M.Rect n (rows.map M.wholes) := fun r h => by
    obtain ⟨q, hq, rfl⟩ := List.mem_map.mp h
    unfold M.wholes
    rw [List.length_map, hr q hq]
  have h2 : M.BdR (k * n + k + 1) (rows.map M.wholes) := fun r h => by
    obtain ⟨q, hq, rfl⟩ := List.mem_map.mp h
    have := wholes_bd hk (hs q hq)
    rw [hr q hq] at this
    exact this.mono (by omega)
  obtain ⟨h3, h4⟩ := M.intSteps_out h1 h2
  rw [List.length_map] at h3 h4
  exact ⟨h1, h2, h3, h4⟩
theorem f_steps_of (T : Tx K mg) : Cal P w K mg base "steps_of" 5 (Spt (α := List (List Rat)) pSt (fun rows => [tRR K rows]) fun rows => tRR K (M.stepsOf rows)) :=
  T.cal 16 rfl (C8.fnScope_by (N := ["rows"]) (P := ["rows"]) (by decide +kernel)) (fun _ => rfl) (fun _ _ _ _ _ _ us hl => match us, hl with | [_], _ => rfl) fun nd rows pq b r Kb Hb D _ hD => by
    obtain ⟨n, k, hn, hr, hl, hs, hk, hk4, hz⟩ := pq.ex
    obtain ⟨h1, h2, h3, h4⟩ := steps_facts hr hs hk
    exact bl_ret (has_call (f_told_rows T) (M.intSteps (rows.map M.wholes)) ⟨by omega, n, _, hn, by omega, h4⟩ (hasa_cons (has_call (f_int_steps T) (rows.map M.wholes) ⟨n, k * n + k + 1, hn, by rw [List.length_map]; exact hl, h1, h2, by rw [List.length_map]; exact hz⟩
      (hasa_cons (has_call (f_ints_of T) rows ⟨hl, fun q hq => ⟨by rw [hr q hq]; exact hn, fun x hx => (hs q hq x hx).mono hk4⟩⟩ (hasa_cons (has_var 0) hasa_nil) (r.mono (by decide))) hasa_nil) r) hasa_nil) r) fun v K' H' g _ h => hD v K' H' g h
end
end Z
end
section
set_option Elab.async false
set_option linter.all false
set_option exponentiation.threshold 20000
set_option maxRecDepth 100000
set_option maxHeartbeats 2000000
namespace Z
open PySem PySem.Spec PyProof.Rows L2
def sgnI (q : Rat) : Int := (if decide (0 < q.num) = true then 1 else 0) - (if decide (q.num < 0) = true then 1 else 0)
section
variable {X : Cx} {Γ : Ctx} {e : Expr} {pos : Pos}
/-- e.top, e.sign -/
theorem k_topP (T : Tx X.K X.mg) {q : Rat} (h : Has X Γ e (tR X.K q)) (hr : Room 2 X.A) (hb : attributeBase e "top" X.env (eval e X.env) = eval e X.env := by rfl) : Has X Γ (.Attribute e "top" pos) (tI q.num) := by
  obtain ⟨p, g, fd, F, hp⟩ := (T.p 0 _ rfl).fd
  have S : FnScope ["self"] ["self"] (defScope (inClass (top 18) 1)) := C8.fnScope_by (by decide +kernel)
  have G : FnOk X.prog X.w X.K X.mg X.base CX0 1 g fd ["self"] (Spt (α := Rat) (fun _ => True) (fun q => [tR X.K q]) fun q => tI q.num) := fn_ty F S (fun _ => rfl) fun a _ b r Kb Hb D _ hD => bl_ret (k_top T (has_var 0)) fun v K' H' g _ h => hD v K' H' g h
  exact has_prop T.cR.cl hp G (F.bindsN fun _ _ _ _ _ _ us hl => match us, hl with | [_], _ => rfl) q trivial rfl h hr hb
theorem k_sign (T : Tx X.K X.mg) {q : Rat} (h : Has X Γ e (tR X.K q)) (hr : Room 2 X.A) (hb : attributeBase e "sign" X.env (eval e X.env) = eval e X.env := by rfl) : Has X Γ (.Attribute e "sign" pos) (tI (sgnI q)) := by
  obtain ⟨p, g, fd, F, hp⟩ := (T.p 1 _ rfl).fd
  have S : FnScope ["self"] ["self"] (defScope (inClass (top 18) 3)) := C8.fnScope_by (by decide +kernel)
  have G : FnOk X.prog X.w X.K X.mg X.base CX0 1 g fd ["self"] (Spt (α := Rat) (fun _ => True) (fun q => [tR X.K q]) fun q => tI (sgnI q)) := fn_ty F S (fun _ => rfl) fun a _ b r Kb Hb D _ hD =>
    bl_ret (has_op (k_t1 (T.f 5) b_int ct_intB (has_cmp (k_top T (has_var 0)) has_int ct_gt)) (k_t1 (T.f 5) b_int ct_intB (has_cmp (k_top T (has_var 0)) has_int ct_lt)) bt_sub) fun v K' H' g _ h => hD v K' H' g h
  exact has_prop T.cR.cl hp G (F.bindsN fun _ _ _ _ _ _ us hl => match us, hl with | [_], _ => rfl) q trivial rfl h hr hb
end
section
variable {P : Program} {w : World} {K : PySem.W.Frag} {mg : Str → Option Value} {base : Heap}
/-! kernel_of -/
structure pKo (a : List (List Rat) × Nat) : Prop where
  wide : a.2 ≤ 4
  len : a.1.length ≤ 4
  rect : ∀ r ∈ a.1, r.length = a.2
  sz : ∀ r ∈ a.1, SzL 4 r
  one : (M.kernelFound a.1 a.2).length ≤ 1
theorem told_facts {row : List Int} {n k : Nat} (o : M.Out n k row) : (M.toldRow row).length = n ∧ SzL k (M.toldRow row) ∧ M.headOf ((M.toldRow row).map (·.num)) < n := by
  have hl : M.headOf row < row.length := by rw [o.len]; exact o.hd
  have hp := o.pos
  have e1 : (M.toldRow row).length = n := by
    unfold M.toldRow
    rw [List.length_map, o.len]
  have hb := o.bd.at (M.headOf row)
  refine ⟨e1, fun q hq => ?_, ?_⟩
  · obtain ⟨x, hx, rfl⟩ := List.mem_map.mp hq
    have hbx := o.bd x hx
    unfold M.Bd at hb
    exact sz_mk hbx (by omega) (by omega)
  · have : M.headOf ((M.toldRow row).map (·.num)) < ((M.toldRow row).map (·.num)).length := by
      unfold M.headOf
      rw [List.findIdx_lt_length]
      refine ⟨1, ?_, by decide⟩
      refine List.mem_map.mpr ⟨1, ?_, rfl⟩
      unfold M.toldRow
      refine List.mem_map.mpr ⟨row.getD (M.headOf row) 0, M.getD_mem hl, ?_⟩
      generalize row.getD (M.headOf row) 0 = h at hp
      have e : ((h.toNat : Nat) : Int) = h := Int.toNat_of_nonneg (Int.le_of_lt hp)
      apply Rat.ext
      · rw [Rat.num_mkRat, if_neg (by omega)]
        have : h.toNat.gcd h.natAbs = h.toNat := by
          have : h.natAbs = h.toNat := by omega
          rw [this, Nat.gcd_self]
        rw [this, e]
        exact Int.ediv_self (by omega)
      · rw [Rat.den_mkRat, if_neg (by omega)]
        have : h.toNat.gcd h.natAbs = h.toNat := by
          have : h.natAbs = h.toNat := by omega
          rw [this, Nat.gcd_self]
        rw [this]
        exact Nat.div_self (by omega)
    rwa [List.length_map, e1] at this
theorem steps_told {rows : List (List Rat)} {n k : Nat} (hr : ∀ r ∈ rows, r.length = n) (hs : ∀ r ∈ rows, SzL k r) (hk : 0 < k) :
    (M.stepsOf rows).length ≤ rows.length ∧ ∀ r ∈ M.stepsOf rows, r.length = n ∧ SzL ((k * n + k + 2) * 2 ^ rows.length) r ∧ M.headOf (r.map (·.num)) < n := by
  obtain ⟨h1, h2, h3, h4⟩ := steps_facts hr hs hk
  unfold M.stepsOf M.toldRows
  refine ⟨by rw [List.length_map]; exact h3, fun r hm => ?_⟩
  obtain ⟨q, hq, rfl⟩ := List.mem_map.mp hm
  exact told_facts (h4 q hq)
abbrev rowT (solved : List (List Rat)) (wide free i : Nat) : List Rat := (((M.heads solved).zip solved).take i).foldl (fun r d => r.set d.1 (-(d.2.getD free 0))) ((List.range wide).map fun i => if i = free then 1 else 0)
theorem rowT_succ {solved : List (List Rat)} {wide free i : Nat} {d : Nat × List Rat} (h : ((M.heads solved).zip solved)[i]? = some d) : rowT solved wide free (i + 1) = (rowT solved wide free i).set d.1 (-(d.2.getD free 0)) := by
  unfold rowT
  rw [List.take_add_one, h, List.foldl_append]
  rfl
theorem rowT_len {solved : List (List Rat)} {wide free : Nat} : ∀ {i : Nat}, (rowT solved wide free i).length = wide := fun {i} => by
  have : ∀ (l : List (Nat × List Rat)) (r : List Rat), (l.foldl (fun r d => r.set d.1 (-(d.2.getD free 0))) r).length = r.length := fun l => by
    induction l with
    | nil => exact fun r => rfl
    | cons a l ih =>
      intro r
      rw [List.foldl_cons, ih, List.length_set]
  unfold rowT
  rw [this, List.length_map, List.length_range]
theorem getRs {K : PySem.W.Frag} {row : List Rat} {p : Nat} (h : p < row.length) : (row.map (tR K))[p]? = some (tR K (row.getD p 0)) := by
  rw [List.getElem?_map, M.getD_at h, List.getElem?_eq_getElem h]
  rfl
theorem freeRow_end {solved : List (List Rat)} {wide free : Nat} : rowT solved wide free ((M.heads solved).zip solved).length = M.freeRow solved wide free := by
  unfold rowT M.freeRow
  rw [List.take_length]
theorem sz_one {k : Nat} (hk : 0 < k) : Sz k 1 := ⟨by
  show (1 : Int).natAbs < 2 ^ k
  exact Nat.one_lt_two_pow (by omega), Nat.one_lt_two_pow (by omega)⟩
theorem freeRow_sz {solved : List (List Rat)} {wide free k : Nat} (hk : 0 < k) (h : ∀ r ∈ solved, SzL k r) : SzL k (M.freeRow solved wide free) := by
  have : ∀ (l : List (Nat × List Rat)) (r : List Rat), (∀ d ∈ l, SzL k d.2) → SzL k r → SzL k (l.foldl (fun r d => r.set d.1 (-(d.2.getD free 0))) r) := fun l => by
    induction l with
    | nil => exact fun r _ h => h
    | cons a l ih =>
      intro r h1 h2
      rw [List.foldl_cons]
      refine ih _ (fun d hd => h1 d (List.mem_cons_of_mem _ hd)) fun q hq => ?_
      rcases List.mem_or_eq_of_mem_set hq with hq | hq
      · exact h2 q hq
      · rw [hq]
        refine Sz.neg ?_
        by_cases hf : free < a.2.length
        · exact h1 a List.mem_cons_self _ (M.getD_mem hf)
        · rw [List.getD_eq_getElem?_getD, List.getElem?_eq_none (by omega)]
          exact sz0 hk
  refine this _ _ (fun d hd => h d.2 (List.of_mem_zip (show (d.1, d.2) ∈ _ from hd)).2) fun q hq => ?_
  obtain ⟨i, _, rfl⟩ := List.mem_map.mp hq
  split
  · exact sz_one hk
  · exact sz0 hk
theorem zip_heads {solved : List (List Rat)} {i : Nat} {d : Nat × List Rat} (h : ((M.heads solved).zip solved)[i]? = some d) : d.2 ∈ solved ∧ d.1 = M.headOf (d.2.map (·.num)) := by
  obtain ⟨a, b⟩ := zip_get h
  refine ⟨List.mem_of_getElem? b, ?_⟩
  unfold M.heads at a
  rw [List.getElem?_map, b] at a
  exact (Option.some.inj a).symm
theorem mem_cast {l : List Nat} {n : Nat} : ((n : Int) ∈ l.map fun h : Nat => (h : Int)) ↔ n ∈ l := by
  rw [List.mem_map]
  refine ⟨fun ⟨a, h, e⟩ => ?_, fun h => ⟨n, h, rfl⟩⟩
  have : a = n := by omega
  exact this ▸ h
theorem f_kernel_of (T : Tx K mg) : Cal P w K mg base "kernel_of" 6 (Spt (α := List (List Rat) × Nat) pKo (fun a => [tRR K a.1, tI (a.2 : Int)]) fun a => tRR K (M.kernelOf a.1 a.2)) :=
  T.cal 17 rfl (C8.fnScope_by (N := ["rows", "wide", "solved", "heads", "found", "free", "row", "head", "step", "at", "number"]) (P := ["rows", "wide"]) (by decide +kernel)) (fun _ => rfl) (fun _ _ _ _ _ _ us hl => match us, hl with | [_, _], _ => rfl) fun nd a pq b r Kb Hb D _ hD => by
    obtain ⟨rows, n⟩ := a
    obtain ⟨hn, hl, hr, hs, h1⟩ := pq
    simp only at hn hl hr hs h1
    have hpw : (2 : Nat) ^ rows.length ≤ 2 ^ 4 := Nat.pow_le_pow_right (by decide) hl
    have hB : (4 * n + 4 + 2) * 2 ^ rows.length ≤ 352 := Nat.le_trans (Nat.mul_le_mul (by omega) hpw) (by decide : 22 * 2 ^ 4 ≤ 352)
    obtain ⟨t1, t2⟩ := steps_told hr hs (by decide)
    refine bl_asg 2 (has_call (f_steps_of T) rows ⟨n, 4, by omega, hr, by omega, hs, by decide, by decide, by omega⟩ (hasa_cons (has_var 0) hasa_nil) r) ?_ nd
    have es : M.kernelFound rows n = ((List.range n).filter fun f => !(decide (f ∈ M.heads (M.stepsOf rows)))).map (M.freeRow (M.stepsOf rows) n) := rfl
    have ek : M.kernelOf rows n = M.stepsOf (M.kernelFound rows n) := rfl
    rw [es] at h1
    have hD2 : ∀ v K' H', Gr Kb Hb K' H' → (tRR K (M.stepsOf (((List.range n).filter fun f => !(decide (f ∈ M.heads (M.stepsOf rows)))).map (M.freeRow (M.stepsOf rows) n)))).p v K' → D.rt v H' := hD
    clear hD es ek
    generalize M.stepsOf rows = solved at t1 t2 h1 hD2
    have tl : ∀ r ∈ solved, r.length = n := fun r hm => (t2 r hm).1
    have tz : ∀ r ∈ solved, SzL 352 r := fun r hm q hq => ((t2 r hm).2.1 q hq).mono hB
    have th : ∀ r ∈ solved, M.headOf (r.map (·.num)) < n := fun r hm => (t2 r hm).2.2
    refine bl_parN (t := tIs ((M.heads solved).map fun h : Nat => (h : Int))) 3 4 (Has.is (has_lc [("row", 6)] (src_list (F := tRs K) (j := 6) (has_var 2)) (fun q : List Rat => tI (M.headOf (q.map fun x : Rat => x.num) : Int)) (fun q hq s H C cl fp => has_call (f_head_of T) (q.map fun x : Rat => x.num) ⟨by rw [List.length_map, tl q hq]; omega, by rw [List.length_map, tl q hq]; exact th q hq⟩ (hasa_cons (Has.is (has_lc [("number", 10)] (src_list (F := tR K) (j := 10) (has_var 6)) (fun x : Rat => tI x.num) (fun x hx s H C cl fp => k_topP T (has_var 10) (r.mono (by decide))) (by rw [tl q hq]; omega) nd (fun s H C cl fp => pg_1 nd)) (by unfold tIs; rw [List.map_map]; rfl)) hasa_nil) (r.mono (by decide))) (by omega) nd (fun s H C cl fp => pg_1 nd)) (by unfold tIs M.heads; rw [List.map_map, List.map_map]; rfl)) (hasn_lst hasa_nil (by simp)) (fun mf hmf _ => ?_) nd
    refine bl_for (s_range (n := n) (j := 5) (T.f 1) (by omega) (has_var 1)) (pg_1 nd) (fun i => [some (tRR K rows), some (tI (n : Int)), some (tRR K solved), some (tIs ((M.heads solved).map fun h : Nat => (h : Int))), some (tV (.ref mf)), none, none, none, none, none, none])
      (fun i => mAnd (mLst mf (((((List.range n).take i).filter fun f => !(decide (f ∈ M.heads solved))).map (M.freeRow solved n)).map (tRs K))) mNone) ⟨fun _ _ h => h, fun _ _ h => h, fun _ _ h => h, fun _ _ h => h, fun _ _ h => h, trivial⟩ (fun _ _ h => h) (fun i d hd K1 up => ?_) ?_
    · have hdi : d = i := by
        obtain ⟨h1, h2⟩ := List.getElem?_eq_some_iff.mp hd
        rw [List.getElem_range] at h2
        exact h2.symm
      subst hdi
      have hi : d < n := by simpa using (List.getElem?_eq_some_iff.mp hd).1
      refine bl_if (hast_cmp (has_var 5) (has_var 3) ct_notIn) (fun h => ?_) fun h => bl_fall ?_
      · have hnm : d ∉ M.heads solved := fun z => by
          rw [Bool.not_eq_true', decide_eq_false_iff_not] at h
          exact h (mem_cast.mpr z)
        refine bl_lcM 6 [("at", 9)] (s_range (n := n) (j := 9) (T.f 1) (by omega) (has_var 1)) (fun i : Nat => tR K (if i = d then 1 else 0)) (fun i hi s H C cl fp => Has.is (k_Ratio1 T _ (k_t1 (T.f 5) b_int ct_intB (has_cmp (has_var 9) (has_var 5) ct_eqI)) (r.mono (by decide))) ?_) (by rw [List.length_range]; omega) nd (fun s H C cl fp => pg_1 nd) (fun mr hmr ⟨K0, H0, hM0, hn0⟩ => ?_)
        · congr 1
          by_cases e : i = d
          · rw [if_pos e, if_pos (by rw [e]; simp)]
            rfl
          · rw [if_neg e, if_neg (by simp; omega)]
            rfl
        have ne : mf ≠ mr := fun z => by
          obtain ⟨⟨_, xs, hx, _⟩, _⟩ := hM0
          rw [z, hn0] at hx
          cases hx
        have hz8 : ((M.heads solved).zip solved).length ≤ 8 := by
          rw [List.length_zip]
          unfold M.heads
          rw [List.length_map]
          omega
        refine bl_for (s_zip (F := fun h : Nat => tI (h : Int)) (G := tRs K) (j := 7) (j2 := 8) (as := M.heads solved) (bs := solved) (T.f 2) (Has.is (has_var 3) (by unfold tIs; rw [List.map_map]; rfl)) (has_var 2)) (pg_2 nd rfl)
          (fun i => [some (tRR K rows), some (tI (n : Int)), some (tRR K solved), some (tIs ((M.heads solved).map fun h : Nat => (h : Int))), some (tV (.ref mf)), some (tI (d : Int)), some (tV (.ref mr)), none, none, none, none])
          (fun i => mAnd (mLst mr ((rowT solved n d i).map (tR K))) (mAnd (mLst mf (((((List.range n).take d).filter fun f => !(decide (f ∈ M.heads solved))).map (M.freeRow solved n)).map (tRs K))) mNone)) ⟨fun _ _ h => h, fun _ _ h => h, fun _ _ h => h, fun _ _ h => h, fun _ _ h => h, fun _ _ h => h, fun _ _ h => h, trivial⟩ (fun _ _ h => ⟨?_, h.2⟩) (fun i2 e hde K2 up2 => ?_) ?_
        · have h' := h.1
          have e0 : (List.range n).map (fun i : Nat => tR K (if i = d then 1 else 0)) = (rowT solved n d 0).map (tR K) := by
            unfold rowT
            rw [List.take_zero, List.foldl_nil, List.map_map]
            rfl
          rw [e0] at h'
          exact h'
        · obtain ⟨hm, he⟩ := zip_heads hde
          have hlt : e.1 < (rowT solved n d i2).length := by
            rw [rowT_len, he]
            exact th _ hm
          refine bl_setC 6 rfl hmr (mAnd.fr (mLst.fr ne) mNone.fr) (by rw [List.length_map]; exact hlt) (Has.cc (has_un (has_ix (has_var 8) (has_var 5) (ix_L (getRs (by rw [tl _ hm]; exact hi)))) (un_ratNeg T (r.mono (by decide)) ?_))) (has_var 7) ?_
          · have hlt2 : d < e.2.length := by rw [tl _ hm]; exact hi
            exact ((tz _ hm _ (M.getD_mem hlt2)).mono (by decide))
          · refine Bl.nxt (fun _ _ h => h) ⟨fun _ _ h => h, fun _ _ h => h, fun _ _ h => h, fun _ _ h => h, fun _ _ h => h, fun _ _ h => h, fun _ _ h => h, trivial⟩ fun _ _ h => ⟨?_, h.2⟩
            have h' := h.1
            rw [rowT_succ hde, List.map_set]
            exact h'
        · rw [freeRow_end]
          refine bl_freeze 6 rfl hmr (mAnd.fz (mLst.fz ne) mNone.fz) ?_
          refine bl_appC (t := tRs K (M.freeRow solved n d)) 4 rfl hmf mNone.fr ?_ (Has.cc (has_var 6)) ?_
          · simp only [List.length_map]
            have := List.length_filter_le (fun f => !(decide (f ∈ M.heads solved))) ((List.range n).take d)
            rw [List.length_take, List.length_range] at this
            omega
          · refine bl_fall (Bl.nxt (fun _ _ h => h) ⟨fun _ _ h => h, fun _ _ h => h, fun _ _ h => h, fun _ _ h => h, fun _ _ h => h, trivial⟩ fun _ _ h => ⟨?_, trivial⟩)
            have h' := h.1
            rw [List.take_add_one, hd, List.filter_append, List.map_append, List.map_append]
            have e1 : (some d).toList.filter (fun f => !(decide (f ∈ M.heads solved))) = [d] := by
              show List.filter _ [d] = [d]
              rw [List.filter_cons, if_pos (by rw [decide_eq_false hnm]; rfl)]
              rfl
            rw [e1]
            exact h'
      · have hmm : d ∈ M.heads solved := by
          rw [Bool.not_eq_false', decide_eq_true_iff] at h
          exact mem_cast.mp h
        refine Bl.nxt (fun _ _ h => h) ⟨fun _ _ h => h, fun _ _ h => h, fun _ _ h => h, fun _ _ h => h, fun _ _ h => h, trivial⟩ fun _ _ h => ⟨?_, trivial⟩
        have h' := h.1
        rw [List.take_add_one, hd, List.filter_append]
        have e1 : (some d).toList.filter (fun f => !(decide (f ∈ M.heads solved))) = [] := by
          show List.filter _ [d] = []
          rw [List.filter_cons, if_neg (by rw [decide_eq_true hmm]; decide)]
          rfl
        rw [e1, List.append_nil]
        exact h'
    · rw [List.length_range, List.take_of_length_le (by rw [List.length_range]; exact Nat.le_refl _)]
      refine bl_freeze 4 rfl hmf mNone.fz ?_
      refine bl_ret (has_call (f_steps_of T) (((List.range n).filter fun f => !(decide (f ∈ M.heads solved))).map (M.freeRow solved n)) ⟨n, 352, by omega, fun r hr => ?_, by omega, fun r hr => ?_, by decide, by decide, ?_⟩ (hasa_cons (has_var 4) hasa_nil) r) fun v K' H' g _ h => hD2 v K' H' g h
      · obtain ⟨f, _, rfl⟩ := List.mem_map.mp hr
        rw [← freeRow_end]
        exact rowT_len
      · obtain ⟨f, _, rfl⟩ := List.mem_map.mp hr
        exact freeRow_sz (by decide) tz
      · have h2 : (2 : Nat) ^ ((((List.range n).filter fun f => !(decide (f ∈ M.heads solved))).map (M.freeRow solved n)).length) ≤ 2 ^ 1 := Nat.pow_le_pow_right (by decide) h1
        exact Nat.le_trans (Nat.mul_le_mul (by omega) h2) (by decide : 1762 * 2 ^ 1 ≤ 3900)
end
end Z
end
section
set_option Elab.async false
set_option linter.all false
set_option exponentiation.threshold 20000
set_option maxRecDepth 100000
set_option maxHeartbeats 2000000
namespace Z
open PySem PySem.Spec PyProof.Rows L2
section
variable {X : Cx} {Γ : Ctx} {e : Expr} {pos : Pos} {ts : List Ty}
theorem ct_tupQ : CallT X (.type "tuple") [tQ ts] (tT ts) := ⟨_, call_tuple_of, fun vs K H s hv Q q => by
  obtain ⟨v, rfl, h⟩ := hv.one
  rcases h with ⟨a, xs, rfl, ha, xa⟩ | ⟨a, xs, rfl, ha, xa⟩
  · refine ⟨a, xs, rfl, .inl ⟨SqL.of (s _ _ ha), fun l hl => ?_⟩⟩
    have g := Gr.new (o := .tup xs) s hl
    exact q _ _ _ g ⟨l, xs, rfl, upd_same, xa.mo g.k⟩
  · exact ⟨a, xs, rfl, .inr ⟨SqT.of (s _ _ ha), q _ K H (Gr.refl s) ⟨a, xs, rfl, ha, xa⟩⟩⟩⟩
/-- equal or not: two rationals -/
theorem rat_D {K : PySem.W.Frag} {a b : Rat} {x y : V} {H : Hp} (hx : (tR K a).p x H) (hy : (tR K b).p y H) : DI (ca K "Ratio") (fun _ : Rat × Rat => True) (fun a => [tR K a.1, tR K a.2]) (fun a => decide (a.1 = a.2)) x y (decide (a = b)) H := by
  obtain ⟨p, dx, vs, ex, px, _⟩ := id hx
  obtain ⟨q, dy, ws, ey, qy, _⟩ := id hy
  exact ⟨(a, b), trivial, rfl, ⟨hx, hy, trivial⟩, ⟨p, dx, vs, ex, px⟩, q, dy, ws, ey, qy⟩
abbrev DR (K : PySem.W.Frag) : DB := DI (ca K "Ratio") (fun _ : Rat × Rat => True) (fun a => [tR K a.1, tR K a.2]) (fun a => decide (a.1 = a.2))
theorem rc_R (T : Tx X.K X.mg) : RcB X 1 .Eq (DR X.K) := by
  have F := f_Req (P := X.prog) (w := X.w) (base := X.base) T
  obtain ⟨fd, G, bd⟩ := F.ex
  exact rcB_ins G bd F.me.at_ F.me.fn
theorem tR_num {K : PySem.W.Frag} {a b : Rat} {x : V} {H : Hp} (hx : (tR K a).p x H) (hy : (tR K b).p x H) : a = b := by
  obtain ⟨p, dx, vs, ex, px, fx⟩ := hx
  obtain ⟨q, dy, ws, ey, qy, fy⟩ := hy
  rw [ex] at ey
  cases ey
  rw [px] at qy
  cases qy
  obtain ⟨u, hu, tu⟩ := fx.look (f := "own_top") rfl
  obtain ⟨u', hu', tu'⟩ := fy.look (f := "own_top") rfl
  obtain ⟨z, hz, tz⟩ := fx.look (f := "own_bottom") rfl
  obtain ⟨z', hz', tz'⟩ := fy.look (f := "own_bottom") rfl
  rw [hu] at hu'
  cases hu'
  rw [hz] at hz'
  cases hz'
  have e1 : V.int a.num = V.int b.num := (show u = V.int a.num from tu).symm.trans tu'
  have e2 : V.int (a.den : Int) = V.int (b.den : Int) := (show z = V.int (a.den : Int) from tz).symm.trans tz'
  have e3 := V.int.inj e1
  have e4 := V.int.inj e2
  exact Rat.ext e3 (by omega)
theorem self_R {K : PySem.W.Frag} : SelfT (DR K) := fun p r H ⟨a, _, hr, h, _, _⟩ => by
  rw [← hr]
  exact decide_eq_true (tR_num h.1 h.2.1)
theorem eq_R (T : Tx X.K X.mg) : EqB X 1 (DR X.K) := (rc_R T).eqB self_R refs_DI
theorem ct_eqR (T : Tx X.K X.mg) {a b : Rat} (hr : Room 1 X.A) : CmpT X .Eq (tR X.K a) (tR X.K b) (tB (decide (a = b))) := ct_rcB cop_eq (rc_R T) hr fun _ _ _ hx hy => rat_D hx hy
/-- tuples of rationals -/
theorem all_eq : ∀ {as bs : List Rat}, as.length = bs.length → ((List.range as.length).all fun i => decide (as.getD i 0 = bs.getD i 0)) = decide (as = bs) := fun {as bs} h => by
  rw [Bool.eq_iff_iff, List.all_eq_true, decide_eq_true_iff]
  refine ⟨fun k => ?_, fun e i _ => by rw [e]; exact decide_eq_true rfl⟩
  refine List.ext_getElem h fun i h1 h2 => ?_
  have := of_decide_eq_true (k i (List.mem_range.mpr h1))
  rw [M.getD_at h1, M.getD_at h2] at this
  exact this
theorem prs_R {K : PySem.W.Frag} {as bs : List Rat} {xs ys : List V} {H : Hp} (h : as.length = bs.length) (hx : All2 (as.map (tR K)) xs H) (hy : All2 (bs.map (tR K)) ys H) : PrsB (DR K) xs ys (fun i => decide (as.getD i 0 = bs.getD i 0)) H := by
  refine ⟨by rw [hx.len, hy.len, List.length_map, List.length_map, h], fun i x y h1 h2 => ?_⟩
  obtain ⟨t, ht, tx⟩ := hx.get h1
  obtain ⟨u, hu, ty⟩ := hy.get h2
  rw [List.getElem?_map] at ht hu
  cases ha : as[i]? with
  | none => rw [ha] at ht; cases ht
  | some a =>
    cases hb : bs[i]? with
    | none => rw [hb] at hu; cases hu
    | some b =>
      rw [ha] at ht
      rw [hb] at hu
      rw [← Option.some.inj ht] at tx
      rw [← Option.some.inj hu] at ty
      show DR K x y (decide (as.getD i 0 = bs.getD i 0)) H
      rw [List.getD_eq_getElem?_getD, List.getD_eq_getElem?_getD, ha, hb]
      exact rat_D tx ty
abbrev DRt (K : PySem.W.Frag) : DB := DTB (DR K)
theorem rats_D {K : PySem.W.Frag} {as bs : List Rat} {x y : V} {H : Hp} (h : as.length = bs.length) (hx : (tRt K as).p x H) (hy : (tRt K bs).p y H) : DRt K x y (decide (as = bs)) H := by
  obtain ⟨p, xs, ex, px, xa⟩ := hx
  obtain ⟨q, ys, ey, qy, ya⟩ := hy
  refine ⟨p, q, xs, ys, _, ex, ey, px, qy, prs_R h xa ya, ?_⟩
  rw [xa.len, List.length_map]
  exact (all_eq h).symm
theorem rc_Rt (T : Tx X.K X.mg) : RcB X 2 .Eq (DRt X.K) := rcB_tup mon_DI (eq_R T)
theorem self_Rt {K : PySem.W.Frag} : SelfT (DRt K) := self_DTB self_R refs_DI
theorem eq_Rt (T : Tx X.K X.mg) : EqB X 2 (DRt X.K) := (rc_Rt T).eqB self_Rt refs_DTB
theorem ct_eqRt (T : Tx X.K X.mg) {as bs : List Rat} (h : as.length = bs.length) (hr : Room 2 X.A) : CmpT X .Eq (tRt X.K as) (tRt X.K bs) (tB (decide (as = bs))) := ct_rcB cop_eq (rc_Rt T) hr fun _ _ _ hx hy => rats_D h hx hy
end
section
variable {P : Program} {w : World} {K : PySem.W.Frag} {mg : Str → Option Value} {base : Heap}
theorem f_is_list (T : Tx K mg) : Cal P w K mg base "is_list" 1 (Spt (α := List Ty) (fun _ => True) (fun ts => [tQ ts]) fun _ => tB true) :=
  T.cal 1 rfl (C8.fnScope_by (N := ["value"]) (P := ["value"]) (by decide +kernel)) (fun _ => rfl) (fun _ _ _ _ _ _ us hl => match us, hl with | [_], _ => rfl) fun nd ts _ b r Kb Hb D _ hD =>
    bl_ret (k_b2 (T.f 4) b_isi ct_isLT (has_var 0) (has_tup (hasa_cons (has_ty (T.f 8) b_list) (hasa_cons (has_ty (T.f 7) b_tuple) hasa_nil)) (by simp))) fun v K' H' g _ h => hD v K' H' g h
theorem all_true {α : Type} : ∀ l : List α, (l.map fun _ => true).all id = true
  | [] => rfl
  | _ :: l => by
    rw [List.map_cons, List.all_cons, all_true l]
    rfl
theorem f_are_numbers (T : Tx K mg) : Cal P w K mg base "are_numbers" 3 (Spt (α := List Rat) (fun qs => qs.length ≤ 8) (fun qs => [tI (qs.length : Int), tRq K qs]) fun _ => tB true) :=
  T.cal 18 rfl (C8.fnScope_by (N := ["many", "value", "number"]) (P := ["many", "value"]) (by decide +kernel)) (fun _ => rfl) (fun _ _ _ _ _ _ us hl => match us, hl with | [_, _], _ => rfl) fun nd qs pq b r Kb Hb D _ hD =>
    bl_ret (t := tB true) (has_and (k := true) (has_call (f_is_list T) (qs.map (tR K)) trivial (hasa_cons (has_var 1) hasa_nil) (r.mono (by decide))) fun _ => has_and (k := true) (Has.is (has_cmp (k_lenQ T (has_var 1)) (has_var 0) ct_eqI) (by rw [List.length_map, decide_eq_true rfl])) fun _ => has_one (Has.is (k_b1 (T.f 9) b_all (ct_all (bs := qs.map fun _ => true) rfl)
      (Has.is (has_lc [("number", 2)] (src_seq (F := tR K) (j := 2) 1) (fun _ : Rat => tB true) (fun q hq s H C cl fp => has_call (f_is_number T) q trivial (hasa_cons (has_var 2) hasa_nil) r) (by omega) nd (fun s H C cl fp => pg_1 nd)) (by rw [List.map_map]; rfl))) (by rw [all_true]))) fun v K' H' g _ h => hD v K' H' g h
theorem f_told_numbers (T : Tx K mg) : Cal P w K mg base "told_numbers" 2 (Spt (α := List Rat) (fun qs => qs.length ≤ 8) (fun qs => [tRq K qs]) fun qs => tRt K qs) :=
  T.cal 19 rfl (C8.fnScope_by (N := ["value", "number"]) (P := ["value"]) (by decide +kernel)) (fun _ => rfl) (fun _ _ _ _ _ _ us hl => match us, hl with | [_], _ => rfl) fun nd qs pq b r Kb Hb D _ hD =>
    bl_ret (k_t1 (T.f 7) b_tuple ct_tupL (has_lc [("number", 1)] (src_seq (F := tR K) (j := 1) 0) (tR K) (fun q hq s H C cl fp => has_call (f_ratio_of T) q trivial (hasa_cons (has_var 1) hasa_nil) r) (by omega) nd (fun s H C cl fp => pg_1 nd))) fun v K' H' g _ h => hD v K' H' g h
theorem f_is_one (T : Tx K mg) : Cal P w K mg base "is_one" 6 (Spt (α := List Rat) pTo (fun qs => [tRt K qs]) fun qs => tB (decide (M.total qs = 1))) :=
  T.cal 20 rfl (C8.fnScope_by (N := ["numbers"]) (P := ["numbers"]) (by decide +kernel)) (fun _ => rfl) (fun _ _ _ _ _ _ us hl => match us, hl with | [_], _ => rfl) fun nd qs pq b r Kb Hb D _ hD =>
    bl_ret (has_cmp (has_call (f_total_of T) qs pq (hasa_cons (Has.qT (has_var 0)) hasa_nil) r) (k_Ratio1 T 1 has_int (r.mono (by decide))) (ct_eqR T (r.mono (by decide)))) fun v K' H' g _ h => hD v K' H' g h
/-! chances -/
structure pCh (qs : List Rat) : Prop extends M.Good qs where
  sz : SzL 300 qs
theorem sgn_ge {q : Rat} (h : 0 ≤ q.num) : 0 ≤ sgnI q := by
  unfold sgnI
  rw [if_neg (c := decide (q.num < 0) = true) (by simpa using h)]
  split <;> decide
theorem sgn_gt {q : Rat} : 0 < sgnI q ↔ 0 < q.num := by
  unfold sgnI
  by_cases h : 0 < q.num
  · rw [if_pos (decide_eq_true h), if_neg (by rw [decide_eq_false (by omega)]; exact Bool.false_ne_true)]
    exact ⟨fun _ => h, fun _ => by decide⟩
  · rw [if_neg (by simpa using h)]
    refine ⟨fun z => ?_, fun z => absurd z h⟩
    split at z <;> omega
theorem f_are_chances (T : Tx K mg) : Cal P w K mg base "are_chances" 7 (Spt (α := List Rat) pCh (fun qs => [tI (qs.length : Int), tRq K qs]) fun _ => tB true) :=
  T.cal 21 rfl (C8.fnScope_by (N := ["many", "value", "numbers", "number"]) (P := ["many", "value"]) (by decide +kernel)) (fun _ => rfl) (fun _ _ _ _ _ _ us hl => match us, hl with | [_, _], _ => rfl) fun nd qs pq b r Kb Hb D _ hD => by
    have hl := pq.len
    refine bl_if (hast_not (hast_val (has_call (f_are_numbers T) qs (by omega) (hasa_cons (has_var 0) (hasa_cons (has_var 1) hasa_nil)) (r.mono (by decide))))) (fun h => by cases h) fun _ => bl_fall ?_
    refine bl_asg 2 (has_call (f_told_numbers T) qs (by omega) (hasa_cons (has_var 1) hasa_nil) (r.mono (by decide))) ?_ nd
    refine bl_ret (t := tB true) (has_and (k := true) (Has.is (k_b1 (T.f 9) b_all (ct_all (bs := qs.map fun _ => true) rfl) (Has.is (has_lc [("number", 3)] (src_tup (F := tR K) (j := 3) (has_var 2)) (fun _ : Rat => tB true) (fun q hq s H C cl fp => Has.is (has_cmp (k_sign T (has_var 3) (r.mono (by decide))) has_int ct_ge) (by rw [decide_eq_true (sgn_ge (pq.ge q hq))])) (by omega) nd (fun s H C cl fp => pg_1 nd)) (by rw [List.map_map]; rfl))) (by rw [all_true])) fun _ => has_one (Has.is (has_call (f_is_one T) qs ⟨by omega, fun q hq => (pq.sz q hq).mono (by decide)⟩ (hasa_cons (has_var 2) hasa_nil) r) (by rw [decide_eq_true pq.sum]))) fun v K' H' g _ h => hD v K' H' g h
/-! rows -/
structure pRo (rows : List (List Rat)) : Prop where
  lo : 2 ≤ rows.length
  hi : rows.length ≤ 6
  ok : ∀ r ∈ rows, r.length = rows.length ∧ pCh r
abbrev tRsq (K : PySem.W.Frag) (rows : List (List Rat)) : Ty := tQ (rows.map (tRs K))
theorem f_are_rows (T : Tx K mg) : Cal P w K mg base "are_rows" 8 (Spt (α := List (List Rat)) pRo (fun rows => [tRsq K rows]) fun _ => tB true) :=
  T.cal 22 rfl (C8.fnScope_by (N := ["value", "row"]) (P := ["value"]) (by decide +kernel)) (fun _ => rfl) (fun _ _ _ _ _ _ us hl => match us, hl with | [_], _ => rfl) fun nd rows pq b r Kb Hb D _ hD => by
    have hl := pq.hi
    have hl0 := pq.lo
    obtain ⟨t1, hg1⟩ := T.least
    obtain ⟨t2, hg2⟩ := T.most
    refine bl_if (k := false) (hast_w (hasw_or (k := false) (hast_not (hast_val (has_call (f_is_list T) (rows.map (tRs K)) trivial (hasa_cons (has_var 0) hasa_nil) (r.mono (by decide))))) fun _ => hasw_or1 (HasT.is (hast_not (hast_chain (k := true) (l := true) (has_glob (v := V.int 2) hg1 ⟨t1, rfl⟩) (k_lenQ T (has_var 0)) (fun _ => has_glob (v := V.int 6) hg2 ⟨t2, rfl⟩) ?_ ?_)) rfl))) (fun h => by cases h) fun _ => bl_fall ?_
    · have := ct_le (X := (cxB CX0 P w K mg base ["value", "row"] "are_rows" (defScope (top 42)) (ca K "are_rows") b)) (i := 2) (j := ((rows.map (tRs K)).length : Int))
      rw [decide_eq_true (by rw [List.length_map]; omega)] at this
      exact this
    · have := ct_le (X := (cxB CX0 P w K mg base ["value", "row"] "are_rows" (defScope (top 42)) (ca K "are_rows") b)) (i := ((rows.map (tRs K)).length : Int)) (j := 6)
      rw [decide_eq_true (by rw [List.length_map]; omega)] at this
      exact this
    · refine bl_ret (t := tB true) (Has.is (k_b1 (T.f 9) b_all (ct_all (bs := rows.map fun _ => true) rfl) (Has.is (has_lc [("row", 1)] (src_seq (F := tRs K) (j := 1) 0) (fun _ : List Rat => tB true) (fun q hq s H C cl fp => has_call (f_are_chances T) q (pq.ok q hq).2 (hasa_cons (Has.is (k_lenQ T (ts := rows.map (tRs K)) (has_var 0)) (by rw [List.length_map, (pq.ok q hq).1])) (hasa_cons (Has.q (has_var 1)) hasa_nil)) r) (by omega) nd (fun s H C cl fp => pg_1 nd)) (by rw [List.map_map]; rfl))) (by rw [all_true])) fun v K' H' g _ h => hD v K' H' g h
theorem f_told_rows_of (T : Tx K mg) : Cal P w K mg base "told_rows_of" 3 (Spt (α := List (List Rat)) pRo (fun rows => [tRsq K rows]) fun rows => tRtt K rows) :=
  T.cal 23 rfl (C8.fnScope_by (N := ["value", "row"]) (P := ["value"]) (by decide +kernel)) (fun _ => rfl) (fun _ _ _ _ _ _ us hl => match us, hl with | [_], _ => rfl) fun nd rows pq b r Kb Hb D _ hD => by
    have hl := pq.hi
    exact bl_ret (k_t1 (T.f 7) b_tuple ct_tupL (has_lc [("row", 1)] (src_seq (F := tRs K) (j := 1) 0) (tRt K) (fun q hq s H C cl fp => has_call (f_told_numbers T) q (by rw [(pq.ok q hq).1]; omega) (hasa_cons (Has.q (has_var 1)) hasa_nil) r) (by omega) nd (fun s H C cl fp => pg_1 nd))) fun v K' H' g _ h => hD v K' H' g h
end
end Z
end
section
set_option Elab.async false
set_option linter.all false
set_option exponentiation.threshold 20000
set_option maxRecDepth 100000
set_option maxHeartbeats 2000000
namespace Z
open PySem PySem.Spec PyProof.Rows L2
/-- rows, shares -/
abbrev Rsh := List (List Rat) × List Rat
structure pSh (a : Rsh) : Prop where
  ro : pRo a.1
  ch : pCh a.2
  len : a.2.length = a.1.length
  gt : ∀ q ∈ a.2, 0 < q.num
  s1 : ∀ r ∈ a.1, SzL 190 r
  s2 : SzL 190 a.2
abbrev fK (K : PySem.W.Frag) (a : Rsh) : List (Str × Ty) := [("own_rows", tRtt K a.1), ("own_shares", tRt K a.2)]
abbrev tKn (K : PySem.W.Frag) (a : Rsh) : Ty := tO (ca K "Known") (fK K a)
abbrev fW (K : PySem.W.Frag) (a : Rsh) : List (Str × Ty) := [("own_rows", tRtt K a.1), ("own_shares", tRt K a.2), ("own_kept", tAny)]
abbrev tWk (K : PySem.W.Frag) (a : Rsh) : Ty := tO (ca K "Walk") (fW K a)
section
variable {P : Program} {w : World} {K : PySem.W.Frag} {mg : Str → Option Value} {base : Heap}
theorem led_len {a : Rsh} : (M.led a.2 a.1).length = a.1.length := by
  unfold M.led
  rw [List.length_map, List.length_range]
structure pLe (a : Rsh) : Prop where
  len : a.2.length = a.1.length
  hi : a.1.length ≤ 6
  rect : ∀ r ∈ a.1, r.length = a.1.length
  s1 : ∀ r ∈ a.1, SzL 190 r
  s2 : SzL 190 a.2
theorem f_led (T : Tx K mg) : Cal P w K mg base "led" 6 (Spt (α := Rsh) pLe (fun a => [tRt K a.2, tRtt K a.1]) fun a => tRt K (M.led a.2 a.1)) :=
  T.cal 24 rfl (C8.fnScope_by (N := ["shares", "rows", "found", "place", "share", "row"]) (P := ["shares", "rows"]) (by decide +kernel)) (fun _ => rfl) (fun _ _ _ _ _ _ us hl => match us, hl with | [_, _], _ => rfl) fun nd a pq b r Kb Hb D _ hD => by
    obtain ⟨rows, shares⟩ := a
    obtain ⟨hlen, hi, hre, s1, s2⟩ := pq
    simp only at hlen hi hre s1 s2
    let g : Nat → Rat := fun p => M.total ((shares.zip rows).map fun d => d.1 * d.2.getD p 0)
    have el : M.led shares rows = (List.range rows.length).map g := rfl
    refine bl_newM 2 (fun m hm _ => ?_) nd
    refine bl_for (s_range (n := rows.length) (j := 3) (T.f 1) (by omega) (Has.is (k_lenT T (has_var 1)) (by rw [List.length_map]))) (pg_1 nd) (fun i => [some (tRt K shares), some (tRtt K rows), some (tV (.ref m)), none, none, none]) (fun i => mAnd (mLst m ((((List.range rows.length).take i).map g).map (tR K))) mNone) ⟨fun _ _ h => h, fun _ _ h => h, fun _ _ h => h, trivial⟩ (fun _ _ h => h) (fun i d hd K1 up => ?_) ?_
    · have hlt : ((((List.range rows.length).take i).map g).map (tR K)).length < 1000 := by
        simp only [List.length_map, List.length_take, List.length_range]
        omega
      have hdm : d < rows.length := List.mem_range.mp (List.mem_of_getElem? hd)
      have hz : (shares.zip rows).length ≤ 8 := by rw [List.length_zip]; omega
      refine bl_appC (t := tR K (g d)) 2 rfl hm mNone.fr hlt (Has.cc (has_call (f_total_of T) ((shares.zip rows).map fun d' => d'.1 * d'.2.getD d 0) ⟨by rw [List.length_map]; exact hz, fun q hq => ?_⟩ (hasa_cons (Has.q (Has.is (has_lc [("share", 4), ("row", 5)] (s_zipT (F := tR K) (G := tRt K) (j := 4) (j2 := 5) (as := shares) (bs := rows) (T.f 2) (has_var 0) (has_var 1)) (fun d' : Rat × List Rat => tR K (d'.1 * d'.2.getD d 0)) (fun d' hd' s H C cl fp => ?_) (by omega) nd (fun s H C cl fp => pg_2 nd rfl)) (by rw [List.map_map]; rfl))) hasa_nil) r)) ?_
      · obtain ⟨d', hd', rfl⟩ := List.mem_map.mp hq
        obtain ⟨m1, m2⟩ := List.of_mem_zip (show (d'.1, d'.2) ∈ shares.zip rows from hd')
        have hlt2 : d < d'.2.length := by rw [hre _ m2]; exact hdm
        exact ((s2 _ m1).mul (s1 _ m2 _ (M.getD_mem hlt2))).mono (by decide)
      · obtain ⟨m1, m2⟩ := List.of_mem_zip (show (d'.1, d'.2) ∈ shares.zip rows from hd')
        have hlt2 : d < d'.2.length := by rw [hre _ m2]; exact hdm
        exact has_op (has_var 4) (has_ix (has_var 5) (has_var 3) (ix_T (getRs hlt2))) (bt_ratMul T (r.mono (by decide)) ((s2 _ m1).mono (by decide)) ((s1 _ m2 _ (M.getD_mem hlt2)).mono (by decide)))
      · refine Bl.nxt (fun _ _ h => h) ⟨fun _ _ h => h, fun _ _ h => h, fun _ _ h => h, trivial⟩ fun _ _ h => ⟨?_, trivial⟩
        have h' := h.1
        rw [List.take_add_one, hd, List.map_append, List.map_append]
        exact h'
    · rw [List.length_range, List.take_of_length_le (by rw [List.length_range]; exact Nat.le_refl _)]
      refine bl_freeze 2 rfl hm mNone.fz ?_
      exact bl_ret (k_t1 (T.f 7) b_tuple ct_tupL (has_var 2)) fun v K' H' g _ h => hD v K' H' g h
theorem pSh.le {a : Rsh} (h : pSh a) : pLe a := ⟨h.len, h.ro.hi, fun r hr => (h.ro.ok r hr).1, h.s1, h.s2⟩
theorem f_are_shares (T : Tx K mg) : Cal P w K mg base "are_shares" 8 (Spt (α := Rsh) pSh (fun a => [tRtt K a.1, tRq K a.2]) fun a => tB (decide (M.led a.2 a.1 = a.2))) :=
  T.cal 25 rfl (C8.fnScope_by (N := ["rows", "value", "numbers", "number"]) (P := ["rows", "value"]) (by decide +kernel)) (fun _ => rfl) (fun _ _ _ _ _ _ us hl => match us, hl with | [_, _], _ => rfl) fun nd a pq b r Kb Hb D _ hD => by
    have hl := pq.ro.hi
    have hl2 := pq.len
    refine bl_if (hast_not (hast_val (has_call (f_are_chances T) a.2 pq.ch (hasa_cons (Has.is (k_lenT T (has_var 0)) (by rw [List.length_map, hl2])) (hasa_cons (has_var 1) hasa_nil)) (r.mono (by decide))))) (fun h => by cases h) fun _ => bl_fall ?_
    refine bl_asg 2 (has_call (f_told_numbers T) a.2 (by omega) (hasa_cons (has_var 1) hasa_nil) (r.mono (by decide))) ?_ nd
    refine bl_ret (t := tB (decide (M.led a.2 a.1 = a.2))) (has_and (k := true) (Has.is (k_b1 (T.f 9) b_all (ct_all (bs := a.2.map fun _ => true) rfl) (Has.is (has_lc [("number", 3)] (src_tup (F := tR K) (j := 3) (has_var 2)) (fun _ : Rat => tB true) (fun q hq s H C cl fp => Has.is (has_cmp (k_sign T (has_var 3) (r.mono (by decide))) has_int ct_gt) (by rw [decide_eq_true (sgn_gt.mpr (pq.gt q hq))])) (by omega) nd (fun s H C cl fp => pg_1 nd)) (by rw [List.map_map]; rfl))) (by rw [all_true])) fun _ => has_one (has_cmp (has_call (f_led T) a pq.le (hasa_cons (has_var 2) (hasa_cons (has_var 0) hasa_nil)) (r.mono (by decide))) (has_var 2) (ct_eqRt T (by rw [led_len, hl2]) (r.mono (by decide))))) fun v K' H' g _ h => hD v K' H' g h
/-! Known -/
theorem f_KInit (T : Tx K mg) {fd : FuncData} (F : FunD K "__init__" "Known.__init__" (defArgs (inClass (top 46) 0)) (defBody (inClass (top 46) 0)) (defScope (inClass (top 46) 0)) [] [] (He.ma K (ca K "Known") "__init__") fd) :
    FnOk P w K mg base CX0 1 (He.ma K (ca K "Known") "__init__") fd ["self", "rows", "shares"] (Spi (α := Rsh) (ca K "Known") (fun a => a.1.length ≤ 8) (fun a => [tRtt K a.1, tRq K a.2]) fun a => fK K a) :=
  init_ty F (C8.fnScope_by (N := ["self", "rows", "shares", "row"]) (P := ["self", "rows", "shares"]) (by decide +kernel)) (fun _ => rfl) fun a pa b r Kb Hb D y hy _ hD => by
    have nd : (["self", "rows", "shares", "row"] : List Str).Nodup := by decide +kernel
    refine bl_fld (t := tRtt K a.1) 0 rfl hy mNone.fr T.cK.cl (T.n 2 (q := nq "Known" "own_rows")) rfl (by simp) (k_t1 (T.f 7) b_tuple ct_tupL (has_lc [("row", 3)] (src_tup (F := tRt K) (j := 3) (has_var 1)) (tRt K) (fun q hq s H C cl fp => k_t1 (T.f 7) b_tuple ct_tupT (has_var 3)) (by omega) nd (fun s H C cl fp => pg_1 nd))) ?_
    refine bl_fld (t := tRt K a.2) 0 rfl hy mNone.fr T.cK.cl (T.n 3 (q := nq "Known" "own_shares")) rfl (by simp) (k_t1 (T.f 7) b_tuple ct_tupQ (has_var 2)) ?_
    exact bl_nil fun σ H ⟨K', g, _, m, _⟩ => by
      rw [‹D.nx = _›]
      exact hD K' H g m
end
section
variable {X : Cx} {Γ : Ctx} {e e2 : Expr} {pos p : Pos}
theorem k_Known (T : Tx X.K X.mg) (a : Rsh) (hp : a.1.length ≤ 8) (h1 : Has X Γ e (tRtt X.K a.1)) (h2 : Has X Γ e2 (tRq X.K a.2)) (hr : Room 2 X.A) (hg : Gl X "Known" := by rfl)
    (he : starEach (e :: [e2]) X.env = (false, eval e X.env) :: starEach [e2] X.env := by rfl) (he2 : starEach [e2] X.env = (false, eval e2 X.env) :: starEach [] X.env := by rfl) (hpl : (backTo pos (starEach [e2] X.env)).any (·.1) = false := by rfl) :
    Has X Γ (.Call (.Name "Known" p) [e, e2] [] pos) (tKn X.K a) := by
  obtain ⟨fd, F⟩ := (T.m 7 _ rfl).fd
  have bd : Binds X.K fd ["self", "rows", "shares"] [] := F.bindsN fun _ _ _ _ _ _ us hl => match us, hl with | [_, _, _], _ => rfl
  exact has_make (dts := []) T.mK (f_KInit T F) bd .nil (fun _ => trivial) T.gK a hp rfl (hasa_cons h1 (hasa_cons h2 hasa_nil he2) he) hr hg (by decide) he hpl
theorem k_Kr (T : Tx X.K X.mg) {a : Rsh} (h : Has X Γ e (tKn X.K a)) (hb : attributeBase e "own_rows" X.env (eval e X.env) = eval e X.env := by rfl) : Has X Γ (.Attribute e "own_rows" pos) (tRtt X.K a.1) := has_fld T.cK.cl (T.n 2 (q := nq "Known" "own_rows")) h rfl hb
theorem k_Ks (T : Tx X.K X.mg) {a : Rsh} (h : Has X Γ e (tKn X.K a)) (hb : attributeBase e "own_shares" X.env (eval e X.env) = eval e X.env := by rfl) : Has X Γ (.Attribute e "own_shares" pos) (tRt X.K a.2) := has_fld T.cK.cl (T.n 3 (q := nq "Known" "own_shares")) h rfl hb
theorem k_Wr (T : Tx X.K X.mg) {a : Rsh} (h : Has X Γ e (tWk X.K a)) (hb : attributeBase e "own_rows" X.env (eval e X.env) = eval e X.env := by rfl) : Has X Γ (.Attribute e "own_rows" pos) (tRtt X.K a.1) := has_fld T.cW.cl (T.n 4 (q := nq "Walk" "own_rows")) h rfl hb
theorem k_Ws (T : Tx X.K X.mg) {a : Rsh} (h : Has X Γ e (tWk X.K a)) (hb : attributeBase e "own_shares" X.env (eval e X.env) = eval e X.env := by rfl) : Has X Γ (.Attribute e "own_shares" pos) (tRt X.K a.2) := has_fld T.cW.cl (T.n 5 (q := nq "Walk" "own_shares")) h rfl hb
end
section
variable {P : Program} {w : World} {K : PySem.W.Frag} {mg : Str → Option Value} {base : Heap}
/-- proper rows and shares that are kept -/
structure pKp (a : Rsh) : Prop extends pSh a where
  kept : M.led a.2 a.1 = a.2
theorem f_looked_at (T : Tx K mg) : Cal P w K mg base "looked_at" 9 (Spt (α := Rsh) pKp (fun a => [tRsq K a.1, tRq K a.2]) fun a => tKn K a) :=
  T.cal 26 rfl (C8.fnScope_by (N := ["rows", "shares", "told"]) (P := ["rows", "shares"]) (by decide +kernel)) (fun _ => rfl) (fun _ _ _ _ _ _ us hl => match us, hl with | [_, _], _ => rfl) fun nd a pq b r Kb Hb D _ hD => by
    have hl := pq.ro.hi
    have hl2 := pq.len
    refine bl_if (hast_not (hast_val (has_call (f_are_rows T) a.1 pq.ro (hasa_cons (has_var 0) hasa_nil) r))) (fun h => by cases h) fun _ => bl_fall ?_
    refine bl_asg 2 (has_call (f_told_rows_of T) a.1 pq.ro (hasa_cons (has_var 0) hasa_nil) (r.mono (by decide))) ?_ nd
    refine bl_if (k := false) (HasT.is (hast_not (hast_val (has_call (f_are_shares T) a pq.topSh (hasa_cons (has_var 2) (hasa_cons (has_var 1) hasa_nil)) r))) (by rw [decide_eq_true pq.kept]; rfl)) (fun h => by cases h) fun _ => bl_fall ?_
    exact bl_ret (k_Known T a (by omega) (has_var 2) (Has.qT (has_call (f_told_numbers T) a.2 (by omega) (hasa_cons (has_var 1) hasa_nil) (r.mono (by decide)))) (r.mono (by decide))) fun v K' H' g _ h => hD v K' H' g h
/-! Walk: of a Known, of rows -/
theorem kn_isi {X : Cx} {Γ : Ctx} {e : Expr} {pos p p2 : Pos} (T : Tx X.K X.mg) {t : Ty} {U : Value} {bb : Bool} (h : Has X Γ e t) (ht : HTy X.K t U) (hk : PySem.W.kitOne X.K U (.ref (ca X.K "Known")) = some bb) (hg : Gl X "isinstance" := by rfl) (hg2 : Gl X "Known" := by rfl)
    (he : starEach (e :: [.Name "Known" p2]) X.env = (false, eval e X.env) :: starEach [.Name "Known" p2] X.env := by rfl) (he2 : starEach [.Name "Known" p2] X.env = (false, eval (.Name "Known" p2) X.env) :: starEach [] X.env := by rfl) (hpl : (backTo pos (starEach [.Name "Known" p2] X.env)).any (·.1) = false := by rfl) :
    Has X Γ (.Call (.Name "isinstance" p) [e, .Name "Known" p2] [] pos) (tB bb) := k_isi T h (has_cls T.gK hg2) (.own _) ht hk hg he he2 hpl
abbrev FdW (K : PySem.W.Frag) (fd : FuncData) : Prop := FunD K "__init__" "Walk.__init__" (defArgs (inClass (top 48) 0)) (defBody (inClass (top 48) 0)) (defScope (inClass (top 48) 0)) [] [] (He.ma K (ca K "Walk") "__init__") fd
theorem f_WInitK (T : Tx K mg) {fd : FuncData} (F : FdW K fd) :
    FnOk P w K mg base CX0 1 (He.ma K (ca K "Walk") "__init__") fd ["self", "rows", "shares"] (Spi (α := Rsh) (ca K "Walk") (fun a => True) (fun a => [tKn K a, tRs K a.2]) fun a => fW K a) :=
  init_ty F (C8.fnScope_by (N := ["self", "rows", "shares", "known"]) (P := ["self", "rows", "shares"]) (by decide +kernel)) (fun _ => rfl) fun a pa b r Kb Hb D y hy _ hD => by
    have nd : (["self", "rows", "shares", "known"] : List Str).Nodup := by decide +kernel
    refine bl_asg (t := tKn K a) 3 (has_if (hast_val (kn_isi T (bb := true) (has_var 1) (hty_O T.cK) kit_same)) (fun _ => has_var 1) fun h => by cases h) ?_ nd
    refine bl_fld (t := tRtt K a.1) 0 rfl hy mNone.fr T.cW.cl (T.n 4 (q := nq "Walk" "own_rows")) rfl (by simp) (k_Kr T (has_var 3)) ?_
    refine bl_fld (t := tRt K a.2) 0 rfl hy mNone.fr T.cW.cl (T.n 5 (q := nq "Walk" "own_shares")) rfl (by simp) (k_Ks T (has_var 3)) ?_
    refine bl_fld (t := tAny) 0 rfl hy mNone.fr T.cW.cl (T.n 6 (q := nq "Walk" "own_kept")) rfl (by simp) (Has.imp (has_lst hasa_nil (by simp)) fun _ _ _ => trivial) ?_
    exact bl_nil fun σ H ⟨K', g, _, m, _⟩ => by
      rw [‹D.nx = _›]
      exact hD K' H g m
/-- rows and shares as lists, or as tuples -/
theorem f_WInit (T : Tx K mg) (isT : Bool) {fd : FuncData} (F : FdW K fd) :
    FnOk P w K mg base CX0 10 (He.ma K (ca K "Walk") "__init__") fd ["self", "rows", "shares"] (Spi (α := Rsh) (ca K "Walk") pKp (fun a => if isT = true then [tT (a.1.map (tRs K)), tRt K a.2] else [tRR K a.1, tRs K a.2]) fun a => fW K a) := by
  refine init_ty F (C8.fnScope_by (N := ["self", "rows", "shares", "known"]) (P := ["self", "rows", "shares"]) (by decide +kernel)) (fun _ => by cases isT <;> rfl) fun a pa b r Kb Hb D y hy _ hD => ?_
  have nd : (["self", "rows", "shares", "known"] : List Str).Nodup := by decide +kernel
  have fin : ∀ {Γ : Ctx}, Γ[0]? = some (some (tV (.ref y))) → Γ[3]? = some (some (tKn K a)) → Bl (cxB CX0 P w K mg base ["self", "rows", "shares", "known"] "Walk.__init__" (defScope (inClass (top 48) 0)) (He.ma K (ca K "Walk") "__init__") b) Kb Hb Γ (mAnd (mIns y (ca K "Walk") []) mNone) ((defBody (inClass (top 48) 0)).drop 1) D := fun {Γ} g0 g3 => by
    refine bl_fld (t := tRtt K a.1) 0 g0 hy mNone.fr T.cW.cl (T.n 4 (q := nq "Walk" "own_rows")) rfl (by simp) (k_Kr T (has_var 3 g3)) ?_
    refine bl_fld (t := tRt K a.2) 0 g0 hy mNone.fr T.cW.cl (T.n 5 (q := nq "Walk" "own_shares")) rfl (by simp) (k_Ks T (has_var 3 g3)) ?_
    refine bl_fld (t := tAny) 0 g0 hy mNone.fr T.cW.cl (T.n 6 (q := nq "Walk" "own_kept")) rfl (by simp) (Has.imp (has_lst hasa_nil (by simp)) fun _ _ _ => trivial) ?_
    exact bl_nil fun σ H ⟨K', g, _, m, _⟩ => by
      rw [‹D.nx = _›]
      exact hD K' H g m
  cases isT with
  | false => exact bl_asg (t := tKn K a) 3 (has_if (hast_val (kn_isi T (bb := false) (has_var (t := tRR K a.1) 1) hty_L (T.kt 1 (q := kq (.type "list") "Known" false)))) (fun h => by cases h) fun _ => has_call (f_looked_at T) a pa (hasa_cons (Has.q (has_var 1)) (hasa_cons (Has.q (has_var (t := tRs K a.2) 2)) hasa_nil)) r) (fin rfl rfl) nd
  | true => exact bl_asg (t := tKn K a) 3 (has_if (hast_val (kn_isi T (bb := false) (has_var (t := tT (a.1.map (tRs K))) 1) hty_T (T.kt 2 (q := kq (.type "tuple") "Known" false)))) (fun h => by cases h) fun _ => has_call (f_looked_at T) a pa (hasa_cons (Has.qT (has_var 1)) (hasa_cons (Has.qT (has_var (t := tRt K a.2) 2)) hasa_nil)) r) (fin rfl rfl) nd
theorem bdW {fd : FuncData} (F : FdW K fd) : Binds K fd ["self", "rows", "shares"] [] := F.bindsN fun _ _ _ _ _ _ us hl => match us, hl with | [_, _, _], _ => rfl
end
section
variable {X : Cx} {Γ : Ctx} {e e2 : Expr} {pos p : Pos}
theorem k_WalkK (T : Tx X.K X.mg) (a : Rsh) (h1 : Has X Γ e (tKn X.K a)) (h2 : Has X Γ e2 (tRs X.K a.2)) (hr : Room 2 X.A) (hg : Gl X "Walk" := by rfl)
    (he : starEach (e :: [e2]) X.env = (false, eval e X.env) :: starEach [e2] X.env := by rfl) (he2 : starEach [e2] X.env = (false, eval e2 X.env) :: starEach [] X.env := by rfl) (hpl : (backTo pos (starEach [e2] X.env)).any (·.1) = false := by rfl) :
    Has X Γ (.Call (.Name "Walk" p) [e, e2] [] pos) (tWk X.K a) := by
  obtain ⟨fd, F⟩ := (T.m 8 _ rfl).fd
  exact has_make (dts := []) T.mW (f_WInitK T F) (bdW F) .nil (fun _ => trivial) T.gW a trivial rfl (hasa_cons h1 (hasa_cons h2 hasa_nil he2) he) hr hg (by decide) he hpl
theorem k_Walk (T : Tx X.K X.mg) (a : Rsh) (hp : pKp a) (h1 : Has X Γ e (tRR X.K a.1)) (h2 : Has X Γ e2 (tRs X.K a.2)) (hr : Room 11 X.A) (hg : Gl X "Walk" := by rfl)
    (he : starEach (e :: [e2]) X.env = (false, eval e X.env) :: starEach [e2] X.env := by rfl) (he2 : starEach [e2] X.env = (false, eval e2 X.env) :: starEach [] X.env := by rfl) (hpl : (backTo pos (starEach [e2] X.env)).any (·.1) = false := by rfl) :
    Has X Γ (.Call (.Name "Walk" p) [e, e2] [] pos) (tWk X.K a) := by
  obtain ⟨fd, F⟩ := (T.m 8 _ rfl).fd
  exact has_make (dts := []) T.mW (f_WInit T false F) (bdW F) .nil (fun _ => trivial) T.gW a hp rfl (hasa_cons h1 (hasa_cons h2 hasa_nil he2) he) hr hg (by decide) he hpl
end
end Z
end
section
set_option Elab.async false
set_option linter.all false
set_option exponentiation.threshold 20000
set_option maxRecDepth 100000
set_option maxHeartbeats 2000000
namespace Z
open PySem PySem.Spec PyProof.Rows L2
theorem u64 {k : Nat} {A : Around} (r : Room k A) : A.units + 64 < cLine := by
  have := r.un
  omega
theorem HasTC.perm {X : Cx} {Kb Hb : Hp} {Γ : Ctx} {M M' M1 M2 : Mt} {e : Expr} {b : Bool → Prop} (h1 : ∀ K H, M.p K H → M1.p K H) (h2 : ∀ K H, M2.p K H → M'.p K H) (h : HasTC X Kb Hb Γ M1 e b M2) : HasTC X Kb Hb Γ M e b M' := fun σ K H g sa m Q q =>
  h σ K H g sa (h1 _ _ m) Q fun k K2 H2 g2 e2 m2 hk => q k K2 H2 g2 e2 (h2 _ _ m2) hk
theorem HasC.perm {X : Cx} {Kb Hb : Hp} {Γ : Ctx} {M M' M1 M2 : Mt} {e : Expr} {t : Ty} (h1 : ∀ K H, M.p K H → M1.p K H) (h2 : ∀ K H, M2.p K H → M'.p K H) (h : HasC X Kb Hb Γ M1 e t M2) : HasC X Kb Hb Γ M e t M' := fun σ K H g sa m Q q =>
  h σ K H g sa (h1 _ _ m) Q fun k K2 H2 g2 e2 m2 hk => q k K2 H2 g2 e2 (h2 _ _ m2) hk
/-- a step leads from p to q -/
def edR (rows : List (List Rat)) (p q : Nat) : Bool := decide (0 < ((rows.getD p []).getD q 0).num)
abbrev cst (l : List Nat) : List Int := l.map fun q : Nat => (q : Int)
abbrev tNs (l : List Nat) : Ty := tIs (cst l)
def tClo : Option (List Nat) → Ty
  | none => tNone
  | some l => tNs l
section
variable {P : Program} {w : World} {K : PySem.W.Frag} {mg : Str → Option Value} {base : Heap}
theorem f_walk_made (T : Tx K mg) : Cal P w K mg base "walk_made" 3 (Spt (α := Rsh) (fun a => a.1.length ≤ 8) (fun a => [tRtt K a.1, tRs K a.2]) fun a => tWk K a) :=
  T.cal 27 rfl (C8.fnScope_by (N := ["rows", "shares"]) (P := ["rows", "shares"]) (by decide +kernel)) (fun _ => rfl) (fun _ _ _ _ _ _ us hl => match us, hl with | [_, _], _ => rfl) fun nd a pq b r Kb Hb D _ hD =>
    bl_ret (k_WalkK T a (k_Known T a pq (has_var 0) (Has.q (has_var 1)) r) (has_var 1) r) fun v K' H' g _ h => hD v K' H' g h
theorem wk_isi {X : Cx} {Γ : Ctx} {e : Expr} {pos p p2 : Pos} (T : Tx X.K X.mg) {t : Ty} {U : Value} {bb : Bool} (h : Has X Γ e t) (ht : HTy X.K t U) (hk : PySem.W.kitOne X.K U (.ref (ca X.K "Walk")) = some bb) (hg : Gl X "isinstance" := by rfl) (hg2 : Gl X "Walk" := by rfl)
    (he : starEach (e :: [.Name "Walk" p2]) X.env = (false, eval e X.env) :: starEach [.Name "Walk" p2] X.env := by rfl) (he2 : starEach [.Name "Walk" p2] X.env = (false, eval (.Name "Walk" p2) X.env) :: starEach [] X.env := by rfl) (hpl : (backTo pos (starEach [.Name "Walk" p2] X.env)).any (·.1) = false := by rfl) :
    Has X Γ (.Call (.Name "isinstance" p) [e, .Name "Walk" p2] [] pos) (tB bb) := k_isi T h (has_cls T.gW hg2) (.own _) ht hk hg he he2 hpl
theorem f_want_walk (T : Tx K mg) : Cal P w K mg base "want_walk" 1 (Spt (α := Rsh) (fun a => True) (fun a => [tWk K a]) fun a => tWk K a) :=
  T.cal 28 rfl (C8.fnScope_by (N := ["value"]) (P := ["value"]) (by decide +kernel)) (fun _ => rfl) (fun _ _ _ _ _ _ us hl => match us, hl with | [_], _ => rfl) fun nd a pq b r Kb Hb D _ hD =>
    bl_if (hast_not (hast_val (wk_isi T (bb := true) (has_var 0) (hty_O T.cW) kit_same))) (fun h => by cases h) fun _ => bl_fall (bl_ret (has_var 0) fun v K' H' g _ h => hD v K' H' g h)
/-! a look through the rows -/
structure pCo (a : List (List Rat) × Nat) : Prop where
  len : a.1.length ≤ 6
  rect : ∀ r ∈ a.1, r.length = a.1.length
  lt : a.2 < a.1.length
theorem getRtt {K : PySem.W.Frag} {rows : List (List Rat)} {p : Nat} (h : p < rows.length) : (rows.map (tRt K))[p]? = some (tRt K (rows.getD p [])) := by
  rw [List.getElem?_map, M.getD_at h, List.getElem?_eq_getElem h]
  rfl
theorem more_succ {E : Nat → Nat → Bool} {n here i : Nat} {found : List Nat} (hi : i < n) : M.more E n here found (i + 1) = M.more E n here found i ++ (if E here i = true ∧ i ∉ found then [i] else []) := by
  unfold M.more
  rw [List.take_add_one, List.getElem?_range hi, List.filter_append]
  congr 1
  show List.filter _ [i] = _
  by_cases h : E here i = true ∧ i ∉ found
  · rw [if_pos h, List.filter_cons, if_pos (by rw [h.1, decide_eq_false h.2]; rfl)]
    rfl
  · rw [if_neg h, List.filter_cons, if_neg]
    · rfl
    · intro z
      simp only [Bool.and_eq_true, Bool.not_eq_true', decide_eq_false_iff_not] at z
      exact h z
theorem more_len {E : Nat → Nat → Bool} {n here i : Nat} {found : List Nat} : (M.more E n here found i).length ≤ n := by
  unfold M.more
  refine Nat.le_trans (List.length_filter_le _ _) ?_
  rw [List.length_take, List.length_range]
  omega
theorem f_come_to (T : Tx K mg) : Cal P w K mg base "come_to" 3 (Spt (α := List (List Rat) × Nat) pCo (fun a => [tRtt K a.1, tI (a.2 : Int)]) fun a => tNs (M.reachL (edR a.1) a.1.length a.2)) :=
  T.cal 29 rfl (C8.fnScope_by (N := ["rows", "place", "found", "left", "here", "further", "chance"]) (P := ["rows", "place"]) (by decide +kernel)) (fun _ => rfl) (fun _ _ _ _ _ _ us hl => match us, hl with | [_, _], _ => rfl) fun nd a pq b r Kb Hb D _ hD => by
    obtain ⟨rows, p⟩ := a
    obtain ⟨hl, hre, hp⟩ := pq
    simp only at hl hre hp
    have fl : ∀ {d : List Nat × List Nat}, M.Dfs (edR rows) rows.length p d → d.1.length ≤ rows.length := fun d => M.nodup_le d.nd fun q hq => (d.rch q hq).1
    refine bl_parNN 2 3 (hasn_lst (hasa_cons (has_var 1) hasa_nil) (by simp)) (hasn_lst (hasa_cons (has_var 1) hasa_nil) (by simp)) (fun m1 m2 h1 h2 ne _ _ => ?_) nd
    refine bl_whileC (ι := List Nat × List Nat) (fun d => M.Dfs (edR rows) rows.length p d) (fun d => M.dMu rows.length d) (fun _ => [some (tRtt K rows), some (tI (p : Int)), some (tV (.ref m1)), some (tV (.ref m2)), none, none, none])
      (fun d => mAnd (mLst m1 ((cst d.1).map tI)) (mAnd (mLst m2 ((cst d.2).map tI)) mNone)) (fun d => !decide (cst d.2 = [])) ([p], [p]) (M.dfs_start hp) ⟨fun _ _ h => h, fun _ _ h => h, fun _ _ h => h, fun _ _ h => h, trivial⟩ (fun _ _ h => h) (fun d hd Kb' Hb' => ?_) (fun d hd hb => ?_) fun d hd hb => ?_
    · exact HasTC.perm (M1 := mAnd (mLst m2 ((cst d.2).map tI)) (mAnd (mLst m1 ((cst d.1).map tI)) mNone)) (M2 := mAnd (mLst m2 ((cst d.2).map tI)) (mAnd (mLst m1 ((cst d.1).map tI)) mNone)) (fun _ _ m => ⟨m.2.1, m.1, trivial⟩) (fun _ _ m => ⟨m.2.1, m.1, trivial⟩) (hastc_peek 3 rfl (hast_cmp (has_var 3) (has_lst hasa_nil (by simp)) (ct_neL (ns := cst d.2) (ms := []) (u64 r))))
    · obtain ⟨found, left0⟩ := d
      have hdf : M.Dfs (edR rows) rows.length p (found, left0) := hd
      have hlen : left0.length ≤ rows.length := M.nodup_le hdf.ndl fun q hq => (hdf.rch q (hdf.sub q hq)).1
      have hne : left0 ≠ [] := fun z => by
        subst z
        simp [cst] at hb
      obtain ⟨left, here, rfl⟩ : ∃ l h, left0 = l ++ [h] := ⟨left0.dropLast, left0.getLast hne, (List.dropLast_concat_getLast hne).symm⟩
      have hh : here ∈ found := hdf.sub here (by simp)
      have hhn : here < rows.length := (hdf.rch here hh).1
      have hrl : (rows.getD here []).length = rows.length := hre _ (M.getD_mem hhn)
      have hfl := fl hdf
      simp only [List.length_append, List.length_singleton] at hlen hfl
      refine Bl.sub (Γ' := [some (tRtt K rows), some (tI (p : Int)), some (tV (.ref m1)), some (tV (.ref m2)), none, none, none]) (M' := mAnd (mLst m2 ((cst left).map tI ++ [tI (here : Int)])) (mAnd (mLst m1 ((cst found).map tI)) mNone)) ?_ (Sub2.refl _) fun _ _ h => ⟨?_, h.1, trivial⟩
      · refine bl_asgC 4 (hasc_pop 3 rfl h2 (mAnd.fr (mLst.fr ne) mNone.fr)) ?_ nd
        refine bl_for (src_enumT (j := 5) (j2 := 6) (as := rows.getD here []) (G := tR K) (hasa_cons (has_ix (has_var 0) (has_var 4) (ix_T (getRtt hhn))) hasa_nil) (T.f 3)) (pg_2 nd rfl) (fun _ => [some (tRtt K rows), some (tI (p : Int)), some (tV (.ref m1)), some (tV (.ref m2)), some (tI (here : Int)), none, none])
          (fun i => mAnd (mLst m1 ((cst (found ++ M.more (edR rows) rows.length here found i)).map tI)) (mAnd (mLst m2 ((cst (left ++ M.more (edR rows) rows.length here found i)).map tI)) mNone)) ⟨fun _ _ h => h, fun _ _ h => h, fun _ _ h => h, fun _ _ h => h, fun _ _ h => h, trivial⟩ (fun _ _ h => ⟨?_, ?_, trivial⟩) (fun i e hde K1 up => ?_) ?_
        · have e0 : M.more (edR rows) rows.length here found 0 = [] := by unfold M.more; simp
          rw [e0, List.append_nil]
          exact h.2.1
        · have e0 : M.more (edR rows) rows.length here found 0 = [] := by unfold M.more; simp
          rw [e0, List.append_nil]
          exact h.1
        · obtain ⟨e1, e2⟩ := zip_range hde
          have hi : i < rows.length := by
            have := (List.getElem?_eq_some_iff.mp e2).1
            omega
          have ee : e.2 = (rows.getD here []).getD i 0 := by
            rw [List.getD_eq_getElem?_getD, e2]
            rfl
          have hml := more_len (E := edR rows) (n := rows.length) (here := here) (i := i) (found := found)
          have hms := more_succ (E := edR rows) (here := here) (found := found) hi
          have hmi : i ∉ M.more (edR rows) rows.length here found i := fun z => by
            have := (M.mem_more.mp z).2.1
            omega
          refine bl_ifC (P := fun k => k = (decide (0 < sgnI e.2) && !decide ((i : Int) ∈ cst (found ++ M.more (edR rows) rows.length here found i)))) (hastc_peek 2 rfl (hast_w (hasw_and (hast_cmp (k_sign T (has_var 6) (r.mono (by decide))) has_int ct_gt) fun _ => hasw_and1 (hast_cmp (Has.is (has_var 5) (by rw [e1])) (has_var 2) ct_notIn)))) (fun h => ?_) fun h => bl_fall ?_
          · have h' := h.symm
            rw [Bool.and_eq_true, decide_eq_true_iff, Bool.not_eq_true', decide_eq_false_iff_not, mem_cast, List.mem_append, not_or] at h'
            have hE : edR rows here i = true := by
              unfold edR
              rw [← ee]
              exact decide_eq_true (sgn_gt.mp h'.1)
            rw [if_pos ⟨hE, h'.2.1⟩] at hms
            refine bl_appC (t := tI (i : Int)) 2 rfl h1 (mAnd.fr (mLst.fr ne.symm) mNone.fr) (by simp only [List.length_map, List.length_append]; omega) (Has.cc (Has.is (has_var 5) (by rw [e1]))) ?_
            refine Bl.sub (Γ' := _) (M' := mAnd (mLst m2 ((cst (left ++ M.more (edR rows) rows.length here found i)).map tI)) (mAnd (mLst m1 ((cst (found ++ M.more (edR rows) rows.length here found i)).map tI ++ [tI (i : Int)])) mNone)) ?_ (Sub2.refl _) fun _ _ h => ⟨h.2.1, h.1, trivial⟩
            refine bl_appC (t := tI (i : Int)) 3 rfl h2 (mAnd.fr (mLst.fr ne) mNone.fr) (by simp only [List.length_map, List.length_append]; omega) (Has.cc (Has.is (has_var 5) (by rw [e1]))) ?_
            refine bl_fall (Bl.nxt (fun _ _ h => h) ⟨fun _ _ h => h, fun _ _ h => h, fun _ _ h => h, fun _ _ h => h, fun _ _ h => h, trivial⟩ fun _ _ h => ?_)
            rw [hms, ← List.append_assoc, ← List.append_assoc]
            have hz1 : (cst (found ++ M.more (edR rows) rows.length here found i ++ [i])).map tI = (cst (found ++ M.more (edR rows) rows.length here found i)).map tI ++ [tI (i : Int)] := by simp [cst]
            have hz2 : (cst (left ++ M.more (edR rows) rows.length here found i ++ [i])).map tI = (cst (left ++ M.more (edR rows) rows.length here found i)).map tI ++ [tI (i : Int)] := by simp [cst]
            rw [hz1, hz2]
            exact ⟨h.2.1, h.1, trivial⟩
          · have hN : ¬ (edR rows here i = true ∧ i ∉ found) := fun ⟨z1, z2⟩ => by
              have h' := h.symm
              rw [Bool.and_eq_false_iff] at h'
              rcases h' with y | y
              · unfold edR at z1
                rw [← ee] at z1
                exact of_decide_eq_false y (sgn_gt.mpr (of_decide_eq_true z1))
              · rw [Bool.not_eq_false', decide_eq_true_iff, mem_cast, List.mem_append] at y
                exact y.elim z2 hmi
            rw [if_neg hN, List.append_nil] at hms
            refine Bl.nxt (fun _ _ h => h) ⟨fun _ _ h => h, fun _ _ h => h, fun _ _ h => h, fun _ _ h => h, fun _ _ h => h, trivial⟩ fun _ _ h => ?_
            rw [hms]
            exact h
        · have elen : ((List.range (rows.getD here []).length).zip (rows.getD here [])).length = rows.length := by
            rw [List.length_zip, List.length_range, Nat.min_self, hrl]
          rw [elen]
          obtain ⟨s1, s2⟩ := M.dfs_step hdf
          exact bl_nil fun σ H s => ⟨_, s1, s2, s.sub ⟨fun _ _ h => h, fun _ _ h => h, fun _ _ h => h, fun _ _ h => h, trivial⟩ fun _ _ h => h⟩
      · have h' := h.2.1
        have hz2 : (cst (left ++ [here])).map tI = (cst left).map tI ++ [tI (here : Int)] := by simp [cst]
        rw [hz2] at h'
        exact h'
    · obtain ⟨found, left⟩ := d
      have hle : left = [] := by
        have h' : decide (cst left = []) = true := by
          have hb' : (!decide (cst left = [])) = false := hb
          rwa [Bool.not_eq_false'] at hb'
        simpa [cst] using h'
      subst hle
      have hfl := fl hd
      refine bl_freeze 2 rfl h1 (mAnd.fz (mLst.fz ne.symm) mNone.fz) ?_
      refine bl_ret (k_b1 (T.f 11) b_sorted (ct_sorted (ns := cst found) (by rw [List.length_map]; simp only at hfl; omega)) (has_var 2)) fun v K' H' g _ h => hD v K' H' g ?_
      obtain ⟨ms, ⟨hp1, hp2⟩, hv⟩ := h
      have e : ms = cst (M.reachL (edR rows) rows.length p) := M.sorted_eq (hp1.trans ((M.dfs_perm hd).map _)) hp2 (M.cast_sorted M.reachL_sorted)
      rw [e] at hv
      exact hv
end
end Z
end
section
set_option Elab.async false
set_option linter.all false
set_option exponentiation.threshold 20000
set_option maxRecDepth 100000
set_option maxHeartbeats 2000000
namespace Z
open PySem PySem.Spec PyProof.Rows L2
section
variable {P : Program} {w : World} {K : PySem.W.Frag} {mg : Str → Option Value} {base : Heap}
structure pCl2 (rows : List (List Rat)) : Prop where
  len : rows.length ≤ 6
  rect : ∀ r ∈ rows, r.length = rows.length
noncomputable abbrev clR (rows : List (List Rat)) : Option (List Nat) := M.closedIn (edR rows) rows.length
theorem cl_none {E : Nat → Nat → Bool} {n : Nat} (h : ∀ p, p < n → ¬ (M.reachL E n p).length < n) : M.closedIn E n = none := by
  unfold M.closedIn
  rw [List.findSome?_eq_none_iff]
  intro p hp
  rw [if_neg (h p (List.mem_range.mp hp))]
theorem cl_some {E : Nat → Nat → Bool} {n p : Nat} (hp : p < n) (h : ∀ q, q < p → ¬ (M.reachL E n q).length < n) (h1 : (M.reachL E n p).length < n) : M.closedIn E n = some (M.reachL E n p) := by
  unfold M.closedIn
  have e : List.range n = List.range p ++ p :: (List.range' (p + 1) (n - p - 1)) := by
    rw [List.range_eq_range', show n = p + (n - p - 1 + 1) by omega, ← List.range'_append_1, List.range'_succ]
    simp [List.range_eq_range']
  rw [e, List.findSome?_append]
  have e1 : (List.range p).findSome? (fun p => if (M.reachL E n p).length < n then some (M.reachL E n p) else none) = none := by
    rw [List.findSome?_eq_none_iff]
    intro q hq
    rw [if_neg (h q (List.mem_range.mp hq))]
  rw [e1, List.findSome?_cons, if_pos h1]
  rfl
theorem f_closed_in (T : Tx K mg) : Cal P w K mg base "closed_in" 4 (Spt (α := List (List Rat)) pCl2 (fun rows => [tRtt K rows]) fun rows => tClo (clR rows)) :=
  T.cal 30 rfl (C8.fnScope_by (N := ["rows", "place", "found"]) (P := ["rows"]) (by decide +kernel)) (fun _ => rfl) (fun _ _ _ _ _ _ us hl => match us, hl with | [_], _ => rfl) fun nd rows pq b r Kb Hb D _ hD => by
    have hl := pq.len
    refine bl_for (s_range (n := rows.length) (j := 1) (T.f 1) (by omega) (Has.is (k_lenT T (has_var 0)) (by rw [List.length_map]))) (pg_1 nd) (fun _ => [some (tRtt K rows), none, none]) (fun i => mAnd (mPure (∀ q, q < i → ¬ (M.reachL (edR rows) rows.length q).length < rows.length)) mNone) ⟨fun _ _ h => h, trivial⟩ (fun _ _ h => ⟨fun q z => absurd z (Nat.not_lt_zero _), trivial⟩) (fun i d hd K1 up => bl_pure fun hz => ?_) ?_
    · have hdi : d = i := by
        obtain ⟨h1, h2⟩ := List.getElem?_eq_some_iff.mp hd
        rw [List.getElem_range] at h2
        exact h2.symm
      subst hdi
      have hi : d < rows.length := by simpa using (List.getElem?_eq_some_iff.mp hd).1
      refine bl_asg 2 (has_call (f_come_to T) (rows, d) ⟨hl, pq.rect, hi⟩ (hasa_cons (has_var 0) (hasa_cons (has_var 1) hasa_nil)) r) ?_ nd
      refine bl_if (hast_cmp (k_len T (has_var 2)) (k_lenT T (has_var 0)) ct_lt) (fun h => ?_) fun h => bl_fall ?_
      · simp only [List.length_map] at h
        have h1 : (M.reachL (edR rows) rows.length d).length < rows.length := by
          have := of_decide_eq_true h
          omega
        refine bl_ret (has_var 2) fun v K' H' g _ h => hD v K' H' (up K' H' g) ?_
        rw [clR, cl_some hi hz h1]
        exact h
      · simp only [List.length_map] at h
        have h1 : ¬ (M.reachL (edR rows) rows.length d).length < rows.length := by
          have := of_decide_eq_false h
          omega
        refine Bl.nxt (fun _ _ h => h) ⟨fun _ _ h => h, trivial⟩ fun _ _ h => ⟨fun q hq => ?_, h⟩
        by_cases e : q = d
        · rw [e]
          exact h1
        · exact hz q (by omega)
    · rw [List.length_range]
      refine bl_pure fun hz => bl_ret has_non fun v K' H' g _ h => hD v K' H' g ?_
      rw [clR, cl_none hz]
      exact h
theorem clo_non {o : Option (List Nat)} {v : V} {H : Hp} (h : (tClo o).p v H) : decide (v = V.non) = o.isNone := by
  cases o with
  | none => exact decide_eq_true h
  | some l =>
    obtain ⟨a, xs, e, _⟩ := h
    rw [e]
    exact decide_eq_false fun z => by cases z
theorem f_are_whole_rows (T : Tx K mg) : Cal P w K mg base "are_whole_rows" 5 (Spt (α := List (List Rat)) pCl2 (fun rows => [tRtt K rows]) fun rows => tB (clR rows).isNone) :=
  T.cal 31 rfl (C8.fnScope_by (N := ["rows"]) (P := ["rows"]) (by decide +kernel)) (fun _ => rfl) (fun _ _ _ _ _ _ us hl => match us, hl with | [_], _ => rfl) fun nd rows pq b r Kb Hb D _ hD =>
    bl_ret (has_cmp (has_call (f_closed_in T) rows pq (hasa_cons (has_var 0) hasa_nil) r) has_non (ct_isN fun _ _ h => clo_non h)) fun v K' H' g _ h => hD v K' H' g h
theorem f_is_whole (T : Tx K mg) : Cal P w K mg base "is_whole" 6 (Spt (α := Rsh) (fun a => pCl2 a.1) (fun a => [tWk K a]) fun a => tB (clR a.1).isNone) :=
  T.cal 34 rfl (C8.fnScope_by (N := ["walk"]) (P := ["walk"]) (by decide +kernel)) (fun _ => rfl) (fun _ _ _ _ _ _ us hl => match us, hl with | [_], _ => rfl) fun nd a pq b r Kb Hb D _ hD =>
    bl_expr (has_call (f_want_walk T) a trivial (hasa_cons (has_var 0) hasa_nil) (r.mono (by decide))) (bl_ret (has_call (f_are_whole_rows T) a.1 pq (hasa_cons (k_Wr T (has_var 0)) hasa_nil) r) fun v K' H' g _ h => hD v K' H' g h)
theorem f_closed_lot (T : Tx K mg) : Cal P w K mg base "closed_lot" 5 (Spt (α := Rsh) (fun a => pCl2 a.1) (fun a => [tWk K a]) fun a => tClo (clR a.1)) :=
  T.cal 35 rfl (C8.fnScope_by (N := ["walk"]) (P := ["walk"]) (by decide +kernel)) (fun _ => rfl) (fun _ _ _ _ _ _ us hl => match us, hl with | [_], _ => rfl) fun nd a pq b r Kb Hb D _ hD =>
    bl_expr (has_call (f_want_walk T) a trivial (hasa_cons (has_var 0) hasa_nil) (r.mono (by decide))) (bl_ret (has_call (f_closed_in T) a.1 pq (hasa_cons (k_Wr T (has_var 0)) hasa_nil) r) fun v K' H' g _ h => hD v K' H' g h)
/-! only_shares -/
structure pOn (rows : List (List Rat)) : Prop where
  len : rows.length ≤ 4
  rect : ∀ r ∈ rows, r.length = rows.length
  sz : ∀ r ∈ rows, SzL 190 r
  ko : pKo (M.columns rows, rows.length)
  one : 0 < (M.kernelOf (M.columns rows) rows.length).length
  wlen : ((M.kernelOf (M.columns rows) rows.length).getD 0 []).length ≤ 8
  wsz : SzL 400 ((M.kernelOf (M.columns rows) rows.length).getD 0 [])
  pos : 0 < (M.total ((M.kernelOf (M.columns rows) rows.length).getD 0 [])).num
theorem getRR {K : PySem.W.Frag} {rows : List (List Rat)} {p : Nat} (h : p < rows.length) : (rows.map (tRs K))[p]? = some (tRs K (rows.getD p [])) := by
  rw [List.getElem?_map, M.getD_at h, List.getElem?_eq_getElem h]
  rfl
theorem k_over {X : Cx} {Γ : Ctx} {e o : Expr} {pos apos : Pos} (T : Tx X.K X.mg) (a b : Rat) (hp : pOv (a, b)) (h : Has X Γ o (tR X.K a)) (h2 : Has X Γ e (tR X.K b)) (hr : Room 4 X.A)
    (hst : starEach (e :: []) X.env = (false, eval e X.env) :: starEach [] X.env := by rfl) (hpl : (backTo pos (starEach [] X.env)).any (·.1) = false := by rfl) {pl : Sem Bool}
    (ht : eval (.Call (.Attribute o "over" apos) (e :: []) [] pos) X.env = (do
      let ov ← eval o X.env
      standAt apos.atName
      let (f, first) ← holding [ov] (getMethod ov "over" pl)
      callWith pos f first (backTo pos (starEach (e :: []) X.env)) (backToKw pos (keywordEach [] X.env))) := by rfl) : Has X Γ (.Call (.Attribute o "over" apos) [e] [] pos) (tR X.K (a / b)) := by
  have F := f_over (P := X.prog) (w := X.w) (base := X.base) T
  obtain ⟨fd, G, bd⟩ := F.ex
  exact has_meth1 (pl := pl) (ts := [tR X.K b]) T.cR.cl F.me G bd (a, b) hp rfl h (hasa_cons h2 hasa_nil hst) hr rfl hst hpl ht
theorem f_only_shares (T : Tx K mg) : Cal P w K mg base "only_shares" 7 (Spt (α := List (List Rat)) pOn (fun rows => [tRtt K rows]) fun rows => tRs K (M.onlyShares rows)) :=
  T.cal 32 rfl (C8.fnScope_by (N := ["rows", "many", "columns", "place", "found", "whole", "share", "here"]) (P := ["rows"]) (by decide +kernel)) (fun _ => rfl) (fun _ _ _ _ _ _ us hl => match us, hl with | [_], _ => rfl) fun nd rows pq b r Kb Hb D _ hD => by
    have hl := pq.len
    let col : Nat → List Rat := fun p => (List.range rows.length).map fun h => (rows.getD h []).getD p 0 - if h = p then 1 else 0
    have ec : M.columns rows = (List.range rows.length).map col := rfl
    refine bl_asg 1 (Has.is (k_lenT T (has_var 0)) (by rw [List.length_map])) ?_ nd
    refine bl_newM 2 (fun m hm _ => ?_) nd
    refine bl_for (s_range (n := rows.length) (j := 3) (T.f 1) (by omega) (has_var 1)) (pg_1 nd) (fun i => [some (tRtt K rows), some (tI (rows.length : Int)), some (tV (.ref m)), none, none, none, none, none]) (fun i => mAnd (mLst m ((((List.range rows.length).take i).map col).map (tRs K))) mNone) ⟨fun _ _ h => h, fun _ _ h => h, fun _ _ h => h, trivial⟩ (fun _ _ h => h) (fun i d hd K1 up => ?_) ?_
    · have hlt : ((((List.range rows.length).take i).map col).map (tRs K)).length < 1000 := by
        simp only [List.length_map, List.length_take, List.length_range]
        omega
      have hdm : d < rows.length := List.mem_range.mp (List.mem_of_getElem? hd)
      refine bl_appC (t := tRs K (col d)) 2 rfl hm mNone.fr hlt (Has.cc (Has.is (has_lc [("here", 7)] (s_range (n := rows.length) (j := 7) (T.f 1) (by omega) (has_var 1)) (fun h : Nat => tR K ((rows.getD h []).getD d 0 - if h = d then 1 else 0)) (fun h hh s H C cl fp => ?_) (by rw [List.length_range]; omega) nd (fun s H C cl fp => pg_1 nd)) (by unfold tRs; rw [List.map_map]; rfl))) ?_
      · have hhl : h < rows.length := List.mem_range.mp hh
        have hm2 := M.getD_mem (d := []) hhl
        have hrl : d < (rows.getD h []).length := by rw [pq.rect _ hm2]; exact hdm
        have e2 : (((if decide ((h : Int) = (d : Int)) = true then 1 else 0 : Int) : Rat)) = if h = d then 1 else 0 := by
          by_cases e : h = d
          · rw [if_pos e, if_pos (by rw [e]; simp)]
            rfl
          · rw [if_neg e, if_neg (by simp; omega)]
            rfl
        refine Has.is (has_op (has_ix (has_ix (has_var 0) (has_var 7) (ix_T (getRtt hhl))) (has_var 3) (ix_T (getRs hrl))) (k_t1 (T.f 5) b_int ct_intB (has_cmp (has_var 7) (has_var 3) ct_eqI)) (bt_ratSubI T (r.mono (by decide)) ((pq.sz _ hm2 _ (M.getD_mem hrl)).mono (by decide)) ?_)) (by rw [e2]; rfl)
        rw [e2]
        split
        · exact sz_one (by decide)
        · exact sz0 (by decide)
      · refine Bl.nxt (fun _ _ h => h) ⟨fun _ _ h => h, fun _ _ h => h, fun _ _ h => h, trivial⟩ fun _ _ h => ⟨?_, trivial⟩
        have h' := h.1
        rw [List.take_add_one, hd, List.map_append, List.map_append]
        exact h'
    · rw [List.length_range, List.take_of_length_le (by rw [List.length_range]; exact Nat.le_refl _), ← ec]
      refine bl_freeze 2 rfl hm mNone.fz ?_
      refine bl_asg 4 (has_ix (has_call (f_kernel_of T) (M.columns rows, rows.length) pq.ko (hasa_cons (has_var 2) (hasa_cons (has_var 1) hasa_nil)) r) has_int (ix_L (k := 0) (getRR pq.one))) ?_ nd
      have ho : M.onlyShares rows = ((M.kernelOf (M.columns rows) rows.length).getD 0 []).map (· / M.total ((M.kernelOf (M.columns rows) rows.length).getD 0 [])) := rfl
      have hw := pq.wlen
      have hz := pq.wsz
      have hps := pq.pos
      generalize (M.kernelOf (M.columns rows) rows.length).getD 0 [] = wv at ho hw hz hps
      refine bl_asg 5 (has_call (f_total_of T) wv ⟨hw, hz⟩ (hasa_cons (Has.q (has_var 4)) hasa_nil) (r.mono (by decide))) ?_ nd
      have hts := totT_ok hz wv.length (Nat.le_refl _)
      rw [totT_end] at hts
      refine bl_ret (t := tRs K (M.onlyShares rows)) (Has.is (has_lc [("share", 6)] (src_list (F := tR K) (j := 6) (has_var 4)) (fun x : Rat => tR K (x / M.total wv)) (fun x hx s H C cl fp => k_over T x (M.total wv) ⟨(hz x hx).mono (by decide), hts.mono (by omega), hps⟩ (has_var 6) (has_var 5) (r.mono (by decide))) (by omega) nd (fun s H C cl fp => pg_1 nd)) (by rw [ho]; unfold tRs; rw [List.map_map]; rfl)) fun v K' H' g _ h => hD v K' H' g h
end
end Z
end
section
set_option Elab.async false
set_option linter.all false
set_option exponentiation.threshold 20000
set_option maxRecDepth 100000
set_option maxHeartbeats 2000000
namespace Z
open PySem PySem.Spec PyProof.Rows L2
/-! tuples of tuples, lists of lists -/
section
theorem all_eqG {α : Type} [DecidableEq α] {d : α} {as bs : List α} (h : as.length = bs.length) : ((List.range as.length).all fun i => decide (as.getD i d = bs.getD i d)) = decide (as = bs) := by
  rw [Bool.eq_iff_iff, List.all_eq_true, decide_eq_true_iff]
  refine ⟨fun k => ?_, fun e i _ => by rw [e]; exact decide_eq_true rfl⟩
  refine List.ext_getElem h fun i h1 h2 => ?_
  have := of_decide_eq_true (k i (List.mem_range.mpr h1))
  rw [M.getD_at h1, M.getD_at h2] at this
  exact this
/-- the lengths fit, row by row -/
def Same2 (as bs : List (List Rat)) : Prop := as.length = bs.length ∧ ∀ i, (as.getD i []).length = (bs.getD i []).length
theorem Same2.refl (as : List (List Rat)) : Same2 as as := ⟨rfl, fun _ => rfl⟩
theorem prs_Rt {K : PySem.W.Frag} {as bs : List (List Rat)} {xs ys : List V} {H : Hp} (h : Same2 as bs) (hx : All2 (as.map (tRt K)) xs H) (hy : All2 (bs.map (tRt K)) ys H) : PrsB (DRt K) xs ys (fun i => decide (as.getD i [] = bs.getD i [])) H := by
  refine ⟨by rw [hx.len, hy.len, List.length_map, List.length_map, h.1], fun i x y h1 h2 => ?_⟩
  obtain ⟨t, ht, tx⟩ := hx.get h1
  obtain ⟨u, hu, ty⟩ := hy.get h2
  rw [List.getElem?_map] at ht hu
  have hs := h.2 i
  cases ha : as[i]? with
  | none => rw [ha] at ht; cases ht
  | some a =>
    cases hb : bs[i]? with
    | none => rw [hb] at hu; cases hu
    | some b =>
      rw [ha] at ht
      rw [hb] at hu
      rw [← Option.some.inj ht] at tx
      rw [← Option.some.inj hu] at ty
      show DRt K x y (decide (as.getD i [] = bs.getD i [])) H
      rw [List.getD_eq_getElem?_getD, List.getD_eq_getElem?_getD, ha, hb] at hs ⊢
      exact rats_D hs tx ty
abbrev DRtt (K : PySem.W.Frag) : DB := DTB (DRt K)
theorem ratss_D {K : PySem.W.Frag} {as bs : List (List Rat)} {x y : V} {H : Hp} (h : Same2 as bs) (hx : (tRtt K as).p x H) (hy : (tRtt K bs).p y H) : DRtt K x y (decide (as = bs)) H := by
  obtain ⟨p, xs, ex, px, xa⟩ := hx
  obtain ⟨q, ys, ey, qy, ya⟩ := hy
  refine ⟨p, q, xs, ys, _, ex, ey, px, qy, prs_Rt h xa ya, ?_⟩
  rw [xa.len, List.length_map]
  exact (all_eqG h.1).symm
variable {X : Cx}
theorem ct_eqRtt (T : Tx X.K X.mg) {as bs : List (List Rat)} (h : Same2 as bs) (hr : Room 3 X.A) : CmpT X .Eq (tRtt X.K as) (tRtt X.K bs) (tB (decide (as = bs))) := ct_rcB cop_eq (rcB_tup (mon_DTB mon_DI) (eq_Rt T)) hr fun _ _ _ hx hy => ratss_D h hx hy
/-- lists that are the same: != says no -/
theorem prs_same {K : PySem.W.Frag} {as : List Rat} {xs ys : List V} {H : Hp} (hx : All2 (as.map (tR K)) xs H) (hy : All2 (as.map (tR K)) ys H) : PrsB (DR K) xs ys (fun _ => true) H := by
  have := prs_R (K := K) (as := as) (bs := as) rfl hx hy
  refine ⟨this.1, fun i x y h1 h2 => ?_⟩
  have z : DR K x y (decide (as.getD i 0 = as.getD i 0)) H := this.2 i x y h1 h2
  rw [decide_eq_true rfl] at z
  exact z
abbrev DRl (K : PySem.W.Frag) : DB := DLT (DR K) true
theorem eq_Rl (T : Tx X.K X.mg) : EqB X 2 (DRl X.K) := (rcB_list mon_DI (eq_R T)).eqB self_DLT refs_DLT
theorem ct_neRs (T : Tx X.K X.mg) {as : List Rat} (hr : Room 2 X.A) : CmpT X .NotEq (tRs X.K as) (tRs X.K as) (tB false) := ct_rcB cop_ne (rcB_listN mon_DI (eq_R T)) hr fun x y H hx hy => by
  obtain ⟨p, xs, ex, px, xa⟩ := hx
  obtain ⟨q, ys, ey, qy, ya⟩ := hy
  exact ⟨p, q, xs, ys, ex, ey, px, qy, prs_same xa ya, rfl⟩
theorem ct_neRR (T : Tx X.K X.mg) {as : List (List Rat)} (hr : Room 3 X.A) : CmpT X .NotEq (tRR X.K as) (tRR X.K as) (tB false) := ct_rcB cop_ne (rcB_listN (mon_DLT mon_DI) (eq_Rl T)) hr fun x y H hx hy => by
  obtain ⟨p, xs, ex, px, xa⟩ := hx
  obtain ⟨q, ys, ey, qy, ya⟩ := hy
  refine ⟨p, q, xs, ys, ex, ey, px, qy, ⟨by rw [xa.len, ya.len], fun i u v h1 h2 => ?_⟩, rfl⟩
  obtain ⟨t, ht, tx⟩ := xa.get h1
  obtain ⟨t2, ht2, ty⟩ := ya.get h2
  rw [ht] at ht2
  cases ht2
  rw [List.getElem?_map] at ht
  cases ha : as[i]? with
  | none => rw [ha] at ht; cases ht
  | some a =>
    rw [ha] at ht
    rw [← Option.some.inj ht] at tx ty
    obtain ⟨p2, xs2, ex2, px2, xa2⟩ := tx
    obtain ⟨q2, ys2, ey2, qy2, ya2⟩ := ty
    exact ⟨p2, q2, xs2, ys2, ex2, ey2, px2, qy2, prs_same xa2 ya2, rfl⟩
end
section
variable {P : Program} {w : World} {K : PySem.W.Frag} {mg : Str → Option Value} {base : Heap}
theorem f_Wrows (T : Tx K mg) : Met P w K mg base "Walk" "rows" 1 ["self"] (Spt (α := Rsh) (fun a => a.1.length ≤ 8) (fun a => [tWk K a]) fun a => tRR K a.1) :=
  T.met 9 rfl (C8.fnScope_by (N := ["self", "row"]) (P := ["self"]) (by decide +kernel)) (fun _ => rfl) (fun _ _ _ _ _ _ us hl => match us, hl with | [_], _ => rfl) fun nd a pa b r Kb Hb D _ hD =>
    bl_ret (has_lc [("row", 1)] (src_tup (F := tRt K) (j := 1) (k_Wr T (has_var 0))) (tRs K) (fun q hq s H C cl fp => k_t1 (T.f 8) b_list ct_listT (has_var 1)) (by omega) nd (fun s H C cl fp => pg_1 nd)) fun v K' H' g _ h => hD v K' H' g h
theorem f_Wshares (T : Tx K mg) : Met P w K mg base "Walk" "shares" 1 ["self"] (Spt (α := Rsh) (fun a => True) (fun a => [tWk K a]) fun a => tRs K a.2) :=
  T.met 10 rfl (C8.fnScope_by (N := ["self"]) (P := ["self"]) (by decide +kernel)) (fun _ => rfl) (fun _ _ _ _ _ _ us hl => match us, hl with | [_], _ => rfl) fun nd a pa b r Kb Hb D _ hD =>
    bl_ret (k_t1 (T.f 8) b_list ct_listT (k_Ws T (has_var 0))) fun v K' H' g _ h => hD v K' H' g h
/-- walks of the same rows, shares of the same number -/
structure pWe (a : Rsh × Rsh) : Prop where
  r : Same2 a.1.1 a.2.1
  s : a.1.2.length = a.2.2.length
abbrev FdWe (K : PySem.W.Frag) (fd : FuncData) : Prop := FunD K "__eq__" "Walk.__eq__" (defArgs (inClass (top 48) 4)) (defBody (inClass (top 48) 4)) (defScope (inClass (top 48) 4)) [] [] (He.ma K (ca K "Walk") "__eq__") fd
theorem f_Weq (T : Tx K mg) {fd : FuncData} (F : FdWe K fd) : FnOk P w K mg base CX0 4 (He.ma K (ca K "Walk") "__eq__") fd ["self", "other"] (Spt (α := Rsh × Rsh) pWe (fun a => [tWk K a.1, tWk K a.2]) fun a => tB (decide (a.1.1 = a.2.1) && decide (a.1.2 = a.2.2))) :=
  fn_ty F (C8.fnScope_by (N := ["self", "other"]) (P := ["self", "other"]) (by decide +kernel)) (fun _ => rfl) fun a pa b r Kb Hb D _ hD => by
    refine bl_if (hast_not (hast_val (wk_isi T (bb := true) (t := tWk K a.2) (has_var 1) (hty_O T.cW) kit_same))) (fun h => by cases h) fun _ => bl_fall ?_
    exact bl_ret (has_and (has_cmp (k_Wr T (has_var 0)) (k_Wr T (has_var 1)) (ct_eqRtt T pa.r r)) fun _ => has_one (has_cmp (k_Ws T (has_var 0)) (k_Ws T (has_var 1)) (ct_eqRt T pa.s (r.mono (by decide))))) fun v K' H' g _ h => hD v K' H' g h
theorem f_WeqL (T : Tx K mg) {fd : FuncData} (F : FdWe K fd) : FnOk P w K mg base CX0 1 (He.ma K (ca K "Walk") "__eq__") fd ["self", "other"] (Spt (α := Rsh × List (List Rat)) (fun _ => True) (fun a => [tWk K a.1, tRR K a.2]) fun _ => tB false) :=
  fn_ty F (C8.fnScope_by (N := ["self", "other"]) (P := ["self", "other"]) (by decide +kernel)) (fun _ => rfl) fun a pa b r Kb Hb D _ hD => by
    refine bl_if (hast_not (hast_val (wk_isi T (bb := false) (t := tRR K a.2) (has_var 1) hty_L (T.kt 3 (q := kq (.type "list") "Walk" false))))) (fun _ => ?_) fun h => by cases h
    exact bl_ret has_bl fun v K' H' g _ h => hD v K' H' g h
theorem g_places (T : Tx K mg) {g : Addr} {fd : FuncData} (F : FunD K "places" "Walk.places" (defArgs (inClass (top 48) 1)) (defBody (inClass (top 48) 1)) (defScope (inClass (top 48) 1)) [] [] g fd) : FnOk P w K mg base CX0 1 g fd ["self"] (Spt (α := Rsh) (fun _ => True) (fun a => [tWk K a]) fun a => tI (a.1.length : Int)) :=
  fn_ty F (C8.fnScope_by (N := ["self"]) (P := ["self"]) (by decide +kernel)) (fun _ => rfl) fun a _ b r Kb Hb D _ hD => bl_ret (Has.is (k_lenT T (k_Wr T (has_var 0))) (by rw [List.length_map])) fun v K' H' g _ h => hD v K' H' g h
theorem bdWe {fd : FuncData} (F : FdWe K fd) : Binds K fd ["self", "other"] [] := F.bindsN fun _ _ _ _ _ _ us hl => match us, hl with | [_, _], _ => rfl
end
section
variable {X : Cx} {Γ : Ctx} {e o : Expr} {pos apos : Pos} {pl : Sem Bool}
theorem k_rows (T : Tx X.K X.mg) (a : Rsh) (hp : a.1.length ≤ 8) (h : Has X Γ o (tWk X.K a)) (hr : Room 1 X.A)
    (ht : eval (.Call (.Attribute o "rows" apos) [] [] pos) X.env = (do
      let ov ← eval o X.env
      standAt apos.atName
      let (f, first) ← holding [ov] (getMethod ov "rows" pl)
      callWith pos f first (backTo pos (starEach [] X.env)) (backToKw pos (keywordEach [] X.env))) := by rfl) : Has X Γ (.Call (.Attribute o "rows" apos) [] [] pos) (tRR X.K a.1) := by
  have F := f_Wrows (P := X.prog) (w := X.w) (base := X.base) T
  obtain ⟨fd, G, bd⟩ := F.ex
  exact has_meth0 (pl := pl) T.cW.cl F.me G bd a hp rfl h hr rfl ht
theorem k_shares (T : Tx X.K X.mg) (a : Rsh) (h : Has X Γ o (tWk X.K a)) (hr : Room 1 X.A)
    (ht : eval (.Call (.Attribute o "shares" apos) [] [] pos) X.env = (do
      let ov ← eval o X.env
      standAt apos.atName
      let (f, first) ← holding [ov] (getMethod ov "shares" pl)
      callWith pos f first (backTo pos (starEach [] X.env)) (backToKw pos (keywordEach [] X.env))) := by rfl) : Has X Γ (.Call (.Attribute o "shares" apos) [] [] pos) (tRs X.K a.2) := by
  have F := f_Wshares (P := X.prog) (w := X.w) (base := X.base) T
  obtain ⟨fd, G, bd⟩ := F.ex
  exact has_meth0 (pl := pl) T.cW.cl F.me G bd a trivial rfl h hr rfl ht
theorem k_places (T : Tx X.K X.mg) {a : Rsh} (h : Has X Γ e (tWk X.K a)) (hr : Room 2 X.A) (hb : attributeBase e "places" X.env (eval e X.env) = eval e X.env := by rfl) : Has X Γ (.Attribute e "places" pos) (tI (a.1.length : Int)) := by
  obtain ⟨p, g, fd, F, hp⟩ := (T.p 2 _ rfl).fd
  exact has_prop T.cW.cl hp (g_places T F) (F.bindsN fun _ _ _ _ _ _ us hl => match us, hl with | [_], _ => rfl) a trivial rfl h hr hb
theorem walk_D {K : PySem.W.Frag} {a b : Rsh} (hp : pWe (a, b)) {x y : V} {H : Hp} (hx : (tWk K a).p x H) (hy : (tWk K b).p y H) : DI (ca K "Walk") pWe (fun a : Rsh × Rsh => [tWk K a.1, tWk K a.2]) (fun a => decide (a.1.1 = a.2.1) && decide (a.1.2 = a.2.2)) x y (decide (a.1 = b.1) && decide (a.2 = b.2)) H := by
  obtain ⟨p, dx, vs, ex, px, _⟩ := id hx
  obtain ⟨q, dy, ws, ey, qy, _⟩ := id hy
  exact ⟨(a, b), hp, rfl, ⟨hx, hy, trivial⟩, ⟨p, dx, vs, ex, px⟩, q, dy, ws, ey, qy⟩
theorem ct_eqW (T : Tx X.K X.mg) {a b : Rsh} (hp : pWe (a, b)) (hr : Room 4 X.A) : CmpT X .Eq (tWk X.K a) (tWk X.K b) (tB (decide (a.1 = b.1) && decide (a.2 = b.2))) := by
  have d := T.m 11 _ rfl
  obtain ⟨fd, F⟩ := d.fd
  exact ct_rcB cop_eq (rcB_ins (f_Weq T F) (bdWe F) d.me.at_ d.me.fn) hr fun _ _ _ hx hy => walk_D hp hx hy
theorem ct_neW (T : Tx X.K X.mg) {a b : Rsh} (hp : pWe (a, b)) (hr : Room 5 X.A) : CmpT X .NotEq (tWk X.K a) (tWk X.K b) (tB (!(decide (a.1 = b.1) && decide (a.2 = b.2)))) := by
  have d := T.m 11 _ rfl
  obtain ⟨fd, F⟩ := d.fd
  refine ct_rcB cop_ne (rcN_ins (f_Weq T F) (bdWe F) d.me.at_ d.me.fn T.neW T.moW) hr fun _ _ _ hx hy => ?_
  show DI _ _ _ _ _ _ (!(!_)) _
  rw [Bool.not_not]
  exact walk_D hp hx hy
theorem ct_eqWL (T : Tx X.K X.mg) {a : Rsh} {rows : List (List Rat)} (hr : Room 1 X.A) : CmpT X .Eq (tWk X.K a) (tRR X.K rows) (tB false) := by
  have d := T.m 11 _ rfl
  obtain ⟨fd, F⟩ := d.fd
  refine ct_rcB cop_eq (rcB_insL (f_WeqL T F) (bdWe F) d.me.at_ d.me.fn T.subL) hr fun x y H hx hy => ?_
  obtain ⟨p, dx, vs, ex, px, _⟩ := id hx
  obtain ⟨q, ys, ey, qy, _⟩ := id hy
  exact ⟨(a, rows), trivial, rfl, ⟨hx, hy, trivial⟩, ⟨p, dx, vs, ex, px⟩, q, ys, ey, qy⟩
end
end Z
end
section
set_option Elab.async false
set_option linter.all false
set_option exponentiation.threshold 20000
set_option maxRecDepth 100000
set_option maxHeartbeats 2000000
/-! The law's own defs that draw nothing. -/
namespace Z
open PySem PySem.Spec PyProof.Rows L2
abbrev tNN (flow : List (List Nat)) : Ty := tL (flow.map tNs)
theorem cst_sum (l : List Nat) : (cst l).sum = ((l.sum : Nat) : Int) := by
  induction l with
  | nil => rfl
  | cons a l ih =>
    show (a : Int) + (cst l).sum = ((a + l.sum : Nat) : Int)
    rw [ih, Int.natCast_add]
section
variable {P : Program} {w : World} {K : PySem.W.Frag} {mg : Str → Option Value} {base : Heap} {α : Type} {pre : α → Prop} {args : α → List Ty} {res : α → Ty} {k : Nat}
theorem Tx.calL (T : Tx K mg) (n : Nat) {q : Str × Nat} (hi : lawDefs[n]? = some q) {N ps : List Str} (S : FnScope N ps (defScope (top q.2))) (hl : ∀ a, (args a).length = ps.length)
    (hbi : ∀ (kV doc pm : Value) (an : Option Addr) (cdv ct : Value) (us : List Value), us.length = ps.length → bindArgs (PySem.W.fnOf q.1 q.1 (defArgs (top q.2)) (defBody (top q.2)) (defScope (top q.2)) .none kV doc pm an cdv ct) ⟨us, []⟩ = pure (ps.zip us))
    (hb : N.Nodup → ∀ a, pre a → ∀ b : Bc, Room k (cxB CX0 P w K mg base N q.1 (defScope (top q.2)) (ca K q.1) b).A → ∀ Kb Hb D, D.nx = (fun _ H' => D.rt .non H') → (∀ v K' H', Gr Kb Hb K' H' → (res a).p v K' → D.rt v H') →
      Bl (cxB CX0 P w K mg base N q.1 (defScope (top q.2)) (ca K q.1) b) Kb Hb ((args a).map some ++ List.replicate (N.length - (args a).length) none) mNone (defBody (top q.2)) D) : Cal P w K mg base q.1 (k + 1) (Spt pre args res) := by
  have d := T.l n q hi
  obtain ⟨fd, F⟩ := d.fd
  exact cal_ty F d.mg S hl hbi (hb S.nd)
end
section
variable {X : Cx} {Γ : Ctx} {e : Expr} {pos p : Pos}
theorem k_sumN (T : Tx X.K X.mg) (hc : X.calm = true) {l : List Nat} (h : Has X Γ e (tNs l)) (hg : Gl X "sum" := by rfl) (he : starEach (e :: []) X.env = (false, eval e X.env) :: starEach [] X.env := by rfl) (hpl : (backTo pos (starEach [] X.env)).any (·.1) = false := by rfl) : Has X Γ (.Call (.Name "sum" p) [e] [] pos) (tI ((l.sum : Nat) : Int)) :=
  Has.is (k_b1 (T.f 10) b_sum (ct_sum hc) h hg (by decide) (by decide) he hpl) (by rw [cst_sum])
end
section
variable {P : Program} {w : World} {K : PySem.W.Frag} {mg : Str → Option Value} {base : Heap}
structure pFl (flow : List (List Nat)) : Prop where
  len : flow.length ≤ 6
  rows : ∀ r ∈ flow, r.length ≤ 6 ∧ 0 < r.sum ∧ r.sum < 2 ^ 100
theorem f_lrows (T : Tx K mg) : Cal P w K mg base "_law_rows" 4 (Spt (α := List (List Nat)) pFl (fun flow => [tNN flow]) fun flow => tRR K (M.rowsOf flow)) :=
  T.calL 4 rfl (C8.fnScope_by (N := ["_law_flow_here", "_law_found", "_law_row", "_law_total", "_law_number"]) (P := ["_law_flow_here"]) (by decide +kernel)) (fun _ => rfl) (fun _ _ _ _ _ _ us hl => match us, hl with | [_], _ => rfl) fun nd flow pq b r Kb Hb D _ hD => by
    have hl := pq.len
    refine bl_newM 1 (fun m hm _ => ?_) nd
    refine bl_for (src_list (F := tNs) (j := 2) (has_var 0)) (pg_1 nd) (fun i => [some (tNN flow), some (tV (.ref m)), none, none, none]) (fun i => mAnd (mLst m (((flow.take i).map M.rowOf).map (tRs K))) mNone) ⟨fun _ _ h => h, fun _ _ h => h, trivial⟩ (fun _ _ h => h) (fun i d hd K1 up => ?_) ?_
    · obtain ⟨r1, r2, r3⟩ := pq.rows d (List.mem_of_getElem? hd)
      refine bl_asg 3 (k_sumN T rfl (has_var 2)) ?_ nd
      have hlt : (((flow.take i).map M.rowOf).map (tRs K)).length < 1000 := by
        simp only [List.length_map, List.length_take]
        omega
      refine bl_appC (t := tRs K (M.rowOf d)) 1 rfl hm mNone.fr hlt (Has.cc (Has.is (has_lc [("_law_number", 4)] (src_list (F := fun x : Nat => tI (x : Int)) (j := 4) (Has.is (has_var 2) (by unfold tNs tIs; rw [List.map_map]; rfl))) (fun x : Nat => tR K (mkRat (x : Int) d.sum)) (fun x hx s H C cl fp => k_Ratio T (x : Int) d.sum ⟨r2, Nat.lt_of_lt_of_le r3 (Nat.pow_le_pow_right (by decide) (by decide))⟩ (has_var 4) (has_var 3) r) (by omega) nd (fun s H C cl fp => pg_1 nd)) (by unfold tRs M.rowOf; rw [List.map_map]; rfl))) ?_
      refine Bl.nxt (fun _ _ h => h) ⟨fun _ _ h => h, fun _ _ h => h, trivial⟩ fun _ _ h => ?_
      rw [List.take_add_one, hd, List.map_append, List.map_append]
      exact h
    · rw [List.take_length]
      refine bl_freeze 1 rfl hm mNone.fz ?_
      exact bl_ret (has_var 1) fun v K' H' g _ h => hD v K' H' g h
structure pFs (flow : List (List Nat)) : Prop where
  len : flow.length ≤ 6
  pos : 0 < M.allSum flow
  lt : M.allSum flow < 2 ^ 100
theorem f_lshares (T : Tx K mg) : Cal P w K mg base "_law_shares" 4 (Spt (α := List (List Nat)) pFs (fun flow => [tNN flow]) fun flow => tRs K (M.sharesOf flow)) :=
  T.calL 5 rfl (C8.fnScope_by (N := ["_law_flow_here", "_law_total", "_law_row"]) (P := ["_law_flow_here"]) (by decide +kernel)) (fun _ => rfl) (fun _ _ _ _ _ _ us hl => match us, hl with | [_], _ => rfl) fun nd flow pq b r Kb Hb D _ hD => by
    have hl := pq.len
    refine bl_asg (t := tI (M.allSum flow : Int)) 1 (k_sumN T rfl (l := flow.map List.sum) (Has.is (has_lc [("_law_row", 2)] (src_list (F := tNs) (j := 2) (has_var 0)) (fun row : List Nat => tI ((row.sum : Nat) : Int)) (fun x hx s H C cl fp => k_sumN T rfl (has_var 2)) (by omega) nd (fun s H C cl fp => pg_1 nd)) (by unfold tNs tIs; rw [List.map_map, List.map_map]; rfl))) ?_ nd
    exact bl_ret (Has.is (has_lc [("_law_row", 2)] (src_list (F := tNs) (j := 2) (has_var 0)) (fun row : List Nat => tR K (mkRat (row.sum : Int) (M.allSum flow))) (fun x hx s H C cl fp => k_Ratio T (x.sum : Int) (M.allSum flow) ⟨pq.pos, Nat.lt_of_lt_of_le pq.lt (Nat.pow_le_pow_right (by decide) (by decide))⟩ (k_sumN T rfl (has_var 2)) (has_var 1) r) (by omega) nd (fun s H C cl fp => pg_1 nd)) (by unfold tRs M.sharesOf; rw [List.map_map]; rfl)) fun v K' H' g _ h => hD v K' H' g h
/-- a flow whose walk is proper -/
structure pFw (flow : List (List Nat)) : Prop where
  f : pFl flow
  s : pFs flow
  k : pKp (M.rowsOf flow, M.sharesOf flow)
theorem f_lwalk (T : Tx K mg) : Cal P w K mg base "_law_walk" 12 (Spt (α := List (List Nat)) pFw (fun flow => [tNN flow]) fun flow => tWk K (M.rowsOf flow, M.sharesOf flow)) :=
  T.calL 6 rfl (C8.fnScope_by (N := ["_law_flow_here"]) (P := ["_law_flow_here"]) (by decide +kernel)) (fun _ => rfl) (fun _ _ _ _ _ _ us hl => match us, hl with | [_], _ => rfl) fun nd flow pq b r Kb Hb D _ hD =>
    bl_ret (k_Walk T (M.rowsOf flow, M.sharesOf flow) pq.k (has_call (f_lrows T) flow pq.f (hasa_cons (has_var 0) hasa_nil) (r.mono (by decide))) (has_call (f_lshares T) flow pq.s (hasa_cons (has_var 0) hasa_nil) (r.mono (by decide))) r) fun v K' H' g _ h => hD v K' H' g h
end
end Z
end
section
set_option Elab.async false
set_option linter.all false
set_option exponentiation.threshold 20000
set_option maxRecDepth 100000
set_option maxHeartbeats 2000000
/-! Minors, the only shares. -/
namespace Z
open PySem PySem.Spec PyProof.Rows L2
theorem dp_rows {K : PySem.W.Frag} {H : Hp} : ∀ {rows : List (List Int)} {xs : List V}, All2 (rows.map tIs) xs H → DpAll K H xs (rows.map fun r => PyData.list (r.map PyData.int))
  | [], [], _ => .nil
  | r :: rows, x :: xs, ⟨⟨a, ys, e, ha, hy⟩, h⟩ => by
    rw [hy.ints] at ha
    rw [e]
    exact .cons (.lst (SqL.of ha) (dp_ints r)) (dp_rows h)
  | [], _ :: _, h => h.elim
  | _ :: _, [], h => h.elim
theorem lay_ints (ns : List Int) : PyData.canLayAll0 (ns.map PyData.int) = true := by
  induction ns with
  | nil => rfl
  | cons n ns ih => simp [PyData.canLayAll0, PyData.canLay0, ih]
theorem deep_ints (ns : List Int) : PyData.depthAll (ns.map PyData.int) ≤ 1 := by
  induction ns with
  | nil => simp [PyData.depthAll]
  | cons n ns ih =>
    simp only [List.map_cons, PyData.depthAll, PyData.depth]
    omega
theorem shaped_rows (rows : List (List Int)) : SeqAt.shaped (.list (rows.map fun r => PyData.list (r.map PyData.int))) = true := by
  have h1 : PyData.canLayAll0 (rows.map fun r => PyData.list (r.map PyData.int)) = true := by
    induction rows with
    | nil => rfl
    | cons n ns ih => simp [PyData.canLayAll0, PyData.canLay0, lay_ints, ih]
  have h2 : PyData.depthAll (rows.map fun r => PyData.list (r.map PyData.int)) ≤ 2 := by
    induction rows with
    | nil => simp [PyData.depthAll]
    | cons n ns ih =>
      have z := deep_ints n
      have := ih (by
        have := h1
        rw [List.map_cons, PyData.canLayAll0, Bool.and_eq_true] at this
        exact this.2)
      simp only [List.map_cons, PyData.depthAll, PyData.depth]
      omega
  unfold SeqAt.shaped
  rw [Bool.and_eq_true, decide_eq_true_eq]
  refine ⟨by simp [PyData.canLay0, h1], ?_⟩
  simp only [PyData.depth]
  omega
theorem ct_eqE {X : Cx} {rows : List (List Int)} (hu : X.A.units + 64 < cLine) : CmpT X .Eq (tII rows) (tL []) (tB (decide (rows = []))) := ⟨_, op_eqD hu, fun x y K H s hx hy Q q => by
  obtain ⟨a, xs, rfl, ha, xa⟩ := hx
  obtain ⟨b, ys, rfl, hb, yb⟩ := hy
  have e : ys = [] := by
    cases ys with
    | nil => rfl
    | cons _ _ => exact yb.elim
  subst e
  refine ⟨_, _, .lst (SqL.of (s _ _ ha)) (dp_rows (xa.mo s)), .lst (SqL.of (s _ _ hb)) .nil, shaped_rows rows, shaped_ints [], q _ K H (Gr.refl s) ?_⟩
  show V.bl (PyData.eqv (.list (rows.map fun r => PyData.list (r.map PyData.int))) (.list [])) = _
  cases rows with
  | nil => simp [PyData.eqv, PyData.eqvAll]
  | cons r rows => simp [PyData.eqv, PyData.eqvAll]⟩
section
variable {P : Program} {w : World} {K : PySem.W.Frag} {mg : Str → Option Value} {base : Heap}
def pMi (k : Nat) (rows : List (List Int)) : Prop := rows.length = k ∧ ∀ r ∈ rows, r.length = k ∧ M.BdL 20 r
theorem cut_len {α : Type} {l : List α} {p n : Nat} (h : l.length = n + 1) (hp : p < n + 1) : (M.cut p l).length = n := by
  unfold M.cut
  rw [List.length_append, List.length_take, List.length_drop]
  omega
theorem pMi.sub {k p : Nat} {rows : List (List Int)} (h : pMi (k + 1) rows) (hp : p < k + 1) : pMi k ((rows.drop 1).map (M.cut p)) := by
  refine ⟨by rw [List.length_map, List.length_drop, h.1]; omega, fun r hr => ?_⟩
  obtain ⟨q, hq, rfl⟩ := List.mem_map.mp hr
  obtain ⟨h1, h2⟩ := h.2 q (List.mem_of_mem_drop hq)
  exact ⟨cut_len h1 hp, fun x hx => h2 x (M.cut_mem hx)⟩
abbrev miF (k : Nat) (rows : List (List Int)) (acc : Int) (d : Nat × Int) : Int := acc + (if d.1 % 2 = 0 then d.2 * M.minor k ((rows.drop 1).map (M.cut d.1)) else 0 - d.2 * M.minor k ((rows.drop 1).map (M.cut d.1)))
abbrev miT (k : Nat) (rows : List (List Int)) (i : Nat) : Int := (((List.range (rows.headD []).length).zip (rows.headD [])).take i).foldl (miF k rows) 0
theorem has_cut {X : Cx} {Γ : Ctx} {e e' a b : Expr} {pos p1 p2 p3 p4 : Pos} {ts : List Ty} {n : Nat} (h : Has X Γ e (tL ts)) (h' : Has X Γ e' (tL ts)) (ha : Has X Γ a (tI (n : Int))) (hb : Has X Γ b (tI ((n + 1 : Nat) : Int))) (hl : ts.length ≤ 900) : Has X Γ (.BinOp (.Subscript e (.Slice none (some a) none p1) p2) .Add (.Subscript e' (.Slice (some b) none none p3) p4) pos) (tL (M.cut n ts)) :=
  has_op (has_sliceHi h ha) (has_sliceLo h' hb) (bt_cat (by
    rw [List.length_take, List.length_drop]
    omega))
theorem cut_map {α β : Type} {f : α → β} {p : Nat} {l : List α} : M.cut p (l.map f) = (M.cut p l).map f := by
  unfold M.cut
  rw [List.map_append, List.map_take, List.map_drop]
theorem f_minor (T : Tx K mg) : ∀ k, k ≤ 4 → Cal P w K mg base "_law_minor" (k + 1) (Spt (α := List (List Int)) (pMi k) (fun rows => [tII rows]) fun rows => tI (M.minor k rows))
  | 0, _ => T.calL 9 rfl (C8.fnScope_by (N := ["_law_rows_here", "_law_found", "_law_at", "_law_number", "_law_part", "_law_row"]) (P := ["_law_rows_here"]) (by decide +kernel)) (fun _ => rfl) (fun _ _ _ _ _ _ us hl => match us, hl with | [_], _ => rfl) fun nd rows pq b r Kb Hb D _ hD => by
    have e : rows = [] := List.length_eq_zero_iff.mp pq.1
    refine bl_if (k := true) (HasT.is (hast_cmp (has_var 0) (has_lst hasa_nil (by simp)) (ct_eqE (u64 r))) (decide_eq_true e)) (fun _ => ?_) fun h => by cases h
    exact bl_ret has_int fun v K' H' g _ h => hD v K' H' g h
  | k + 1, hk => T.calL 9 rfl (C8.fnScope_by (N := ["_law_rows_here", "_law_found", "_law_at", "_law_number", "_law_part", "_law_row"]) (P := ["_law_rows_here"]) (by decide +kernel)) (fun _ => rfl) (fun _ _ _ _ _ _ us hl => match us, hl with | [_], _ => rfl) fun nd rows pq b r Kb Hb D _ hD => by
    obtain ⟨r0, rt, er⟩ : ∃ a t, rows = a :: t := by
      cases rows with
      | nil => exact absurd pq.1 (by simp)
      | cons a t => exact ⟨a, t, rfl⟩
    have hne : rows ≠ [] := by rw [er]; simp
    have hh : rows.headD [] = r0 := by rw [er]; rfl
    have h0 : (rows.map tIs)[0]? = some (tIs (rows.headD [])) := by rw [er]; rfl
    have hmem : rows.headD [] ∈ rows := by rw [er]; exact List.mem_cons_self
    obtain ⟨l0, b0⟩ := pq.2 _ hmem
    have hlr := pq.1
    refine bl_if (k := false) (HasT.is (hast_cmp (has_var 0) (has_lst hasa_nil (by simp)) (ct_eqE (u64 r))) (decide_eq_false hne)) (fun h => by cases h) fun _ => bl_fall ?_
    refine bl_asg 1 has_int ?_ nd
    refine bl_for (s_enum (as := rows.headD []) (G := tI) (j := 2) (j2 := 3) (T.f 3) (has_ix (has_var 0) has_int (ix_L (k := 0) h0))) (pg_2 nd rfl) (fun i => [some (tII rows), some (tI (miT k rows i)), none, none, none, none]) (fun _ => mNone) ⟨fun _ _ h => h, fun _ _ h => h, trivial⟩ (fun _ _ h => h) (fun i d hd K1 up => ?_) ?_
    · obtain ⟨e1, e2⟩ := zip_range hd
      have hi : i < k + 1 := by
        have := (List.getElem?_eq_some_iff.mp e2).1
        omega
      have hdm : d.2 ∈ rows.headD [] := List.mem_of_getElem? e2
      have hbd : Bd 20 d.2 := b0 d.2 hdm
      have hcm : ∀ j : Int, CMul d.2 j := fun j => .inl (by
        unfold Bd at hbd
        have : (2 : Nat) ^ 20 = 1048576 := by decide
        omega)
      have es : miT k rows (i + 1) = miF k rows (miT k rows i) d := by
        unfold miT
        rw [List.take_add_one, hd, List.foldl_append]
        rfl
      refine bl_if (hast_cmp (has_var 3) has_int ct_neI) (fun h => ?_) fun h => bl_fall ?_
      · have hsub := pq.sub (p := d.1) (by omega)
        refine bl_asg 4 (has_call (f_minor T k (by omega)) ((rows.drop 1).map (M.cut d.1)) hsub (hasa_cons (Has.is (has_lc [("_law_row", 5)] (src_list (F := tIs) (j := 5) (ds := rows.drop 1) (Has.is (has_sliceLo (n := 1) (has_var 0) has_int) (by rw [List.map_drop]))) (fun q : List Int => tIs (M.cut d.1 q)) (fun q hq s H C cl fp => ?_) (by rw [List.length_drop]; omega) nd (fun s H C cl fp => pg_1 nd)) (by unfold tII; rw [List.map_map]; rfl)) hasa_nil) r) ?_ nd
        · have hql := (pq.2 q (List.mem_of_mem_drop hq)).1
          refine Has.is (t := tL (M.cut d.1 (q.map tI))) ?_ (by unfold tIs; rw [cut_map])
          exact has_cut (has_var 5) (has_var 5) (has_var 2) (Has.is (has_op (has_var 2) has_int bt_add) (by rw [Int.natCast_succ])) (by rw [List.length_map]; omega)
        · refine bl_asg (t := tI (miF k rows (miT k rows i) d)) 1 (Has.is (has_op (has_var 1) (has_if (t := tI (if d.1 % 2 = 0 then d.2 * M.minor k ((rows.drop 1).map (M.cut d.1)) else 0 - d.2 * M.minor k ((rows.drop 1).map (M.cut d.1)))) (hast_cmp (has_op (has_var 2) has_int (bt_mod (by decide))) has_int ct_eqI) (fun hm => ?_) fun hm => ?_) bt_add) rfl) ?_ nd
          · have : d.1 % 2 = 0 := by
              have := of_decide_eq_true hm
              omega
            rw [if_pos this]
            exact has_op (has_var 3) (has_var 4) (bt_mulL (hcm _))
          · have : ¬ d.1 % 2 = 0 := by
              have := of_decide_eq_false hm
              omega
            rw [if_neg this]
            exact has_op has_int (has_op (has_var 3) (has_var 4) (bt_mulL (hcm _))) bt_sub
          · refine bl_fall (Bl.nxt (fun _ _ h => h) ⟨fun _ _ h => h, ?_, trivial⟩ fun _ _ h => h)
            rw [es]
            exact fun _ _ h => h
      · have d0 : d.2 = 0 := by simpa using h
        have es2 : miT k rows (i + 1) = miT k rows i := by
          rw [es]
          unfold miF
          rw [d0]
          split <;> omega
        refine Bl.nxt (fun _ _ h => h) ⟨fun _ _ h => h, ?_, trivial⟩ fun _ _ h => h
        rw [es2]
        exact fun _ _ h => h
    · refine bl_ret (has_var 1) fun v K' H' g _ h => hD v K' H' g ?_
      have e : miT k rows (((List.range (rows.headD []).length).zip (rows.headD [])).length) = M.minor (k + 1) rows := by
        unfold miT
        rw [List.take_length]
        rfl
      rw [← e]
      exact h
/-! the only shares -/
structure pOl (flow : List (List Nat)) : Prop where
  len : flow.length ≤ 4
  lo : 0 < flow.length
  rows : ∀ r ∈ flow, r.length = flow.length ∧ r.sum < 2 ^ 19 ∧ ∀ x ∈ r, x < 2 ^ 19
  pos : 0 < (M.onlys flow).sum
  lt : (M.onlys flow).sum.toNat < 2 ^ 8000
theorem lapRow_len {h : Nat} {row : List Nat} : (M.lapRow h row).length = row.length := by
  unfold M.lapRow
  rw [List.length_map, List.length_zip, List.length_range, Nat.min_self]
theorem lap_len {flow : List (List Nat)} : (M.lap flow).length = flow.length := by
  unfold M.lap
  rw [List.length_map, List.length_zip, List.length_range, Nat.min_self]
theorem lap_rows {flow : List (List Nat)} (h : ∀ r ∈ flow, r.length = flow.length ∧ r.sum < 2 ^ 19 ∧ ∀ x ∈ r, x < 2 ^ 19) : ∀ r ∈ M.lap flow, r.length = flow.length ∧ M.BdL 20 r := fun r hr => by
  obtain ⟨d, hd, rfl⟩ := List.mem_map.mp hr
  obtain ⟨_, m2⟩ := List.of_mem_zip (show (d.1, d.2) ∈ _ from hd)
  obtain ⟨h1, h2, h3⟩ := h _ m2
  refine ⟨lapRow_len.trans h1, fun x hx => ?_⟩
  obtain ⟨e, he, rfl⟩ := List.mem_map.mp hx
  obtain ⟨_, m3⟩ := List.of_mem_zip (show (e.1, e.2) ∈ _ from he)
  have := h3 _ m3
  have e19 : (2 : Nat) ^ 19 = 524288 := by decide
  have e20 : (2 : Nat) ^ 20 = 1048576 := by decide
  unfold M.Bd
  split <;> omega
theorem f_only (T : Tx K mg) : Cal P w K mg base "_law_only" 6 (Spt (α := List (List Nat)) pOl (fun flow => [tNN flow]) fun flow => tRs K (M.only flow)) :=
  T.calL 10 rfl (C8.fnScope_by (N := ["_law_rows_here", "_law_found", "_law_place", "_law_less", "_law_here", "_law_row", "_law_others", "_law_number", "_law_at"]) (P := ["_law_rows_here"]) (by decide +kernel)) (fun _ => rfl) (fun _ _ _ _ _ _ us hl => match us, hl with | [_], _ => rfl) fun nd flow pq b r Kb Hb D _ hD => by
    have hl := pq.len
    have hlo := pq.lo
    have hlap := lap_rows pq.rows
    have hll := lap_len (flow := flow)
    refine bl_newM 1 (fun m hm _ => ?_) nd
    refine bl_for (s_range (n := flow.length) (j := 2) (T.f 1) (by omega) (Has.is (k_len T (has_var 0)) (by rw [List.length_map]))) (pg_1 nd) (fun i => [some (tNN flow), some (tV (.ref m)), none, none, none, none, none, none, none]) (fun i => mAnd (mLst m ((((List.range flow.length).take i).map (M.onlyAt flow)).map tI)) mNone) ⟨fun _ _ h => h, fun _ _ h => h, trivial⟩ (fun _ _ h => h) (fun i p hd K1 up => ?_) ?_
    · have hp : p < flow.length := List.mem_range.mp (List.mem_of_getElem? hd)
      have hpm : flow.getD p [] ∈ flow := M.getD_mem hp
      refine bl_newM 3 (fun m2 hm2 ⟨K0, H0, hM0, hn0⟩ => ?_) nd
      have ne : m ≠ m2 := fun z => by
        obtain ⟨⟨_, xs, hx, _⟩, _⟩ := hM0
        rw [z, hn0] at hx
        cases hx
      refine bl_for (s_enum (as := flow) (G := tNs) (j := 4) (j2 := 5) (T.f 3) (has_var 0)) (pg_2 nd rfl) (fun _ => [some (tNN flow), some (tV (.ref m)), some (tI (p : Int)), some (tV (.ref m2)), none, none, none, none, none])
        (fun j => mAnd (mLst m2 (((((List.range flow.length).zip flow).take j).map fun d => M.lapRow d.1 d.2).map tIs)) (mAnd (mLst m ((((List.range flow.length).take i).map (M.onlyAt flow)).map tI)) mNone)) ⟨fun _ _ h => h, fun _ _ h => h, fun _ _ h => h, fun _ _ h => h, trivial⟩ (fun _ _ h => h) (fun j d hdj K2 up2 => ?_) ?_
      · obtain ⟨e1, e2⟩ := zip_range hdj
        have hm3 : d.2 ∈ flow := List.mem_of_getElem? e2
        obtain ⟨q1, q2, q3⟩ := pq.rows _ hm3
        refine bl_appC (t := tIs (M.lapRow d.1 d.2)) 3 rfl hm2 (mAnd.fr (mLst.fr ne) mNone.fr) ?_ (Has.cc (Has.is (has_lc [("_law_at", 8), ("_law_number", 7)] (s_enum (as := d.2) (G := fun x : Nat => tI (x : Int)) (j := 8) (j2 := 7) (T.f 3) (Has.is (has_var 5) (by unfold tNs tIs; rw [List.map_map]; rfl))) (fun e : Nat × Nat => tI ((if e.1 = d.1 then (d.2.sum : Int) else 0) - (e.2 : Int))) (fun e he s H C cl fp => has_op (has_if (hast_cmp (has_var 8) (has_var 4) ct_eqI) (fun h => ?_) fun h => ?_) (has_var 7) bt_sub) ?_ nd (fun s H C cl fp => pg_2 nd rfl)) (by unfold tIs M.lapRow; rw [List.map_map]; rfl))) ?_
        · simp only [List.length_map, List.length_take, List.length_zip, List.length_range]
          omega
        · have h' : e.1 = d.1 := by
            have := of_decide_eq_true h
            omega
          rw [if_pos h']
          exact k_sumN T rfl (has_var 5)
        · have h' : ¬ e.1 = d.1 := by
            have := of_decide_eq_false h
            omega
          rw [if_neg h']
          exact has_int
        · rw [List.length_zip, List.length_range]
          omega
        · refine Bl.nxt (fun _ _ h => h) ⟨fun _ _ h => h, fun _ _ h => h, fun _ _ h => h, fun _ _ h => h, trivial⟩ fun _ _ h => ⟨?_, h.2⟩
          have h' := h.1
          rw [List.take_add_one, hdj, List.map_append, List.map_append]
          exact h'
      · rw [List.take_length]
        refine bl_freeze 3 rfl hm2 (mAnd.fz (mLst.fz ne) mNone.fz) ?_
        have el : (((List.range flow.length).zip flow).map fun d => M.lapRow d.1 d.2) = M.lap flow := rfl
        rw [el]
        refine bl_asg (t := tII (M.cut p (M.lap flow))) 6 (Has.is (has_cut (has_var 3) (has_var 3) (has_var 2) (Has.is (has_op (has_var 2) has_int bt_add) (by rw [Int.natCast_succ])) (by rw [List.length_map, hll]; omega)) (by unfold tII; rw [cut_map])) ?_ nd
        obtain ⟨n', hn'⟩ : ∃ n', flow.length = n' + 1 := ⟨flow.length - 1, by omega⟩
        have hcl : (M.cut p (M.lap flow)).length = n' := cut_len (hll.trans hn') (by omega)
        have hmi : pMi (flow.length - 1) ((M.cut p (M.lap flow)).map (M.cut p)) := by
          refine ⟨by rw [List.length_map, hcl]; omega, fun r hr => ?_⟩
          obtain ⟨q, hq, rfl⟩ := List.mem_map.mp hr
          obtain ⟨h1, h2⟩ := hlap q (M.cut_mem hq)
          exact ⟨by rw [cut_len (h1.trans hn') (by omega)]; omega, fun x hx => h2 x (M.cut_mem hx)⟩
        have hsl := (pq.rows _ hpm).2.1
        refine bl_appC (t := tI (M.onlyAt flow p)) 1 rfl hm mNone.fr ?_ (Has.cc (has_op (k_sumN T rfl (l := flow.getD p []) (has_ix (has_var 0) (has_var 2) (ix_L ?_))) (has_call (f_minor T (flow.length - 1) (by omega)) ((M.cut p (M.lap flow)).map (M.cut p)) hmi (hasa_cons (Has.is (has_lc [("_law_row", 5)] (src_list (F := tIs) (j := 5) (has_var 6)) (fun q : List Int => tIs (M.cut p q)) (fun q hq s H C cl fp => ?_) (by omega) nd (fun s H C cl fp => pg_1 nd)) (by unfold tII; rw [List.map_map]; rfl)) hasa_nil) (r.mono (by omega))) (bt_mulL (.inl ?_)))) ?_
        · simp only [List.length_map, List.length_take, List.length_range]
          omega
        · rw [List.getElem?_map, M.getD_at hp, List.getElem?_eq_getElem hp]
          rfl
        · have hql := (hlap q (M.cut_mem hq)).1
          refine Has.is (t := tL (M.cut p (q.map tI))) ?_ (by unfold tIs; rw [cut_map])
          exact has_cut (has_var 5) (has_var 5) (has_var 2) (Has.is (has_op (has_var 2) has_int bt_add) (by rw [Int.natCast_succ])) (by rw [List.length_map]; omega)
        · have e19 : (2 : Nat) ^ 19 = 524288 := by decide
          omega
        · refine Bl.nxt (fun _ _ h => h) ⟨fun _ _ h => h, fun _ _ h => h, trivial⟩ fun _ _ h => ⟨?_, trivial⟩
          have h' := h.1
          rw [List.take_add_one, hd, List.map_append, List.map_append]
          exact h'
    · rw [List.length_range, List.take_of_length_le (by rw [List.length_range]; exact Nat.le_refl _)]
      refine bl_freeze 1 rfl hm mNone.fz ?_
      have ht : (((M.onlys flow).sum.toNat : Nat) : Int) = (M.onlys flow).sum := Int.toNat_of_nonneg (Int.le_of_lt pq.pos)
      have hps := pq.pos
      have el : (List.range flow.length).map (M.onlyAt flow) = M.onlys flow := rfl
      rw [el]
      refine bl_ret (Has.is (has_lc [("_law_number", 7)] (src_list (F := tI) (j := 7) (has_var 1)) (fun x : Int => tR K (mkRat x (M.onlys flow).sum.toNat)) (fun x hx s H C cl fp => k_Ratio T x (M.onlys flow).sum.toNat ⟨by simp only; omega, pq.lt⟩ (has_var 7) (Has.is (k_b1 (T.f 10) b_sum (ct_sum rfl) (has_var 1)) (by rw [ht])) (r.mono (by decide))) ?_ nd (fun s H C cl fp => pg_1 nd)) (by unfold tRs M.only; rw [List.map_map]; rfl)) fun v K' H' g _ h => hD v K' H' g h
      unfold M.onlys
      rw [List.length_map, List.length_range]
      omega
end
end Z
end
section
set_option Elab.async false
set_option linter.all false
set_option exponentiation.threshold 20000
set_option maxRecDepth 100000
set_option maxHeartbeats 2000000
/-! The law's own look through the rows; a lot that is closed. -/
namespace Z
open PySem PySem.Spec PyProof.Rows L2
section
variable {X : Cx} {Γ : Ctx} {M : Mt} {Kb Hb : Hp} {pos spos py : Pos} {y : Str} {D : Ends} {rest : List Stmt} {α : Type} {elt tg iter c : Expr} {scope : Scope} {ts : List Ty}
theorem all2_flat : ∀ {ts : List Ty} {xs : List V} {H H' : Hp}, (∀ t ∈ ts, Flat t) → All2 ts xs H → All2 ts xs H'
  | [], [], _, _, _, _ => trivial
  | t :: ts, x :: xs, H, H', hf, ⟨a, h⟩ => ⟨hf t List.mem_cons_self x H H' a, all2_flat (fun u hu => hf u (List.mem_cons_of_mem _ hu)) h⟩
  | [], _ :: _, _, _, _, h => h.elim
  | _ :: _, [], _, _, _, h => h.elim
/-- y = [.. if ..] on one line, a list that may change being read -/
theorem bl_lcIP {g : TG} {ds : List α} {bd : α → Ctx → Ctx} {sl : List Nat} {m : Addr} (i i0 : Nat) (own : List (Str × Nat)) (hG : Γ[i0]? = some (some (tV (.ref m)))) (S : Src X (Γ.set i0 (some (tL ts))) tg iter ds bd sl g) (f : α → Bool) (F : α → Ty) (hfl : ∀ d, Flat (F d)) (hm : Hb m = none)
    (ht : ∀ d ∈ ds, ∀ s H C cl fp, HasT (blkX X scope s H C cl fp) (bd d (wipeC (Γ.set i0 (some (tL ts))) (own.map (·.2)))) c (f d)) (he : ∀ d ∈ ds, f d = true → ∀ s H C cl fp, Has (blkX X scope s H C cl fp) (bd d (wipeC (Γ.set i0 (some (tL ts))) (own.map (·.2)))) elt (F d))
    (hd : ds.length < 1000) (hN : X.N.Nodup) (hg : ∀ s H C cl fp, PG (blkX X scope s H C cl fp) tg g) (k : ∀ n, Hb n = none → n ≠ m → (∃ K H, M.p K H ∧ H n = none) → Bl X Kb Hb (Γ.set i (some (tV (.ref n)))) (mAnd (mLst n ((ds.filter f).map F)) (mAnd (mLst m ts) M)) rest D) (hy : X.N[i]? = some y := by rfl) (hyl : X.env.scope.names.lookup y = some .local := by rfl)
    (hsw : swapsWith (.ListComp elt [⟨tg, iter, [c], 0⟩] scope pos) (some (.Name y py)) spos.line X.env = pure true := by exact sw_true rfl rfl rfl (by kernel_rfl))
    (hsl : ∀ j ∈ sl, j ∈ own.map (·.2) := by decide) (ok : BlkOk X.N X.env.scope scope own := by exact blkOk_by (by kernel_rfl)) (hc : X.calm = true := by rfl) (hs : ∀ x, foldedSetIterable iter X.env x = pure x := by intro _; rfl) :
    Bl X Kb Hb Γ (mAnd (mLst m ts) M) (.Assign [.Name y py] (.ListComp elt [⟨tg, iter, [c], 0⟩] scope pos) spos :: rest) D := fun σ H ⟨K, g0, ga, ⟨ma, xs, mb, mc⟩, mm⟩ => by
  obtain ⟨p1, p2, p3⟩ := peek ma mb mc g0.s ga hG
  obtain ⟨wi, hi, k2⟩ := S.ex σ _ H p1 p2
  refine wss_cons (ws_of (ps_setLc hc hN hy hyl hsw hi ok hg (fun s H C cl fp => pts_one (⟨fun pins s1 σ H1 Q I h => h s H C cl fp pins s1 I⟩ : PT (blkX X scope s H C cl fp) c (wtB X scope c))) (fun s H C cl fp => (⟨fun pins s1 σ H1 Q I h => h s H C cl fp pins s1 I⟩ : PE (blkX X scope s H C cl fp) elt (weB X scope elt))) hs) ?_)
  refine k2 _ fun J K1 H1 g1 W Dl hD => lc_mainM (tt := wtB X scope c) (te := weB X scope elt) (Q := fun x H1 => wss X rest D (σ.set i (some x)) H1) W hd hsl g1 (p2.mo g1.k) (fun d hm σ K H s g Q q s0 H0 C cl fp => ht d hm s0 H0 C cl fp σ K H s g Q q) (fun d hm hf σ K H s g Q q s0 H0 C cl fp => he d hm hf s0 H0 C cl fp σ K H s g Q q) Dl hD fun K' H' ys g2 kd hd0 hx xa => ?_
  obtain ⟨g3, m3⟩ := p3 K' H' g2
  have nm : Dl ≠ m := fun z => by
    rw [z, mb] at hd0
    cases hd0
  refine k Dl (g0.h.back hd0) nm ⟨K, H, mm, hd0⟩ _ _ ⟨hide m K', g0.trans g3, (ga.mo g3.k).set rfl, ⟨by rw [hide_ne nm]; exact kd, ys, hx, all2_flat (fun t ht => ?_) xa⟩, m3, M.st g3 mm⟩
  obtain ⟨d, _, rfl⟩ := List.mem_map.mp ht
  exact hfl d
/-- x, y = (a, b): two new lists; x or y stands in a cell -/
theorem bl_tupNN {b a : Expr} {us : List Ty} {x : Str} {px pt : Pos} {kt k2 pt2} (i j : Nat) (ha : HasN X Γ a us) (hb : HasN X Γ b ts) (k : ∀ m n, Hb m = none → Hb n = none → m ≠ n → (∃ K H, M.p K H ∧ H m = none) → (∃ K H, M.p K H ∧ H n = none) → Bl X Kb Hb ((Γ.set i (some (tV (.ref m)))).set j (some (tV (.ref n)))) (mAnd (mLst m us) (mAnd (mLst n ts) M)) rest D) (hg : PG X (.Tuple [.Name x px, .Name y py] kt pt) (gTup X.K 2 (gCons (gName i) (gCons (gName j) gNil))))
    (he : starEach (a :: [b]) X.env = (false, eval a X.env) :: starEach [b] X.env := by rfl) (he2 : starEach [b] X.env = (false, eval b X.env) :: starEach [] X.env := by rfl)
    (hw : swappedStores [.Tuple [.Name x px, .Name y py] kt pt] (.Tuple [a, b] k2 pt2) X.env = pure none := by rfl)
    (hs : swapsWithSole [.Tuple [.Name x px, .Name y py] kt pt] (.Tuple [a, b] k2 pt2) pos.line X.env = pure false := by rfl) : Bl X Kb Hb Γ M (.Assign [.Tuple [.Name x px, .Name y py] kt pt] (.Tuple [a, b] k2 pt2) pos :: rest) D := fun σ H ⟨K, g, sa, m⟩ => by
  refine wss_cons (ws_of (ps_asg (pe_tup (pa_cons pe_we (pa_cons pe_we pa_nil he2) he)) hg hs hw) (ha σ K H g.s sa _ fun m1 K1 H1 xs1 g1 km hm hx1 xa1 => hb σ K1 H1 g1.s (sa.mo g1.k) _ fun n K2 H2 xs g2 kn hn hx xa => ?_))
  refine ⟨Nat.le_of_lt (small1000 (by simp)), fun l hl => ?_⟩
  have ne : m1 ≠ n := fun z => by rw [z, hn] at hx1; cases hx1
  have g3 := Gr.new (o := .tup [V.ref m1, V.ref n]) g2.s hl
  have m2 := (mLst m1 us).st g2 ⟨km, xs1, hx1, xa1⟩
  have m3 : (mLst n ts).p K2 H2 := ⟨kn, xs, hx, xa⟩
  exact ⟨l, _, rfl, SqT.of upd_same, rfl, _, _, rfl, _, _, rfl, rfl, k m1 n (g.h.back hm) (g.h.back (g1.h.back hn)) ne ⟨K, H, m, hm⟩ ⟨K1, H1, M.st g1 m, hn⟩ _ _ ⟨_, ((g.trans g1).trans g2).trans g3, ((((sa.mo g1.k).mo g2.k).mo g3.k).set rfl).set rfl, (mLst m1 us).st g3 m2, (mLst n ts).st g3 m3, M.st g3 (M.st g2 (M.st g1 m))⟩⟩
theorem ct_lenE {P : List Nat → Prop} {n : Nat} (h : ∀ l, P l → l.length = n) : CallT X (.builtin "len") [tE P fun l => tNs l] (tI (n : Int)) := ⟨_, call_len_seq, fun vs K H s hv Q q => by
  obtain ⟨v, rfl, l, hl, a, xs, rfl, ha, xa⟩ := hv.one
  have hz := h l hl
  exact ⟨a, xs, rfl, .inl (SqL.of (s _ _ ha)), q _ K H (Gr.refl s) (by rw [xa.len, List.length_map, List.length_map, hz]; rfl)⟩⟩
end
/-- a step leads from p to q -/
def edN (flow : List (List Nat)) (p q : Nat) : Bool := !decide ((flow.getD p []).getD q 0 = 0)
theorem getNN {flow : List (List Nat)} {p : Nat} (h : p < flow.length) : (flow.map tNs)[p]? = some (tNs (flow.getD p [])) := by
  rw [List.getElem?_map, M.getD_at h, List.getElem?_eq_getElem h]
  rfl
theorem getN {l : List Nat} {p : Nat} (h : p < l.length) : ((cst l).map tI)[p]? = some (tI ((l.getD p 0 : Nat) : Int)) := by
  rw [List.map_map, List.getElem?_map, M.getD_at h, List.getElem?_eq_getElem h]
  rfl
structure pRe (a : List (List Nat) × Nat) : Prop where
  len : a.1.length ≤ 6
  rect : ∀ r ∈ a.1, r.length = a.1.length
  lt : a.2 < a.1.length
def isRe (flow : List (List Nat)) (p : Nat) (l : List Nat) : Prop := l.length = (M.reachL (edN flow) flow.length p).length
theorem cst_app (a b : List Nat) : (cst (a ++ b)).map tI = (cst a).map tI ++ (cst b).map tI := by simp [cst]
section
variable {P : Program} {w : World} {K : PySem.W.Frag} {mg : Str → Option Value} {base : Heap}
--BEGIN reached
theorem f_reached (T : Tx K mg) : Cal P w K mg base "_law_reached" 1 (Spt (α := List (List Nat) × Nat) pRe (fun a => [tNN a.1, tI (a.2 : Int)]) fun a => tE (isRe a.1 a.2) tNs) :=
  T.calL 7 rfl (C8.fnScope_by (N := ["_law_rows_here", "_law_place", "_law_found", "_law_left", "_law_here", "_law_more", "_law_to"]) (P := ["_law_rows_here", "_law_place"]) (by decide +kernel)) (fun _ => rfl) (fun _ _ _ _ _ _ us hl => match us, hl with | [_, _], _ => rfl) fun nd a pq b r Kb Hb D _ hD => by
    obtain ⟨flow, p⟩ := a
    obtain ⟨hl, hre, hp⟩ := pq
    simp only at hl hre hp
    refine bl_tupNN 2 3 (hasn_lst (hasa_cons (has_var 1) hasa_nil) (by simp)) (hasn_lst (hasa_cons (has_var 1) hasa_nil) (by simp)) (fun m1 m2 h1 h2 ne _ _ => ?_) (pg_2 nd rfl)
    refine bl_whileC (ι := List Nat × List Nat) (fun d => M.Dfs (edN flow) flow.length p d) (fun d => M.dMu flow.length d) (fun _ => [some (tNN flow), some (tI (p : Int)), some (tV (.ref m1)), some (tV (.ref m2)), none, none, none])
      (fun d => mAnd (mLst m1 ((cst d.1).map tI)) (mAnd (mLst m2 ((cst d.2).map tI)) mNone)) (fun d => !decide (cst d.2 = [])) ([p], [p]) (M.dfs_start hp) ⟨fun _ _ h => h, fun _ _ h => h, fun _ _ h => h, fun _ _ h => h, trivial⟩ (fun _ _ h => h) (fun d hd Kb' Hb' => ?_) (fun d hd hb => ?_) fun d hd hb => ?_
    · exact HasTC.perm (M1 := mAnd (mLst m2 ((cst d.2).map tI)) (mAnd (mLst m1 ((cst d.1).map tI)) mNone)) (M2 := mAnd (mLst m2 ((cst d.2).map tI)) (mAnd (mLst m1 ((cst d.1).map tI)) mNone)) (fun _ _ m => ⟨m.2.1, m.1, trivial⟩) (fun _ _ m => ⟨m.2.1, m.1, trivial⟩) (hastc_peek 3 rfl (hast_cmp (has_var 3) (has_lst hasa_nil (by simp)) (ct_neL (ns := cst d.2) (ms := []) (u64 r))))
    · obtain ⟨found, left0⟩ := d
      have hdf : M.Dfs (edN flow) flow.length p (found, left0) := hd
      have hlen : left0.length ≤ flow.length := M.nodup_le hdf.ndl fun q hq => (hdf.rch q (hdf.sub q hq)).1
      have hne : left0 ≠ [] := fun z => by
        subst z
        simp [cst] at hb
      obtain ⟨left, here, rfl⟩ : ∃ l h, left0 = l ++ [h] := ⟨left0.dropLast, left0.getLast hne, (List.dropLast_concat_getLast hne).symm⟩
      have hh : here ∈ found := hdf.sub here (by simp)
      have hhn : here < flow.length := (hdf.rch here hh).1
      have hrl : (flow.getD here []).length = flow.length := hre _ (M.getD_mem hhn)
      have hfl : found.length ≤ flow.length := M.nodup_le hdf.nd fun q hq => (hdf.rch q hq).1
      simp only [List.length_append, List.length_singleton] at hlen hfl
      refine Bl.sub (Γ' := [some (tNN flow), some (tI (p : Int)), some (tV (.ref m1)), some (tV (.ref m2)), none, none, none]) (M' := mAnd (mLst m2 ((cst left).map tI ++ [tI (here : Int)])) (mAnd (mLst m1 ((cst found).map tI)) mNone)) ?_ (Sub2.refl _) fun _ _ h => ⟨?_, h.1, trivial⟩
      · refine bl_asgC 4 (hasc_pop 3 rfl h2 (mAnd.fr (mLst.fr ne) mNone.fr)) ?_ nd
        refine Bl.sub (Γ' := [some (tNN flow), some (tI (p : Int)), some (tV (.ref m1)), some (tV (.ref m2)), some (tI (here : Int)), none, none]) (M' := mAnd (mLst m1 ((cst found).map tI)) (mAnd (mLst m2 ((cst left).map tI)) mNone)) ?_ (Sub2.refl _) fun _ _ h => ⟨h.2.1, h.1, trivial⟩
        refine bl_lcIP (m := m1) 5 2 [("_law_to", 6)] rfl (s_range (n := flow.length) (j := 6) (T.f 1) (by omega) (Has.is (k_len T (has_var 0)) (by rw [List.length_map]))) (fun q : Nat => edN flow here q && !decide ((q : Int) ∈ cst found)) (fun q : Nat => tI (q : Int)) (fun q => flat_V) h1 (fun q hq s H C cl fp => ?_) (fun q hq hf s H C cl fp => has_var 6) (by rw [List.length_range]; omega) nd (fun s H C cl fp => pg_1 nd) (fun n hn nm ⟨K0, H0, hM0, hn0⟩ => ?_)
        · have hqn : q < flow.length := List.mem_range.mp hq
          refine hast_w (hasw_and (HasT.is (hast_cmp (has_ix (has_ix (has_var 0) (has_var 4) (ix_L (getNN hhn))) (has_var 6) (ix_L (getN (by omega)))) has_int ct_neI) ?_) fun _ => hasw_and1 (hast_cmp (has_var 6) (has_var 2) ct_notIn))
          unfold edN
          congr 1
          by_cases z : (flow.getD here []).getD q 0 = 0
          · rw [decide_eq_true z, decide_eq_true (by omega)]
          · rw [decide_eq_false z, decide_eq_false (by omega)]
        · have em : (List.range flow.length).filter (fun q : Nat => edN flow here q && !decide ((q : Int) ∈ cst found)) = M.more (edN flow) flow.length here found flow.length := by
            unfold M.more
            rw [List.take_of_length_le (by rw [List.length_range]; exact Nat.le_refl _)]
            refine List.filter_congr fun q _ => ?_
            by_cases z : q ∈ found
            · rw [decide_eq_true z, decide_eq_true (mem_cast.mpr z)]
            · rw [decide_eq_false z, decide_eq_false fun y => z (mem_cast.mp y)]
          rw [em]
          have ne2 : m2 ≠ n := fun z => by
            obtain ⟨⟨_, xs, hx, _⟩, _⟩ := hM0
            rw [z, hn0] at hx
            cases hx
          have hml := more_len (E := edN flow) (n := flow.length) (here := here) (i := flow.length) (found := found)
          have efm : (M.more (edN flow) flow.length here found flow.length).map (fun q : Nat => tI (q : Int)) = (cst (M.more (edN flow) flow.length here found flow.length)).map tI := by rw [List.map_map]; rfl
          rw [efm]
          generalize hmo : M.more (edN flow) flow.length here found flow.length = mo at hml
          refine bl_freeze 5 rfl hn (mAnd.fz (mLst.fz nm.symm) (mAnd.fz (mLst.fz ne2) mNone.fz)) ?_
          refine bl_extC (us := (cst mo).map tI) 2 rfl h1 (mAnd.fr (mLst.fr ne.symm) mNone.fr) (by simp only [List.length_map]; omega) (has_var 5) ?_
          refine Bl.sub (Γ' := _) (M' := mAnd (mLst m2 ((cst left).map tI)) (mAnd (mLst m1 ((cst found).map tI ++ (cst mo).map tI)) mNone)) ?_ (Sub2.refl _) fun _ _ h => ⟨h.2.1, h.1, trivial⟩
          refine bl_extC (us := (cst mo).map tI) 3 rfl h2 (mAnd.fr (mLst.fr ne) mNone.fr) (by simp only [List.length_map]; omega) (has_var 5) ?_
          obtain ⟨s1, s2⟩ := M.dfs_step hdf
          rw [hmo] at s1 s2
          refine bl_nil fun σ H s => ⟨_, s1, s2, s.sub ⟨fun _ _ h => h, fun _ _ h => h, fun _ _ h => h, fun _ _ h => h, trivial⟩ fun _ _ h => ?_⟩
          rw [cst_app, cst_app]
          exact ⟨h.2.1, h.1, trivial⟩
      · have h' := h.2.1
        have hz2 : (cst (left ++ [here])).map tI = (cst left).map tI ++ [tI (here : Int)] := cst_app left [here]
        rw [hz2] at h'
        exact h'
    · obtain ⟨found, left⟩ := d
      have hle : left = [] := by
        have h' : decide (cst left = []) = true := by
          have hb' : (!decide (cst left = [])) = false := hb
          rwa [Bool.not_eq_false'] at hb'
        simpa [cst] using h'
      subst hle
      refine bl_freeze 2 rfl h1 (mAnd.fz (mLst.fz ne.symm) mNone.fz) ?_
      exact bl_ret (has_var 2) fun v K' H' g _ h => hD v K' H' g ⟨found, (M.dfs_perm hd).length_eq, h⟩
/-- each place is reached from each -/
noncomputable def isW (flow : List (List Nat)) : Bool := decide (∀ p, p < flow.length → ¬ (M.reachL (edN flow) flow.length p).length < flow.length)
structure pIw (flow : List (List Nat)) : Prop where
  len : flow.length ≤ 6
  rect : ∀ r ∈ flow, r.length = flow.length
theorem isW_filter {flow : List (List Nat)} : decide (cst ((List.range flow.length).filter fun p => decide ((M.reachL (edN flow) flow.length p).length < flow.length)) = []) = isW flow := by
  unfold isW
  rw [decide_eq_decide]
  constructor
  · intro h p hp hlt
    have : p ∈ (List.range flow.length).filter fun p => decide ((M.reachL (edN flow) flow.length p).length < flow.length) := List.mem_filter.mpr ⟨List.mem_range.mpr hp, decide_eq_true hlt⟩
    rw [List.map_eq_nil_iff] at h
    rw [h] at this
    cases this
  · intro h
    rw [List.map_eq_nil_iff, List.filter_eq_nil_iff]
    intro p hp
    rw [decide_eq_true_iff]
    exact h p (List.mem_range.mp hp)
theorem f_lis_whole (T : Tx K mg) : Cal P w K mg base "_law_is_whole" 2 (Spt (α := List (List Nat)) pIw (fun flow => [tNN flow]) fun flow => tB (isW flow)) :=
  T.calL 8 rfl (C8.fnScope_by (N := ["_law_rows_here", "_law_place"]) (P := ["_law_rows_here"]) (by decide +kernel)) (fun _ => rfl) (fun _ _ _ _ _ _ us hl => match us, hl with | [_], _ => rfl) fun nd flow pq b r Kb Hb D _ hD => by
    have hl := pq.len
    refine bl_ret (t := tB (isW flow)) (Has.is (has_cmp (Has.is (has_lcI [("_law_place", 1)] (s_range (n := flow.length) (j := 1) (T.f 1) (by omega) (Has.is (k_len T (has_var 0)) (by rw [List.length_map]))) (fun p : Nat => decide ((M.reachL (edN flow) flow.length p).length < flow.length)) (fun q : Nat => tI (q : Int)) (fun q hq s H C cl fp => ?_) (fun q hq hf s H C cl fp => has_var 1) (by rw [List.length_range]; omega) nd (fun s H C cl fp => pg_1 nd)) (by unfold cst; rw [List.map_map]; rfl)) (has_lst hasa_nil (by simp)) (ct_eqL (ns := cst ((List.range flow.length).filter fun p => decide ((M.reachL (edN flow) flow.length p).length < flow.length))) (ms := []) (u64 r))) (by rw [isW_filter])) fun v K' H' g _ h => hD v K' H' g h
    have hqn : q < flow.length := List.mem_range.mp hq
    refine HasT.is (hast_cmp (k_b1 (T.f 0) b_len (ct_lenE (P := isRe flow q) (n := (M.reachL (edN flow) flow.length q).length) fun l h => h) (has_call (f_reached T) (flow, q) ⟨hl, pq.rect, hqn⟩ (hasa_cons (has_var 0) (hasa_cons (has_var 1) hasa_nil)) r)) (k_len T (has_var 0)) ct_lt) ?_
    rw [decide_eq_decide, List.length_map]
    omega
--END
end
end Z
end
section
set_option Elab.async false
set_option linter.all false
set_option exponentiation.threshold 20000
set_option maxRecDepth 100000
set_option maxHeartbeats 2000000
namespace Z
open PySem PySem.Spec PyProof.Rows L2
section
variable {P : Program} {w : World} {K : PySem.W.Frag} {mg : Str → Option Value} {base : Heap}
/-- flow, lot -/
structure pIc (a : List (List Nat) × List Nat) : Prop where
  len : a.1.length ≤ 6
  rect : ∀ r ∈ a.1, r.length = a.1.length
  lo : 0 < a.2.length
  hi : a.2.length < a.1.length
  srt : a.2.Pairwise (· ≤ ·)
  all : a.2 = (List.range a.1.length).filter fun q => decide (q ∈ a.2)
  cl : ∀ p ∈ a.2, ∀ q, q < a.1.length → edN a.1 p q = true → q ∈ a.2
theorem mem_cst {q : Nat} {l : List Nat} : decide ((q : Int) ∈ cst l) = decide (q ∈ l) := by
  rw [decide_eq_decide]
  exact mem_cast
theorem ed_ne {flow : List (List Nat)} {p q : Nat} : (!decide (((((flow.getD p []).getD q 0 : Nat) : Int)) = 0)) = edN flow p q := by
  unfold edN
  congr 1
  rw [decide_eq_decide]
  omega
theorem f_lis_closed (T : Tx K mg) : Cal P w K mg base "_law_is_closed" 1 (Spt (α := List (List Nat) × List Nat) pIc (fun a => [tNN a.1, tNs a.2]) fun _ => tB true) :=
  T.calL 11 rfl (C8.fnScope_by (N := ["_law_rows_here", "_law_lot", "_law_place", "_law_at", "_law_to"]) (P := ["_law_rows_here", "_law_lot"]) (by decide +kernel)) (fun _ => rfl) (fun _ _ _ _ _ _ us hl => match us, hl with | [_, _], _ => rfl) fun nd a pq b r Kb Hb D _ hD => by
    obtain ⟨flow, lot⟩ := a
    obtain ⟨hl, hre, hlo, hhi, hsr, hall, hcl⟩ := pq
    simp only at hl hre hlo hhi hsr hall hcl
    refine bl_if (k := false) (hast_w (hasw_or (k := false) (l := false) (hast_not (hast_val (k_isi (b := true) T (t := tNs lot) (has_var 1) (has_ty (T.f 8) b_list) (.ty _) hty_L (kit_ty (by decide +kernel))))) fun _ => hasw_or (k := false) (l := false) (HasT.is (hast_cmp (tb := tNs lot) (has_var 1) (Has.imp (k_b1 (T.f 11) b_sorted (ct_sorted (ns := cst lot) (by rw [List.length_map]; omega)) (has_var 1)) fun v H h => ?_) (ct_neL (u64 r))) (by rw [decide_eq_true rfl]; rfl)) fun _ => hasw_or1 (HasT.is (hast_not (hast_chain (k := true) (l := true) (has_int (i := 0)) (k_len T (has_var 1)) (fun _ => k_len T (has_var 0)) ?_ ?_)) rfl))) (fun h => by cases h) fun _ => bl_fall ?_
    · obtain ⟨ms, ⟨h1, h2⟩, h3⟩ := h
      have e : ms = cst lot := M.sorted_eq h1 h2 (M.cast_sorted hsr)
      rw [e] at h3
      exact h3
    · have := ct_lt (X := (cxB CX0 P w K mg base ["_law_rows_here", "_law_lot", "_law_place", "_law_at", "_law_to"] "_law_is_closed" (defScope (top 70)) (ca K "_law_is_closed") b)) (i := 0) (j := (((cst lot).map tI).length : Int))
      rw [decide_eq_true (by rw [List.length_map, List.length_map]; omega)] at this
      exact this
    · have := ct_lt (X := (cxB CX0 P w K mg base ["_law_rows_here", "_law_lot", "_law_place", "_law_at", "_law_to"] "_law_is_closed" (defScope (top 70)) (ca K "_law_is_closed") b)) (i := (((cst lot).map tI).length : Int)) (j := ((flow.map tNs).length : Int))
      rw [decide_eq_true (by rw [List.length_map, List.length_map, List.length_map]; omega)] at this
      exact this
    · refine bl_if (k := false) (HasT.is (hast_cmp (tb := tNs ((List.range flow.length).filter fun q => decide (q ∈ lot))) (has_var 1) (Has.is (has_lcI [("_law_at", 3)] (s_range (n := flow.length) (j := 3) (T.f 1) (by omega) (Has.is (k_len T (has_var 0)) (by rw [List.length_map]))) (fun q : Nat => decide (q ∈ lot)) (fun q : Nat => tI (q : Int)) (fun q hq s H C cl fp => HasT.is (hast_cmp (has_var 3) (has_var (t := tNs lot) 1) ct_in) mem_cst) (fun q hq hf s H C cl fp => has_var 3) (by rw [List.length_range]; omega) nd (fun s H C cl fp => pg_1 nd)) (by unfold tNs tIs cst; rw [List.map_map]; rfl)) (ct_neL (u64 r))) ?_) (fun h => by cases h) fun _ => bl_fall ?_
      · rw [← hall, decide_eq_true rfl]
        rfl
      · refine bl_for (src_list (F := fun q : Nat => tI (q : Int)) (j := 2) (ds := lot) (Has.is (has_var (t := tNs lot) 1) (by unfold tNs tIs cst; rw [List.map_map]; rfl))) (pg_1 nd) (fun i => [some (tNN flow), some (tNs lot), none, none, none]) (fun _ => mNone) ⟨fun _ _ h => h, fun _ _ h => h, trivial⟩ (fun _ _ h => h) (fun i d hd K1 up => ?_) ?_
        · have hdm : d ∈ lot := List.mem_of_getElem? hd
          have hdn : d < flow.length := by
            have hdm2 := hdm
            rw [hall] at hdm2
            exact List.mem_range.mp (List.mem_filter.mp hdm2).1
          have hrl := hre _ (M.getD_mem (d := []) hdn)
          refine bl_if (k := false) (HasT.is (hast_cmp (Has.is (has_lcI [("_law_to", 4)] (s_range (n := flow.length) (j := 4) (T.f 1) (by omega) (Has.is (k_len T (has_var 0)) (by rw [List.length_map]))) (fun q : Nat => edN flow d q && !decide (q ∈ lot)) (fun q : Nat => tI (q : Int)) (fun q hq s H C cl fp => ?_) (fun q hq hf s H C cl fp => has_var 4) (by rw [List.length_range]; omega) nd (fun s H C cl fp => pg_1 nd)) (?_ : _ = tIs (cst ((List.range flow.length).filter fun q => edN flow d q && !decide (q ∈ lot))))) (has_lst hasa_nil (by simp)) (ct_neL (ms := []) (u64 r))) ?_) (fun h => by cases h) fun _ => bl_fall (Bl.nxt (fun _ _ h => h) ⟨fun _ _ h => h, fun _ _ h => h, trivial⟩ fun _ _ h => h)
          · have hqn : q < flow.length := List.mem_range.mp hq
            exact hast_w (hasw_and (HasT.is (hast_cmp (has_ix (has_ix (has_var 0) (has_var 2) (ix_L (getNN hdn))) (has_var 4) (ix_L (getN (by omega)))) has_int ct_neI) ed_ne) fun _ => hasw_and1 (HasT.is (hast_cmp (has_var 4) (has_var (t := tNs lot) 1) ct_notIn) (by rw [mem_cst])))
          · unfold tIs cst
            rw [List.map_map]
            rfl
          · have e : ((List.range flow.length).filter fun q => edN flow d q && !decide (q ∈ lot)) = [] := by
              rw [List.filter_eq_nil_iff]
              intro q hq h
              rw [Bool.and_eq_true, Bool.not_eq_true', decide_eq_false_iff_not] at h
              exact h.2 (hcl d hdm q (List.mem_range.mp hq) h.1)
            rw [e]
            rfl
        · exact bl_ret has_bl fun v K' H' g _ h => hD v K' H' g h
/-! rows_lead -/
structure pRl (flow : List (List Nat)) : Prop where
  lo : 2 ≤ flow.length
  hi : flow.length ≤ 6
  rect : ∀ r ∈ flow, r.length = flow.length
theorem rep_flat {n : Nat} : (List.replicate n [tI 0]).flatten = (cst (List.replicate n 0)).map tI := by
  induction n with
  | zero => rfl
  | succ n ih =>
    rw [List.replicate_succ, List.flatten_cons, ih, List.replicate_succ]
    rfl
theorem cst_dec {l m : List Nat} : decide (cst l = cst m) = decide (l = m) := by
  rw [decide_eq_decide]
  refine ⟨fun h => ?_, fun h => by rw [h]⟩
  have := congrArg (List.map Int.toNat) h
  have z : ∀ l : List Nat, (cst l).map Int.toNat = l := fun l => by
    rw [List.map_map]
    exact List.map_id' l
  rwa [z, z] at this
--BEGIN lead
theorem f_lead (T : Tx K mg) : Cal P w K mg base "_law_rows_lead" 1 (Spt (α := List (List Nat)) pRl (fun flow => [tNN flow]) fun flow => tB (M.leads flow)) :=
  T.calL 15 rfl (C8.fnScope_by (N := ["_law_flow_here"]) (P := ["_law_flow_here"]) (by decide +kernel)) (fun _ => rfl) (fun _ _ _ _ _ _ us hl => match us, hl with | [_], _ => rfl) fun nd flow pq b r Kb Hb D _ hD => by
    have hlo := pq.lo
    have hhi := pq.hi
    have hr0 := pq.rect _ (M.getD_mem (d := []) (k := 0) (l := flow) (by omega))
    have hr1 := pq.rect _ (M.getD_mem (d := []) (k := 1) (l := flow) (by omega))
    have hz : (((flow.map tNs).length : Nat) : Int) - 1 = ((flow.length - 1 : Nat) : Int) := by rw [List.length_map]; omega
    have h0 : (flow.map tNs)[0]? = some (tNs (flow.getD 0 [])) := getNN (by omega)
    have h1 : (flow.map tNs)[1]? = some (tNs (flow.getD 1 [])) := getNN (by omega)
    refine bl_ret (t := tB (M.leads flow)) (has_or (Has.is (has_cmp (ta := tNs ((flow.getD 0 []).drop 1)) (tb := tNs (List.replicate (flow.length - 1) 0)) (Has.is (has_sliceLo (n := 1) (has_ix (has_var 0) has_int (ix_L (k := 0) h0)) has_int) (by unfold tNs tIs cst; rw [List.map_drop, List.map_drop])) (Has.is (has_op (has_lst (hasa_cons has_int hasa_nil) (by simp)) (Has.is (has_op (k_len T (has_var 0)) has_int bt_sub) (by rw [hz])) (bt_rep (n := flow.length - 1) (by simp; omega) (by omega))) (by rw [rep_flat])) (ct_neL (u64 r))) (by rw [cst_dec])) fun _ => has_one (Has.is (has_cmp (ta := tNs (M.cut 1 (flow.getD 1 []))) (tb := tNs (List.replicate (flow.length - 1) 0)) (Has.is (t := tL (M.cut 1 ((cst (flow.getD 1 [])).map tI))) (has_cut (n := 1) (has_ix (has_var 0) has_int (ix_L (k := 1) h1)) (has_ix (has_var 0) has_int (ix_L (k := 1) h1)) has_int has_int (by rw [List.length_map, List.length_map]; omega)) (by unfold tNs tIs cst; rw [cut_map, cut_map])) (Has.is (has_op (has_lst (hasa_cons has_int hasa_nil) (by simp)) (Has.is (has_op (k_len T (has_var 0)) has_int bt_sub) (by rw [hz])) (bt_rep (n := flow.length - 1) (by simp; omega) (by omega))) (by rw [rep_flat])) (ct_neL (u64 r))) (by rw [cst_dec]))) fun v K' H' g _ h => hD v K' H' g h
--END
end
end Z
end
section
set_option Elab.async false
set_option linter.all false
set_option exponentiation.threshold 20000
set_option maxRecDepth 100000
set_option maxHeartbeats 2000000
namespace Z
open PySem PySem.Spec PyProof.Rows L2
section
variable {X : Cx} {Γ : Ctx} {e : Expr} {es : List Expr} {pos p : Pos} {k : Nat} {f : Addr} {fd : FuncData} {ps ks : List Str} {sp : Sp} {E : XK} {x : Str} {kws : List Keyword} {tk : TA} {g : List Value → List Value → List Value} {gV : List V → List V → List V} {CX : CXT}
/-- f(k = e, ..), no positional values -/
def tKw (sp : Sp) (gV : List V → List V → List V) (m : Nat) (E : XK) (tk : TA) : TE := fun σ H Q => tk σ H fun zs H1 => zs.length = m ∧ sp (gV [] zs) H1 Q E
theorem pe_kw0 (F : FnOk X.prog X.w X.K X.mg X.base CX k f fd ps sp) (hr : Room k X.A) (hg : Gl X x) (hm : X.mg x = some (.ref f)) (hk : PySem.W.keepIn X.K (.ref f) = true) (hb : KBn X.K fd ps 0 ks g gV) (hx : Passes CX X E) (hkw : PK X kws tk)
    (hall : (backToKw pos (keywordEach kws X.env)).all (·.1.isSome) = true := by rfl) (hks : (backToKw pos (keywordEach kws X.env)).filterMap (·.1) = ks := by rfl) (hdb : (x == ("__debug__" : Str)) = false := by decide)
    (hpl : ((backTo pos (starEach [] X.env)).any (·.1) || (backToKw pos (keywordEach kws X.env)).any (·.1.isNone)) = false := by rfl) :
    PE X (.Call (.Name x p) [] kws pos) (tKw sp gV ks.length E tk) := ⟨fun pins s σ H Q I h => by
  refine wpAny_Call_Name_kw (ld_glob I hg hm (PySem.W.callWith_KW0 (h₀ := X.base) I.ok.mod.kin hk hall (thn (hkw.run pos pins s σ H _ I h) fun ws s2 ⟨zs, H2, I2, rz, l2, q2⟩ => ⟨I2.kIn, ?_⟩) hpl) hdb)
  rw [hks]
  exact run_fnN (us := []) (vs := []) F hr hb hx I2 .nil rz rfl l2 q2⟩
/-- a def that is called by one keyword -/
structure CalK (P : Program) (w : World) (K : PySem.W.Frag) (mg : Str → Option Value) (base : Heap) (CX : CXT) (x key : Str) (k : Nat) (sp : Sp) : Prop where
  ex : ∃ f fd, FnOk P w K mg base CX k f fd [key] sp ∧ mg x = some (.ref f) ∧ PySem.W.keepIn K (.ref f) = true ∧ KBn K fd [key] 0 [key] (fun _ ws => ws) (fun _ zs => zs) ∧ Binds K fd [key] []
theorem CalK.mono {P w K mg base} {key : Str} {j k : Nat} {sp : Sp} (c : CalK P w K mg base CX x key j sp) (h : j ≤ k) : CalK P w K mg base CX x key k sp :=
  let ⟨f, fd, a, b⟩ := c.ex
  ⟨f, fd, a.mono h, b⟩
theorem has_kw {α : Type} {pre : α → Prop} {args : α → List Ty} {res : α → Ty} {key : Str} {kp : Pos} {t : Ty} (F : CalK X.prog X.w X.K X.mg X.base CX0 x key k (Spt pre args res)) (a : α) (hp : pre a) (ha : args a = [t]) (h : Has X Γ e t) (hr : Room k X.A) (hg : Gl X x := by rfl) (hdb : (x == ("__debug__" : Str)) = false := by decide)
    (hall : (backToKw pos (keywordEach [⟨some key, e, kp⟩] X.env)).all (·.1.isSome) = true := by rfl) (hks : (backToKw pos (keywordEach [⟨some key, e, kp⟩] X.env)).filterMap (·.1) = [key] := by rfl)
    (hpl : ((backTo pos (starEach [] X.env)).any (·.1) || (backToKw pos (keywordEach [⟨some key, e, kp⟩] X.env)).any (·.1.isNone)) = false := by rfl) : Has X Γ (.Call (.Name x p) [] [⟨some key, e, kp⟩] pos) (res a) := fun σ K H s g0 Q q => by
  obtain ⟨f, fd, G, hm, hk, hb, _⟩ := F.ex
  refine we_of (pe_kw0 G hr hg hm hk hb pass0 (pk_cons pe_we pk_nil) hall hks hdb hpl) (h σ K H s g0 _ fun v K1 H1 g1 tv => ?_)
  exact ⟨rfl, a, K1, hp, g1.s, by rw [ha]; exact ⟨tv, trivial⟩, fun v K2 H2 g2 h2 => q v K2 H2 (g1.trans g2) h2⟩
/-- repr of a bool -/
theorem ct_reprB {b : Bool} : CallT X (.builtin "repr") [tB b] (tV (.str (if b then "True" else "False"))) := by
  refine ⟨fun vs H Q => vs = [.bl b] ∧ Q (.str (if b then "True" else "False")) H, fun pins s σ H vs us Q I r h => ?_, fun vs K H s hv Q q => ?_⟩
  · obtain ⟨rfl, q⟩ := h
    obtain ⟨u, rfl, ru⟩ := r.one
    cases ru
    exact PySem.P.repr_of_bool ⟨.str _, H, I.tok _, ⟨_, rfl⟩, q⟩
  · obtain ⟨v, rfl, e⟩ := hv.one
    have e' : v = .bl b := e
    subst e'
    exact ⟨rfl, q _ K H (Gr.refl s) rfl⟩
end
section
variable {P : Program} {w : World} {K : PySem.W.Frag} {mg : Str → Option Value} {base : Heap}
theorem kbn1 {fd : FuncData} {key : Str} (h : ∀ v : Value, bindArgs fd ⟨[], [(key, v)]⟩ = pure [(key, v)]) : KBn K fd [key] 0 [key] (fun _ ws => ws) (fun _ zs => zs) :=
  ⟨fun s us ws _ l1 l2 => by
    match us, ws, l1, l2 with
    | [], [v], _, _ => exact .of_eq (h v), fun _ r => r⟩
theorem fk_closed_lot (T : Tx K mg) : CalK P w K mg base CX0 "closed_lot" "walk" 5 (Spt (α := Rsh) (fun a => pCl2 a.1) (fun a => [tWk K a]) fun a => tClo (clR a.1)) := by
  have d := T.d 35 _ rfl
  obtain ⟨fd, F⟩ := d.fd
  have G : FnOk P w K mg base CX0 5 (ca K "closed_lot") fd ["walk"] (Spt (α := Rsh) (fun a => pCl2 a.1) (fun a => [tWk K a]) fun a => tClo (clR a.1)) :=
    fn_ty F (C8.fnScope_by (N := ["walk"]) (P := ["walk"]) (by decide +kernel)) (fun _ => rfl) fun a pq b r Kb Hb D _ hD =>
      bl_expr (has_call (f_want_walk T) a trivial (hasa_cons (has_var 0) hasa_nil) (r.mono (by decide))) (bl_ret (has_call (f_closed_in T) a.1 pq (hasa_cons (k_Wr T (has_var 0)) hasa_nil) r) fun v K' H' g _ h => hD v K' H' g h)
  have bd := F.bindsN (ps := ["walk"]) fun _ _ _ _ _ _ us hl => match us, hl with | [_], _ => rfl
  have kb : KBn K fd ["walk"] 0 ["walk"] (fun _ ws => ws) (fun _ zs => zs) := by
    obtain ⟨oc, od, dV, kV, doc, pm, an, cdv, ct, osl, rfl, lk, hcd, hDf, hK⟩ := F.ex
    rcases hDf with ⟨_, rfl⟩ | ⟨e, _⟩
    · exact kbn1 fun v => rfl
    · exact absurd rfl e
  exact ⟨_, fd, G, d.mg, F.kp, kb, bd⟩
/-! lot_right -/
/-- a walk of a flow's rows -/
structure pLr (a : Rsh × List (List Nat)) : Prop where
  len : a.1.1.length = a.2.length
  hi : a.2.length ≤ 6
  rect : ∀ r ∈ a.2, r.length = a.2.length
  rect2 : ∀ r ∈ a.1.1, r.length = a.1.1.length
  ed : ∀ p q, p < a.2.length → q < a.2.length → edR a.1.1 p q = edN a.2 p q
theorem reach_same {E F : Nat → Nat → Bool} {n p q : Nat} (hp : p < n) (h : ∀ p q, p < n → q < n → E p q = F p q) (r : M.Reach E n p q) : q < n ∧ M.Reach F n p q := by
  induction r with
  | refl => exact ⟨hp, .refl⟩
  | step _ e hr ih => exact ⟨hr, .step ih.2 (by rw [← h _ _ ih.1 hr]; exact e) hr⟩
theorem reachL_same {E F : Nat → Nat → Bool} {n p : Nat} (hp : p < n) (h : ∀ p q, p < n → q < n → E p q = F p q) : M.reachL E n p = M.reachL F n p := by
  unfold M.reachL
  refine List.filter_congr fun q hq => ?_
  rw [decide_eq_decide]
  exact ⟨fun r => (reach_same hp h r).2, fun r => (reach_same hp (fun a b x y => (h a b x y).symm) r).2⟩
theorem closed_cases (E : Nat → Nat → Bool) (n : Nat) : (M.closedIn E n = none ∧ ∀ p, p < n → ¬ (M.reachL E n p).length < n) ∨ ∃ p, p < n ∧ M.closedIn E n = some (M.reachL E n p) ∧ (M.reachL E n p).length < n := by
  by_cases h : ∀ p, p < n → ¬ (M.reachL E n p).length < n
  · exact .inl ⟨cl_none h, h⟩
  · right
    have : ∃ p, p < n ∧ (M.reachL E n p).length < n := Classical.byContradiction fun z => h fun p hp y => z ⟨p, hp, y⟩
    obtain ⟨p0, hp0, hl0⟩ := this
    have ind : ∀ k, ∀ p, p < k → p < n → (M.reachL E n p).length < n → ∃ p, p < n ∧ (∀ q, q < p → ¬ (M.reachL E n q).length < n) ∧ (M.reachL E n p).length < n := fun k => by
      induction k with
      | zero => exact fun p hp => absurd hp (Nat.not_lt_zero _)
      | succ k ih =>
        intro p hk hp hl
        by_cases z : ∃ q, q < p ∧ (M.reachL E n q).length < n
        · obtain ⟨q, hq, hql⟩ := z
          exact ih q (by omega) (by omega) hql
        · exact ⟨p, hp, fun q hq y => z ⟨q, hq, y⟩, hl⟩
    obtain ⟨p, hp, h1, h2⟩ := ind (p0 + 1) p0 (Nat.lt_succ_self _) hp0 hl0
    exact ⟨p, hp, cl_some hp h1 h2, h2⟩
theorem isW_eq {flow : List (List Nat)} : isW flow = (M.closedIn (edN flow) flow.length).isNone := by
  unfold isW
  rcases closed_cases (edN flow) flow.length with ⟨e, h⟩ | ⟨p, hp, e, h⟩
  · rw [e, decide_eq_true h]
    rfl
  · rw [e, decide_eq_false fun z => z p hp h]
    rfl
theorem closed_same {E F : Nat → Nat → Bool} {n : Nat} (h : ∀ p q, p < n → q < n → E p q = F p q) : M.closedIn E n = M.closedIn F n := by
  rcases closed_cases E n with ⟨e, k⟩ | ⟨p, hp, e, k⟩
  · rw [e, cl_none fun p hp => by rw [← reachL_same hp h]; exact k p hp]
  · unfold M.closedIn
    have hf : ∀ l : List Nat, (∀ q ∈ l, q < n) → l.findSome? (fun p => if (M.reachL E n p).length < n then some (M.reachL E n p) else none) = l.findSome? (fun p => if (M.reachL F n p).length < n then some (M.reachL F n p) else none) := fun l => by
      induction l with
      | nil => exact fun _ => rfl
      | cons a l ih =>
        intro hl
        rw [List.findSome?_cons, List.findSome?_cons, reachL_same (hl a List.mem_cons_self) h, ih fun q hq => hl q (List.mem_cons_of_mem _ hq)]
    exact hf _ fun q hq => List.mem_range.mp hq
theorem lot_ok {flow : List (List Nat)} {p : Nat} (hi : flow.length ≤ 6) (rect : ∀ r ∈ flow, r.length = flow.length) (hp : p < flow.length) (hlt : (M.reachL (edN flow) flow.length p).length < flow.length) : pIc (flow, M.reachL (edN flow) flow.length p) := by
  refine ⟨hi, rect, List.length_pos_of_mem (M.mem_reachL.mpr ⟨hp, .refl⟩), hlt, M.reachL_sorted, ?_, fun q hq r hr e => ?_⟩
  · show M.reachL (edN flow) flow.length p = List.filter _ _
    conv => lhs; unfold M.reachL
    refine List.filter_congr fun q hq => ?_
    rw [decide_eq_decide, M.mem_reachL]
    exact ⟨fun h => ⟨List.mem_range.mp hq, h⟩, fun h => h.2⟩
  · exact M.mem_reachL.mpr ⟨hr, .step (M.mem_reachL.mp hq).2 e hr⟩
theorem f_lot_right (T : Tx K mg) : Cal P w K mg base "_law_lot_right" 7 (Spt (α := Rsh × List (List Nat)) pLr (fun a => [tWk K a.1, tNN a.2]) fun _ => tB true) :=
  T.calL 12 rfl (C8.fnScope_by (N := ["_law_walk_here", "_law_rows_here", "_law_whole", "_law_lot"]) (P := ["_law_walk_here", "_law_rows_here"]) (by decide +kernel)) (fun _ => rfl) (fun _ _ _ _ _ _ us hl => match us, hl with | [_, _], _ => rfl) fun nd a pq b r Kb Hb D _ hD => by
    obtain ⟨wk, flow⟩ := a
    obtain ⟨hlen, hi, hre, hre2, hed⟩ := pq
    simp only at hlen hi hre hre2 hed
    have hc2 : pCl2 wk.1 := ⟨by omega, hre2⟩
    have ec : clR wk.1 = M.closedIn (edN flow) flow.length := by
      unfold clR
      rw [hlen]
      exact closed_same hed
    have ew : (clR wk.1).isNone = isW flow := by rw [ec, isW_eq]
    refine bl_par 2 3 (has_call (f_lis_whole T) flow ⟨hi, hre⟩ (hasa_cons (has_var 1) hasa_nil) (r.mono (by decide))) (has_kw (fk_closed_lot T) wk hc2 rfl (has_var 0) (r.mono (by decide))) ?_ nd
    refine bl_if (k := false) (HasT.is (hast_cmp (k_b1 (T.f 16) b_repr ct_reprB (has_call (f_is_whole T) wk hc2 (hasa_cons (has_var 0) hasa_nil) r)) (k_b1 (T.f 16) b_repr ct_reprB (has_var 2)) ct_neV) ?_) (fun h => by cases h) fun _ => bl_fall ?_
    · rw [ew, decide_eq_true rfl]
      rfl
    · refine bl_ret (t := tB true) (has_if (hast_val (has_var 2)) (fun h => ?_) fun h => ?_) fun v K' H' g _ h => hD v K' H' g h
      · refine Has.is (has_cmp (has_var 3) has_non (ct_isN fun _ _ h => clo_non h)) (by rw [ew, h])
      · rw [isW_eq] at h
        rcases closed_cases (edN flow) flow.length with ⟨e, _⟩ | ⟨p, hp, e, hlt⟩
        · rw [e] at h
          cases h
        · exact has_call (f_lis_closed T) (flow, M.reachL (edN flow) flow.length p) (lot_ok hi hre hp hlt) (hasa_cons (has_var 1) (hasa_cons (Has.is (has_var 3) (by rw [ec, e]; rfl)) hasa_nil)) (r.mono (by decide))
/-! apart -/
structure pAp (a : List (List Nat) × Nat) : Prop where
  hi : a.1.length ≤ 6
  rect : ∀ r ∈ a.1, r.length = a.1.length
theorem imin {a o : Nat} : (if (o : Int) < (a : Int) then (o : Int) else (a : Int)) = ((min a o : Nat) : Int) := by
  split <;> omega
theorem imax {a o : Nat} : (if (a : Int) < (o : Int) then (o : Int) else (a : Int)) = ((max a o : Nat) : Int) := by
  split <;> omega
theorem dlt {a c : Nat} : decide ((a : Int) < (c : Int)) = decide (a < c) := by
  rw [decide_eq_decide]
  omega
theorem f_apart (T : Tx K mg) : Cal P w K mg base "_law_apart" 1 (Spt (α := List (List Nat) × Nat) pAp (fun a => [tNN a.1, tI (a.2 : Int)]) fun a => tNN (M.apart a.1 a.2)) :=
  T.calL 16 rfl (C8.fnScope_by (N := ["_law_flow_here", "_law_cut", "_law_found", "_law_at", "_law_row", "_law_other"]) (P := ["_law_flow_here", "_law_cut"]) (by decide +kernel)) (fun _ => rfl) (fun _ _ _ _ _ _ us hl => match us, hl with | [_, _], _ => rfl) fun nd a pq b r Kb Hb D _ hD => by
    obtain ⟨flow, c⟩ := a
    obtain ⟨hi, hre⟩ := pq
    simp only at hi hre
    refine bl_newM 2 (fun m hm _ => ?_) nd
    refine bl_for (s_range (n := flow.length) (j := 3) (T.f 1) (by omega) (Has.is (k_len T (has_var 0)) (by rw [List.length_map]))) (pg_1 nd) (fun i => [some (tNN flow), some (tI (c : Int)), some (tV (.ref m)), none, none, none]) (fun i => mAnd (mLst m ((((List.range flow.length).take i).map fun a => if 0 < (M.apRow flow c a).sum then M.apRow flow c a else M.apOne flow.length a).map tNs)) mNone) ⟨fun _ _ h => h, fun _ _ h => h, fun _ _ h => h, trivial⟩ (fun _ _ h => h) (fun i d hd K1 up => ?_) ?_
    · have hdn : d < flow.length := List.mem_range.mp (List.mem_of_getElem? hd)
      refine bl_newM 4 (fun m2 hm2 ⟨K0, H0, hM0, hn0⟩ => ?_) nd
      have ne : m ≠ m2 := fun z => by
        obtain ⟨⟨_, xs, hx, _⟩, _⟩ := hM0
        rw [z, hn0] at hx
        cases hx
      let el : Nat → Nat := fun o => if (decide (d < c) == decide (o < c)) = true then (flow.getD (min d o) []).getD (max d o) 0 else 0
      have er : M.apRow flow c d = (List.range flow.length).map el := rfl
      refine bl_for (s_range (n := flow.length) (j := 5) (T.f 1) (by omega) (Has.is (k_len T (has_var 0)) (by rw [List.length_map]))) (pg_1 nd) (fun j => [some (tNN flow), some (tI (c : Int)), some (tV (.ref m)), some (tI (d : Int)), some (tV (.ref m2)), none]) (fun j => mAnd (mLst m2 ((cst (((List.range flow.length).take j).map el)).map tI)) (mAnd (mLst m ((((List.range flow.length).take i).map fun a => if 0 < (M.apRow flow c a).sum then M.apRow flow c a else M.apOne flow.length a).map tNs)) mNone)) ⟨fun _ _ h => h, fun _ _ h => h, fun _ _ h => h, fun _ _ h => h, fun _ _ h => h, trivial⟩ (fun _ _ h => h) (fun j o ho K2 up2 => ?_) ?_
      · have hon : o < flow.length := List.mem_range.mp (List.mem_of_getElem? ho)
        have hmn : min d o < flow.length := by omega
        have hrl := hre _ (M.getD_mem (d := []) hmn)
        refine bl_appC (t := tI ((el o : Nat) : Int)) 4 rfl hm2 (mAnd.fr (mLst.fr ne) mNone.fr) (by simp only [List.length_map, List.length_take, List.length_range]; omega) (Has.cc (has_if (k := decide (d < c) == decide (o < c)) (HasT.is (hast_cmp (Has.is (has_cmp (has_var 3) (has_var 1) ct_lt) (by rw [dlt])) (Has.is (has_cmp (has_var 5) (has_var 1) ct_lt) (by rw [dlt])) (ct_eqV (x := V.bl (decide (d < c))) (y := V.bl (decide (o < c))))) dec_VB) (fun h => ?_) fun h => ?_)) ?_
        · have e1 : el o = (flow.getD (min d o) []).getD (max d o) 0 := if_pos h
          rw [e1]
          exact has_ix (has_ix (has_var 0) (Has.is (k_b2 (T.f 14) b_min (ct_min rfl) (has_var 3) (has_var 5)) (by rw [imin])) (ix_L (getNN hmn))) (Has.is (k_b2 (T.f 13) b_max (ct_max rfl) (has_var 3) (has_var 5)) (by rw [imax])) (ix_L (getN (by omega)))
        · have e1 : el o = 0 := if_neg (by rw [h]; decide)
          rw [e1]
          exact has_int
        · refine Bl.nxt (fun _ _ h => h) ⟨fun _ _ h => h, fun _ _ h => h, fun _ _ h => h, fun _ _ h => h, fun _ _ h => h, trivial⟩ fun _ _ h => ⟨?_, h.2⟩
          have h' := h.1
          rw [List.take_add_one, ho, List.map_append, cst_app]
          exact h'
      · rw [List.length_range, List.take_of_length_le (by rw [List.length_range]; exact Nat.le_refl _), ← er]
        refine bl_freeze 4 rfl hm2 (mAnd.fz (mLst.fz ne) mNone.fz) ?_
        refine bl_appC (t := tNs (if 0 < (M.apRow flow c d).sum then M.apRow flow c d else M.apOne flow.length d)) 2 rfl hm mNone.fr ?_ (Has.cc (has_if (hast_cmp (k_sumN T rfl (l := M.apRow flow c d) (has_var 4)) has_int ct_gt) (fun h => ?_) fun h => ?_)) ?_
        · simp only [List.length_map, List.length_take, List.length_range]
          omega
        · have h' : 0 < (M.apRow flow c d).sum := by
            have := of_decide_eq_true h
            omega
          rw [if_pos h']
          exact has_var 4
        · have h' : ¬ 0 < (M.apRow flow c d).sum := by
            have := of_decide_eq_false h
            omega
          rw [if_neg h']
          refine Has.is (has_lc [("_law_other", 5)] (s_range (n := flow.length) (j := 5) (T.f 1) (by omega) (Has.is (k_len T (has_var 0)) (by rw [List.length_map]))) (fun o : Nat => tI (((if d = o then 1 else 0 : Nat)) : Int)) (fun o ho s H C cl fp => Has.is (k_t1 (T.f 5) b_int ct_intB (has_cmp (has_var 3) (has_var 5) ct_eqI)) ?_) (by rw [List.length_range]; omega) nd (fun s H C cl fp => pg_1 nd)) (by unfold tNs tIs cst M.apOne; rw [List.map_map, List.map_map]; rfl)
          congr 2
          by_cases e : d = o
          · rw [if_pos e, if_pos (by rw [e]; simp)]
            rfl
          · rw [if_neg e, if_neg (by simp; omega)]
            rfl
        · refine Bl.nxt (fun _ _ h => h) ⟨fun _ _ h => h, fun _ _ h => h, fun _ _ h => h, trivial⟩ fun _ _ h => ⟨?_, trivial⟩
          have h' := h.1
          rw [List.take_add_one, hd, List.map_append, List.map_append]
          exact h'
    · rw [List.length_range, List.take_of_length_le (by rw [List.length_range]; exact Nat.le_refl _)]
      refine bl_freeze 2 rfl hm mNone.fz ?_
      exact bl_ret (has_var 2) fun v K' H' g _ h => hD v K' H' g h
end
end Z
end
section
set_option Elab.async false
set_option linter.all false
set_option exponentiation.threshold 20000
set_option maxRecDepth 100000
set_option maxHeartbeats 2000000
/-! The pot: draws. -/
namespace Z
open PySem PySem.Spec PyProof.Rows L2
def potH (H : Hp) (P : Addr) : Prop := ∃ x y : Int, 0 ≤ x ∧ 0 ≤ y ∧ y < 1099511627776 ∧ H P = some (.lst [.int x, .int y])
def mPot (P : Addr) : Mt := ⟨fun K H => K P = none ∧ potH H P, fun g ⟨a, x, y, h1, h2, h3, h4⟩ => ⟨g.f P (by rw [h4]; exact Option.some_ne_none _) a, x, y, h1, h2, h3, g.h _ _ h4⟩⟩
theorem mPot.fr {m P : Addr} (d : P ≠ m) : (mPot P).fr m := fun K H o ⟨a, x, y, h1, h2, h3, h4⟩ => ⟨a, x, y, h1, h2, h3, by rw [upd_ne d]; exact h4⟩
theorem mPot.fz {m P : Addr} (d : P ≠ m) : (mPot P).fz m := fun K H o _ _ ⟨a, x, y, h1, h2, h3, h4⟩ => ⟨by rw [upd_ne d]; exact a, x, y, h1, h2, h3, h4⟩
/-- some datum fits -/
def mEx {α : Type} (p : α → Prop) (M : α → Mt) : Mt := ⟨fun K H => ∃ a, p a ∧ (M a).p K H, fun g ⟨a, h, m⟩ => ⟨a, h, (M a).st g m⟩⟩
theorem mEx.fr {α : Type} {p : α → Prop} {M : α → Mt} {m : Addr} (h : ∀ a, (M a).fr m) : (mEx p M).fr m := fun K H o ⟨a, ha, k⟩ => ⟨a, ha, h a K H o k⟩
theorem mEx.fz {α : Type} {p : α → Prop} {M : α → Mt} {m : Addr} (h : ∀ a, (M a).fz m) : (mEx p M).fz m := fun K H o x y ⟨a, ha, k⟩ => ⟨a, ha, h a K H o x y k⟩
section
variable {X : Cx} {Γ : Ctx} {M M' : Mt} {Kb Hb : Hp} {D : Ends} {sts : List Stmt}
theorem bl_mex {α : Type} {p : α → Prop} {N : α → Mt} (k : ∀ a, p a → Bl X Kb Hb Γ (mAnd (N a) M) sts D) : Bl X Kb Hb Γ (mAnd (mEx p N) M) sts D := fun σ H ⟨K, g, sa, ⟨a, ha, m⟩, mm⟩ => k a ha σ H ⟨K, g, sa, m, mm⟩
theorem bl_pot {P : Addr} (k : ∀ x y : Int, 0 ≤ x → 0 ≤ y → y < 1099511627776 → Bl X Kb Hb Γ (mAnd (mLst P [tI x, tI y]) M) sts D) : Bl X Kb Hb Γ (mAnd (mPot P) M) sts D := fun σ H ⟨K, g, sa, ⟨a, x, y, h1, h2, h3, h4⟩, mm⟩ => k x y h1 h2 h3 σ H ⟨K, g, sa, ⟨a, _, h4, rfl, rfl, trivial⟩, mm⟩
theorem pot_back {P : Addr} {x y : Int} (h1 : 0 ≤ x) (h2 : 0 ≤ y) (h3 : y < 1099511627776) {K H : Hp} (m : (mLst P [tI x, tI y]).p K H) : (mPot P).p K H := by
  obtain ⟨a, xs, hx, xa⟩ := m
  obtain ⟨u, v, rfl, e1, e2⟩ := xa.two
  have e1' : u = .int x := e1
  have e2' : v = .int y := e2
  subst e1' e2'
  exact ⟨a, x, y, h1, h2, h3, hx⟩
end
/-- what a def with a pot promises -/
def Spp {α : Type} (pre : α → Prop) (args : α → List Ty) (res : α → Ty) : Sp := fun vs H Q _ => ∃ a K P ws, vs = .ref P :: ws ∧ K P = none ∧ potH H P ∧ pre a ∧ Ex K H ∧ All2 (args a) ws K ∧
  ∀ v K' H', Ex K K' → Ex K' H' → K' P = none → (∀ b o, b ≠ P → H b = some o → H' b = some o) → (∀ b, H b ≠ none → K b = none → K' b = none) → potH H' P → (res a).p v K' → Q v H'
section
variable {P0 : Program} {w : World} {K : PySem.W.Frag} {mg : Str → Option Value} {base : Heap} {α : Type} {pre : α → Prop} {args : α → List Ty} {res : α → Ty} {k : Nat}
theorem pot_ty {x qual : Str} {params : Arguments} {body : List Stmt} {scope : Scope} {f : Addr} {fd : FuncData} {dvs : List V} {kws : List (Str × V)} {N ps : List Str}
    (F : FunD K x qual params body scope dvs kws f fd) (S : FnScope N ps scope) (hl : ∀ a, (args a).length + 1 = ps.length)
    (hb : ∀ a, pre a → ∀ b : Bc, Room k (cxB CX0 P0 w K mg base N qual scope f b).A → ∀ Kb Hb D y, Hb y = none → D.nx = (fun _ H' => D.rt .non H') → (∀ v K' H', Gr Kb Hb K' H' → (mPot y).p K' H' → (res a).p v K' → D.rt v H') →
      Bl (cxB CX0 P0 w K mg base N qual scope f b) Kb Hb ((tV (.ref y) :: args a).map some ++ List.replicate (N.length - (tV (.ref y) :: args a).length) none) (mAnd (mPot y) mNone) body D) : FnOk P0 w K mg base CX0 (k + 1) f fd ps (Spp pre args res) := by
  refine F.ok S (fun vs H Q E h => ?_) (fun cdv A outer s H vs Q E hr h => ?_)
  · obtain ⟨a, K', y, ws, rfl, _, _, _, _, q, _⟩ := h
    rw [List.length_cons, q.len, hl]
  · obtain ⟨a, K', y, ws, rfl, ky, hy, hp, s', q, k'⟩ := h
    refine ⟨wss _ body, PSs.nox pss_wss, ?_⟩
    have hs : Ex K' (hide y H) := fun b o e => by
      rw [hide_ne fun z => by rw [z, ky] at e; cases e]
      exact s' b o e
    refine hb a hp ⟨cdv, A, outer, s, H, E⟩ hr K' (hide y H) { nx := fun _ H' => Q .non H', rt := Q } y hide_same rfl (fun v K2 H2 g2 ⟨m1, m2⟩ tv => ?_) _ _ ⟨K', ⟨hide_ex, Ex.refl _, s', fun _ _ z => z⟩, ?_, ⟨ky, hy⟩, trivial⟩
    · refine k' v K2 H2 g2.k g2.s m1 (fun b o hb e => g2.h b o (by rw [hide_ne hb]; exact e)) (fun b hb kb => ?_) m2 tv
      by_cases z : b = y
      · rw [z]
        exact m1
      · exact g2.f b (by rw [hide_ne z]; exact hb) kb
    · have z := Sat.start (ts := tV (.ref y) :: args a) (vs := .ref y :: ws) (H := K') (N.length - (tV (.ref y) :: args a).length) ⟨rfl, q⟩
      unfold L2.start
      rw [show (V.ref y :: ws).length = (tV (.ref y) :: args a).length by rw [List.length_cons, List.length_cons, q.len]]
      exact z
theorem Tx.calP (T : Tx K mg) (n : Nat) {q : Str × Nat} (hi : lawDefs[n]? = some q) {N ps : List Str} (S : FnScope N ps (defScope (top q.2))) (hl : ∀ a, (args a).length + 1 = ps.length)
    (hbi : ∀ (kV doc pm : Value) (an : Option Addr) (cdv ct : Value) (us : List Value), us.length = ps.length → bindArgs (PySem.W.fnOf q.1 q.1 (defArgs (top q.2)) (defBody (top q.2)) (defScope (top q.2)) .none kV doc pm an cdv ct) ⟨us, []⟩ = pure (ps.zip us))
    (hb : N.Nodup → ∀ a, pre a → ∀ b : Bc, Room k (cxB CX0 P0 w K mg base N q.1 (defScope (top q.2)) (ca K q.1) b).A → ∀ Kb Hb D y, Hb y = none → D.nx = (fun _ H' => D.rt .non H') → (∀ v K' H', Gr Kb Hb K' H' → (mPot y).p K' H' → (res a).p v K' → D.rt v H') →
      Bl (cxB CX0 P0 w K mg base N q.1 (defScope (top q.2)) (ca K q.1) b) Kb Hb ((tV (.ref y) :: args a).map some ++ List.replicate (N.length - (tV (.ref y) :: args a).length) none) (mAnd (mPot y) mNone) (defBody (top q.2)) D) : Cal P0 w K mg base q.1 (k + 1) (Spp pre args res) := by
  have d := T.l n q hi
  obtain ⟨fd, F⟩ := d.fd
  exact ⟨_, fd, ps, pot_ty F S hl (hb S.nd), d.mg, F.kp, F.bindsN hbi⟩
end
section
variable {X : Cx} {Γ : Ctx} {M : Mt} {Kb Hb : Hp} {e : Expr} {es : List Expr} {pos p : Pos} {x y : Str} {k : Nat} {α : Type} {pre : α → Prop} {args : α → List Ty} {res : α → Ty}
/-- a call that hands the pot on -/
theorem hasc_pot {P : Addr} {p2 : Pos} (F : Cal X.prog X.w X.K X.mg X.base x k (Spp pre args res)) (a : α) (hp : pre a) (i : Nat) (hG : Γ[i]? = some (some (tV (.ref P)))) (hP : Hb P = none) (hM : M.fr P) (ha : HasAC X Kb Hb Γ (mAnd (mPot P) M) es (args a) (mAnd (mPot P) M)) (hr : Room k X.A) (hg : Gl X x := by rfl) (hi : X.N[i]? = some y := by rfl)
    (hv : Vis X.env.scope y := by first | exact Or.inl rfl | exact Or.inr (Or.inl rfl) | exact Or.inr (Or.inr rfl)) (hd : (y == ("__debug__" : Str)) = false := by decide) (hcd : (y == ("__classdict__" : Str)) = false := by decide) (hdb : (x == ("__debug__" : Str)) = false := by decide)
    (he : starEach (.Name y p2 :: es) X.env = (false, eval (.Name y p2) X.env) :: starEach es X.env := by rfl) (hpl : (backTo pos (starEach es X.env)).any (·.1) = false := by rfl) : HasC X Kb Hb Γ (mAnd (mPot P) M) (.Call (.Name x p) (.Name y p2 :: es) [] pos) (res a) (mAnd (mPot P) M) := fun σ K H g sa m Q q => by
  obtain ⟨f, fd, ps, G, hm, hk, hb⟩ := F.ex
  obtain ⟨v0, e1, e2⟩ := sa.get hG
  have e2' : v0 = .ref P := e2
  subst e2'
  refine we_of (pe_call G hr hg hm hk hb .nil pass0 (pa_cons (pe_var hi hv hd hcd) pa_wa he) hdb he hpl) ⟨_, e1, ha σ K H g sa m _ fun vs K1 H1 g1 ek m1 h1 => ?_⟩
  show Spp pre args res ((V.ref P :: vs) ++ []) H1 Q E0
  rw [List.append_nil]
  refine ⟨a, K1, P, vs, rfl, m1.1.1, m1.1.2, hp, g1.s, h1, fun v K2 H2 a1 a2 a3 a4 a5 a6 tv => ?_⟩
  have g2 : Gr Kb Hb K2 H2 := ⟨fun b o hb => a4 b o (fun z => by rw [z, hP] at hb; cases hb) (g1.h b o hb), g1.k.trans a1, a2, fun b hb kb => a5 b (g1.h.ne hb) (g1.f b hb kb)⟩
  refine q v K2 H2 g2 (ek.trans a1) ⟨⟨a3, a6⟩, ?_⟩ tv
  obtain ⟨x1, y1, _, _, _, hx⟩ := a6
  have m2 := hM K1 H1 (.lst [.int x1, .int y1]) m1.2
  refine M.st ⟨fun b o hb => ?_, a1, a2, fun b hb kb => ?_⟩ m2
  · by_cases z : b = P
    · rw [z, upd_same] at hb
      rw [z, ← Option.some.inj hb]
      exact hx
    · rw [upd_ne z] at hb
      exact a4 b o z hb
  · by_cases z : b = P
    · rw [z]
      exact a3
    · rw [upd_ne z] at hb
      exact a5 b hb kb
theorem ct_divmod {i j : Int} (h : CDiv i j) : CallT X (.builtin "divmod") [tI i, tI j] (tT [tI (i / j), tI (i % j)]) := ⟨_, call_divmod, fun vs K H s hv Q q => by
  obtain ⟨v, w, rfl, e, e2⟩ := hv.two
  have e' : v = .int i := e
  have e2' : w = .int j := e2
  subst e' e2'
  refine ⟨i, j, rfl, h, fun l hl => ?_⟩
  have g := Gr.new (o := .tup [.int (i / j), .int (i % j)]) s hl
  exact q _ _ _ g ⟨l, _, rfl, upd_same, rfl, rfl, trivial⟩⟩
end
section
variable {P : Program} {w : World} {K : PySem.W.Frag} {mg : Str → Option Value} {base : Heap}
def pDr (n : Nat) : Prop := 0 < n ∧ n ≤ 1000
abbrev tLt (n : Nat) : Ty := tE (· < n) fun d : Nat => tI (d : Int)
theorem lt_of {n : Nat} {i : Int} (h0 : 0 ≤ i) (h1 : i < (n : Int)) {v : V} {H : Hp} (h : v = .int i) : (tLt n).p v H := ⟨i.toNat, by omega, by
  show v = V.int ((i.toNat : Nat) : Int)
  rw [h, Int.toNat_of_nonneg h0]⟩
theorem Bl.use {X : Cx} {Kb Hb : Hp} {Γ : Ctx} {M : Mt} {sts : List Stmt} {D : Ends} {σ : St} {H : Hp} (h : Bl X Kb Hb Γ M sts D) (s : Stt Kb Hb Γ M σ H) : wss X sts D σ H := h σ H s
theorem hasc_peek2 {X : Cx} {Γ : Ctx} {M : Mt} {Kb Hb : Hp} {e : Expr} {t : Ty} {ts : List Ty} {m : Addr} (i : Nat) (hG : Γ[i]? = some (some (tV (.ref m)))) (h : Has X (Γ.set i (some (tL ts))) e t) (hf : ∀ v K xs, K m = some (.lst xs) → t.p v K → t.p v (hide m K)) : HasC X Kb Hb Γ (mAnd (mLst m ts) M) e t (mAnd (mLst m ts) M) := fun σ K H g sa ⟨⟨ma, xs, mb, mc⟩, mm⟩ Q q => by
  obtain ⟨p1, p2, p3⟩ := peek ma mb mc g.s sa hG
  refine h σ _ H p1 p2 Q fun v K1 H1 g1 tv => ?_
  obtain ⟨g2, m2⟩ := p3 K1 H1 g1
  exact q v _ H1 (g.trans g2) g2.k ⟨m2, M.st g2 mm⟩ (hf v K1 xs (g1.k _ _ upd_same) tv)
theorem tup_int {i j : Int} {m : Addr} (v : V) (K : Hp) (xs : List V) (hk : K m = some (.lst xs)) (h : (tT [tI i, tI j]).p v K) : (tT [tI i, tI j]).p v (hide m K) := by
  obtain ⟨a, ys, e, ha, hy⟩ := h
  have ne : a ≠ m := fun z => by rw [z, hk] at ha; cases ha
  obtain ⟨u, v', rfl, e1, e2⟩ := hy.two
  exact ⟨a, [u, v'], e, by rw [hide_ne ne]; exact ha, e1, e2, trivial⟩
theorem f_draw (T : Tx K mg) : Cal P w K mg base "_law_draw" 1 (Spp pDr (fun n => [tI (n : Int)]) tLt) :=
  T.calP 1 rfl (C8.fnScope_by (N := ["_law_pot_here", "_law_sides", "_law_digit"]) (P := ["_law_pot_here", "_law_sides"]) (by decide +kernel)) (fun _ => rfl) (fun _ _ _ _ _ _ us hl => match us, hl with | [_, _], _ => rfl) fun nd n pn b r Kb Hb D y hy _ hD => by
    obtain ⟨n0, n1⟩ := pn
    refine bl_pot fun u v hu hv hv2 => ?_
    refine bl_ifC (hastc_peek 0 rfl (hast_cmp (has_ix (has_var 0) has_int (ix_L (k := 0) rfl)) has_int ct_gt)) (fun h => ?_) fun h => bl_fall ?_
    · intro σ H ⟨K1, g, sa, m⟩
      refine wss_cons (ws_of (ps_asg pe_we (pg_tup rfl (pgs_cons (pg_sub (pe_var (i := 0) rfl (Or.inl rfl) (by decide) (by decide)) pe_int set_list) (pgs_cons (pg_1 (j := 2) nd) pgs_nil)))) ?_)
      refine hasc_peek2 (M := mNone) (ts := [tI u, tI v]) (t := tT [tI (u / (n : Int)), tI (u % (n : Int))]) 0 rfl (k_b2 (T.f 15) b_divmod (ct_divmod ⟨by omega, by omega⟩) (has_ix (has_var 0) has_int (ix_L (k := 0) rfl)) (has_var 1)) tup_int σ K1 H g sa m _ fun z K' H' g1 ek m1 tv => ?_
      obtain ⟨l, xs, ev, hl, xa⟩ := tv
      obtain ⟨d1, d2, rfl, e1, e2⟩ := xa.two
      have e1' : d1 = .int (u / (n : Int)) := e1
      have e2' : d2 = .int (u % (n : Int)) := e2
      subst e1' e2'
      obtain ⟨v0, s1, s2⟩ := (sa.mo ek).get (i := 0) rfl
      have s2' : v0 = .ref y := s2
      subst s2'
      obtain ⟨⟨ma, ys, mb, mc⟩, _⟩ := m1
      refine ⟨l, _, ev, SqT.of (g1.s _ _ hl), rfl, _, _, rfl, ⟨_, s1, ⟨y, ys, 0, 0, rfl, rfl, mb, ?_, ?_⟩⟩⟩
      · have hl2 : ys.length = 2 := mc.len
        unfold ixN
        rw [hl2]
        rfl
      · refine ⟨_, _, rfl, rfl, ?_⟩
        have q0 : 0 ≤ u / (n : Int) := Int.ediv_nonneg hu (by omega)
        obtain ⟨w1, w2, rfl, f1, f2⟩ := mc.two
        exact Bl.use (Kb := Kb) (Hb := Hb) (Γ := [some (tV (.ref y)), some (tI (n : Int)), some (tI (u % (n : Int)))]) (M := mAnd (mLst y [tI (u / (n : Int)), tI v]) mNone) (bl_ret (has_var 2) fun z K' H' g m h => hD z K' H' g (pot_back q0 hv hv2 m.1) (lt_of (Int.emod_nonneg _ (by omega)) (Int.emod_lt_of_pos _ (by omega)) h)) ⟨K', g1.change hy ma, (sa.mo ek).set (i := 2) (t := tI (u % (n : Int))) rfl, ⟨ma, [.int (u / (n : Int)), w2], upd_same, rfl, f2, trivial⟩, trivial⟩
    · have hm : 0 ≤ (v * 40692 + 5843) % 2147483587 := Int.emod_nonneg _ (by decide)
      have hm2 : (v * 40692 + 5843) % 2147483587 < 2147483587 := Int.emod_lt_of_pos _ (by decide)
      refine bl_setC (j := 1) (t := tI ((v * 40692 + 5843) % 2147483587)) 0 rfl hy mNone.fr (by simp) (hasc_peek 0 rfl (has_op (k_t1 (T.f 5) b_int ct_int (has_op (has_op (has_ix (has_var 0) has_int (ix_L (k := 1) rfl)) has_int (bt_mulL (.inl ⟨by omega, by omega⟩))) has_int bt_add)) has_int (bt_mod (by decide))) flat_V) has_int ?_
      generalize (v * 40692 + 5843) % 2147483587 = x at hm hm2
      have hx2 : 0 ≤ x * x % 2147483629 := Int.emod_nonneg _ (by decide)
      have hx3 : 0 ≤ x * x % 2147483629 / 19 := Int.ediv_nonneg hx2 (by decide)
      refine bl_retC (hasc_peek 0 rfl (has_op (k_t1 (T.f 5) b_int ct_int (has_op (has_op (k_t1 (T.f 5) b_int ct_int (has_op (has_ix (has_var 0) has_int (ix_L (k := 1) rfl)) (has_ix (has_var 0) has_int (ix_L (k := 1) rfl)) (bt_mulL (.inl ⟨by omega, by omega⟩)))) has_int (bt_mod (by decide))) has_int (bt_fdiv ⟨by decide, by decide⟩))) (has_var 1) (bt_mod (by omega))) flat_V) fun z K' H' g m h => hD z K' H' g (pot_back hu hm (by omega) m.1) (lt_of (Int.emod_nonneg _ (by omega)) (Int.emod_lt_of_pos _ (by omega)) h)
/-- a draw -/
theorem hasc_draw {X : Cx} {Γ : Ctx} {M : Mt} {Kb Hb : Hp} {e : Expr} {pos p p2 : Pos} {y : Str} {Q : Addr} (T : Tx X.K X.mg) (n : Nat) (hn : 0 < n) (hn2 : n ≤ 1000) (i : Nat) (hG : Γ[i]? = some (some (tV (.ref Q)))) (hP : Hb Q = none) (hM : M.fr Q) (h : HasC X Kb Hb Γ (mAnd (mPot Q) M) e (tI (n : Int)) (mAnd (mPot Q) M)) (hr : Room 1 X.A) (hg : Gl X "_law_draw" := by rfl) (hi : X.N[i]? = some y := by rfl)
    (hv : Vis X.env.scope y := by first | exact Or.inl rfl | exact Or.inr (Or.inl rfl) | exact Or.inr (Or.inr rfl)) (hd : (y == ("__debug__" : Str)) = false := by decide) (hcd : (y == ("__classdict__" : Str)) = false := by decide)
    (he : starEach (.Name y p2 :: [e]) X.env = (false, eval (.Name y p2) X.env) :: starEach [e] X.env := by rfl) (he2 : starEach [e] X.env = (false, eval e X.env) :: starEach [] X.env := by rfl) (hpl : (backTo pos (starEach [e] X.env)).any (·.1) = false := by rfl) : HasC X Kb Hb Γ (mAnd (mPot Q) M) (.Call (.Name "_law_draw" p) [.Name y p2, e] [] pos) (tLt n) (mAnd (mPot Q) M) :=
  hasc_pot (f_draw T) n ⟨hn, hn2⟩ i hG hP hM (hasac_cons h hasac_nil he2) hr hg hi hv hd hcd (by decide) he hpl
end
end Z
end
section
set_option Elab.async false
set_option linter.all false
set_option exponentiation.threshold 20000
set_option maxRecDepth 100000
set_option maxHeartbeats 2000000
/-! An order that is drawn. -/
namespace Z
open PySem PySem.Spec PyProof.Rows L2
theorem rgV_cst {n : Nat} : rgV 0 (n : Int) = (cst (List.range n)).map V.int := by
  unfold rgV
  rw [List.map_map]
  have e : ((n : Int) - 0).toNat = n := by omega
  rw [e]
  refine List.map_congr_left fun q _ => ?_
  show V.int (0 + (q : Int)) = V.int (q : Int)
  rw [Int.zero_add]
theorem HasC.use {X : Cx} {Kb Hb : Hp} {Γ : Ctx} {M M' : Mt} {e : Expr} {t : Ty} {σ : St} {K H : Hp} (h : HasC X Kb Hb Γ M e t M') (g : Gr Kb Hb K H) (sa : Sat Γ σ K) (m : M.p K H) (Q : VK) (q : ∀ v K' H', Gr Kb Hb K' H' → Ex K K' → M'.p K' H' → t.p v K' → Q v H') : we X e σ H Q := h σ K H g sa m Q q
theorem hasn_range {X : Cx} {Γ : Ctx} {e : Expr} {p p2 pos pos2 : Pos} {n : Nat} (hc : X.calm = true) (hm : X.mg "list" = none) (hm2 : X.mg "range" = none) (hn : n < 1000) (h : Has X Γ e (tI (n : Int))) (hg : Gl X "list" := by rfl) (hg2 : Gl X "range" := by rfl)
    (na : starEach [.Call (.Name "range" p2) [e] [] pos2] X.env = (false, eval (.Call (.Name "range" p2) [e] [] pos2) X.env) :: starEach [] X.env := by rfl) (na2 : starEach [e] X.env = (false, eval e X.env) :: starEach [] X.env := by rfl) :
    HasN X Γ (.Call (.Name "list" p) [.Call (.Name "range" p2) [e] [] pos2] [] pos) ((cst (List.range n)).map tI) := fun σ K H s g Q q =>
  we_of (pe_listRg hc hg hm (prg_1 hg2 hm2 pe_we na2) na) (h σ K H s g _ fun v K1 H1 g1 tv => ⟨(n : Int), tv, RgOk.of_le (by omega) (by omega) (by omega) (by omega), fun m hmn => by
    rw [rgV_cst]
    exact q m K1 _ _ (g1.trans (Gr.newM g1.s hmn)) (g1.s.back hmn) (g1.h.back hmn) upd_same All2.of_ints⟩)
section
variable {P : Program} {w : World} {K : PySem.W.Frag} {mg : Str → Option Value} {base : Heap}
theorem cst_erase {l : List Nat} {k : Nat} : ((cst l).map V.int).eraseIdx k = (cst (l.eraseIdx k)).map V.int := by
  have : ∀ (l : List Nat) (k : Nat), (l.map fun q : Nat => V.int (q : Int)).eraseIdx k = (l.eraseIdx k).map fun q : Nat => V.int (q : Int) := fun l => by
    induction l with
    | nil => exact fun k => rfl
    | cons a l ih =>
      intro k
      cases k with
      | zero => rfl
      | succ k => exact congrArg (V.int (a : Int) :: ·) (ih k)
  rw [List.map_map, List.map_map]
  exact this l k
theorem erase_perm : ∀ {l : List Nat} {k : Nat} (h : k < l.length), (l.eraseIdx k ++ [l[k]]).Perm l
  | a :: l, 0, _ => by
    show (l ++ [a]).Perm (a :: l)
    exact List.perm_append_comm
  | a :: l, k + 1, h => by
    have hk : k < l.length := by simpa using h
    show (a :: (l.eraseIdx k ++ [l[k]])).Perm (a :: l)
    exact (erase_perm hk).cons a
abbrev isOr (n : Nat) (l : List Nat) : Prop := l.Perm (List.range n)
theorem f_order (T : Tx K mg) : Cal P w K mg base "_law_order" 2 (Spp (α := Nat) (fun n => n ≤ 6) (fun n => [tI (n : Int)]) fun n => tE (isOr n) tNs) :=
  T.calP 2 rfl (C8.fnScope_by (N := ["_law_pot_here", "_law_many", "_law_left", "_law_found", "_law_turn"]) (P := ["_law_pot_here", "_law_many"]) (by decide +kernel)) (fun _ => rfl) (fun _ _ _ _ _ _ us hl => match us, hl with | [_, _], _ => rfl) fun nd n hn b r Kb Hb D y hy _ hD => by
    refine bl_parNN 2 3 (hasn_range (n := n) rfl (T.f 8) (T.f 1) (by omega) (has_var 1)) (hasn_lst hasa_nil (by simp)) (fun m1 m2 h1 h2 ne ⟨K0, H0, hM0, hn0⟩ ⟨K1, H1, hM1, hn1⟩ => ?_) nd
    have hy1 : y ≠ m1 := fun z => by
      obtain ⟨⟨_, _, _, _, _, _, hx⟩, _⟩ := hM0
      rw [z, hn0] at hx
      cases hx
    have hy2 : y ≠ m2 := fun z => by
      obtain ⟨⟨_, _, _, _, _, _, hx⟩, _⟩ := hM1
      rw [z, hn1] at hx
      cases hx
    let Mo : List Nat × List Nat → Mt := fun d => mAnd (mLst m1 ((cst d.1).map tI)) (mAnd (mLst m2 ((cst d.2).map tI)) (mAnd (mPot y) mNone))
    refine bl_for (s_range (n := n) (j := 4) (T.f 1) (by omega) (has_var 1)) (pg_1 nd) (fun _ => [some (tV (.ref y)), some (tI (n : Int)), some (tV (.ref m1)), some (tV (.ref m2)), none]) (fun i => mAnd (mEx (fun d : List Nat × List Nat => (d.1 ++ d.2).Perm (List.range n) ∧ d.2.length = i) Mo) mNone) ⟨fun _ _ h => h, fun _ _ h => h, fun _ _ h => h, fun _ _ h => h, trivial⟩ (fun _ _ h => ⟨⟨(List.range n, []), ⟨by rw [List.append_nil], rfl⟩, h.1, h.2.1, h.2.2.1, trivial⟩, trivial⟩) (fun i d hd K1 up => bl_mex fun a ha => ?_) (bl_mex fun a ha => ?_)
    · obtain ⟨l, f⟩ := a
      obtain ⟨hp, hfl⟩ := ha
      simp only at hp hfl
      have hi : i < n := by simpa using (List.getElem?_eq_some_iff.mp hd).1
      have hll : l.length + f.length = n := by
        have := hp.length_eq
        rwa [List.length_append, List.length_range] at this
      refine Bl.sub (Γ' := bd1 4 (fun i : Nat => tI (i : Int)) d [some (tV (.ref y)), some (tI (n : Int)), some (tV (.ref m1)), some (tV (.ref m2)), none]) (M' := mAnd (mPot y) (mAnd (mLst m1 ((cst l).map tI)) (mAnd (mLst m2 ((cst f).map tI)) mNone))) ?_ (Sub2.refl _) fun _ _ h => ⟨h.1.2.2.1, h.1.1, h.1.2.1, trivial⟩
      intro σ H ⟨K2, g, sa, m⟩
      refine wss_cons (ws_of (ps_expr (pe_bm PySem.F.plainAttrs_list PySem.F.slot_list_append PySem.F.type_list_append mt_append (pe_var (i := 3) rfl (Or.inl rfl) (by decide) (by decide)) (pa_cons (pe_bm PySem.F.plainAttrs_list PySem.F.slot_list_pop PySem.F.type_list_pop mt_popAt (pe_var (i := 2) rfl (Or.inl rfl) (by decide) (by decide)) (pa_cons pe_we pa_nil)) pa_nil))) ?_)
      obtain ⟨v3, e3, e3'⟩ := sa.get (i := 3) rfl
      obtain ⟨v2, e2, e2'⟩ := sa.get (i := 2) rfl
      have e3'' : v3 = .ref m2 := e3'
      have e2'' : v2 = .ref m1 := e2'
      subst e3'' e2''
      obtain ⟨_, xs1, hx1, _⟩ := m.2.1
      obtain ⟨_, xs2, hx2, _⟩ := m.2.2.1
      refine ⟨_, e3, .inl ⟨rfl, _, SqL.of hx2⟩, _, e2, .inl ⟨rfl, _, SqL.of hx1⟩, ?_⟩
      refine HasC.use (hasc_draw (Q := y) (n := l.length) (M := mAnd (mLst m1 ((cst l).map tI)) (mAnd (mLst m2 ((cst f).map tI)) mNone)) T (by omega) (by omega) 0 rfl hy (mAnd.fr (mLst.fr hy1.symm) (mAnd.fr (mLst.fr hy2.symm) mNone.fr)) (HasC.perm (M1 := mAnd (mLst m1 ((cst l).map tI)) (mAnd (mPot y) (mAnd (mLst m2 ((cst f).map tI)) mNone))) (M2 := mAnd (mLst m1 ((cst l).map tI)) (mAnd (mPot y) (mAnd (mLst m2 ((cst f).map tI)) mNone))) (fun _ _ h => ⟨h.2.1, h.1, h.2.2⟩) (fun _ _ h => ⟨h.2.1, h.1, h.2.2⟩) (hasc_peek 2 rfl (Has.is (k_len T (has_var 2)) (by rw [List.length_map, List.length_map])) flat_V)) r) g sa m _ fun v K' H' g1 ek m1' tv => ?_
      obtain ⟨k, hk, ev⟩ := tv
      have ev' : v = .int (k : Int) := ev
      subst ev'
      obtain ⟨hpot, ⟨ka, ys, hys, hya⟩, ⟨kb2, zs, hzs, hza⟩, _⟩ := m1'
      have hys2 := hya.ints
      subst hys2
      have hzs2 := hza.ints
      subst hzs2
      have hix : ixN ((cst l).map V.int).length (k : Int) = some k := by
        unfold ixN
        rw [List.length_map, List.length_map, if_pos (by omega), if_pos (by omega)]
        rfl
      have hy' : ((cst l).map V.int)[k]? = some (V.int (l[k] : Int)) := by
        rw [List.map_map, List.getElem?_map, List.getElem?_eq_getElem hk]
        rfl
      refine ⟨m1, _, (k : Int), k, _, rfl, rfl, hys, by omega, by omega, (ixN_seq hix).1, hy', ?_⟩
      refine ⟨m2, _, _, rfl, rfl, (upd_ne ne.symm).trans hzs, small1000 (by simp only [List.length_map]; omega), ?_⟩
      have hfin : ∀ (Hz : Hp), Hz = upd (upd H' m1 (.lst (((cst l).map V.int).eraseIdx k))) m2 (.lst ((cst f).map V.int ++ [V.int (l[k] : Int)])) → Stt K1 Hb [some (tV (.ref y)), some (tI (n : Int)), some (tV (.ref m1)), some (tV (.ref m2)), none] (mAnd (mEx (fun d : List Nat × List Nat => (d.1 ++ d.2).Perm (List.range n) ∧ d.2.length = i + 1) Mo) mNone) σ Hz := fun Hz ez => by
        subst ez
        refine ⟨K', (g1.change h1 ka).change h2 kb2, Sat.sub (by exact ⟨fun _ _ h => h, fun _ _ h => h, fun _ _ h => h, fun _ _ h => h, trivial⟩) (sa.mo ek), ⟨(l.eraseIdx k, f ++ [l[k]]), ⟨?_, by rw [List.length_append, hfl]; rfl⟩, ⟨ka, _, (upd_ne ne).trans upd_same, ?_⟩, ⟨kb2, _, upd_same, ?_⟩, mPot.fr hy2 _ _ _ (mPot.fr hy1 _ _ _ hpot), trivial⟩, trivial⟩
        · have hz := erase_perm hk
          have : (l.eraseIdx k ++ (f ++ [l[k]])).Perm (l ++ f) := by
            refine List.Perm.trans ?_ (hz.append_right f)
            rw [List.append_assoc]
            exact List.Perm.append_left _ List.perm_append_comm
          exact this.trans hp
        · rw [cst_erase]
          exact All2.of_ints
        · have := All2.of_ints (ns := cst (f ++ [l[k]])) (H := K')
          rw [show (cst (f ++ [l[k]])).map V.int = (cst f).map V.int ++ [V.int (l[k] : Int)] by simp [cst]] at this
          exact this
      exact wss_nil (hfin _ rfl)
    · obtain ⟨l, f⟩ := a
      obtain ⟨hp, hfl⟩ := ha
      simp only at hp hfl
      rw [List.length_range] at hfl
      have hl0 : l = [] := by
        have := hp.length_eq
        rw [List.length_append, List.length_range, hfl] at this
        exact List.length_eq_zero_iff.mp (by omega)
      subst hl0
      refine Bl.sub (Γ' := _) (M' := mAnd (mLst m2 ((cst f).map tI)) (mAnd (mPot y) mNone)) ?_ (Sub2.refl _) fun _ _ h => ⟨h.1.2.1, h.1.2.2⟩
      refine bl_freeze 3 rfl h2 (mAnd.fz (mPot.fz hy2) mNone.fz) ?_
      exact bl_ret (has_var 3) fun v K' H' g m h => hD v K' H' g m.1 ⟨f, hp, h⟩
end
end Z
end
section
set_option Elab.async false
set_option linter.all false
set_option exponentiation.threshold 20000
set_option maxRecDepth 100000
set_option maxHeartbeats 2000000
/-! A table whose rows change. -/
namespace Z
open PySem PySem.Spec PyProof.Rows L2
def mTab (ms : List Addr) (rows : List (List Nat)) : Mt := ⟨fun K H => ∀ (i : Nat) (m : Addr) (r : List Nat), ms[i]? = some m → rows[i]? = some r → K m = none ∧ H m = some (.lst ((cst r).map V.int)), fun g h i m r h1 h2 => by
  obtain ⟨a, b⟩ := h i m r h1 h2
  exact ⟨g.f m (by rw [b]; exact Option.some_ne_none _) a, g.h _ _ b⟩⟩
theorem mTab.fr {ms : List Addr} {rows : List (List Nat)} {m : Addr} (d : m ∉ ms) : (mTab ms rows).fr m := fun K H o h i a r h1 h2 => by
  obtain ⟨x, y⟩ := h i a r h1 h2
  exact ⟨x, by rw [upd_ne fun z => d (by rw [← z]; exact List.mem_of_getElem? h1)]; exact y⟩
theorem ite_tt {a b : Prop} (h : a) : if true = true then a else b := by
  rw [if_pos rfl]
  exact h
abbrev tRefs (ms : List Addr) : Ty := tL (ms.map fun m => tV (.ref m))
section
variable {X : Cx} {Γ : Ctx} {M M2 M' : Mt} {Kb Hb : Hp} {e a b : Expr} {pos p : Pos} {x y : Str} {D : Ends} {rest : List Stmt} {ms : List Addr} {rows : List (List Nat)} {m : Addr} {r : List Nat} {i j k : Nat}
theorem getRef (h : ms[i]? = some m) : (ms.map fun m => tV (.ref m))[i]? = some (tV (.ref m)) := by
  rw [List.getElem?_map, h]
  rfl
/-- e[a], e a row that may change -/
theorem hasc_ixM (h1 : ms[i]? = some m) (h2 : rows[i]? = some r) (hk : k < r.length) (h : Has X Γ e (tV (.ref m))) (ha : Has X Γ a (tI (k : Int))) (hs : PlainIx a := by exact fun _ _ => rfl) : HasC X Kb Hb Γ (mAnd (mTab ms rows) M) (.Subscript e a pos) (tI ((r.getD k 0 : Nat) : Int)) (mAnd (mTab ms rows) M) := fun σ K H g sa mm Q q => by
  refine we_of (pe_ix ix_list pe_we pe_we hs) (h σ K H g.s sa _ fun v K1 H1 g1 hv => ha σ K1 H1 g1.s (sa.mo g1.k) _ fun w K2 H2 g2 hw => ?_)
  have hv' : v = .ref m := hv
  have hw' : w = .int (k : Int) := hw
  subst hv' hw'
  have m2 := (mAnd (mTab ms rows) M).st (g1.trans g2) mm
  obtain ⟨_, hx⟩ := m2.1 i m r h1 h2
  have ek : ((cst r).map V.int)[k]? = some (V.int ((r.getD k 0 : Nat) : Int)) := by
    rw [List.map_map, List.getElem?_map, _root_.M.getD_at hk, List.getElem?_eq_getElem hk]
    rfl
  exact ⟨m, _, (k : Int), _, rfl, rfl, SqL.of hx, atI_nat ek, q _ K2 H2 (g.trans (g1.trans g2)) (g1.trans g2).k m2 rfl⟩
/-- sum(e), e a row that may change -/
theorem hasc_sumM (T : Tx X.K X.mg) (hc : X.calm = true) (h1 : ms[i]? = some m) (h2 : rows[i]? = some r) (h : Has X Γ e (tV (.ref m))) (hg : Gl X "sum" := by rfl) (he : starEach (e :: []) X.env = (false, eval e X.env) :: starEach [] X.env := by rfl) (hpl : (backTo pos (starEach [] X.env)).any (·.1) = false := by rfl) :
    HasC X Kb Hb Γ (mAnd (mTab ms rows) M) (.Call (.Name "sum" p) [e] [] pos) (tI ((r.sum : Nat) : Int)) (mAnd (mTab ms rows) M) := fun σ K H g sa mm Q q => by
  refine we_of (pe_callB (cr_sum hc) hg (T.f 10) b_sum (pa_cons pe_we pa_nil he) (by decide) (by decide) he hpl) (h σ K H g.s sa _ fun v K1 H1 g1 hv => ?_)
  have hv' : v = .ref m := hv
  subst hv'
  have m2 := (mAnd (mTab ms rows) M).st g1 mm
  obtain ⟨_, hx⟩ := m2.1 i m r h1 h2
  exact ⟨m, cst r, rfl, SqL.of hx, q _ K1 H1 (g.trans g1) g1.k m2 (by show V.int (cst r).sum = _; rw [cst_sum])⟩
/-- y[a][b] = e -/
theorem bl_tset {Q : Nat → Prop} {p1 p2 p3 : Pos} {u v : Nat} (s : Nat) (hG : Γ[s]? = some (some (tRefs ms))) (hms : ms.Nodup) (hl : ms.length = rows.length) (hb : ∀ m ∈ ms, Hb m = none) (hM : ∀ m ∈ ms, M2.fr m) (hu : u < rows.length) (hv : v < (rows.getD u []).length)
    (h : HasC X Kb Hb Γ (mAnd (mTab ms rows) M) e (tE Q fun d : Nat => tI (d : Int)) (mAnd (mTab ms rows) M2)) (hia : Has X Γ a (tI (u : Int))) (hib : Has X Γ b (tI (v : Int))) (k : ∀ d, Q d → Bl X Kb Hb Γ (mAnd (mTab ms (_root_.M.put rows u v d)) M2) rest D) (hi : X.N[s]? = some y := by rfl)
    (hvi : Vis X.env.scope y := by first | exact Or.inl rfl | exact Or.inr (Or.inl rfl) | exact Or.inr (Or.inr rfl)) (hd : (y == ("__debug__" : Str)) = false := by decide) (hcd : (y == ("__classdict__" : Str)) = false := by decide) (hpa : PlainIx a := by exact fun _ _ => rfl)
    (ha : ∀ v, assign (.Subscript (.Subscript (.Name y p1) a p2) b p3) X.env v = (do
      let ov ← holding [v] (eval (.Subscript (.Name y p1) a p2) X.env)
      let iv ← holding [v, ov] (eval b X.env)
      standAt p3
      holding [v, ov, iv] (setItem ov iv v)
      release [v, ov, iv] []) := by intro _; rfl)
    (hs : swapsWithSole [.Subscript (.Subscript (.Name y p1) a p2) b p3] e pos.line X.env = pure false := by rfl) (hw : swappedStores [.Subscript (.Subscript (.Name y p1) a p2) b p3] e X.env = pure none := by rfl)
    (h1 : (assignEach [.Subscript (.Subscript (.Name y p1) a p2) b p3] X.env).map (·.2) = [assign (.Subscript (.Subscript (.Name y p1) a p2) b p3) X.env] := by rfl) :
    Bl X Kb Hb Γ (mAnd (mTab ms rows) M) (.Assign [.Subscript (.Subscript (.Name y p1) a p2) b p3] e pos :: rest) D := fun σ H ⟨K, g, sa, mm⟩ => by
  refine wss_cons (ws_of (ps_asg pe_we (pg_sub pe_we pe_we set_list ha) hs hw h1) (h σ K H g sa mm _ fun z K1 H1 g1 ek m1 ⟨d, hdq, hz⟩ => ?_))
  have hz' : z = .int (d : Int) := hz
  subst hz'
  obtain ⟨m, hm⟩ : ∃ m, ms[u]? = some m := ⟨_, List.getElem?_eq_getElem (by omega)⟩
  have hmem : m ∈ ms := List.mem_of_getElem? hm
  have hr : rows[u]? = some (rows.getD u []) := by
    rw [_root_.M.getD_at hu, List.getElem?_eq_getElem hu]
  have ho : Has X Γ (.Subscript (.Name y p1) a p2) (tV (.ref m)) := has_ix (has_var s hG hi hvi hd hcd) hia (ix_L (getRef hm)) hpa
  refine ho σ K1 H1 g1.s (sa.mo ek) _ fun ov K2 H2 g2 hov => hib σ K2 H2 g2.s ((sa.mo ek).mo g2.k) _ fun iv K3 H3 g3 hiv => ?_
  have hov' : ov = .ref m := hov
  have hiv' : iv = .int (v : Int) := hiv
  subst hov' hiv'
  have m3 := (mAnd (mTab ms rows) M2).st (g2.trans g3) m1
  obtain ⟨km, hx⟩ := m3.1 u m _ hm hr
  refine ⟨m, _, (v : Int), v, rfl, rfl, hx, ?_, ?_⟩
  · unfold ixN
    simp only [List.length_map]
    rw [if_pos (by omega), if_pos (by omega)]
    rfl
  · refine k d hdq σ _ ⟨K3, (g1.trans (g2.trans g3)).change (hb m hmem) km, ((sa.mo ek).mo g2.k).mo g3.k, fun i m' r' h1' h2' => ?_, hM m hmem _ _ _ m3.2⟩
    by_cases e : i = u
    · subst e
      rw [hm] at h1'
      have em := Option.some.inj h1'
      subst em
      refine ⟨km, ?_⟩
      rw [upd_same]
      unfold _root_.M.put at h2'
      rw [List.getElem?_set_self hu] at h2'
      rw [← Option.some.inj h2', List.map_map, List.map_map, List.map_set]
      rfl
    · have hne : m' ≠ m := fun z => by
        rw [z] at h1'
        have := (List.getElem?_inj (by
          have := (List.getElem?_eq_some_iff.mp h1').1
          exact this) hms).mp (h1'.trans hm.symm)
        exact e this
      unfold _root_.M.put at h2'
      rw [List.getElem?_set_ne (Ne.symm e)] at h2'
      obtain ⟨k1, k2⟩ := m3.1 i m' r' h1' h2'
      exact ⟨k1, by rw [upd_ne hne]; exact k2⟩
/-- the rows stay as they are from here on -/
def frz (ms : List Addr) (K H : Hp) : Hp := fun a => if a ∈ ms then H a else K a
theorem bl_tfreeze (s : Nat) (hG : Γ[s]? = some (some (tRefs ms))) (hl : ms.length = rows.length) (hb : ∀ m ∈ ms, Hb m = none) (hM : ∀ K H, M.p K H → M'.p (frz ms K H) H) (k : Bl X Kb Hb (Γ.set s (some (tNN rows))) M' rest D) : Bl X Kb Hb Γ (mAnd (mTab ms rows) M) rest D := fun σ H ⟨K, g, sa, mt, mm⟩ => by
  have row : ∀ m ∈ ms, ∃ i r, ms[i]? = some m ∧ rows[i]? = some r ∧ K m = none ∧ H m = some (.lst ((cst r).map V.int)) := fun m hm => by
    obtain ⟨i, hi, e⟩ := List.getElem_of_mem hm
    have h1 : ms[i]? = some m := by rw [List.getElem?_eq_getElem hi, e]
    have h2 : rows[i]? = some rows[i] := List.getElem?_eq_getElem (by omega)
    exact ⟨i, _, h1, h2, mt i m _ h1 h2⟩
  have ek : Ex K (frz ms K H) := fun a o h => by
    unfold frz
    rw [if_neg fun z => by
      obtain ⟨_, _, _, _, kn, _⟩ := row a z
      rw [kn] at h
      cases h]
    exact h
  have es : Ex (frz ms K H) H := fun a o h => by
    unfold frz at h
    by_cases z : a ∈ ms
    · rw [if_pos z] at h
      exact h
    · rw [if_neg z] at h
      exact g.s a o h
  obtain ⟨v, e1, e2⟩ := sa.get hG
  obtain ⟨l, xs, ev, hl2, hxs⟩ := e2
  have all : ∀ (n : Nat), All2 ((rows.drop n).map tNs) (xs.drop n) (frz ms K H) := by
    have hxl : xs.length = rows.length := by rw [hxs.len, List.length_map, hl]
    have key : ∀ (k n : Nat), rows.length - n = k → All2 ((rows.drop n).map tNs) (xs.drop n) (frz ms K H) := fun k => by
      induction k with
      | zero =>
        intro n hn
        rw [List.drop_of_length_le (by omega), List.drop_of_length_le (by omega)]
        exact trivial
      | succ k ih =>
        intro n hn
        have hn2 : n < rows.length := by omega
        rw [List.drop_eq_getElem_cons hn2, List.drop_eq_getElem_cons (by omega : n < xs.length)]
        have hmn : ms[n]? = some ms[n] := List.getElem?_eq_getElem (by omega)
        obtain ⟨w, hw, hw2⟩ := hxs.at (getRef hmn)
        have hw3 : w = .ref ms[n] := hw2
        have exn : xs[n] = .ref ms[n] := by
          rw [List.getElem?_eq_getElem (by omega)] at hw
          rw [Option.some.inj hw, hw3]
        obtain ⟨kn, hx⟩ := mt n ms[n] rows[n] hmn (List.getElem?_eq_getElem hn2)
        refine ⟨⟨ms[n], _, exn, ?_, All2.of_ints⟩, ih (n + 1) (by omega)⟩
        unfold frz
        rw [if_pos (List.getElem_mem _)]
        exact hx
    exact fun n => key _ n rfl
  have s2 := (sa.mo ek).set (i := s) (t := tNN rows) (v := v) ⟨l, xs, ev, ek _ _ hl2, all 0⟩
  rw [set_here e1] at s2
  refine k σ H ⟨frz ms K H, ⟨g.h, g.k.trans ek, es, fun a ha ka => ?_⟩, s2, hM _ _ mm⟩
  unfold frz
  rw [if_neg fun z => ha (hb a z)]
  exact g.f a ha ka
/-! the table is made -/
variable {α : Type} {elt tg iter : Expr} {scope : Scope} {py spos : Pos}
theorem bl_tnew {g : TG} {ds : List α} {bd : α → Ctx → Ctx} {sl : List Nat} (i : Nat) (own : List (Str × Nat)) (S : Src X Γ tg iter ds bd sl g) (F : α → List Nat) (he : ∀ d ∈ ds, ∀ s H C cl fp, HasN (blkX X scope s H C cl fp) (bd d (wipeC Γ (own.map (·.2)))) elt ((cst (F d)).map tI))
    (hd : ds.length < 1000) (hN : X.N.Nodup) (hg : ∀ s H C cl fp, PG (blkX X scope s H C cl fp) tg g) (k : ∀ ms : List Addr, ms.Nodup → ms.length = ds.length → (∀ m ∈ ms, Hb m = none) → (∃ K H, M.p K H ∧ ∀ m ∈ ms, H m = none) → Bl X Kb Hb (Γ.set i (some (tRefs ms))) (mAnd (mTab ms (ds.map F)) M) rest D) (hy : X.N[i]? = some y := by rfl) (hyl : X.env.scope.names.lookup y = some .local := by rfl)
    (hsw : swapsWith (.ListComp elt [⟨tg, iter, [], 0⟩] scope pos) (some (.Name y py)) spos.line X.env = pure true := by exact sw_true rfl rfl rfl (by kernel_rfl))
    (hsl : ∀ j ∈ sl, j ∈ own.map (·.2) := by decide) (ok : BlkOk X.N X.env.scope scope own := by exact blkOk_by (by kernel_rfl)) (hc : X.calm = true := by rfl) (hs : ∀ x, foldedSetIterable iter X.env x = pure x := by intro _; rfl) :
    Bl X Kb Hb Γ M (.Assign [.Name y py] (.ListComp elt [⟨tg, iter, [], 0⟩] scope pos) spos :: rest) D := fun σ H0 s => by
  obtain ⟨K0, g0, ga, mm⟩ := s
  obtain ⟨wi, hi, k2⟩ := S.ex σ K0 H0 g0.s ga
  refine wss_cons (ws_of (ps_setLc hc hN hy hyl hsw hi ok hg (fun _ _ _ _ _ => pts_nil) (fun s H C cl fp => (⟨fun pins s1 σ H1 Q I h => h s H C cl fp pins s1 I⟩ : PE (blkX X scope s H C cl fp) elt (weB X scope elt))) hs) ?_)
  refine k2 _ fun J K1 H1 g1 W Dl hD => ?_
  have kD : K1 Dl = none := g1.s.back hD
  have bD : H0 Dl = none := g1.h.back hD
  let St0 : Nat → Hp → Prop := fun i H => ∃ K ms, Gr K1 H0 K H ∧ K Dl = none ∧ H Dl = some (.lst (ms.map V.ref)) ∧ ms.length = i ∧ ms.Nodup ∧ Dl ∉ ms ∧ (∀ m ∈ ms, H0 m = none) ∧ (mTab ms ((ds.take i).map F)).p K H
  refine ⟨fun i m H => m = ds.length - i ∧ i ≤ ds.length ∧ St0 i H, ⟨ds.length, rfl, Nat.zero_le _, K1, [], ⟨g1.h.past bD, Ex.refl _, g1.s.past kD, fun a ha ka => ka⟩, kD, upd_same, rfl, List.nodup_nil, List.not_mem_nil, fun m hm => (List.not_mem_nil hm).elim, fun i m r h => by simp at h⟩, ?_⟩
  rintro i n H ⟨rfl, hi2, K, ms, gr, ka, ha, hml, hnd, hDm, hm0, htab⟩
  by_cases hlt : i < ds.length
  · refine .inr ⟨W.go i H hlt (gr.k.trans gr.s), St0 (i + 1), fun H' p' => ⟨ds.length - (i + 1), by omega, rfl, hlt, p'⟩, fun x H' yl => ?_⟩
    have hdi : ds[i]? = some ds[i] := List.getElem?_eq_getElem hlt
    obtain ⟨K3, g3, step⟩ := W.turn i ds[i] K H x H' hdi gr.k gr.s yl
    have ka3 : K3 Dl = none := g3.f Dl (by rw [ha]; exact Option.some_ne_none _) ka
    refine step _ (wipeC Γ (own.map (·.2))) _ (((ga.mo g1.k).mo gr.k).wipe (own.map (·.2))) fun σ' s3 hw => ⟨by rw [hw _ hsl]; exact wipe_twice σ _, ?_⟩
    simp only [tYes, if_true]
    intro s0 Hx C cl fp
    refine he _ (List.getElem_mem hlt) s0 Hx C cl fp σ' K3 H' g3.s s3 _ fun m K4 H4 xs g4 km hm hx xa => ?_
    have g34 := g3.trans g4
    have ka4 : K4 Dl = none := g34.f Dl (by rw [ha]; exact Option.some_ne_none _) ka
    have hDl4 := g34.h _ _ ha
    have hmH : H m = none := g3.h.back hm
    have hm00 : H0 m = none := gr.h.back hmH
    have base : Gr K1 H0 K4 H4 := ⟨gr.h.trans g34.h, gr.k.trans g34.k, g34.s, fun a h1 h2 => g34.f a (gr.h.ne h1) (gr.f a h1 h2)⟩
    have hmD : m ≠ Dl := fun z => by rw [z, ha] at hmH; cases hmH
    have hmm : m ∉ ms := fun z => by
      obtain ⟨j, hj, e⟩ := List.getElem_of_mem z
      have h1 : ms[j]? = some m := by rw [List.getElem?_eq_getElem hj, e]
      have h2 : ((ds.take i).map F)[j]? = some (F ds[j]) := by
        rw [List.getElem?_map, List.getElem?_take_of_lt (by omega), List.getElem?_eq_getElem (by omega)]
        rfl
      rw [(htab j m _ h1 h2).2] at hmH
      cases hmH
    refine ⟨ms.map V.ref, hDl4, small1000 (by rw [List.length_map]; omega), K4, ms ++ [m], ⟨base.h.past bD, base.k, base.s.past ka4, base.f⟩, ka4, by rw [upd_same, List.map_append]; rfl, by rw [List.length_append, hml]; rfl, ?_, ?_, ?_, ?_⟩
    · rw [List.nodup_append]
      exact ⟨hnd, by simp, fun a ha b hb e => hmm (by rw [List.mem_singleton.mp hb] at e; exact e ▸ ha)⟩
    · rw [List.mem_append, List.mem_singleton]
      exact fun z => z.elim hDm fun z => hmD z.symm
    · intro a ha2
      rcases List.mem_append.mp ha2 with z | z
      · exact hm0 a z
      · rw [List.mem_singleton.mp z]
        exact hm00
    · intro j m' r h1 h2
      have hm'D : m' ≠ Dl := fun z => by
        have := List.mem_of_getElem? h1
        rw [List.mem_append, List.mem_singleton, z] at this
        exact this.elim hDm fun z => hmD z.symm
      rw [upd_ne hm'D]
      by_cases hj : j < i
      · rw [List.getElem?_append_left (by omega)] at h1
        have h2' : ((ds.take i).map F)[j]? = some r := by
          rw [List.getElem?_map, List.getElem?_take_of_lt hj]
          rw [List.getElem?_map, List.getElem?_take_of_lt (by omega)] at h2
          exact h2
        obtain ⟨z1, z2⟩ := htab j m' r h1 h2'
        exact ⟨g34.f m' (by rw [z2]; exact Option.some_ne_none _) z1, g34.h _ _ z2⟩
      · have hji : j = i := by
          have := (List.getElem?_eq_some_iff.mp h1).1
          rw [List.length_append, hml] at this
          simp only [List.length_singleton] at this
          omega
        subst hji
        rw [List.getElem?_append_right (by omega), hml, Nat.sub_self] at h1
        have em : m = m' := by simpa using h1
        subst em
        rw [List.getElem?_map, List.getElem?_take_of_lt (by omega), hdi] at h2
        have er : F ds[j] = r := by simpa using h2
        rw [← er, ← xa.ints]
        exact ⟨km, hx⟩
  · have e : i = ds.length := by omega
    subst e
    rw [List.take_length] at htab
    refine .inl ⟨W.stop H (gr.k.trans gr.s), ?_⟩
    have ek : Ex K (upd K Dl (.lst (ms.map V.ref))) := Ex.new ka
    have gf : Gr K0 H0 (upd K Dl (.lst (ms.map V.ref))) H := ⟨gr.h, (g1.k.trans gr.k).trans ek, fun a o e => by
      by_cases am : a = Dl
      · subst am
        rw [upd_same] at e
        rw [← e]
        exact ha
      · rw [upd_ne am] at e
        exact gr.s a o e, fun a h1 h2 => by
      rw [upd_ne fun z => h1 (by rw [z]; exact bD)]
      exact gr.f a h1 (g1.f a h1 h2)⟩
    refine k ms hnd hml (fun m hm => g0.h.back (hm0 m hm)) ⟨K0, H0, mm, hm0⟩ _ _ ⟨_, g0.trans gf, (ga.mo gf.k).set ⟨Dl, _, rfl, upd_same, ?_⟩, fun j m r h1 h2 => ?_, M.st gf mm⟩
    · have : ∀ (l : List Addr) (Hx : Hp), All2 (l.map fun m => tV (.ref m)) (l.map V.ref) Hx := fun l Hx => by
        induction l with
        | nil => exact trivial
        | cons a l ih => exact ⟨rfl, ih⟩
      exact this ms _
    · obtain ⟨z1, z2⟩ := htab j m r h1 h2
      refine ⟨?_, z2⟩
      rw [upd_ne fun z => hDm (by rw [← z]; exact List.mem_of_getElem? h1)]
      exact z1
end
end Z
end
section
set_option Elab.async false
set_option linter.all false
set_option exponentiation.threshold 20000
set_option maxRecDepth 100000
set_option maxHeartbeats 2000000
/-! A flow is drawn. -/
namespace Z
open PySem PySem.Spec PyProof.Rows L2
section
variable {X : Cx} {Γ : Ctx} {M N1 N2 N3 : Mt} {Kb Hb : Hp} {e a b : Expr} {pos p p2 : Pos} {x y : Str} {D : Ends} {rest : List Stmt} {t u : Ty}
theorem rep_V {n : Nat} : (List.replicate n [V.int 0]).flatten = (cst (List.replicate n 0)).map V.int := by
  induction n with
  | zero => rfl
  | succ n ih =>
    rw [List.replicate_succ, List.flatten_cons, ih, List.replicate_succ]
    rfl
theorem hasn_rep {n : Nat} {e0 : Expr} {lp : Pos} (hn : n ≤ 900) (h0 : HasA X Γ [e0] [tI 0]) (h : Has X Γ e (tI (n : Int))) : HasN X Γ (.BinOp (.List [e0] lp) .Mult e pos) ((cst (List.replicate n 0)).map tI) := fun σ K H s g Q q =>
  we_of (pe_op op_rep pe_we pe_we) (has_lst h0 (by simp) σ K H s g _ fun v K1 H1 g1 ⟨l, xs, ev, hl, xa⟩ => h σ K1 H1 g1.s (g.mo g1.k) _ fun w K2 H2 g2 hw => by
    have hw' : w = .int (n : Int) := hw
    subst hw' ev
    obtain ⟨z, rfl, ez⟩ := xa.one
    have ez' : z = .int 0 := ez
    subst ez'
    refine ⟨l, (n : Int), _, rfl, rfl, g2.s _ _ (g2.k _ _ hl), by omega, by omega, Nat.le_of_lt (small1000 (by simp; omega)), fun p hp => ?_⟩
    rw [Int.toNat_natCast, rep_V]
    exact q p K2 _ _ ((g1.trans g2).trans (Gr.newM g2.s hp)) (g2.s.back hp) ((g1.trans g2).h.back hp) upd_same All2.of_ints)
theorem bt_addE {P : Nat → Prop} {c : Nat} : BinT X .Add (tI (c : Int)) (tE P fun d : Nat => tI (d : Int)) (tE (fun k => ∃ d, P d ∧ k = c + d) fun k : Nat => tI (k : Int)) := ⟨_, op_add, fun x y K H s hx ⟨d, hd, hy⟩ Q q => ⟨(c : Int), (d : Int), hx, hy, q _ K H (Gr.refl s) ⟨c + d, ⟨d, hd, rfl⟩, congrArg V.int (Int.natCast_add c d).symm⟩⟩⟩
/-- a slice of a list of which little is known -/
theorem hasc_sliceE {P Q : _ → Prop} {p3 : Pos} (h : HasC X Kb Hb Γ N1 e (tE P tNs) N2) (hn : HasC X Kb Hb Γ N2 a (tE Q fun k : Nat => tI (k : Int)) N3) : HasC X Kb Hb Γ N1 (.Subscript e (.Slice none (some a) none p3) pos) (tE (fun l => ∃ f k, P f ∧ Q k ∧ l = f.take k) tNs) N3 := fun σ K H g sa m R q =>
  we_of (pe_slice sl_list pe_we po_none (po_some pe_we)) (h σ K H g sa m _ fun v K1 H1 g1 e1 m1 ⟨f, hf, l, xs, ev, ha, hx⟩ => hn σ K1 H1 g1 (sa.mo e1) m1 _ fun y K2 H2 g2 e2 m2 ⟨k, hk, hy⟩ => ⟨k, hy, l, xs, ev, SqL.of (g2.s _ _ (e2 _ _ ha)), fun p hp => by
    rw [cut_hi]
    have g3 := Gr.new (o := .lst (xs.take k)) g2.s hp
    refine q _ _ _ (g2.trans g3) ((e1.trans e2).trans g3.k) (N3.st g3 m2) ⟨f.take k, ⟨f, k, hf, hk, rfl⟩, p, _, rfl, upd_same, ?_⟩
    have := ((hx.mo e2).mo g3.k).take k
    unfold cst
    rw [List.map_take, List.map_take]
    exact this⟩)
/-- x, y = (a, b) -/
theorem bl_parC {px py pt : Pos} {kt k2 pt2} (i j : Nat) (ha : HasC X Kb Hb Γ N1 a t N2) (hb : HasC X Kb Hb Γ N2 b u N3) (k : Bl X Kb Hb ((Γ.set i (some t)).set j (some u)) N3 rest D) (hN : X.N.Nodup) (hij : i ≠ j := by decide) (hi : X.N[i]? = some x := by rfl) (hj : X.N[j]? = some y := by rfl) (hc : X.calm = true := by rfl)
    (hx : X.env.scope.names.lookup x = some .local := by rfl) (hy : X.env.scope.names.lookup y = some .local := by rfl)
    (he : starEach (a :: [b]) X.env = (false, eval a X.env) :: starEach [b] X.env := by rfl) (he2 : starEach [b] X.env = (false, eval b X.env) :: starEach [] X.env := by rfl)
    (hw : swappedStores [.Tuple [.Name x px, .Name y py] kt pt] (.Tuple [a, b] k2 pt2) X.env = pure (some [x, y]) := by rfl)
    (hs : swapsWithSole [.Tuple [.Name x px, .Name y py] kt pt] (.Tuple [a, b] k2 pt2) pos.line X.env = pure false := by rfl) : Bl X Kb Hb Γ N1 (.Assign [.Tuple [.Name x px, .Name y py] kt pt] (.Tuple [a, b] k2 pt2) pos :: rest) D := fun σ H ⟨K, g, sa, m⟩ => by
  refine wss_cons (ws_of (ps_par hc hN hi hj hij hx hy (pa_cons pe_we (pa_cons pe_we pa_nil he2) he) hw hs) (ha σ K H g sa m _ fun v K1 H1 g1 e1 m1 tv => hb σ K1 H1 g1 (sa.mo e1) m1 _ fun z K2 H2 g2 e2 m2 tz => ?_))
  exact ⟨v, z, rfl, k _ _ ⟨K2, g2, (((sa.mo e1).mo e2).set (t.mo e2 tv)).set tz, m2⟩⟩
theorem bl_openE {α : Type} {P : α → Prop} {f : α → Ty} {sts : List Stmt} (i : Nat) (hi : Γ[i]? = some (some (tE P f)) := by rfl) (k : ∀ a, P a → Bl X Kb Hb (Γ.set i (some (f a))) M sts D) : Bl X Kb Hb Γ M sts D := bl_open i hi k
/-- a draw beside a table -/
theorem hasc_drT {Q : Addr} {ms : List Addr} {rows : List (List Nat)} (T : Tx X.K X.mg) (n : Nat) (hn : 0 < n) (hn2 : n ≤ 1000) (i : Nat) (hG : Γ[i]? = some (some (tV (.ref Q)))) (hP : Hb Q = none) (hM : Q ∉ ms) (h : Has X Γ e (tI (n : Int))) (hr : Room 1 X.A) (hg : Gl X "_law_draw" := by rfl) (hi : X.N[i]? = some y := by rfl)
    (hv : Vis X.env.scope y := by first | exact Or.inl rfl | exact Or.inr (Or.inl rfl) | exact Or.inr (Or.inr rfl)) (hd : (y == ("__debug__" : Str)) = false := by decide) (hcd : (y == ("__classdict__" : Str)) = false := by decide)
    (he : starEach (.Name y p2 :: [e]) X.env = (false, eval (.Name y p2) X.env) :: starEach [e] X.env := by rfl) (he2 : starEach [e] X.env = (false, eval e X.env) :: starEach [] X.env := by rfl) (hpl : (backTo pos (starEach [e] X.env)).any (·.1) = false := by rfl) : HasC X Kb Hb Γ (mAnd (mTab ms rows) (mAnd (mPot Q) mNone)) (.Call (.Name "_law_draw" p) [.Name y p2, e] [] pos) (tLt n) (mAnd (mTab ms rows) (mAnd (mPot Q) mNone)) :=
  HasC.perm (M1 := mAnd (mPot Q) (mAnd (mTab ms rows) mNone)) (M2 := mAnd (mPot Q) (mAnd (mTab ms rows) mNone)) (fun _ _ m => ⟨m.2.1, m.1, trivial⟩) (fun _ _ m => ⟨m.2.1, m.1, trivial⟩) (hasc_draw T n hn hn2 i hG hP (mAnd.fr (mTab.fr hM) mNone.fr) h.cc hr hg hi hv hd hcd he he2 hpl)
end
section
variable {P : Program} {w : World} {K : PySem.W.Frag} {mg : Str → Option Value} {base : Heap}
theorem sym_zero {n : Nat} : M.Sym n 4 ((List.range n).map fun _ => List.replicate n 0) := by
  have bx : M.Box n ((List.range n).map fun _ => List.replicate n 0) := ⟨by simp, fun r hr => by
    obtain ⟨_, _, rfl⟩ := List.mem_map.mp hr
    simp⟩
  have e : ∀ p q, p < n → M.ent ((List.range n).map fun _ => List.replicate n 0) p q = 0 := fun p q hp => by
    unfold M.ent
    rw [M.getD_at (l := (List.range n).map fun _ => List.replicate n 0) (by simpa using hp), List.getElem_map, List.getD_eq_getElem?_getD, List.getElem?_replicate]
    split <;> rfl
  exact ⟨bx, fun p q hp hq => by rw [e p q hp, e q p hq], fun p q hp hq => by rw [e p q hp]; decide⟩
def isRing (n : Nat) (l : List Nat) : Prop := l.length ≤ 6 ∧ ∀ q ∈ l, q < n
theorem f_flow (T : Tx K mg) : Cal P w K mg base "_law_flow" 3 (Spp (α := Nat × Bool) (fun a => 2 ≤ a.1 ∧ a.1 ≤ 6) (fun a => [tI (a.1 : Int), tB a.2]) fun a => tE (M.Flow a.1) tNN) :=
  T.calP 3 rfl (C8.fnScope_by (N := ["_law_pot_here", "_law_many", "_law_is_back", "_law_flow_here", "_law_place", "_law_other", "_law_much", "_law_ring"]) (P := ["_law_pot_here", "_law_many", "_law_is_back"]) (by decide +kernel)) (fun _ => rfl) (fun _ _ _ _ _ _ us hl => match us, hl with | [_, _, _], _ => rfl) fun nd a pa b r Kb Hb D y hy _ hD => by
    obtain ⟨n, back⟩ := a
    obtain ⟨n0, n1⟩ := pa
    simp only at n0 n1
    refine bl_tnew (M := mAnd (mPot y) mNone) 3 [("_law_place", 4)] (s_range (n := n) (j := 4) (T.f 1) (by omega) (has_var 1)) (fun _ => List.replicate n 0) (fun d hd s H C cl fp => hasn_rep (by omega) (hasa_cons has_int hasa_nil) (has_var 1)) (by rw [List.length_range]; omega) nd (fun s H C cl fp => pg_1 nd) (fun ms hnd hml hmb ⟨K0, H0, hM0, hm0⟩ => ?_)
    rw [List.length_range] at hml
    have hym : y ∉ ms := fun z => by
      obtain ⟨⟨_, _, _, _, _, _, hx⟩, _⟩ := hM0
      rw [hm0 y z] at hx
      cases hx
    have hfr : ∀ m ∈ ms, (mAnd (mPot y) mNone).fr m := fun m hm => mAnd.fr (mPot.fr fun z => hym (by rw [z]; exact hm)) mNone.fr
    let G0 : Ctx := [some (tV (.ref y)), some (tI (n : Int)), some (tB back), some (tRefs ms), none, none, none, none]
    -- the rest, behind the ring
    have hrest : Bl (cxB CX0 P w K mg base ["_law_pot_here", "_law_many", "_law_is_back", "_law_flow_here", "_law_place", "_law_other", "_law_much", "_law_ring"] "_law_flow" (defScope (top 62)) (ca K "_law_flow") b) Kb Hb G0 (mAnd (mEx (M.Bal n 30) (mTab ms)) (mAnd (mPot y) mNone)) ((defBody (top 62)).drop 3) D := by
      refine bl_for (s_range (n := n) (j := 4) (T.f 1) (by omega) (has_var 1)) (pg_1 nd) (fun _ => G0) (fun i => mAnd (mEx (fun rows => M.Bal n 30 rows ∧ ∀ p, p < i → 0 < M.out n rows p) (mTab ms)) (mAnd (mPot y) mNone)) ⟨fun _ _ h => h, fun _ _ h => h, fun _ _ h => h, fun _ _ h => h, trivial⟩ (fun _ _ ⟨⟨rows, hr, hm⟩, h2⟩ => ⟨⟨rows, ⟨hr, fun p hp => absurd hp (Nat.not_lt_zero p)⟩, hm⟩, h2⟩) (fun i d hd K1 up => bl_mex fun rows hr => ?_) (bl_mex fun rows hr => ?_)
      · obtain ⟨hbal, hpos⟩ := hr
        have hdi : d = i := by
          obtain ⟨h1, h2⟩ := List.getElem?_eq_some_iff.mp hd
          rw [List.getElem_range] at h2
          exact h2.symm
        subst hdi
        have hdn : d < n := by simpa using (List.getElem?_eq_some_iff.mp hd).1
        have hlr := hbal.toBox.len
        have hrow := hbal.toBox.row hdn
        have hmd : ms[d]? = some (ms[d]'(by omega)) := List.getElem?_eq_getElem (by omega)
        have hrd : rows[d]? = some (rows.getD d []) := by rw [M.getD_at (by omega), List.getElem?_eq_getElem (by omega)]
        refine bl_ifC (P := fun k => k = decide ((((rows.getD d []).sum : Nat) : Int) = 0)) (hastc_cmp (hasc_sumM T rfl hmd hrd (has_ix (has_var 3) (has_var 4) (ix_L (getRef hmd)))) (Has.cc has_int) ct_eqI.ee) (fun h => ?_) fun h => bl_fall ?_
        · have hs0 : M.out n rows d = 0 := by
            have := of_decide_eq_true h.symm
            have e := M.row_sum hbal.toBox hdn
            unfold M.out
            omega
          obtain ⟨hb2, ho⟩ := M.bal_one hbal hdn hs0 (by decide)
          refine bl_tset (Q := (· = 1)) (u := d) (v := d) 3 rfl hnd (by omega) hmb hfr (by omega) (by omega) (Has.cc (Has.imp has_int fun v H h => ⟨1, rfl, h⟩)) (has_var 4) (has_var 4) fun x hx => ?_
          subst hx
          refine bl_fall (Bl.nxt (fun _ _ h => h) ⟨fun _ _ h => h, fun _ _ h => h, fun _ _ h => h, fun _ _ h => h, trivial⟩ fun _ _ hm => ⟨⟨_, ⟨hb2, fun p hp => ?_⟩, hm.1⟩, hm.2⟩)
          rw [ho p]
          by_cases e : p = d
          · rw [if_pos e]
            omega
          · have := hpos p (by omega)
            omega
        · have hs0 : 0 < M.out n rows d := by
            have := of_decide_eq_false h.symm
            have e := M.row_sum hbal.toBox hdn
            unfold M.out
            omega
          refine Bl.nxt (fun _ _ h => h) ⟨fun _ _ h => h, fun _ _ h => h, fun _ _ h => h, fun _ _ h => h, trivial⟩ fun _ _ hm => ⟨⟨_, ⟨hbal, fun p hp => ?_⟩, hm.1⟩, hm.2⟩
          by_cases e : p = d
          · rw [e]
            exact hs0
          · exact hpos p (by omega)
      · rw [List.length_range] at hr
        refine bl_tfreeze (M' := mAnd (mPot y) mNone) 3 rfl (by rw [hr.1.toBox.len]; omega) hmb (fun K' H' hm => ⟨⟨by unfold frz; rw [if_neg hym]; exact hm.1.1, hm.1.2⟩, trivial⟩) ?_
        exact bl_ret (has_var 3) fun v K' H' g m h => hD v K' H' g m.1 ⟨rows, ⟨⟨hr.1.toBox, hr.1.bal, fun p q hp hq => Nat.lt_trans (hr.1.lt p q hp hq) (by decide)⟩, hr.2⟩, h⟩
    have step : ∀ {i d : Nat} {K1 : Hp}, M.Bal n 30 = M.Bal n 30 := rfl
    -- the same both ways
    refine bl_for (s_range (n := n) (j := 4) (T.f 1) (by omega) (has_var 1)) (pg_1 nd) (fun _ => G0) (fun _ => mAnd (mEx (M.Sym n 4) (mTab ms)) (mAnd (mPot y) mNone)) ⟨fun _ _ h => h, fun _ _ h => h, fun _ _ h => h, fun _ _ h => h, trivial⟩ (fun _ _ h => ⟨⟨_, sym_zero, h.1⟩, h.2⟩) (fun i d hd K1 up => bl_mex fun rows hs => ?_) ?_
    · have hdn : d < n := List.mem_range.mp (List.mem_of_getElem? hd)
      have hlr := hs.toBox.len
      have hrow := hs.toBox.row hdn
      refine bl_tset (Q := (· < 3)) (u := d) (v := d) 3 rfl hnd (by omega) hmb hfr (by omega) (by omega) (hasc_drT T 3 (by decide) (by decide) 0 rfl hy hym has_int (r.mono (by decide))) (has_var 4) (has_var 4) fun x hx => ?_
      have hs2 := M.sym_diag hs hdn (Nat.lt_trans hx (by decide : 3 < 4))
      refine bl_for (s_range (n := d) (j := 5) (T.f 1) (by omega) (has_var 4)) (pg_1 nd) (fun _ => [some (tV (.ref y)), some (tI (n : Int)), some (tB back), some (tRefs ms), some (tI (d : Int)), none, none, none]) (fun _ => mAnd (mEx (M.Sym n 4) (mTab ms)) (mAnd (mPot y) mNone)) ⟨fun _ _ h => h, fun _ _ h => h, fun _ _ h => h, fun _ _ h => h, fun _ _ h => h, trivial⟩ (fun _ _ h => ⟨⟨_, hs2, h.1⟩, h.2⟩) (fun j o ho K2 up2 => bl_mex fun rows3 hs3 => ?_) ?_
      · have hod : o < d := List.mem_range.mp (List.mem_of_getElem? ho)
        have hl3 := hs3.toBox.len
        have hb4 : ∀ v, M.Box n (M.put rows3 d o v) := fun v => hs3.toBox.put hdn
        refine bl_asgC 6 (hasc_drT T 4 (by decide) (by decide) 0 rfl hy hym has_int (r.mono (by decide))) ?_ nd
        refine bl_openE 6 rfl fun u hu => ?_
        refine bl_tset (Q := (· = u)) (u := d) (v := o) 3 rfl hnd (by omega) hmb hfr (by omega) (by rw [hs3.toBox.row hdn]; omega) (Has.cc (Has.imp (has_var 6) fun v H h => ⟨u, rfl, h⟩)) (has_var 4) (has_var 5) fun x hx => ?_
        subst hx
        refine bl_tset (Q := (· = x)) (u := o) (v := d) 3 rfl hnd (by rw [(hb4 x).len]; omega) hmb hfr (by rw [(hb4 x).len]; omega) (by rw [(hb4 x).row (by omega)]; omega) (Has.cc (Has.imp (has_var 6) fun v H h => ⟨x, rfl, h⟩)) (has_var 5) (has_var 4) fun z hz => ?_
        subst hz
        exact Bl.nxt (fun _ _ h => h) ⟨fun _ _ h => h, fun _ _ h => h, fun _ _ h => h, fun _ _ h => h, fun _ _ h => h, trivial⟩ fun _ _ h => ⟨⟨_, M.sym_two hs3 hdn (by omega) hu, h.1⟩, h.2⟩
      · exact Bl.nxt (fun _ _ h => h) ⟨fun _ _ h => h, fun _ _ h => h, fun _ _ h => h, fun _ _ h => h, trivial⟩ fun _ _ h => h
    · refine bl_if (hast_w (hasw_and (hast_cmp (has_var 1) has_int ct_gt) fun _ => hasw_and1 (hast_not (hast_val (has_var 2))))) (fun h => bl_mex fun rows hs => ?_) fun h => bl_fall (hrest.sub ?_ ?_)
      · have hn3 : 2 < n := by
          rw [Bool.and_eq_true] at h
          have := of_decide_eq_true h.1
          omega
        have hz : (n : Int) - 2 = ((n - 2 : Nat) : Int) := by omega
        refine bl_parC (N2 := mAnd (mTab ms rows) (mAnd (mPot y) mNone)) (N3 := mAnd (mTab ms rows) (mAnd (mPot y) mNone)) 7 6 (hasc_sliceE (N2 := mAnd (mTab ms rows) (mAnd (mPot y) mNone)) (HasC.perm (M1 := mAnd (mPot y) (mAnd (mTab ms rows) mNone)) (M2 := mAnd (mPot y) (mAnd (mTab ms rows) mNone)) (fun _ _ m => ⟨m.2.1, m.1, trivial⟩) (fun _ _ m => ⟨m.2.1, m.1, trivial⟩) (hasc_pot (f_order T) n n1 0 rfl hy (mAnd.fr (mTab.fr hym) mNone.fr) (hasac_cons (Has.cc (has_var 1)) hasac_nil) r)) (hasc_op (Has.cc (has_int (i := 3))) (hasc_drT T (n - 2) (by omega) (by omega) 0 rfl hy hym (Has.is (has_op (has_var 1) has_int bt_sub) (by rw [hz])) (r.mono (by decide))) (bt_addE (c := 3)))) (hasc_op (Has.cc (has_int (i := 1))) (hasc_drT T 3 (by decide) (by decide) 0 rfl hy hym has_int (r.mono (by decide))) (bt_addE (c := 1))) ?_ nd
        refine bl_openE 7 rfl fun ring hring => bl_openE 6 rfl fun much hmuch => ?_
        obtain ⟨f, k, hf, _, rfl⟩ := hring
        obtain ⟨mm, hmm, rfl⟩ := hmuch
        have hfl : f.length = n := by
          have := List.Perm.length_eq hf
          rwa [List.length_range] at this
        have hrl : (f.take k).length ≤ 6 := by rw [List.length_take]; omega
        have hrm : ∀ q ∈ f.take k, q < n := fun q hq => List.mem_range.mp ((List.Perm.mem_iff hf).mp (List.mem_of_mem_take hq))
        have hm3 : 1 + mm ≤ 3 := by omega
        generalize f.take k = ring at hrl hrm
        generalize 1 + mm = much at hm3
        have hB := hs.bal
        have hlz : (ring.drop 1 ++ ring.take 1).length = ring.length := by
          rw [List.length_append, List.length_drop, List.length_take]
          omega
        refine bl_for (s_zip (F := fun q : Nat => tI (q : Int)) (G := fun q : Nat => tI (q : Int)) (j := 4) (j2 := 5) (as := ring) (bs := ring.drop 1 ++ ring.take 1) (T.f 2) (Has.is (has_var 7) (by unfold tNs tIs cst; rw [List.map_map]; rfl)) (Has.is (has_op (has_sliceLo (n := 1) (has_var (t := tNs ring) 7) has_int) (has_sliceHi (n := 1) (has_var (t := tNs ring) 7) has_int) (bt_cat ?_)) ?_)) (pg_2 nd rfl) (fun _ => [some (tV (.ref y)), some (tI (n : Int)), some (tB back), some (tRefs ms), none, none, some (tI (much : Int)), some (tNs ring)])
          (fun j => mAnd (mEx (M.Fed n 4 much rows ((ring.zip (ring.drop 1 ++ ring.take 1)).take j)) (mTab ms)) (mAnd (mPot y) mNone)) ⟨fun _ _ h => h, fun _ _ h => h, fun _ _ h => h, fun _ _ h => h, fun _ _ h => h, fun _ _ h => h, trivial⟩ (fun _ _ h => ⟨⟨rows, M.fed_zero hB, h.1⟩, h.2⟩) (fun j d hd K1 up => bl_mex fun rows2 hfd => ?_) (bl_mex fun rows2 hfd => ?_)
        · simp only [List.length_drop, List.length_take, List.length_map]
          omega
        · unfold cst
          rw [List.map_append, List.map_drop, List.map_take, List.map_map]
          rfl
        · obtain ⟨m1, m2⟩ := List.of_mem_zip (show (d.1, d.2) ∈ ring.zip (ring.drop 1 ++ ring.take 1) from List.mem_of_getElem? hd)
          have hd1 := hrm _ m1
          have hd2 : d.2 < n := by
            rcases List.mem_append.mp m2 with z | z
            · exact hrm _ (List.mem_of_mem_drop z)
            · exact hrm _ (List.mem_of_mem_take z)
          have hl2 := hfd.toBox.len
          have hr2 := hfd.toBox.row hd1
          have hmd : ms[d.1]? = some (ms[d.1]'(by omega)) := List.getElem?_eq_getElem (by omega)
          have hrd : rows2[d.1]? = some (rows2.getD d.1 []) := by rw [M.getD_at (by omega), List.getElem?_eq_getElem (by omega)]
          refine bl_tset (Q := (· = M.ent rows2 d.1 d.2 + much)) (u := d.1) (v := d.2) 3 rfl hnd (by omega) hmb hfr (by omega) (by omega) (HasC.imp (hasc_op (hasc_ixM hmd hrd (k := d.2) (by omega) (has_ix (has_var 3) (has_var 4) (ix_L (getRef hmd))) (has_var 5)) (Has.cc (has_var 6)) bt_add) fun v H h => ⟨_, rfl, ?_⟩) (has_var 4) (has_var 5) fun x hx => ?_
          · have h' : v = V.int (((rows2.getD d.1 []).getD d.2 0 : Nat) + (much : Int)) := h
            show v = V.int ((M.ent rows2 d.1 d.2 + much : Nat) : Int)
            rw [Int.natCast_add, h']
            rfl
          · subst hx
            refine Bl.nxt (fun _ _ h => h) ⟨fun _ _ h => h, fun _ _ h => h, fun _ _ h => h, fun _ _ h => h, fun _ _ h => h, fun _ _ h => h, trivial⟩ fun _ _ h => ⟨⟨_, ?_, h.1⟩, h.2⟩
            rw [List.take_add_one, hd]
            exact M.fed_step hfd hd1 hd2
        · rw [List.take_length] at hfd
          have hbal := M.fed_ring hB hfd hm3 hrl
          refine bl_fall (hrest.sub ⟨fun _ _ h => h, fun _ _ h => h, fun _ _ h => h, fun _ _ h => h, trivial⟩ fun _ _ hm => ⟨⟨rows2, ⟨hbal.toBox, hbal.bal, fun p q hp hq => Nat.lt_trans (hbal.lt p q hp hq) (by decide)⟩, hm.1⟩, hm.2⟩)
      · exact ⟨fun _ _ h => h, fun _ _ h => h, fun _ _ h => h, fun _ _ h => h, trivial⟩
      · intro K' H' h
        obtain ⟨⟨rows, hs, hm⟩, h2⟩ := h
        exact ⟨⟨rows, ⟨hs.toBox, hs.bal.bal, fun p q hp hq => Nat.lt_trans (hs.lt p q hp hq) (by decide)⟩, hm⟩, h2⟩
end
end Z
end
section
set_option Elab.async false
set_option linter.all false
set_option exponentiation.threshold 20000
set_option maxRecDepth 100000
set_option maxHeartbeats 2000000
/-! A flow's walk is proper. -/
namespace Z
open PySem PySem.Spec PyProof.Rows L2
theorem flow_sums {n : Nat} {flow : List (List Nat)} (f : M.Flow n flow) (hn : n ≤ 6) {r : List Nat} (hr : r ∈ flow) : r.length = n ∧ 0 < r.sum ∧ r.sum ≤ 600 ∧ ∀ x ∈ r, x < 100 := by
  obtain ⟨i, hi, rfl⟩ := List.getElem_of_mem hr
  have hin : i < n := by rw [← f.toBox.len]; exact hi
  have e : flow[i] = flow.getD i [] := (M.getD_at hi).symm
  rw [e]
  have hs := M.row_sum f.toBox hin
  have hp := f.pos i hin
  have hlen := f.toBox.row hin
  have hb : M.S n (M.ent flow i) ≤ n * 100 := M.S_bd fun q hq => Nat.le_of_lt (f.lt i q hin hq)
  have : n * 100 ≤ 6 * 100 := Nat.mul_le_mul_right _ hn
  refine ⟨hlen, by rw [hs]; exact hp, by omega, fun x hx => ?_⟩
  obtain ⟨j, hj, rfl⟩ := List.getElem_of_mem hx
  have := f.lt i j hin (by omega)
  unfold M.ent at this
  rwa [M.getD_at hj] at this
theorem sz_frac {x s k : Nat} (hx : x < 2 ^ k) (hs : s < 2 ^ k) (h0 : 0 < s) : Sz k (mkRat (x : Int) s) := sz_mk (by unfold Bd; rw [Int.natAbs_natCast]; exact hx) hs (by omega)
theorem num_frac {x s : Nat} (h0 : 0 < s) : (0 ≤ (mkRat (x : Int) s).num) ∧ (0 < (mkRat (x : Int) s).num ↔ 0 < x) := by
  have h : 0 ≤ (mkRat (x : Int) s).num := by
    rw [Rat.num_mkRat, if_neg (by omega)]
    exact Int.ediv_nonneg (Int.natCast_nonneg x) (Int.natCast_nonneg _)
  refine ⟨h, ?_⟩
  have z : (mkRat (x : Int) s).num = 0 ↔ x = 0 := by
    rw [Rat.num_eq_zero, Rat.mkRat_eq_zero (by omega)]
    omega
  omega
theorem allSum_bd {n : Nat} {flow : List (List Nat)} (f : M.Flow n flow) (h0 : 0 < n) (hn : n ≤ 6) : 0 < M.allSum flow ∧ M.allSum flow ≤ 3600 := by
  rw [M.allSum_S f.toBox]
  have h1 : M.out n flow 0 ≤ M.S n (M.out n flow) := M.S_le h0
  have h2 := f.pos 0 h0
  have h3 : M.S n (M.out n flow) ≤ n * 600 := M.S_bd fun q hq => by
    have hm : flow.getD q [] ∈ flow := M.getD_mem (by rw [f.toBox.len]; exact hq)
    have := (flow_sums f hn hm).2.2.1
    rwa [M.row_sum f.toBox hq] at this
  have : n * 600 ≤ 6 * 600 := Nat.mul_le_mul_right _ hn
  exact ⟨by omega, by omega⟩
theorem row_ok {n : Nat} {flow : List (List Nat)} (f : M.Flow n flow) (hn : n ≤ 6) {r : List Nat} (hr : r ∈ flow) : (M.rowOf r).length = n ∧ pCh (M.rowOf r) ∧ SzL 190 (M.rowOf r) := by
  obtain ⟨h1, h2, h3, h4⟩ := flow_sums f hn hr
  have e10 : (2 : Nat) ^ 10 = 1024 := by decide
  have sz : ∀ k, 10 ≤ k → SzL k (M.rowOf r) := fun k hk q hq => by
    obtain ⟨x, hx, rfl⟩ := List.mem_map.mp hq
    have := h4 x hx
    exact (sz_frac (k := 10) (by omega) (by omega) h2).mono hk
  have hlen : (M.rowOf r).length = n := by unfold M.rowOf; rw [List.length_map, h1]
  exact ⟨hlen, ⟨⟨by omega, fun q hq => by
    obtain ⟨x, _, rfl⟩ := List.mem_map.mp hq
    exact (num_frac h2).1, M.total_row h2⟩, sz 300 (by decide)⟩, sz 190 (by decide)⟩
theorem flow_fw {n : Nat} {flow : List (List Nat)} (f : M.Flow n flow) (h0 : 2 ≤ n) (hn : n ≤ 6) : pFw flow := by
  have hl := f.toBox.len
  obtain ⟨a1, a2⟩ := allSum_bd f (by omega) hn
  have e12 : (2 : Nat) ^ 12 = 4096 := by decide
  have p12 : (2 : Nat) ^ 12 ≤ 2 ^ 100 := Nat.pow_le_pow_right (by decide) (by decide)
  have lr : (M.rowsOf flow).length = n := by unfold M.rowsOf; rw [List.length_map, hl]
  have ls : (M.sharesOf flow).length = n := by unfold M.sharesOf; rw [List.length_map, hl]
  have hs : ∀ k, 12 ≤ k → SzL k (M.sharesOf flow) := fun k hk q hq => by
    obtain ⟨x, hx, rfl⟩ := List.mem_map.mp hq
    have := (flow_sums f hn hx).2.2.1
    exact (sz_frac (k := 12) (by omega) (by omega) a1).mono hk
  have hrow : ∀ r ∈ M.rowsOf flow, r.length = n ∧ pCh r ∧ SzL 190 r := fun r hr => by
    obtain ⟨q, hq, rfl⟩ := List.mem_map.mp hr
    exact row_ok f hn hq
  refine ⟨⟨by omega, fun r hr => ?_⟩, ⟨by omega, a1, by omega⟩, ⟨⟨⟨by simp only [lr]; exact h0, by simp only [lr]; exact hn, fun r hr => by simp only [lr]; exact ⟨(hrow r hr).1, (hrow r hr).2.1⟩⟩, ⟨⟨by simp only [ls]; exact hn, fun q hq => ?_, M.total_shares f.toBox a1⟩, hs 300 (by decide)⟩, by simp only [lr, ls], fun q hq => ?_, fun r hr => (hrow r hr).2.2, hs 190 (by decide)⟩, M.flow_kept f a1⟩⟩
  · obtain ⟨h1, h2, h3, _⟩ := flow_sums f hn hr
    exact ⟨by omega, h2, by omega⟩
  · obtain ⟨x, _, rfl⟩ := List.mem_map.mp hq
    exact (num_frac a1).1
  · obtain ⟨x, hx, rfl⟩ := List.mem_map.mp hq
    exact (num_frac a1).2.mpr (flow_sums f hn hx).2.1
theorem ed_same {n : Nat} {flow : List (List Nat)} (f : M.Box n flow) (hp : ∀ r ∈ flow, 0 < r.sum) {p q : Nat} (h1 : p < n) (h2 : q < n) : edR (M.rowsOf flow) p q = edN flow p q := by
  have hm : flow.getD p [] ∈ flow := M.getD_mem (by rw [f.len]; exact h1)
  have hr := f.row h1
  have e : ((M.rowsOf flow).getD p []).getD q 0 = mkRat (((flow.getD p []).getD q 0 : Nat) : Int) (flow.getD p []).sum := by
    rw [M.rows_get (by rw [f.len]; exact h1) (by omega), M.mk_div]
    rfl
  unfold edR edN
  rw [e]
  have := (num_frac (x := (flow.getD p []).getD q 0) (hp _ hm)).2
  by_cases z : (flow.getD p []).getD q 0 = 0
  · rw [decide_eq_true z, decide_eq_false (by omega)]
    rfl
  · rw [decide_eq_false z, decide_eq_true (by omega)]
    rfl
end Z
end
section
set_option Elab.async false
set_option linter.all false
set_option exponentiation.threshold 20000
set_option maxRecDepth 100000
set_option maxHeartbeats 2000000
/-! Lists that are appended to behind the walk's making; Walk by keywords. -/
namespace Z
open PySem PySem.Spec PyProof.Rows L2
/-- a list of instances -/
def Rl (K : Hp) (m : Addr) : Prop := ∃ xs q C dx vs r, K m = some (.lst xs) ∧ xs = V.ref q :: r ∧ K q = some (.ins C dx vs)
def LS (t : Ty) : Prop := ∀ v K m, Rl K m → t.p v K → t.p v (hide m K)
theorem ls_V {x : V} : LS (tV x) := fun _ _ _ _ h => h
theorem ls_any : LS tAny := fun _ _ _ _ h => h
theorem ls_E {α : Type} {P : α → Prop} {t : α → Ty} (h : ∀ a, LS (t a)) : LS (tE P t) := fun v K m r ⟨a, ha, k⟩ => ⟨a, ha, h a v K m r k⟩
theorem rl_lst {K : Hp} {m a : Addr} {o : HO} (r : Rl K m) (h : K a = some o) (k : ∀ xs, o ≠ .lst xs) : hide m K a = some o := by
  obtain ⟨xs, q, C, dx, vs, rs, h1, _⟩ := r
  rw [hide_ne fun z => by rw [z, h1] at h; exact k xs (Option.some.inj h).symm]
  exact h
theorem ls_all {m : Addr} {K : Hp} (r : Rl K m) : ∀ {ts : List Ty} {xs : List V}, (∀ t ∈ ts, LS t) → All2 ts xs K → All2 ts xs (hide m K)
  | [], [], _, _ => trivial
  | t :: ts, x :: xs, hf, ⟨a, h⟩ => ⟨hf t List.mem_cons_self x K m r a, ls_all r (fun u hu => hf u (List.mem_cons_of_mem _ hu)) h⟩
  | [], _ :: _, _, h => h.elim
  | _ :: _, [], _, h => h.elim
theorem ls_T {ts : List Ty} (h : ∀ t ∈ ts, LS t) : LS (tT ts) := fun v K m r ⟨a, xs, e, ha, hx⟩ => ⟨a, xs, e, rl_lst r ha (fun _ z => by cases z), ls_all r h hx⟩
theorem ls_flds {m : Addr} {K : Hp} (r : Rl K m) : ∀ {ts : List (Str × Ty)} {vs : List (Str × V)}, (∀ q ∈ ts, LS q.2) → AllF ts vs K → AllF ts vs (hide m K)
  | [], [], _, _ => trivial
  | (f, t) :: ts, (g, v) :: vs, hf, ⟨e, a, h⟩ => ⟨e, hf (f, t) List.mem_cons_self v K m r a, ls_flds r (fun u hu => hf u (List.mem_cons_of_mem _ hu)) h⟩
  | [], _ :: _, _, h => h.elim
  | _ :: _, [], _, h => h.elim
theorem ls_O {C : Addr} {fs : List (Str × Ty)} (h : ∀ q ∈ fs, LS q.2) : LS (tO C fs) := fun v K m r ⟨a, dx, vs, e, ha, hv⟩ => ⟨a, dx, vs, e, rl_lst r ha (fun _ z => by cases z), ls_flds r h hv⟩
theorem ls_R {K : PySem.W.Frag} {q : Rat} : LS (tR K q) := ls_O fun q hq => by
  simp only [List.mem_cons, List.not_mem_nil, or_false] at hq
  rcases hq with rfl | rfl <;> exact ls_V
theorem ls_Rt {K : PySem.W.Frag} {qs : List Rat} : LS (tRt K qs) := ls_T fun t ht => by
  obtain ⟨q, _, rfl⟩ := List.mem_map.mp ht
  exact ls_R
theorem ls_W {K : PySem.W.Frag} {a : Rsh} : LS (tWk K a) := ls_O fun q hq => by
  simp only [List.mem_cons, List.not_mem_nil, or_false] at hq
  rcases hq with rfl | rfl | rfl
  · exact ls_T fun t ht => by
      obtain ⟨q, _, rfl⟩ := List.mem_map.mp ht
      exact ls_Rt
  · exact ls_Rt
  · exact ls_any
theorem ls_Ns {l : List Nat} : LS (tNs l) := fun v K m r ⟨a, xs, e, ha, hx⟩ => by
  obtain ⟨ys, q, C, dx, vs, rs, h1, h2, h3⟩ := id r
  have hi := hx.ints
  have ne : a ≠ m := fun z => by
    rw [z, h1] at ha
    have e2 : ys = xs := by cases ha; rfl
    rw [← e2, h2] at hi
    cases l with
    | nil => cases hi
    | cons n l => cases hi
  exact ⟨a, xs, e, by rw [hide_ne ne]; exact ha, all2_flat (fun t ht => by
    obtain ⟨i, _, rfl⟩ := List.mem_map.mp ht
    exact flat_V) hx⟩
theorem ls_NN {flow : List (List Nat)} : LS (tNN flow) := fun v K m r ⟨a, xs, e, ha, hx⟩ => by
  obtain ⟨ys, q, C, dx, vs, rs, h1, h2, h3⟩ := id r
  have ne : a ≠ m := fun z => by
    rw [z, h1] at ha
    have e2 : ys = xs := by cases ha; rfl
    rw [← e2, h2] at hx
    cases flow with
    | nil => exact hx.elim
    | cons n l =>
      obtain ⟨⟨b, zs, e3, hb, _⟩, _⟩ := hx
      cases e3
      rw [h3] at hb
      cases hb
  exact ⟨a, xs, e, by rw [hide_ne ne]; exact ha, ls_all r (fun t ht => by
    obtain ⟨i, _, rfl⟩ := List.mem_map.mp ht
    exact ls_Ns) hx⟩
def LSs : Ctx → Prop
  | [] => True
  | none :: Γ => LSs Γ
  | some t :: Γ => LS t ∧ LSs Γ
theorem Sat.hidden {m : Addr} {K : Hp} (r : Rl K m) : ∀ {Γ : Ctx} {σ : St}, LSs Γ → Sat Γ σ K → Sat Γ σ (hide m K)
  | [], [], _, _ => trivial
  | none :: Γ, _ :: σ, h, s => Sat.hidden r (Γ := Γ) (σ := σ) h s
  | some t :: Γ, o :: σ, h, ⟨⟨v, e, a⟩, s⟩ => ⟨⟨v, e, h.1 v K m r a⟩, Sat.hidden r h.2 s⟩
  | [], _ :: _, _, s => s.elim
  | none :: _, [], _, s => s.elim
  | some _ :: _, [], _, s => s.elim
theorem hide_twice {m : Addr} {K : Hp} : hide m (hide m K) = hide m K := by
  funext a
  unfold hide
  split <;> rfl
theorem rl_of {Kf : PySem.W.Frag} {K : Hp} {m : Addr} {xs : List V} {qs : List Rat} (h : K m = some (.lst xs)) (hx : All2 (qs.map (tR Kf)) xs K) (h0 : 0 < qs.length) : Rl K m := by
  cases qs with
  | nil => exact absurd h0 (Nat.lt_irrefl _)
  | cons q qs =>
    cases xs with
    | nil => exact hx.elim
    | cons x xs =>
      obtain ⟨⟨b, dx, vs, e, hb, _⟩, _⟩ := hx
      exact ⟨_, b, _, dx, vs, xs, h, by rw [e], hb⟩
section
variable {X : Cx} {Γ : Ctx} {D : Ends} {rest : List Stmt}
theorem bl_apps {P : Addr} {Kb Hb : Hp} {rows : List (List Rat)} {qs : List Rat} {x y : Str} {p1 p2 p3 p4 p5 p6 p7 q1 q2 q3 q4 q5 : Pos} {c1 c2 c3 : _} (i j : Nat) (hi : Γ[i]? = some (some (tRR X.K rows))) (hj : Γ[j]? = some (some (tRs X.K qs))) (hr0 : 0 < rows.length) (hr1 : 0 < (rows.getD 0 []).length) (hr2 : (rows.getD 0 []).length ≤ 900) (hq : 0 < qs.length) (hq2 : qs.length ≤ 900)
    (hls : LSs ((Γ.set i none).set j none)) (k : ∀ K2 H2, H2 P = none → Bl X K2 H2 ((Γ.set i none).set j none) (mAnd (mPot P) mNone) rest D) (hN : X.N[i]? = some x := by rfl) (hN2 : X.N[j]? = some y := by rfl)
    (hv : Vis X.env.scope x := by first | exact Or.inl rfl | exact Or.inr (Or.inl rfl) | exact Or.inr (Or.inr rfl)) (hd : (x == ("__debug__" : Str)) = false := by decide) (hcd : (x == ("__classdict__" : Str)) = false := by decide)
    (hv2 : Vis X.env.scope y := by first | exact Or.inl rfl | exact Or.inr (Or.inl rfl) | exact Or.inr (Or.inr rfl)) (hd2 : (y == ("__debug__" : Str)) = false := by decide) (hcd2 : (y == ("__classdict__" : Str)) = false := by decide)
    (h1 : PS X (.Expr (.Call (.Attribute (.Subscript (.Name x p1) (.Constant (.int 0) c1 p2) p3) "append" p4) [.Constant .none c2 p5] [] p6) p7) (tDrop (tBM X.K "list" rAppend (tOp (rIxL X.K) (tVar i) (tC (.int 0))) (tCons (tC .non) tNil))))
    (h2 : PS X (.Expr (.Call (.Attribute (.Name y q1) "append" q2) [.Constant .none c3 q3] [] q4) q5) (tDrop (tBM X.K "list" rAppend (tVar j) (tCons (tC .non) tNil)))) :
    Bl X Kb Hb Γ (mAnd (mPot P) mNone) (.Expr (.Call (.Attribute (.Subscript (.Name x p1) (.Constant (.int 0) c1 p2) p3) "append" p4) [.Constant .none c2 p5] [] p6) p7 :: .Expr (.Call (.Attribute (.Name y q1) "append" q2) [.Constant .none c3 q3] [] q4) q5 :: rest) D := by
  intro σ H ⟨K, g, sa, ⟨kP, u, v, hu, hv', hw, hP⟩, _⟩
  obtain ⟨vi, ei, l, ys, evi, hl, hys⟩ := sa.get hi
  obtain ⟨vj, ej, o, ws, evj, ho, hws⟩ := sa.get hj
  subst evi evj
  have h0 : (rows.map (tRs X.K))[0]? = some (tRs X.K (rows.getD 0 [])) := getRR hr0
  obtain ⟨v0, hv0, g0, zs, ev0, hg0, hzs⟩ := hys.at h0
  subst ev0
  have rl0 : Rl K g0 := rl_of hg0 hzs hr1
  have rlo : Rl K o := rl_of ho hws hq
  have hPg : P ≠ g0 := fun z => by rw [z, hg0] at kP; cases kP
  have hPo : P ≠ o := fun z => by rw [z, ho] at kP; cases kP
  have zl : zs.length = (rows.getD 0 []).length := by rw [hzs.len, List.length_map]
  have wl : ws.length = qs.length := by rw [hws.len, List.length_map]
  refine wss_cons (ws_of h1 ⟨_, ei, l, ys, 0, .ref g0, rfl, rfl, SqL.of (g.s _ _ hl), atI_nat (j := 0) hv0, .inl ⟨rfl, _, SqL.of (g.s _ _ hg0)⟩, g0, zs, .non, rfl, rfl, g.s _ _ hg0, small1000 (by omega), ?_⟩)
  have hoH : ∃ us, (upd H g0 (.lst (zs ++ [.non]))) o = some (.lst us) ∧ us.length ≤ 950 := by
    by_cases e : o = g0
    · refine ⟨zs ++ [.non], by rw [e, upd_same], ?_⟩
      rw [List.length_append]
      simp only [List.length_singleton]
      omega
    · exact ⟨ws, by rw [upd_ne e]; exact g.s _ _ ho, by omega⟩
  obtain ⟨us, hus, hul⟩ := hoH
  refine wss_cons (ws_of h2 ⟨_, ej, .inl ⟨rfl, _, SqL.of hus⟩, o, us, .non, rfl, rfl, hus, small1000 (by omega), ?_⟩)
  -- what is frozen from here on
  have s1 : Sat ((Γ.set i none).set j none) σ K := by
    have e1 := sa.drop (i := i) (o := some (V.ref l))
    have z1 : σ.set i (some (V.ref l)) = σ := set_here ei
    rw [z1] at e1
    have e2 := e1.drop (i := j) (o := some (V.ref o))
    have z2 : σ.set j (some (V.ref o)) = σ := set_here ej
    rw [z2] at e2
    exact e2
  have s2 := Sat.hidden rl0 hls s1
  have s3 : Sat ((Γ.set i none).set j none) σ (hide o (hide g0 K)) := by
    by_cases e : o = g0
    · rw [e, hide_twice]
      exact s2
    · refine Sat.hidden ?_ hls s2
      obtain ⟨xs, q, C, dx, vs, r, r1, r2, r3⟩ := rlo
      exact ⟨xs, q, C, dx, vs, r, by rw [hide_ne e]; exact r1, r2, rl_lst rl0 r3 fun _ z => by cases z⟩
  let K2 := hide o (hide g0 K)
  let H2 := upd (upd H g0 (.lst (zs ++ [.non]))) o (.lst (us ++ [.non]))
  have ne : ∀ a, K2 a ≠ none → a ≠ o ∧ a ≠ g0 := fun a h => by
    refine ⟨fun z => h (by show hide o (hide g0 K) a = none; rw [z]; exact hide_same), fun z => h ?_⟩
    show hide o (hide g0 K) a = none
    by_cases e : a = o
    · rw [e]
      exact hide_same
    · rw [hide_ne e, z]
      exact hide_same
  have ex2 : Ex K2 H2 := fun a x h => by
    obtain ⟨n1, n2⟩ := ne a (by rw [h]; exact Option.some_ne_none _)
    show upd (upd H g0 (.lst (zs ++ [.non]))) o (.lst (us ++ [.non])) a = some x
    rw [upd_ne n1, upd_ne n2]
    have h' : hide o (hide g0 K) a = some x := h
    rw [hide_ne n1, hide_ne n2] at h'
    exact g.s a x h'
  have hP2 : H2 P = some (.lst [.int u, .int v]) := by
    show upd (upd H g0 (.lst (zs ++ [.non]))) o (.lst (us ++ [.non])) P = _
    rw [upd_ne hPo, upd_ne hPg]
    exact hP
  have kP2 : K2 P = none := by
    show hide o (hide g0 K) P = none
    rw [hide_ne hPo, hide_ne hPg]
    exact kP
  exact k K2 (hide P H2) hide_same σ H2 ⟨K2, ⟨hide_ex, Ex.refl _, ex2, fun _ _ h => h⟩, s3, ⟨kP2, u, v, hu, hv', hw, hP2⟩, trivial⟩
/-! Walk(shares=.., rows=..) -/
theorem spi_use {α : Type} {C : Addr} {pre : α → Prop} {args : α → List Ty} {ri : α → List (Str × Ty)} {K1 H1 : Hp} {x dx : Addr} {ws : List V} {a : α} {Q : VK} {E : XK} (s : Ex K1 H1) (nx : H1 x = none) (ndx : H1 dx = none) (ne : dx ≠ x) (pa : pre a) (hv : All2 (args a) ws K1) (q : ∀ v K' H', Gr K1 H1 K' H' → (tO C (ri a)).p v K' → Q v H') :
    Spi C pre args ri (.ref x :: ws) (upd (upd H1 dx (.own x)) x (.ins C dx [])) (fun v H2 => v = .non ∧ Q (.ref x) H2) E := by
  have kx : K1 x = none := s.back nx
  have kd : K1 dx = none := s.back ndx
  refine ⟨a, K1, x, dx, ws, rfl, kx, upd_same, pa, (s.past kd).past kx, hv, fun K' H' dx' vs' ek es' kx' hk hf hx hv' => ⟨rfl, ?_⟩⟩
  have e0 : Ex H1 H' := fun b o hb => hk b o (fun z => by rw [z, nx] at hb; cases hb) (by
    rw [upd_ne (fun z => by rw [z, nx] at hb; cases hb), upd_ne (fun z => by rw [z, ndx] at hb; cases hb)]
    exact hb)
  have ek2 : Ex K' (upd K' x (.ins C dx' vs')) := Ex.new kx'
  refine q _ (upd K' x (.ins C dx' vs')) H' ⟨e0, ek.trans ek2, fun b o hb => ?_, fun b hb kb => ?_⟩ ⟨x, dx', vs', rfl, upd_same, hv'.mo ek2⟩
  · by_cases z : b = x
    · subst z
      rw [upd_same] at hb
      rw [← hb]
      exact hx
    · rw [upd_ne z] at hb
      exact es' b o hb
  · have z : b ≠ x := fun z => hb (by rw [z]; exact nx)
    rw [upd_ne z]
    refine hf b ?_ kb
    rw [upd_ne z]
    by_cases zd : b = dx
    · rw [zd, upd_same]
      exact Option.some_ne_none _
    · rw [upd_ne zd]
      exact hb
theorem k_WalkKw {e e2 : Expr} {pos p kp kp2 : Pos} (T : Tx X.K X.mg) (a : Rsh) (hp : pKp a) (h1 : Has X Γ e (tRt X.K a.2)) (h2 : Has X Γ e2 (tT (a.1.map (tRs X.K)))) (hr : Room 11 X.A) (hg : Gl X "Walk" := by rfl)
    (hall : (backToKw pos (keywordEach [⟨some "shares", e, kp⟩, ⟨some "rows", e2, kp2⟩] X.env)).all (·.1.isSome) = true := by rfl) (hks : (backToKw pos (keywordEach [⟨some "shares", e, kp⟩, ⟨some "rows", e2, kp2⟩] X.env)).filterMap (·.1) = ([("shares" : Str), ("rows" : Str)] : List Str) := by rfl)
    (hpl : ((backTo pos (starEach [] X.env)).any (·.1) || (backToKw pos (keywordEach [⟨some "shares", e, kp⟩, ⟨some "rows", e2, kp2⟩] X.env)).any (·.1.isNone)) = false := by rfl) :
    Has X Γ (.Call (.Name "Walk" p) [] [⟨some "shares", e, kp⟩, ⟨some "rows", e2, kp2⟩] pos) (tWk X.K a) := fun σ K H s ga Q q => by
  obtain ⟨fd, F⟩ := (T.m 8 _ rfl).fd
  have kb : KBn X.K fd ["self", "rows", "shares"] 1 ([("shares" : Str), ("rows" : Str)] : List Str) (fun us ws => us ++ ws.reverse) (fun vs zs => vs ++ zs.reverse) := by
    obtain ⟨oc, od, dV, kV, doc, pm, an, cdv, ct, osl, rfl, lk, hcd, hDf, hK⟩ := F.ex
    rcases hDf with ⟨_, rfl⟩ | ⟨e, _⟩
    · refine ⟨fun s us ws _ l1 l2 => ?_, fun r1 r2 => ?_⟩
      · match us, ws, l1, l2 with
        | [a], [b, c], _, _ => exact .of_eq rfl
      · refine r1.append ?_
        have : ∀ {zs : List V} {ws : List Value}, Vals zs ws → Vals zs.reverse ws.reverse := fun {zs ws} h => by
          induction h with
          | nil => exact .nil
          | cons a b ih =>
            rw [List.reverse_cons, List.reverse_cons]
            exact ih.append (.cons a .nil)
        exact this r2
    · exact absurd rfl e
  refine we_of (pe_makeK0 T.mW (f_WInit T true F) hr hg T.gW kb pass0 (pk_cons pe_we (pk_cons pe_we pk_nil)) hall hks (by decide) hpl) (h1 σ K H s ga _ fun v1 K1 H1 g1 t1 => h2 σ K1 H1 g1.s (ga.mo g1.k) _ fun v2 K2 H2 g2 t2 => ?_)
  refine ⟨rfl, rfl, fun x dx nx ndx ne => ?_⟩
  exact spi_use (ws := [v2, v1]) g2.s nx ndx ne hp ⟨t2, (tRt X.K a.2).mo g2.k t1, trivial⟩ fun v K' H' g' tv => q v K' H' ((g1.trans g2).trans g') tv
end
end Z
end
section
set_option Elab.async false
set_option linter.all false
set_option exponentiation.threshold 20000
set_option maxRecDepth 100000
set_option maxHeartbeats 2000000
/-! The law's frame. -/
namespace Z
open PySem PySem.Spec PyProof.Rows L2
section
variable {X : Cx} {Γ : Ctx} {M M' : Mt} {Kb Hb : Hp} {e : Expr} {pos : Pos} {D : Ends} {rest : List Stmt} {ts : List Ty}
theorem bl_retN (h : HasN X Γ e ts) (q : ∀ m K' H' xs, Gr Kb Hb K' H' → K' m = none → Hb m = none → H' m = some (.lst xs) → All2 ts xs K' → D.rt (.ref m) H') : Bl X Kb Hb Γ M (.Return (some e) pos :: rest) D := fun σ H ⟨K, g, sa, m⟩ =>
  wss_cons (ws_of (ps_ret pe_we) (h σ K H g.s sa _ fun m K' H' xs g1 k1 h1 hx xa => q m K' H' xs (g.trans g1) k1 (g.h.back h1) hx xa))
theorem ct_eqE0 {P : Nat → Prop} {i : Int} : CmpT X .Eq (tE P fun d : Nat => tI (d : Int)) (tI i) (tE (fun _ : Bool => True) tB) := ⟨_, op_eq, fun x y K H s ⟨d, hd, hx⟩ hy Q q => by
  have hx' : x = .int (d : Int) := hx
  have hy' : y = .int i := hy
  subst hx' hy'
  exact ⟨rfl, q _ K H (Gr.refl s) ⟨_, trivial, rfl⟩⟩⟩
end
/-- the script -/
def tSq (K : PySem.W.Frag) (ns : List Int) : Ty := ⟨fun v H => ∃ a, v = .ref a ∧ SqL K H a (ns.map V.int), fun {v H H'} e ⟨a, h, q⟩ => ⟨a, h, by
  rcases q with q | q
  · refine .inl ?_
    rcases q with q | ⟨o, q⟩
    · exact .inl (e _ _ q)
    · exact .inr ⟨o, e _ _ q⟩
  · exact .inr q⟩⟩
theorem SqL.ex {K : PySem.W.Frag} {K1 H : Hp} {a : Addr} {xs : List V} (s : Ex K1 H) (q : SqL K K1 a xs) : SqL K H a xs := by
  rcases q with q | q
  · refine .inl ?_
    rcases q with q | ⟨o, q⟩
    · exact .inl (s _ _ q)
    · exact .inr ⟨o, s _ _ q⟩
  · exact .inr q
section
variable {X : Cx} {Γ : Ctx} {e a : Expr} {pos p2 : Pos} {ns : List Int}
theorem ct_lenS : CallT X (.builtin "len") [tSq X.K ns] (tI (ns.length : Int)) := ⟨_, call_len_seq, fun vs K H s hv Q q => by
  obtain ⟨v, rfl, a, rfl, hq⟩ := hv.one
  exact ⟨a, _, rfl, .inl (SqL.ex s hq), q _ K H (Gr.refl s) (by rw [List.length_map]; rfl)⟩⟩
theorem ix_S {k : Nat} (h : k < ns.length) : IxT X (tSq X.K ns) (tI (k : Int)) (tI (ns.getD k 0)) := ⟨_, ix_list, fun x y K H s hx hy Q q => by
  obtain ⟨a, rfl, hq⟩ := hx
  refine ⟨a, _, (k : Int), V.int (ns.getD k 0), rfl, hy, SqL.ex s hq, atI_nat ?_, q _ K H (Gr.refl s) rfl⟩
  rw [List.getElem?_map, M.getD_at h, List.getElem?_eq_getElem h]
  rfl⟩
theorem has_sliceS {n : Nat} (h : Has X Γ e (tSq X.K ns)) (hn : Has X Γ a (tI (n : Int))) : Has X Γ (.Subscript e (.Slice none (some a) none p2) pos) (tIs (ns.take n)) := fun σ K H s g Q q =>
  we_of (pe_slice sl_list pe_we po_none (po_some pe_we)) (h σ K H s g _ fun v K1 H1 g1 ⟨l, ev, hq⟩ => hn σ K1 H1 g1.s (g.mo g1.k) _ fun y K2 H2 g2 hy => ⟨n, hy, l, _, ev, SqL.ex g2.s (SqL.ex g2.k hq), fun p hp => by
    rw [cut_hi, ← List.map_take]
    have g3 := Gr.new (o := .lst ((ns.take n).map V.int)) g2.s hp
    exact q _ _ _ ((g1.trans g2).trans g3) ⟨p, _, rfl, upd_same, All2.of_ints⟩⟩)
end
/-- a new pot -/
def Spn {α : Type} (pre : α → Prop) (args : α → List Ty) : Sp := fun vs H Q _ => ∃ a K, pre a ∧ Ex K H ∧ All2 (args a) vs K ∧ ∀ P K' H', Gr K H K' H' → K' P = none → H P = none → potH H' P → Q (.ref P) H'
/-- all is right -/
def Spr : Sp := fun vs H Q _ => ∃ K P, vs = [.ref P] ∧ K P = none ∧ potH H P ∧ Ex K H ∧ ∀ H', Q (.bl true) H'
section
variable {P : Program} {w : World} {K : PySem.W.Frag} {mg : Str → Option Value} {base : Heap}
theorem abs_nn {x : Int} : 0 ≤ (if x < 0 then -x else x) := by split <;> omega
theorem f_pot (T : Tx K mg) : Cal P w K mg base "_law_pot" 1 (Spn (α := List Int) (fun s => s.length ≤ 900) fun s => [tSq K s, tI 0]) := by
  have d := T.l 0 _ rfl
  obtain ⟨fd, F⟩ := d.fd
  refine ⟨_, fd, ["_law_script", "_law_k"], F.ok (C8.fnScope_by (N := ["_law_script", "_law_k", "_law_cell"]) (P := ["_law_script", "_law_k"]) (by decide +kernel)) (fun vs H Q E h => ?_) (fun cdv A outer s H vs Q E hr h => ?_), d.mg, F.kp, F.bindsN fun _ _ _ _ _ _ us hl => match us, hl with | [_, _], _ => rfl⟩
  · obtain ⟨a, K', _, _, q, _⟩ := h
    rw [q.len]
    rfl
  · obtain ⟨a, K', hp, s', q, k'⟩ := h
    refine ⟨wss (cxB CX0 P w K mg base ["_law_script", "_law_k", "_law_cell"] "_law_pot" (defScope (top 59)) (ca K "_law_pot") ⟨cdv, A, outer, s, H, E⟩) _, PSs.nox pss_wss, ?_⟩
    have nd : (["_law_script", "_law_k", "_law_cell"] : List Str).Nodup := by decide +kernel
    have body : Bl (cxB CX0 P w K mg base ["_law_script", "_law_k", "_law_cell"] "_law_pot" (defScope (top 59)) (ca K "_law_pot") ⟨cdv, A, outer, s, H, E⟩) K' H [some (tSq K a), some (tI 0), none] mNone (defBody (top 59)) { nx := fun _ H' => Q .non H', rt := Q } := by
      refine bl_asg (t := tE (fun i : Int => 0 ≤ i) tI) 2 (has_if (hast_cmp (has_var 1) (k_b1 (T.f 0) b_len ct_lenS (has_var 0)) ct_lt) (fun h => ?_) fun h => ?_) ?_ nd
      · have h0 : 0 < a.length := by
          have := of_decide_eq_true h
          omega
        exact Has.imp (k_b1 (T.f 12) b_abs ct_abs (has_ix (has_var 0) (has_var 1) (ix_S (k := 0) h0))) fun v H h => ⟨_, abs_nn, h⟩
      · exact Has.imp (has_op (has_op (has_op has_int (has_var 1) (bt_mulL (.inl ⟨by decide, by decide⟩))) has_int bt_add) (has_op (k_b1 (T.f 12) b_abs ct_abs (k_b1 (T.f 10) b_sum (ct_sum (ns := a.take 1) rfl) (has_sliceS (n := 1) (has_var 0) has_int))) has_int (bt_mod (by decide))) bt_add) fun v H h => ⟨_, by
          have h1 := Int.emod_nonneg (if (a.take 1).sum < 0 then -(a.take 1).sum else (a.take 1).sum) (by decide : (1000003 : Int) ≠ 0)
          omega, h⟩
      · refine bl_openE 2 rfl fun c hc => ?_
        have h1 : 0 ≤ c % 2147483549 := Int.emod_nonneg _ (by decide)
        have h2 : c % 2147483549 < 2147483549 := Int.emod_lt_of_pos _ (by decide)
        refine bl_retN (hasn_lst (hasa_cons (k_b2 (T.f 13) b_max (ct_max rfl) has_int (has_op (has_var 2) (has_op has_int has_int (bt_pow ⟨by decide, by decide, by decide⟩)) bt_sub)) (hasa_cons (has_op (has_op (k_t1 (T.f 5) b_int ct_int (has_op (has_op (has_op (has_op (k_t1 (T.f 5) b_int ct_int (has_var 2)) has_int (bt_mod (by decide))) has_int (bt_mulL (.inl ⟨by omega, by omega⟩))) (has_op has_int (has_var 1) (bt_mulL (.inl ⟨by decide, by decide⟩))) bt_add) has_int bt_add)) has_int (bt_mod (by decide))) has_int bt_add) hasa_nil)) (by simp)) fun m K2 H2 xs g k1 hm hx xa => ?_
        obtain ⟨u, v, rfl, e1, e2⟩ := xa.two
        have e1' : u = .int _ := e1
        have e2' : v = .int _ := e2
        subst e1' e2'
        have h3 := Int.emod_nonneg (c % 2147483549 * 40709 + 5647 * 0 + 83) (by decide : (2147483563 : Int) ≠ 0)
        have h4 := Int.emod_lt_of_pos (c % 2147483549 * 40709 + 5647 * 0 + 83) (by decide : (0 : Int) < 2147483563)
        exact k' m K2 H2 g k1 hm ⟨_, _, by split <;> omega, by omega, by omega, hx⟩
    exact body _ _ ⟨K', Gr.refl s', by
      have z := Sat.start 1 q
      unfold L2.start
      rw [q.len]
      exact z, trivial⟩
/-- the flow is drawn, whichever way -/
theorem f_flow2 (T : Tx K mg) : Cal P w K mg base "_law_flow" 3 (Spp (α := Nat) (fun n => 2 ≤ n ∧ n ≤ 6) (fun n => [tI (n : Int), tE (fun _ : Bool => True) tB]) fun n => tE (M.Flow n) tNN) := by
  obtain ⟨f, fd, ps, G, a, b, c⟩ := (f_flow (P := P) (w := w) (base := base) T).ex
  refine ⟨f, fd, ps, G.imp fun vs H Q E h => ?_, a, b, c⟩
  obtain ⟨n, K1, y, ws, e, h1, h2, h3, h4, h5, h6⟩ := h
  obtain ⟨v1, v2, rfl, e1, bb, _, e2⟩ := h5.two
  exact ⟨(n, bb), K1, y, _, e, h1, h2, h3, h4, ⟨e1, e2, trivial⟩, h6⟩
def pKf (flow : List (List Nat)) : Prop := ∃ n, M.Flow n flow ∧ 2 ≤ n ∧ n ≤ 5
abbrev cR (P : Program) (w : World) (K : PySem.W.Frag) (mg : Str → Option Value) (base : Heap) (b : Bc) : Cx := cxB CX0 P w K mg base ["_law_pot_here", "_law_many", "_law_flow_here", "_law_cut", "_law_given", "_law_own", "_law_walk_here", "_law_rows_here", "_law_shares_here"] "_law_right" (defScope (top 76)) (ca K "_law_right") b
theorem right_rest (T : Tx K mg) (Fk : Cal P w K mg base "_law_are_kept" 20 (Spp (α := List (List Nat)) pKf (fun flow => [tNN flow]) fun _ => tB true)) {b : Bc} (r : Room 20 (cR P w K mg base b).A) {D : Ends} (hD : ∀ v H', v = V.bl true → D.rt v H') {y : Addr} {Kb Hb : Hp} (hy : Hb y = none) {n : Nat} {flow : List (List Nat)} (f : M.Flow n flow) (h2 : 2 ≤ n) (h5 : n ≤ 5) :
    Bl (cR P w K mg base b) Kb Hb [some (tV (.ref y)), some (tI (n : Int)), some (tNN flow), none, none, none, none, none, none] (mAnd (mPot y) mNone) ((defBody (top 76)).drop 4) D := by
  have nd : (["_law_pot_here", "_law_many", "_law_flow_here", "_law_cut", "_law_given", "_law_own", "_law_walk_here", "_law_rows_here", "_law_shares_here"] : List Str).Nodup := by decide +kernel
  have fw := flow_fw f h2 (by omega)
  have lf := f.toBox.len
  have lr : (M.rowsOf flow).length = n := by unfold M.rowsOf; rw [List.length_map, lf]
  have ls : (M.sharesOf flow).length = n := by unfold M.sharesOf; rw [List.length_map, lf]
  have l0 : ((M.rowsOf flow).getD 0 []).length = n := by
    have := (fw.k.ro.ok _ (M.getD_mem (d := []) (k := 0) (l := M.rowsOf flow) (by omega))).1
    rw [this, lr]
  have hpos : ∀ r ∈ flow, 0 < r.sum := fun r hr => (flow_sums f (by omega) hr).2.1
  have plr : pLr ((M.rowsOf flow, M.sharesOf flow), flow) := ⟨by simp only; omega, by simp only; omega, fun r hr => by simp only; rw [lf]; exact f.toBox.rect r hr, fun r hr => by simp only at hr ⊢; rw [lr]; exact (fw.k.ro.ok r hr).1.trans lr, fun p q hp hq => by simp only at hp hq ⊢; exact ed_same f.toBox hpos (by omega) (by omega)⟩
  refine bl_par (t := tRR K (M.rowsOf flow)) (u := tRs K (M.sharesOf flow)) 4 5 (has_call (f_lrows T) flow fw.f (hasa_cons (has_var 2) hasa_nil) (r.mono (by decide))) (has_call (f_lshares T) flow fw.s (hasa_cons (has_var 2) hasa_nil) (r.mono (by decide))) ?_ nd
  refine bl_asg 6 (k_Walk T (M.rowsOf flow, M.sharesOf flow) fw.k (has_var 4) (has_var 5) (r.mono (by decide))) ?_ nd
  refine bl_apps (P := y) (rows := M.rowsOf flow) (qs := M.sharesOf flow) 4 5 rfl rfl (by omega) (by omega) (by omega) (by omega) (by omega) ⟨ls_V, ls_V, ls_NN, ls_W, trivial⟩ (fun K2 H2 hP2 => ?_) rfl rfl (Or.inl rfl) (by decide) (by decide) (Or.inl rfl) (by decide) (by decide)
    (ps_expr (pe_bm PySem.F.plainAttrs_list PySem.F.slot_list_append PySem.F.type_list_append mt_append (pe_ix ix_list (pe_var rfl (Or.inl rfl)) pe_int (fun _ _ => rfl)) (pa_cons pe_non pa_nil))) (ps_expr (pe_bm PySem.F.plainAttrs_list PySem.F.slot_list_append PySem.F.type_list_append mt_append (pe_var rfl (Or.inl rfl)) (pa_cons pe_non pa_nil)))
  refine bl_if (k := false) (hast_w (hasw_or (k := false) (l := false) (hast_cmp (k_rows T (M.rowsOf flow, M.sharesOf flow) (by simp only; omega) (has_var 6) (r.mono (by decide))) (has_call (f_lrows T) flow fw.f (hasa_cons (has_var 2) hasa_nil) (r.mono (by decide))) (ct_neRR T (r.mono (by decide)))) fun _ => hasw_or (k := false) (l := false) (hast_cmp (k_shares T (M.rowsOf flow, M.sharesOf flow) (has_var 6) (r.mono (by decide))) (has_call (f_lshares T) flow fw.s (hasa_cons (has_var 2) hasa_nil) (r.mono (by decide))) (ct_neRs T (r.mono (by decide)))) fun _ => hasw_or1 (hast_not (hast_val (has_call (f_lot_right T) ((M.rowsOf flow, M.sharesOf flow), flow) plr (hasa_cons (has_var 6) (hasa_cons (has_var 2) hasa_nil)) (r.mono (by decide))))))) (fun h => by cases h) fun _ => bl_fall ?_
  refine bl_par (t := tRR K (M.rowsOf flow)) (u := tRs K (M.sharesOf flow)) 7 8 (k_rows T (M.rowsOf flow, M.sharesOf flow) (by simp only; omega) (has_var 6) (r.mono (by decide))) (k_shares T (M.rowsOf flow, M.sharesOf flow) (has_var 6) (r.mono (by decide))) ?_ nd
  refine bl_apps (P := y) (rows := M.rowsOf flow) (qs := M.sharesOf flow) 7 8 rfl rfl (by omega) (by omega) (by omega) (by omega) (by omega) ⟨ls_V, ls_V, ls_NN, ls_W, trivial⟩ (fun K3 H3 hP3 => ?_) rfl rfl (Or.inl rfl) (by decide) (by decide) (Or.inl rfl) (by decide) (by decide)
    (ps_expr (pe_bm PySem.F.plainAttrs_list PySem.F.slot_list_append PySem.F.type_list_append mt_append (pe_ix ix_list (pe_var rfl (Or.inl rfl)) pe_int (fun _ _ => rfl)) (pa_cons pe_non pa_nil))) (ps_expr (pe_bm PySem.F.plainAttrs_list PySem.F.slot_list_append PySem.F.type_list_append mt_append (pe_var rfl (Or.inl rfl)) (pa_cons pe_non pa_nil)))
  refine bl_if (k := false) (hast_w (hasw_or (k := false) (l := false) (HasT.is (hast_cmp (has_var 6) (k_WalkKw T (M.rowsOf flow, M.sharesOf flow) fw.k (k_t1 (T.f 7) b_tuple ct_tupL (has_call (f_lshares T) flow fw.s (hasa_cons (has_var 2) hasa_nil) (r.mono (by decide)))) (k_t1 (T.f 7) b_tuple ct_tupL (has_call (f_lrows T) flow fw.f (hasa_cons (has_var 2) hasa_nil) (r.mono (by decide)))) (r.mono (by decide))) (ct_neW T ⟨Same2.refl _, rfl⟩ (r.mono (by decide)))) (by rw [decide_eq_true rfl, decide_eq_true rfl]; rfl)) fun _ => hasw_or1 (hast_cmp (has_var 6) (has_call (f_lrows T) flow fw.f (hasa_cons (has_var 2) hasa_nil) (r.mono (by decide))) (ct_eqWL T (r.mono (by decide)))))) (fun h => by cases h) fun _ => bl_fall ?_
  exact bl_retC (hasc_pot Fk flow ⟨n, f, h2, h5⟩ 0 rfl hP3 mNone.fr (hasac_cons (Has.cc (has_var 2)) hasac_nil) r) fun v K' H' g m h => hD v H' h
theorem f_right (T : Tx K mg) (Fd : Cal P w K mg base "_law_drawn_right" 20 (Spp (α := Nat) (fun n => 2 ≤ n ∧ n ≤ 4) (fun n => [tI (n : Int)]) fun _ => tB true)) (Fk : Cal P w K mg base "_law_are_kept" 20 (Spp (α := List (List Nat)) pKf (fun flow => [tNN flow]) fun _ => tB true)) : Cal P w K mg base "_law_right" 21 Spr := by
  have d := T.l 17 _ rfl
  obtain ⟨fd, F⟩ := d.fd
  refine ⟨_, fd, ["_law_pot_here"], F.ok (C8.fnScope_by (N := ["_law_pot_here", "_law_many", "_law_flow_here", "_law_cut", "_law_given", "_law_own", "_law_walk_here", "_law_rows_here", "_law_shares_here"]) (P := ["_law_pot_here"]) (by decide +kernel)) (fun vs H Q E h => ?_) (fun cdv A outer s H vs Q E hr h => ?_), d.mg, F.kp, F.bindsN fun _ _ _ _ _ _ us hl => match us, hl with | [_], _ => rfl⟩
  · obtain ⟨K', y, rfl, _⟩ := h
    rfl
  · obtain ⟨K', y, rfl, ky, hyp, s', k'⟩ := h
    refine ⟨wss (cR P w K mg base ⟨cdv, A, outer, s, H, E⟩) _, PSs.nox pss_wss, ?_⟩
    have nd : (["_law_pot_here", "_law_many", "_law_flow_here", "_law_cut", "_law_given", "_law_own", "_law_walk_here", "_law_rows_here", "_law_shares_here"] : List Str).Nodup := by decide +kernel
    have hs : Ex K' (hide y H) := fun b o e => by
      rw [hide_ne fun z => by rw [z, ky] at e; cases e]
      exact s' b o e
    have hy : hide y H y = none := hide_same
    have r : Room 20 (cR P w K mg base ⟨cdv, A, outer, s, H, E⟩).A := hr
    have hD : ∀ v H', v = V.bl true → (Q : VK) v H' := fun v H' e => e ▸ k' H'
    have body : Bl (cR P w K mg base ⟨cdv, A, outer, s, H, E⟩) K' (hide y H) [some (tV (.ref y)), none, none, none, none, none, none, none, none] (mAnd (mPot y) mNone) (defBody (top 76)) { nx := fun _ H' => Q .non H', rt := Q } := by
      refine bl_asgC 1 (hasc_op (Has.cc (has_int (i := 2))) (hasc_draw T 4 (by decide) (by decide) 0 rfl hy mNone.fr (Has.cc has_int) (r.mono (by decide))) (bt_addE (c := 2))) ?_ nd
      refine bl_openE 1 rfl fun n hn => ?_
      obtain ⟨n0, hn0, rfl⟩ := hn
      have hn2 : 2 ≤ 2 + n0 := by omega
      have hn5 : 2 + n0 ≤ 5 := by omega
      generalize 2 + n0 = n at hn2 hn5
      refine bl_ifC (hastc_cmp (hasc_draw T 2 (by decide) (by decide) 0 rfl hy mNone.fr (Has.cc has_int) (r.mono (by decide))) (Has.cc has_int) ct_eqE0) (fun _ => ?_) fun _ => bl_fall ?_
      · refine bl_retC (hasc_pot Fd (min 4 n) ⟨by omega, by omega⟩ 0 rfl hy mNone.fr (hasac_cons (Has.cc (Has.is (k_b2 (T.f 14) b_min (ct_min rfl) has_int (has_var 1)) ?_)) hasac_nil) r) fun v K' H' g m h => hD v H' h
        congr 2
        split <;> omega
      · refine bl_asgC 2 (hasc_pot (f_flow2 T) n ⟨hn2, by omega⟩ 0 rfl hy mNone.fr (hasac_cons (Has.cc (has_var 1)) (hasac_cons (hasc_cmp (hasc_draw T 2 (by decide) (by decide) 0 rfl hy mNone.fr (Has.cc has_int) (r.mono (by decide))) (Has.cc has_int) ct_eqE0) hasac_nil)) (r.mono (by decide))) ?_ nd
        refine bl_openE 2 rfl fun flow hf => ?_
        refine bl_ifC (hastc_cmp (hasc_draw T 2 (by decide) (by decide) 0 rfl hy mNone.fr (Has.cc has_int) (r.mono (by decide))) (Has.cc has_int) ct_eqE0) (fun _ => ?_) fun _ => bl_fall (right_rest T Fk r hD hy hf hn2 hn5)
        have hz : (n : Int) - 1 = ((n - 1 : Nat) : Int) := by omega
        refine bl_asgC 3 (hasc_op (Has.cc (has_int (i := 1))) (hasc_draw T (n - 1) (by omega) (by omega) 0 rfl hy mNone.fr (Has.cc (Has.is (has_op (has_var 1) has_int bt_sub) (by rw [hz]))) (r.mono (by decide))) (bt_addE (c := 1))) ?_ nd
        refine bl_openE 3 rfl fun c hc => ?_
        refine bl_asg 2 (has_call (f_apart T) (flow, c) ⟨by simp only; rw [hf.toBox.len]; omega, fun r hr => by simp only at hr ⊢; rw [hf.toBox.len]; exact hf.toBox.rect r hr⟩ (hasa_cons (has_var 2) (hasa_cons (has_var 3) hasa_nil)) (r.mono (by decide))) ?_ nd
        exact bl_fall ((right_rest T Fk r hD hy (M.apart_flow hf) hn2 hn5).sub ⟨fun _ _ h => h, fun _ _ h => h, fun _ _ h => h, trivial⟩ fun _ _ h => h)
    exact body _ _ ⟨K', ⟨hide_ex, Ex.refl _, s', fun _ _ z => z⟩, ⟨⟨_, rfl, rfl⟩, trivial⟩, ⟨ky, hyp⟩, trivial⟩
end
end Z
end
section
set_option Elab.async false
set_option linter.all false
set_option exponentiation.threshold 20000
set_option maxRecDepth 100000
set_option maxHeartbeats 2000000
namespace Z
open PySem PySem.Spec PyProof.Rows L2
section
variable {P : Program} {w : World} {K : PySem.W.Frag} {mg : Str → Option Value} {base : Heap}
def SpL (K : PySem.W.Frag) : Sp := fun vs H Q _ => ∃ (a : Addr) (ns : List Int), vs = [.ref a] ∧ ns.length ≤ 900 ∧ SqL K H a (ns.map V.int) ∧ ∀ H', Q (.bl true) H'
theorem fn_law (T : Tx K mg) (Fr : Cal P w K mg base "_law_right" 21 Spr) {fd : FuncData} (F : FunD K "law" "law" (defArgs (top 77)) (defBody (top 77)) (defScope (top 77)) [] [] (ca K "law") fd) : FnOk P w K mg base CX0 22 (ca K "law") fd ["_law_script"] (SpL K) := by
  refine F.ok (C8.fnScope_by (N := ["_law_script"]) (P := ["_law_script"]) (by decide +kernel)) (fun vs H Q E h => ?_) (fun cdv A outer s H vs Q E hr h => ?_)
  · obtain ⟨a, ns, rfl, _⟩ := h
    rfl
  · obtain ⟨a, ns, rfl, hl, hq, k'⟩ := h
    obtain ⟨f1, fd1, ps1, G1, hm1, hk1, hb1⟩ := Fr.ex
    obtain ⟨f2, fd2, ps2, G2, hm2, hk2, hb2⟩ := (f_pot (P := P) (w := w) (base := base) T).ex
    refine ⟨_, PSs.nox (pss_one (ps_ret (pe_call (X := cxB CX0 P w K mg base ["_law_script"] "law" (defScope (top 77)) (ca K "law") ⟨cdv, A, outer, s, H, E⟩) G1 hr rfl hm1 hk1 hb1 .nil pass0 (pa_cons (pe_call G2 (hr.mono (by decide)) rfl hm2 hk2 hb2 .nil pass0 (pa_cons (pe_var (i := 0) rfl (Or.inl rfl)) (pa_cons pe_int pa_nil))) pa_nil)))), ?_⟩
    refine ⟨.ref a, rfl, ?_⟩
    have main : Spn (fun s => s.length ≤ 900) (fun s => [tSq K s, tI 0]) [.ref a, .int 0] H (fun v H1 => Spr [v] H1 Q E0) E0 := by
      refine ⟨ns, H, hl, Ex.refl _, ⟨⟨a, rfl, hq⟩, rfl, trivial⟩, fun P2 K' H' g2 k2 h2 hp => ?_⟩
      exact ⟨hide P2 K', P2, rfl, hide_same, hp, fun x o h => g2.s x o (hide_ex x o h), k'⟩
    exact main
end
end Z
end
section
set_option Elab.async false
set_option linter.all false
set_option exponentiation.threshold 20000
set_option maxRecDepth 100000
set_option maxHeartbeats 2000000
/-! Within an except suite: unpacking a tuple, comprehensions over range. -/
namespace Z
open PySem PySem.Spec PyProof.Rows L2
section
open HotX
variable {prog : Program} {w : World} {A : Around} {E : Value → Shared → Prop} {s : Shared}
theorem tup_endH {x1 it t : Addr} {i : Nat} {xs : Array Value} {Q : Option Value → Shared → Prop} (hot : HotAt A x1 s.heap) (hit : IsTupIter s.heap it t i) (ht : IsTup s.heap t xs) (hx : xs[i]? = none)
    (q : ∀ h', Heap.ExtBut it s.heap h' → Q none { s with heap := h' }) : wpAny (model prog w) A (pyNext (.ref it)) Q E s := by
  obtain ⟨oi, hi1, hi2, hi3⟩ := id hit
  obtain ⟨ot, ht1, _, nt, ht3⟩ := ht
  obtain ⟨hh, o1, vs1, g1, d1, c1⟩ := hot
  have nit : x1 ≠ it := fun z => by
    rw [z, hi1] at g1
    cases g1
    rw [hi3] at d1
    cases d1
    simp at c1
  unfold pyNext
  refine wpAny_bind (wpAny_attempt (wpAny_callSpecial?_slot (name := Str.ofString "__next__") hit.typeIs slot_tupleiter_next (wpAny_call_entry slot_tupleiter_next hit.typeIs entry_tupleiter_next ?_ (args_tupleiter_next _))))
  show wpAny _ _ (field (.ref it) 0 >>= _) _ _ s
  refine wpAny_bind (wpAny_field hi1 hi3 (x := .ref t) rfl ?_)
  have nn : ¬ ((Value.ref t == Value.none) = true) := Bool.false_ne_true
  show wpAny _ _ (if (Value.ref t == Value.none) = true then _ else _) _ _ s
  rw [if_neg nn]
  show wpAny _ _ (field (.ref it) 1 >>= _) _ _ s
  refine wpAny_bind (wpAny_field hi1 hi3 (x := .int i 0) rfl ?_)
  show wpAny _ _ (seqItems? (.ref t) >>= _) _ _ s
  refine wpAny_bind (wpAny_seqItems ht1 ht3 ?_)
  simp only [Int.toNat_natCast, hx]
  refine wpAny_bind (wpAny_rule (wpAny_bind (wpAny_setField hi1 hi3 (by simp) ?_)))
  show wpAny _ _ (newExc (.type "StopIteration") [] >>= _) _ _ _
  refine wpAny_bind ?_
  simp only [newExc, newTuple]
  refine wpAny_bind (wpAny_newObj_type ?_ (by size_fits))
  have fa : ∀ {o : Obj}, True := fun {_} => trivial
  refine wpAny_bind (m := firstArgMember _ _) (wpAny_of_eq (a := Value.none) (by first | rfl | (simp only [firstArgMember]; rfl)) ?_)
  refine wpAny_newObj_type ?_ (by size_fits)
  have g2 : ∀ {f : Obj → Obj}, (s.heap.update it f).get? x1 = some o1 := fun {f} => (Heap.get?_update_other _ _ (Ne.symm nit)).trans g1
  refine raiseNew_hot ⟨hh, o1, vs1, Heap.get?_push_of_some _ (Heap.get?_push_of_some _ g2), d1, c1⟩ (Nat.ne_of_lt (Heap.lt_size (Heap.get?_push_of_some _ g2))) (Heap.get?_push_size _ rfl) rfl (by first | (simp; done) | (simp; omega) | (simp only [Array.size_append]; simp; omega)) ?_
  refine wpAny_bind (wpAny_isInstance (T := "StopIteration") (b := true) ⟨_, Heap.get?_update_self _ (Heap.get?_push_size _ rfl) rfl, rfl⟩ isSubtype_stop ?_)
  refine wpAny_pure (q _ fun b o nb e => ?_)
  have e2 : ∀ {f : Obj → Obj}, (s.heap.update it f).get? b = some o := fun {f} => (Heap.get?_update_other _ _ (Ne.symm nb)).trans e
  rw [Heap.get?_update_other _ _ (Nat.ne_of_gt (Heap.lt_size (Heap.get?_push_of_some _ e2)))]
  exact Heap.get?_push_of_some _ (Heap.get?_push_of_some _ e2)
theorem unpackH {x1 t : Addr} {xs : Array Value} {Q : List Value → Shared → Prop} (hot : HotAt A x1 s.heap) (ht : IsTup s.heap t xs) (q : ∀ h', Heap.ExtBut s.heap.objs.size s.heap h' → Q xs.toList { s with heap := h' }) : wpAny (model prog w) A (unpackItems (.ref t) xs.size none) Q E s := by
  obtain ⟨hh, o1, vs1, g1, d1, c1⟩ := hot
  have nt : t ≠ s.heap.objs.size := by
    obtain ⟨o, ho, _⟩ := ht
    exact Nat.ne_of_lt (Heap.lt_size ho)
  have n1 : x1 ≠ s.heap.objs.size := Nat.ne_of_lt (Heap.lt_size g1)
  unfold unpackItems
  refine wpAny_bind ?_
  unfold notIterableAtAll
  refine wpAny_bind (wpAny_specialOf ht.typeIs slot_tuple_iter.lookup (wpAny_pure ?_))
  simp only [Bool.false_eq_true, if_false]
  refine wpAny_bind (wpAny_holding (iter_tuple ht (wpAny_bind (wpAny_holding (draw_tuple nt xs.size 0 _ _ ⟨_, Heap.get?_push_size _ rfl, rfl, rfl⟩ (ht.push _) (by omega) fun h1 i1 b1 => ?_)))))
  have al : List.take xs.size (List.drop 0 xs.toList) = xs.toList := by
    rw [List.drop_zero]
    exact List.take_of_length_le (by simp)
  rw [al, if_neg (by simp)]
  have t1 : IsTup h1 t xs := (ht.push _).extBut b1.extBut nt
  have k1 : h1.get? x1 = some o1 := b1.extBut x1 o1 n1 (Heap.get?_push_of_some _ g1)
  refine wpAny_bind (wpAny_holding (tup_endH ⟨hh, o1, vs1, k1, d1, c1⟩ i1 t1 (by simp) fun h2 e2 => ?_))
  simp only [Option.isSome_none, Bool.false_eq_true, if_false]
  exact wpAny_pure (q h2 fun b o hb e => e2 b o hb (b1.extBut b o hb (Heap.get?_push_of_some _ e)))
end
section
open L2H
variable {X : Cx}
theorem pg_tupH {es : List Expr} {k n : Nat} {t : TGs} {pos : Pos} (hc : HotC X) (h : PGs X es t) (hn : (assignEach es X.env).length = n := by rfl) (hst : (assignEach es X.env).findIdx? (·.1) = none := by rfl) : PG X (.Tuple es k pos) (gTup X.K n t) := ⟨fun pins s σ H v u Q I r hw => by
  obtain ⟨a, xs, rfl, hq, hl, hw⟩ := hw
  cases r
  obtain ⟨its, rv, ht, hz⟩ := I.tuple hq
  obtain ⟨x1, hot⟩ := hc.at I
  have hsz : (assignEach es X.env).length = its.toArray.size := by rw [hn, ← hl, rv.length, List.size_toArray]
  rw [assign_Tuple]
  refine wpAny_bind (wpAny_standAt ?_)
  unfold unpack
  rw [hsz, hst]
  refine wpAny_bind (wpAny_holding (unpackH hot ht fun h' hx => ?_))
  have I1 : Inv X pins σ H { s with heap := h' } := I.kept (t' := s.toks) fun b o e => hx b o (Nat.ne_of_lt (Heap.lt_size e)) e
  exact h.run pins _ σ H xs _ Q I1 rv hw⟩
end
end Z
end
section
set_option Elab.async false
set_option linter.all false
set_option exponentiation.threshold 20000
set_option maxRecDepth 100000
set_option maxHeartbeats 2000000
/-! Within an except suite: comprehensions over range. -/
namespace Z
open PySem PySem.Spec PyProof.Rows L2 L2H
/-- a block's context that bears the handled exception -/
abbrev blkP (X : Cx) (s : Shared) (H : Hp) (scope : Scope) (ce : Env) (fp : List Addr) (p : Addr × Obj) : Cx := { X.blk s H scope ce fp with pn := [p] }
section
variable {X : Cx} {p : Addr × Obj}
theorem inv_blkP {s s' : Shared} {H H' : Hp} {scope : Scope} {ce : Env} {fp : List Addr} {σ : St} (I : Inv (X.blk s H scope ce fp) [] σ H' s')
    (h : s'.heap.get? p.1 = some p.2 ∧ H' p.1 = none ∧ p.1 ≠ ce.locals ∧ p.1 ∉ frs X.stack ∧ ∀ v, p.2.data ≠ .cell v) : Inv (blkP X s H scope ce fp p) [] σ H' s' :=
  have k := I.ok
  ⟨⟨k.mod, k.kind, k.glob, k.blt, k.above, k.inj, k.has, k.cab, k.hd, k.frames, k.stk, k.exf, k.bs, k.bsz, k.noex, k.exfs, k.funs, k.frf⟩,
    I.os, I.bare, I.base, I.loc, I.cell, I.free, I.freeC, fun q hq => by
      have e : q = p := by simpa using (show q ∈ [p] ++ ([] : List (Addr × Obj)) from hq)
      rw [e]
      exact h, I.hok, I.len⟩
theorem hot_blkP (hot : Hot1 X.A p) {s : Shared} {H : Hp} {scope : Scope} {ce : Env} {fp : List Addr} : HotC (blkP X s H scope ce fp p) := ⟨p, hot, List.mem_singleton.mpr rfl⟩
variable {elt tg iter : Expr} {ifs : List Expr} {scope : Scope} {own : List (Str × Nat)} {pos : Pos} {wi : TI} {g : TG} {tt : TT} {te : TE}
theorem lcH {pins : List (Addr × Obj)} {s : Shared} {σ : St} {H : Hp} {Q : VK} {pos' : Pos} {use : Option (Value → Sem Unit)} {Qf : Value → Shared → Prop} (hot : Hot1 X.A p) (hp : p ∈ X.pn) (hN : X.N.Nodup) (I : Inv X pins σ H s) (hi : PIH X tg iter wi) (ok : BlkOk X.N X.env.scope scope own)
    (hg : ∀ s H C cl fp, PG (blkP X s H scope (compEnvC scope cl C X.env) fp p) tg g) (ht : ∀ s H C cl fp, PTs (blkP X s H scope (compEnvC scope cl C X.env) fp p) ifs tt) (he : ∀ s H C cl fp, PE (blkP X s H scope (compEnvC scope cl C X.env) fp p) elt te)
    (hs : ∀ x, foldedSetIterable iter X.env x = pure x) (h : tLc wi g tt te (own.map (·.2)) σ H Q)
    (fin : ∀ D C s' m H', Inv X pins σ H' s' → Q (.ref D) H' → s'.heap.Ns C m → FpOk X pins H' C → compPost (model X.prog X.w) X.A X.xe use Qf (.ref D) C (.ok .next) s') :
    wpAny (model X.prog X.w) X.A (comprehension (.ListComp elt [⟨tg, iter, ifs, 0⟩] scope pos) scope X.env pos' (newList []) false (eval iter X.env) use) Qf X.xe s := by
  have fr : ∀ y ∈ scope.names, y.2 = .free → ∃ c, X.env.cells.lookup y.1 = some c := fun y hy e => (ok.free y hy e).elim (fun k => I.ok.has _ (.inl k)) fun k => I.ok.has _ (.inr k)
  have go := hi.run pins s σ H _ I h
  refine wpAny_comprehension_free (use := use) rfl hs (closure_ok fr) ok.kind (fun y hy e => (ok.uniq y hy).trans (by rw [e])) (thn go fun xv sa hx => thn hx fun itv sb hb => ?_)
  obtain ⟨it, fp, tn, J, Hb, rfl, Ib, T, stb, fb, q⟩ := hb
  refine wpAny_newObj_type (newEnv_comp ?_) (Nat.zero_le _)
  obtain ⟨D, hD⟩ : ∃ D, sb.heap.objs.size = D := ⟨_, rfl⟩
  rw [hD]
  have nD : Hb D = none := Ib.hok.fresh (Nat.le_of_eq hD)
  obtain ⟨W, ⟨m0, w0⟩, turn⟩ := q D nD
  have pinX := Ib.pin p (List.mem_append_left _ hp)
  have pD : p.1 < sb.heap.objs.size := Heap.lt_size pinX.1
  obtain ⟨sc, hsc⟩ : ∃ sc : Shared, sc = { sb with heap := sb.heap.push { cls := .type "list", data := .seq ([] : List Value).toArray } } := ⟨_, rfl⟩
  have hpc : sc.heap = sb.heap.push { cls := .type "list", data := .seq ([] : List Value).toArray } := by rw [hsc]
  have Ic : Inv X pins σ (upd Hb D (.lst [])) sc := by
    rw [hsc]
    refine Ib.laid (t' := sb.toks) (fun b o e => Heap.get?_push_of_some _ e) (Nat.le_of_eq hD) ⟨Nat.zero_le _, [], 0, .nil, ?_⟩
    rw [← hD]
    exact Heap.get?_push_size _ rfl
  have low : ∀ b ∈ fp, b < sb.heap.objs.size := fun b hb => let ⟨_, e, _⟩ := T.obj _ _ stb b hb; Heap.lt_size e
  have fc : ∀ b ∈ fp, FpOk X pins (upd Hb D (.lst [])) b ∧ b < sc.heap.objs.size := fun b hb => by
    have l := low b hb
    refine ⟨⟨?_, (fb b hb).2⟩, ?_⟩
    · rw [upd_ne fun z => Nat.ne_of_lt l (z.trans hD.symm)]
      exact (fb b hb).1
    · rw [hpc, Heap.size_push]
      exact Nat.lt_succ_of_lt l
  have stc : tn 0 sc.heap := T.keep _ _ _ stb fun b _ o e => by
    rw [hpc]
    exact Heap.get?_push_of_some _ e
  have Id := block_start Ic ok hN fc
  obtain ⟨cl, hcl⟩ : ∃ cl, cellsFrom (sc.heap.objs.size + 1) scope.names (cloFrom X.env.cells scope.names []) = cl := ⟨_, rfl⟩
  rw [hcl] at Id
  have pgC := hg sc (upd Hb D (.lst [])) sc.heap.objs.size cl fp
  have ptC := ht sc (upd Hb D (.lst [])) sc.heap.objs.size cl fp
  have peC := he sc (upd Hb D (.lst [])) sc.heap.objs.size cl fp
  have tgt : codeAny (model X.prog X.w) X.A (.compStart (.ListComp elt [⟨tg, iter, ifs, 0⟩] scope pos) 0 (.ref it) (.ref D) (compEnvC scope cl sc.heap.objs.size X.env)) (compPost (model X.prog X.w) X.A X.xe use Qf (.ref D) sc.heap.objs.size) { sc with heap := pushCells (sc.heap.push { cls := .type "dict", data := .dict #[] }) scope.names } := by
    have kp : ∀ b o, sc.heap.get? b = some o → (pushCells (sc.heap.push { cls := .type "dict", data := .dict #[] }) scope.names).get? b = some o := fun b o e => pushCells_keeps _ _ _ _ (Heap.get?_push_of_some _ e)
    have nfp : ∀ b ∈ fp, (upd Hb D (.lst [])) b = none := fun b hb => (fc b hb).1.1
    have pinC : sc.heap.get? p.1 = some p.2 := by
      rw [hpc]
      exact Heap.get?_push_of_some _ pinX.1
    have pH : upd Hb D (.lst []) p.1 = none := by
      rw [upd_ne fun z => Nat.ne_of_lt pD (z.trans hD.symm)]
      exact pinX.2.1
    have pstk : p.1 ∉ frs X.stack := fun z => (List.mem_cons.mp (Ib.stkSub _ z)).elim pinX.2.2.1 pinX.2.2.2.1
    have pL : p.1 ≠ sc.heap.objs.size := Nat.ne_of_lt (Heap.lt_size pinC)
    obtain ⟨ce, hce⟩ : ∃ ce, compEnvC scope cl sc.heap.objs.size X.env = ce := ⟨_, rfl⟩
    have cL : ce.locals = sc.heap.objs.size := by rw [← hce]; rfl
    rw [hce] at Id pgC ptC peC ⊢
    obtain ⟨Hc, hHc⟩ : ∃ Hc, upd Hb D (.lst []) = Hc := ⟨_, rfl⟩
    rw [hHc] at Ic Id pgC ptC peC w0 nfp fc pH
    obtain ⟨sd, hsd⟩ : ∃ sd : Shared, ({ sc with heap := pushCells (sc.heap.push { cls := .type "dict", data := .dict #[] }) scope.names } : Shared) = sd := ⟨_, rfl⟩
    rw [hsd] at Id ⊢
    have std : tn 0 sd.heap := T.keep _ _ _ stc fun b _ o e => by
      rw [← hsd]
      exact kp b o e
    have Ie := inv_blkP (p := p) Id ⟨by rw [← hsd]; exact kp _ _ pinC, pH, by rw [cL]; exact pL, pstk, pinX.2.2.2.2⟩
    have stat : ∀ {σ' : St} {H' : Hp} {s' : Shared}, Inv (blkP X sc Hc scope ce fp p) [] σ' H' s' → (∀ b ∈ fp, H' b = none) → ∀ b ∈ fp, FpOk (blkP X sc Hc scope ce fp p) [] H' b := fun {σ' H' s'} I' hn b hb => by
      refine ⟨hn b hb, (I'.ok.exf b hb).1, I'.ok.exfs b hb, .inl hb, fun x c e => (I'.ok.exf b hb).2 x c e, fun q hq => ?_⟩
      have e : q = p := by simpa using (show q ∈ [p] ++ ([] : List (Addr × Obj)) from hq)
      rw [e]
      exact (fc b hb).1.2.2.2.2.2 p (List.mem_append_left _ hp)
    have hc : HotC (blkP X sc Hc scope ce fp p) := hot_blkP hot
    have loop : codeAny (model X.prog X.w) X.A (.compLoop (.ListComp elt [⟨tg, iter, ifs, 0⟩] scope pos) 0 (.ref it) (.ref D) ce) (compPost (model X.prog X.w) X.A X.xe use Qf (.ref D) sc.heap.objs.size) sd := by
      refine compLoop_any (fun n t => ∃ i Ht, Inv (blkP X sc Hc scope ce fp p) [] (L2.wipe σ (own.map (·.2))) Ht t ∧ tn i t.heap ∧ (∀ b ∈ fp, Ht b = none) ∧ W i n Ht) ?_ m0 ⟨0, Hc, Ie, std, nfp, w0⟩
      rintro n t5 ⟨i, H5, I5, st5, n5, w5⟩
      rcases turn i n H5 w5 with ⟨stop, qq⟩ | ⟨gon, Nx, hNx, step⟩
      · refine thnF (T.done (blkP X sc Hc scope ce fp p) rfl rfl rfl hc i [] t5 _ H5 (fun _ _ => False) I5 (stat I5 n5) st5 stop) fun r t6 ⟨hr, I6⟩ => ?_
        subst hr
        have I7 : Inv X pins σ H5 t6 := Ic.call' (ch := fp) I6.os I6.base I6.hok I6.bare fun b hb => let z := (fc b hb).1; ⟨z.2.2.2.1, z.2.1, z.2.2.2.2.1, z.2.2.2.2.2⟩
        have nC : H5 sc.heap.objs.size = none := by
          rw [← cL]
          exact I6.free
        obtain ⟨m, hn, _⟩ := I6.loc
        have hn' : t6.heap.Ns sc.heap.objs.size m := by
          rw [← cL]
          exact hn
        exact fin D sc.heap.objs.size t6 m H5 I7 qq hn' (Ic.fpOk (Nat.le_refl _) nC)
      · refine thnF (T.item (blkP X sc Hc scope ce fp p) rfl rfl rfl hc i [] t5 _ H5 (fun _ _ => False) I5 (stat I5 n5) st5 gon) fun r t6 ⟨u, hr, h6⟩ => ?_
        subst hr
        refine thnF h6 fun _ t7 ⟨x, H7, I7, r7, y7, st7, n7⟩ => ?_
        refine thnF (pgC.run _ t7 _ H7 x u _ (I7.pinned (stat I7 n7) (T.obj _ _ st7)) r7 (step x H7 y7)) fun _ t8 ⟨σ8, H8, I8, hw8, q8⟩ => ?_
        refine thnF (ptC.run _ t8 σ8 H8 _ I8 q8) fun b t9 ⟨H9, I9, q9⟩ => ?_
        have next : ∀ {t : Shared} {Ht : Hp}, Inv (blkP X sc Hc scope ce fp p) ([] ++ pinsAt fp t7.heap) σ8 Ht t → Nx Ht → ∃ m, m < n ∧ ∃ i H', Inv (blkP X sc Hc scope ce fp p) [] (L2.wipe σ (own.map (·.2))) H' t ∧ tn i t.heap ∧ (∀ b ∈ fp, H' b = none) ∧ W i m H' := fun {t Ht} It nx => by
          obtain ⟨m', hm, w'⟩ := hNx Ht nx
          have pk : ∀ b ∈ fp, ∀ o, t7.heap.get? b = some o → t.heap.get? b = some o ∧ Ht b = none := fun b hb o e =>
            have z := It.pin (b, o) (List.mem_append_right _ (List.mem_append_right _ (mem_pinsAt hb e)))
            ⟨z.1, z.2.1⟩
          have hl : (L2.wipe σ (own.map (·.2))).length = σ8.length := by rw [← hw8, wipe_length]
          refine ⟨m', hm, i + 1, Ht, (It.unpinned (pins := [])).weak hl (fun j v e => ?_), T.keep _ _ _ st7 fun b hb o e => (pk b hb o e).1, fun b hb => ?_, w'⟩
          · rw [← hw8] at e
            exact (wipe_some e).1
          · obtain ⟨o, e, _⟩ := T.obj _ _ st7 b hb
            exact (pk b hb o e).2
        cases b with
        | false =>
          simp only [Bool.false_eq_true, if_false] at q9 ⊢
          exact next I9 q9
        | true =>
          simp only [if_true] at q9 ⊢
          exact thnF (peC.run _ t9 σ8 H9 _ I9 q9) fun z t10 ⟨yv, H10, I10, r10, acc, hD10, hz10, nx⟩ => app_ok (X := blkP X sc Hc scope ce fp p) I10 hD10 hz10 r10 fun t11 I11 => next I11 nx
    exact codeAny_compStart_list loop (T.self X.A 0 _ _ _ std loop)
  rw [← hcl, hsc] at tgt
  simp only at tgt
  exact tgt
end
end Z
end
section
set_option Elab.async false
set_option linter.all false
set_option exponentiation.threshold 20000
set_option maxRecDepth 100000
set_option maxHeartbeats 2000000
/-! Within an except suite: the judgement layer's rules. -/
namespace Z
open PySem PySem.Spec PyProof.Rows L2 L2H
theorem u64H {k : Nat} {A : Around} (r : RoomH k A) : A.units + 64 < cLine := by
  have := r.un
  omega
abbrev blkPX (X : Cx) (scope : Scope) (s : Shared) (H : Hp) (C : Addr) (cl : List (Str × Addr)) (fp : List Addr) (p : Addr × Obj) : Cx := blkP X s H scope (compEnvC scope cl C X.env) fp p
def weP (X : Cx) (scope : Scope) (p : Addr × Obj) (e : Expr) : TE := fun σ H Q => ∀ s0 H0 C cl fp, we (blkPX X scope s0 H0 C cl fp p) e σ H Q
def wtP (X : Cx) (scope : Scope) (p : Addr × Obj) (c : Expr) : TT := fun σ H Q => ∀ s0 H0 C cl fp, wt (blkPX X scope s0 H0 C cl fp p) c σ H Q
section
variable {X : Cx} {p : Addr × Obj} {elt tg iter c : Expr} {scope : Scope} {own : List (Str × Nat)} {pos spos py : Pos} {wi : TI} {g : TG} {y : Str}
theorem pe_lcP (hot : Hot1 X.A p) (hp : p ∈ X.pn) (hN : X.N.Nodup) (hi : PIH X tg iter wi) (ok : BlkOk X.N X.env.scope scope own) (hg : ∀ s H C cl fp, PG (blkPX X scope s H C cl fp p) tg g) (hs : ∀ x, foldedSetIterable iter X.env x = pure x) :
    PE X (.ListComp elt [⟨tg, iter, [c], 0⟩] scope pos) (tLc wi g (wtP X scope p c) (weP X scope p elt) (own.map (·.2))) := ⟨fun pins s σ H Q I h => by
  rw [eval_ListComp]
  refine lcH hot hp hN I hi ok hg (fun s H C cl fp => pts_one (⟨fun pins s1 σ H1 Q I h => h s H C cl fp pins s1 I⟩ : PT (blkPX X scope s H C cl fp p) c (wtP X scope p c))) (fun s H C cl fp => (⟨fun pins s1 σ H1 Q I h => h s H C cl fp pins s1 I⟩ : PE (blkPX X scope s H C cl fp p) elt (weP X scope p elt))) hs h fun D C s' m H' I' q hn f => ⟨m, hn, fun h'' sb => ?_⟩
  obtain ⟨f0, f1, f2, f3, f4, f5⟩ := f
  have I2 := I'.turned (t' := s'.toks) (fun b o hb e => (sb.2 b hb).trans e) f0 f1 f3 f4 f5
  exact ⟨.ref D, H', I2, rfl, q⟩⟩
theorem ps_lcP {i : Nat} (hot : Hot1 X.A p) (hp : p ∈ X.pn) (hN : X.N.Nodup) (hy : X.N[i]? = some y) (hyl : X.env.scope.names.lookup y = some .local) (hsw : swapsWith (.ListComp elt [⟨tg, iter, [c], 0⟩] scope pos) (some (.Name y py)) spos.line X.env = pure true)
    (hi : PIH X tg iter wi) (ok : BlkOk X.N X.env.scope scope own) (hg : ∀ s H C cl fp, PG (blkPX X scope s H C cl fp p) tg g) (hs : ∀ x, foldedSetIterable iter X.env x = pure x) :
    PS X (.Assign [.Name y py] (.ListComp elt [⟨tg, iter, [c], 0⟩] scope pos) spos) (tAsg (tLc wi g (wtP X scope p c) (weP X scope p elt) (own.map (·.2))) (gName i)) := ⟨fun pins s σ H D I h => by
  rw [exec_Assign_Name_used _ _ _ _ hsw]
  refine wpAny_bind (wpAny_standAt (wpAny_bind ?_))
  have h' : tLc wi g (wtP X scope p c) (weP X scope p elt) (own.map (·.2)) σ H (fun x H1 => gName i x σ H1 D.nx) := h
  refine wpAny_bind (thn (lcH (Qf := fun _ s' => SP X pins D .next s') hot hp hN I hi ok hg (fun s H C cl fp => pts_one (⟨fun pins s1 σ H1 Q I h => h s H C cl fp pins s1 I⟩ : PT (blkPX X scope s H C cl fp p) c (wtP X scope p c))) (fun s H C cl fp => (⟨fun pins s1 σ H1 Q I h => h s H C cl fp pins s1 I⟩ : PE (blkPX X scope s H C cl fp p) elt (weP X scope p elt))) hs h' fun L C s' m H' I' q hn f => ?_) fun _ s' hq => wpAny_pure (wpAny_pure hq))
  refine wpAny_assign_Name (store_ok2 (v := V.ref L) I' hN hy (.inl hyl) rfl (fun s2 I2 ⟨a, sb, ha⟩ => ?_) (.inr hyl))
  obtain ⟨f0, f1, f2, f3, f4, f5⟩ := f
  have hCa : C ≠ a := fun z => ha.elim (fun e => f1 (z.trans e)) fun e => f4 y a e z.symm
  refine ⟨m, hn.sameBut sb hCa, fun h3 sb3 => ?_⟩
  exact ⟨_, H', I2.turned (t' := s2.toks) (fun b o hb e => (sb3.2 b hb).trans e) f0 f1 f3 f4 f5, q⟩⟩
end
section
variable {X : Cx} {Γ : Ctx} {M : Mt} {Kb Hb : Hp} {pos spos py pr pr2 : Pos} {y : Str} {D : Ends} {rest : List Stmt} {elt tg c l : Expr} {scope : Scope} {ts : List Ty} {p : Addr × Obj} {j : Nat}
/-- [.. for x in range(l) if c] -/
theorem has_lcP {n : Nat} (own : List (Str × Nat)) (hot : Hot1 X.A p) (hp : p ∈ X.pn) (hm : X.mg "range" = none) (hn : n < 1000) (h : Has X Γ l (tI (n : Int))) (f : Nat → Bool) (F : Nat → Ty) (ht : ∀ d ∈ List.range n, ∀ s H C cl fp, HasT (blkPX X scope s H C cl fp p) ((wipeC Γ (own.map (·.2))).set j (some (tI (d : Int)))) c (f d)) (he : ∀ d ∈ List.range n, f d = true → ∀ s H C cl fp, Has (blkPX X scope s H C cl fp p) ((wipeC Γ (own.map (·.2))).set j (some (tI (d : Int)))) elt (F d))
    (hN : X.N.Nodup) (hg : ∀ s H C cl fp, PG (blkPX X scope s H C cl fp p) tg (gName j)) (hgl : Gl X "range" := by rfl) (hst : starEach [l] X.env = [(false, eval l X.env)] := by rfl) (hst2 : starEach [l] X.env = (false, eval l X.env) :: starEach [] X.env := by rfl) (hsl : ∀ i ∈ [j], i ∈ own.map (·.2) := by decide) (ok : BlkOk X.N X.env.scope scope own := by exact blkOk_by (by kernel_rfl)) (hs : ∀ x, foldedSetIterable (.Call (.Name "range" pr) [l] [] pr2) X.env x = pure x := by intro _; rfl) :
    Has X Γ (.ListComp elt [⟨tg, .Call (.Name "range" pr) [l] [] pr2, [c], 0⟩] scope pos) (tL (((List.range n).filter f).map F)) := fun σ K H s ga Q q => by
  refine we_of (pe_lcP hot hp hN (pi_range1H hgl hm (pa_cons pe_we pa_nil hst2) hst) ok hg hs) (h σ K H s ga _ fun v K1 H1 g1 hv => ⟨(n : Int), by rw [show v = V.int (n : Int) from hv], by omega, by omega, ?_⟩)
  exact lc_main (bd := bd1 j fun i : Nat => tI (i : Int)) (wk_range (n := n) (j := j) (K1 := K1)) (by rw [List.length_range]; exact hn) hsl g1 (ga.mo g1.k) (fun d hm σ K H s g Q q s0 H0 C cl fp => ht d hm s0 H0 C cl fp σ K H s g Q q) (fun d hm hf σ K H s g Q q s0 H0 C cl fp => he d hm hf s0 H0 C cl fp σ K H s g Q q) fun v K' H' g tv => q v K' H' g tv
/-- y = [.. if ..] on one line, a list that may change being read -/
theorem bl_lcP {n : Nat} {m : Addr} (i i0 : Nat) (own : List (Str × Nat)) (hot : Hot1 X.A p) (hp : p ∈ X.pn) (hmr : X.mg "range" = none) (hn : n < 1000) (hG : Γ[i0]? = some (some (tV (.ref m)))) (h : Has X (Γ.set i0 (some (tL ts))) l (tI (n : Int))) (f : Nat → Bool) (F : Nat → Ty) (hfl : ∀ d, Flat (F d)) (hm : Hb m = none)
    (ht : ∀ d ∈ List.range n, ∀ s H C cl fp, HasT (blkPX X scope s H C cl fp p) ((wipeC (Γ.set i0 (some (tL ts))) (own.map (·.2))).set j (some (tI (d : Int)))) c (f d)) (he : ∀ d ∈ List.range n, f d = true → ∀ s H C cl fp, Has (blkPX X scope s H C cl fp p) ((wipeC (Γ.set i0 (some (tL ts))) (own.map (·.2))).set j (some (tI (d : Int)))) elt (F d))
    (hN : X.N.Nodup) (hg : ∀ s H C cl fp, PG (blkPX X scope s H C cl fp p) tg (gName j)) (k : ∀ n', Hb n' = none → n' ≠ m → (∃ K H, M.p K H ∧ H n' = none) → Bl X Kb Hb (Γ.set i (some (tV (.ref n')))) (mAnd (mLst n' (((List.range n).filter f).map F)) (mAnd (mLst m ts) M)) rest D) (hy : X.N[i]? = some y := by rfl) (hyl : X.env.scope.names.lookup y = some .local := by rfl)
    (hsw : swapsWith (.ListComp elt [⟨tg, .Call (.Name "range" pr) [l] [] pr2, [c], 0⟩] scope pos) (some (.Name y py)) spos.line X.env = pure true := by exact sw_true rfl rfl rfl (by kernel_rfl))
    (hgl : Gl X "range" := by rfl) (hst : starEach [l] X.env = [(false, eval l X.env)] := by rfl) (hst2 : starEach [l] X.env = (false, eval l X.env) :: starEach [] X.env := by rfl) (hsl : ∀ i ∈ [j], i ∈ own.map (·.2) := by decide) (ok : BlkOk X.N X.env.scope scope own := by exact blkOk_by (by kernel_rfl)) (hs : ∀ x, foldedSetIterable (.Call (.Name "range" pr) [l] [] pr2) X.env x = pure x := by intro _; rfl) :
    Bl X Kb Hb Γ (mAnd (mLst m ts) M) (.Assign [.Name y py] (.ListComp elt [⟨tg, .Call (.Name "range" pr) [l] [] pr2, [c], 0⟩] scope pos) spos :: rest) D := fun σ H ⟨K, g0, ga, ⟨ma, xs, mb, mc⟩, mm⟩ => by
  obtain ⟨p1, p2, p3⟩ := peek ma mb mc g0.s ga hG
  refine wss_cons (ws_of (ps_lcP hot hp hN hy hyl hsw (pi_range1H hgl hmr (pa_cons pe_we pa_nil hst2) hst) ok hg hs) (h σ _ H p1 p2 _ fun v K1 H1 g1 hv => ⟨(n : Int), by rw [show v = V.int (n : Int) from hv], by omega, by omega, ?_⟩))
  refine fun Dl hD => lc_mainM (bd := bd1 j fun i : Nat => tI (i : Int)) (tt := wtP X scope p c) (te := weP X scope p elt) (Q := fun x H1 => wss X rest D (σ.set i (some x)) H1) (wk_range (n := n) (j := j) (K1 := K1)) (by rw [List.length_range]; exact hn) hsl g1 (p2.mo g1.k) (fun d hm σ K H s g Q q s0 H0 C cl fp => ht d hm s0 H0 C cl fp σ K H s g Q q) (fun d hm hf σ K H s g Q q s0 H0 C cl fp => he d hm hf s0 H0 C cl fp σ K H s g Q q) Dl hD fun K' H' ys g2 kd hd0 hx xa => ?_
  obtain ⟨g3, m3⟩ := p3 K' H' g2
  have nm : Dl ≠ m := fun z => by
    rw [z, mb] at hd0
    cases hd0
  refine k Dl (g0.h.back hd0) nm ⟨K, H, mm, hd0⟩ _ _ ⟨hide m K', g0.trans g3, (ga.mo g3.k).set rfl, ⟨by rw [hide_ne nm]; exact kd, ys, hx, all2_flat (fun t ht => ?_) xa⟩, m3, M.st g3 mm⟩
  obtain ⟨d, _, rfl⟩ := List.mem_map.mp ht
  exact hfl d
end
/-! defs that are called there -/
structure CalH (P : Program) (w : World) (K : PySem.W.Frag) (mg : Str → Option Value) (base : Heap) (x : Str) (k : Nat) (sp : Sp) : Prop where
  ex : ∃ f fd ps, FnH P w K mg base CX0 k f fd ps sp ∧ mg x = some (.ref f) ∧ PySem.W.keepIn K (.ref f) = true ∧ Binds K fd ps []
abbrev cxBH (P : Program) (w : World) (K : PySem.W.Frag) (mg : Str → Option Value) (base : Heap) (N : List Str) (qual : Str) (scope : Scope) (f : Addr) (b : Bc) (p : Addr × Obj) : Cx := (cxH CX0 P w K mg base N qual scope f b.cd b.A b.outer b.s b.H b.E p).nox
section
variable {P : Program} {w : World} {K : PySem.W.Frag} {mg : Str → Option Value} {base : Heap} {α : Type} {pre : α → Prop} {args : α → List Ty} {res : α → Ty} {k : Nat}
theorem Tx.calH (T : Tx K mg) (n : Nat) {q : Str × Nat} (hi : lawDefs[n]? = some q) {N ps : List Str} (S : FnScope N ps (defScope (top q.2))) (hl : ∀ a, (args a).length = ps.length)
    (hbi : ∀ (kV doc pm : Value) (an : Option Addr) (cdv ct : Value) (us : List Value), us.length = ps.length → bindArgs (PySem.W.fnOf q.1 q.1 (defArgs (top q.2)) (defBody (top q.2)) (defScope (top q.2)) .none kV doc pm an cdv ct) ⟨us, []⟩ = pure (ps.zip us))
    (hb : N.Nodup → ∀ a, pre a → ∀ (b : Bc) (p : Addr × Obj), Hot1 (cxBH P w K mg base N q.1 (defScope (top q.2)) (ca K q.1) b p).A p → RoomH k (cxBH P w K mg base N q.1 (defScope (top q.2)) (ca K q.1) b p).A → ∀ Kb Hb D, D.nx = (fun _ H' => D.rt .non H') → (∀ v K' H', Gr Kb Hb K' H' → (res a).p v K' → D.rt v H') →
      Bl (cxBH P w K mg base N q.1 (defScope (top q.2)) (ca K q.1) b p) Kb Hb ((args a).map some ++ List.replicate (N.length - (args a).length) none) mNone (defBody (top q.2)) D) : CalH P w K mg base q.1 (k + 1) (Spt pre args res) := by
  have d := T.l n q hi
  obtain ⟨fd, F⟩ := d.fd
  refine ⟨ca K q.1, fd, ps, ?_, d.mg, F.kp, F.bindsN hbi⟩
  obtain ⟨oc, od, dV, kV, doc, pm, an, cdv, ct, osl, rfl, lk, hcd, _, _⟩ := F.ex
  refine fn_ofH lk hcd S (fun vs H Q E h => ?_) fun A outer s H vs Q E p hot hr h => ?_
  · obtain ⟨a, K', _, _, q, _⟩ := h
    rw [q.len, hl]
  · obtain ⟨a, K', hp, s', q, k'⟩ := h
    refine ⟨wss _ _, PSs.nox pss_wss, ?_⟩
    refine hb S.nd a hp ⟨cdv, A, outer, s, H, E⟩ p hot hr K' H { nx := fun _ H' => Q .non H', rt := Q } rfl k' _ _ ⟨K', Gr.refl s', ?_, trivial⟩
    have z := Sat.start (N.length - (args a).length) q
    unfold L2.start
    rw [q.len]
    exact z
end
section
variable {X : Cx} {Γ : Ctx} {e : Expr} {es : List Expr} {pos q0 : Pos} {x : Str} {k : Nat} {α : Type} {pre : α → Prop} {args : α → List Ty} {res : α → Ty}
theorem has_callH (F : CalH X.prog X.w X.K X.mg X.base x k (Spt pre args res)) (a : α) (hp : pre a) (ha : HasA X Γ (e :: es) (args a)) (hr : RoomH k X.A) (hc : HotC X) (hg : Gl X x := by rfl) (hdb : (x == ("__debug__" : Str)) = false := by decide)
    (he : starEach (e :: es) X.env = (false, eval e X.env) :: starEach es X.env := by rfl) (hpl : (backTo pos (starEach es X.env)).any (·.1) = false := by rfl) : Has X Γ (.Call (.Name x q0) (e :: es) [] pos) (res a) := fun σ K H s g Q q => by
  obtain ⟨f, fd, ps, G, hm, hk, hb⟩ := F.ex
  refine we_of (pe_callH (E := fun _ => E0) G hr hc hg hm hk hb (fun σ => ?_) pa_wa hdb he hpl) (ha σ K H s g _ fun vs K1 H1 g1 h1 => ?_)
  · intro pins H s e s' I h
    exact h.elim
  · exact ⟨a, K1, hp, g1.s, h1, fun v K2 H2 g2 h2 => q v K2 H2 (g1.trans g2) h2⟩
end
end Z
end
section
set_option Elab.async false
set_option linter.all false
set_option exponentiation.threshold 20000
set_option maxRecDepth 100000
set_option maxHeartbeats 2000000
/-! The law's own look and rows_lead, called within an except suite. -/
namespace Z
open PySem PySem.Spec PyProof.Rows L2 L2H
section
variable {P : Program} {w : World} {K : PySem.W.Frag} {mg : Str → Option Value} {base : Heap}
theorem f_reachedH (T : Tx K mg) : CalH P w K mg base "_law_reached" 1 (Spt (α := List (List Nat) × Nat) pRe (fun a => [tNN a.1, tI (a.2 : Int)]) fun a => tE (isRe a.1 a.2) tNs) :=
  T.calH 7 rfl (C8.fnScope_by (N := ["_law_rows_here", "_law_place", "_law_found", "_law_left", "_law_here", "_law_more", "_law_to"]) (P := ["_law_rows_here", "_law_place"]) (by decide +kernel)) (fun _ => rfl) (fun _ _ _ _ _ _ us hl => match us, hl with | [_, _], _ => rfl) fun nd a pq b pn hot r Kb Hb D _ hD => by
    obtain ⟨flow, p⟩ := a
    obtain ⟨hl, hre, hp⟩ := pq
    simp only at hl hre hp
    refine bl_tupNN 2 3 (hasn_lst (hasa_cons (has_var 1) hasa_nil) (by simp)) (hasn_lst (hasa_cons (has_var 1) hasa_nil) (by simp)) (fun m1 m2 h1 h2 ne _ _ => ?_) (pg_tupH ⟨pn, hot, List.mem_singleton.mpr rfl⟩ (pgs_cons (pg_1 nd) (pgs_cons (pg_1 nd) pgs_nil)))
    refine bl_whileC (ι := List Nat × List Nat) (fun d => M.Dfs (edN flow) flow.length p d) (fun d => M.dMu flow.length d) (fun _ => [some (tNN flow), some (tI (p : Int)), some (tV (.ref m1)), some (tV (.ref m2)), none, none, none])
      (fun d => mAnd (mLst m1 ((cst d.1).map tI)) (mAnd (mLst m2 ((cst d.2).map tI)) mNone)) (fun d => !decide (cst d.2 = [])) ([p], [p]) (M.dfs_start hp) ⟨fun _ _ h => h, fun _ _ h => h, fun _ _ h => h, fun _ _ h => h, trivial⟩ (fun _ _ h => h) (fun d hd Kb' Hb' => ?_) (fun d hd hb => ?_) fun d hd hb => ?_
    · exact HasTC.perm (M1 := mAnd (mLst m2 ((cst d.2).map tI)) (mAnd (mLst m1 ((cst d.1).map tI)) mNone)) (M2 := mAnd (mLst m2 ((cst d.2).map tI)) (mAnd (mLst m1 ((cst d.1).map tI)) mNone)) (fun _ _ m => ⟨m.2.1, m.1, trivial⟩) (fun _ _ m => ⟨m.2.1, m.1, trivial⟩) (hastc_peek 3 rfl (hast_cmp (has_var 3) (has_lst hasa_nil (by simp)) (ct_neL (ns := cst d.2) (ms := []) (u64H r))))
    · obtain ⟨found, left0⟩ := d
      have hdf : M.Dfs (edN flow) flow.length p (found, left0) := hd
      have hlen : left0.length ≤ flow.length := M.nodup_le hdf.ndl fun q hq => (hdf.rch q (hdf.sub q hq)).1
      have hne : left0 ≠ [] := fun z => by
        subst z
        simp [cst] at hb
      obtain ⟨left, here, rfl⟩ : ∃ l h, left0 = l ++ [h] := ⟨left0.dropLast, left0.getLast hne, (List.dropLast_concat_getLast hne).symm⟩
      have hh : here ∈ found := hdf.sub here (by simp)
      have hhn : here < flow.length := (hdf.rch here hh).1
      have hrl : (flow.getD here []).length = flow.length := hre _ (M.getD_mem hhn)
      have hfl : found.length ≤ flow.length := M.nodup_le hdf.nd fun q hq => (hdf.rch q hq).1
      simp only [List.length_append, List.length_singleton] at hlen hfl
      refine Bl.sub (Γ' := [some (tNN flow), some (tI (p : Int)), some (tV (.ref m1)), some (tV (.ref m2)), none, none, none]) (M' := mAnd (mLst m2 ((cst left).map tI ++ [tI (here : Int)])) (mAnd (mLst m1 ((cst found).map tI)) mNone)) ?_ (Sub2.refl _) fun _ _ h => ⟨?_, h.1, trivial⟩
      · refine bl_asgC 4 (hasc_pop 3 rfl h2 (mAnd.fr (mLst.fr ne) mNone.fr)) ?_ nd
        refine Bl.sub (Γ' := [some (tNN flow), some (tI (p : Int)), some (tV (.ref m1)), some (tV (.ref m2)), some (tI (here : Int)), none, none]) (M' := mAnd (mLst m1 ((cst found).map tI)) (mAnd (mLst m2 ((cst left).map tI)) mNone)) ?_ (Sub2.refl _) fun _ _ h => ⟨h.2.1, h.1, trivial⟩
        refine bl_lcP (m := m1) (j := 6) (n := flow.length) 5 2 [("_law_to", 6)] hot (List.mem_singleton.mpr rfl) (T.f 1) (by omega) rfl (Has.is (k_len T (has_var 0)) (by rw [List.length_map])) (fun q : Nat => edN flow here q && !decide ((q : Int) ∈ cst found)) (fun q : Nat => tI (q : Int)) (fun q => flat_V) h1 (fun q hq s H C cl fp => ?_) (fun q hq hf s H C cl fp => has_var 6) nd (fun s H C cl fp => pg_1 nd) (fun n hn nm ⟨K0, H0, hM0, hn0⟩ => ?_)
        · have hqn : q < flow.length := List.mem_range.mp hq
          refine hast_w (hasw_and (HasT.is (hast_cmp (has_ix (has_ix (has_var 0) (has_var 4) (ix_L (getNN hhn))) (has_var 6) (ix_L (getN (by omega)))) has_int ct_neI) ?_) fun _ => hasw_and1 (hast_cmp (has_var 6) (has_var 2) ct_notIn))
          unfold edN
          congr 1
          by_cases z : (flow.getD here []).getD q 0 = 0
          · rw [decide_eq_true z, decide_eq_true (by omega)]
          · rw [decide_eq_false z, decide_eq_false (by omega)]
        · have em : (List.range flow.length).filter (fun q : Nat => edN flow here q && !decide ((q : Int) ∈ cst found)) = M.more (edN flow) flow.length here found flow.length := by
            unfold M.more
            rw [List.take_of_length_le (by rw [List.length_range]; exact Nat.le_refl _)]
            refine List.filter_congr fun q _ => ?_
            by_cases z : q ∈ found
            · rw [decide_eq_true z, decide_eq_true (mem_cast.mpr z)]
            · rw [decide_eq_false z, decide_eq_false fun y => z (mem_cast.mp y)]
          rw [em]
          have ne2 : m2 ≠ n := fun z => by
            obtain ⟨⟨_, xs, hx, _⟩, _⟩ := hM0
            rw [z, hn0] at hx
            cases hx
          have hml := more_len (E := edN flow) (n := flow.length) (here := here) (i := flow.length) (found := found)
          have efm : (M.more (edN flow) flow.length here found flow.length).map (fun q : Nat => tI (q : Int)) = (cst (M.more (edN flow) flow.length here found flow.length)).map tI := by rw [List.map_map]; rfl
          rw [efm]
          generalize hmo : M.more (edN flow) flow.length here found flow.length = mo at hml
          refine bl_freeze 5 rfl hn (mAnd.fz (mLst.fz nm.symm) (mAnd.fz (mLst.fz ne2) mNone.fz)) ?_
          refine bl_extC (us := (cst mo).map tI) 2 rfl h1 (mAnd.fr (mLst.fr ne.symm) mNone.fr) (by simp only [List.length_map]; omega) (has_var 5) ?_
          refine Bl.sub (Γ' := _) (M' := mAnd (mLst m2 ((cst left).map tI)) (mAnd (mLst m1 ((cst found).map tI ++ (cst mo).map tI)) mNone)) ?_ (Sub2.refl _) fun _ _ h => ⟨h.2.1, h.1, trivial⟩
          refine bl_extC (us := (cst mo).map tI) 3 rfl h2 (mAnd.fr (mLst.fr ne) mNone.fr) (by simp only [List.length_map]; omega) (has_var 5) ?_
          obtain ⟨s1, s2⟩ := M.dfs_step hdf
          rw [hmo] at s1 s2
          refine bl_nil fun σ H s => ⟨_, s1, s2, s.sub ⟨fun _ _ h => h, fun _ _ h => h, fun _ _ h => h, fun _ _ h => h, trivial⟩ fun _ _ h => ?_⟩
          rw [cst_app, cst_app]
          exact ⟨h.2.1, h.1, trivial⟩
      · have h' := h.2.1
        have hz2 : (cst (left ++ [here])).map tI = (cst left).map tI ++ [tI (here : Int)] := cst_app left [here]
        rw [hz2] at h'
        exact h'
    · obtain ⟨found, left⟩ := d
      have hle : left = [] := by
        have h' : decide (cst left = []) = true := by
          have hb' : (!decide (cst left = [])) = false := hb
          rwa [Bool.not_eq_false'] at hb'
        simpa [cst] using h'
      subst hle
      refine bl_freeze 2 rfl h1 (mAnd.fz (mLst.fz ne.symm) mNone.fz) ?_
      exact bl_ret (has_var 2) fun v K' H' g _ h => hD v K' H' g ⟨found, (M.dfs_perm hd).length_eq, h⟩
theorem f_lis_wholeH (T : Tx K mg) : CalH P w K mg base "_law_is_whole" 2 (Spt (α := List (List Nat)) pIw (fun flow => [tNN flow]) fun flow => tB (isW flow)) :=
  T.calH 8 rfl (C8.fnScope_by (N := ["_law_rows_here", "_law_place"]) (P := ["_law_rows_here"]) (by decide +kernel)) (fun _ => rfl) (fun _ _ _ _ _ _ us hl => match us, hl with | [_], _ => rfl) fun nd flow pq b pn hot r Kb Hb D _ hD => by
    have hl := pq.len
    refine bl_ret (t := tB (isW flow)) (Has.is (has_cmp (Has.is (has_lcP (j := 1) (n := flow.length) [("_law_place", 1)] hot (List.mem_singleton.mpr rfl) (T.f 1) (by omega) (Has.is (k_len T (has_var 0)) (by rw [List.length_map])) (fun p : Nat => decide ((M.reachL (edN flow) flow.length p).length < flow.length)) (fun q : Nat => tI (q : Int)) (fun q hq s H C cl fp => ?_) (fun q hq hf s H C cl fp => has_var 1) nd (fun s H C cl fp => pg_1 nd)) (by unfold cst; rw [List.map_map]; rfl)) (has_lst hasa_nil (by simp)) (ct_eqL (ns := cst ((List.range flow.length).filter fun p => decide ((M.reachL (edN flow) flow.length p).length < flow.length))) (ms := []) (u64H r))) (by rw [isW_filter])) fun v K' H' g _ h => hD v K' H' g h
    have hqn : q < flow.length := List.mem_range.mp hq
    refine HasT.is (hast_cmp (k_b1 (T.f 0) b_len (ct_lenE (P := isRe flow q) (n := (M.reachL (edN flow) flow.length q).length) fun l h => h) (has_callH (f_reachedH T) (flow, q) ⟨hl, pq.rect, hqn⟩ (hasa_cons (has_var 0) (hasa_cons (has_var 1) hasa_nil)) r (hot_blkP hot))) (k_len T (has_var 0)) ct_lt) ?_
    rw [decide_eq_decide, List.length_map]
    omega
theorem f_leadH (T : Tx K mg) : CalH P w K mg base "_law_rows_lead" 1 (Spt (α := List (List Nat)) pRl (fun flow => [tNN flow]) fun flow => tB (M.leads flow)) :=
  T.calH 15 rfl (C8.fnScope_by (N := ["_law_flow_here"]) (P := ["_law_flow_here"]) (by decide +kernel)) (fun _ => rfl) (fun _ _ _ _ _ _ us hl => match us, hl with | [_], _ => rfl) fun nd flow pq b pn hot r Kb Hb D _ hD => by
    have hlo := pq.lo
    have hhi := pq.hi
    have hr0 := pq.rect _ (M.getD_mem (d := []) (k := 0) (l := flow) (by omega))
    have hr1 := pq.rect _ (M.getD_mem (d := []) (k := 1) (l := flow) (by omega))
    have hz : (((flow.map tNs).length : Nat) : Int) - 1 = ((flow.length - 1 : Nat) : Int) := by rw [List.length_map]; omega
    have h0 : (flow.map tNs)[0]? = some (tNs (flow.getD 0 [])) := getNN (by omega)
    have h1 : (flow.map tNs)[1]? = some (tNs (flow.getD 1 [])) := getNN (by omega)
    refine bl_ret (t := tB (M.leads flow)) (has_or (Has.is (has_cmp (ta := tNs ((flow.getD 0 []).drop 1)) (tb := tNs (List.replicate (flow.length - 1) 0)) (Has.is (has_sliceLo (n := 1) (has_ix (has_var 0) has_int (ix_L (k := 0) h0)) has_int) (by unfold tNs tIs cst; rw [List.map_drop, List.map_drop])) (Has.is (has_op (has_lst (hasa_cons has_int hasa_nil) (by simp)) (Has.is (has_op (k_len T (has_var 0)) has_int bt_sub) (by rw [hz])) (bt_rep (n := flow.length - 1) (by simp; omega) (by omega))) (by rw [rep_flat])) (ct_neL (u64H r))) (by rw [cst_dec])) fun _ => has_one (Has.is (has_cmp (ta := tNs (M.cut 1 (flow.getD 1 []))) (tb := tNs (List.replicate (flow.length - 1) 0)) (Has.is (t := tL (M.cut 1 ((cst (flow.getD 1 [])).map tI))) (has_cut (n := 1) (has_ix (has_var 0) has_int (ix_L (k := 1) h1)) (has_ix (has_var 0) has_int (ix_L (k := 1) h1)) has_int has_int (by rw [List.length_map, List.length_map]; omega)) (by unfold tNs tIs cst; rw [cut_map, cut_map])) (Has.is (has_op (has_lst (hasa_cons has_int hasa_nil) (by simp)) (Has.is (has_op (k_len T (has_var 0)) has_int bt_sub) (by rw [hz])) (bt_rep (n := flow.length - 1) (by simp; omega) (by omega))) (by rw [rep_flat])) (ct_neL (u64H r))) (by rw [cst_dec]))) fun v K' H' g _ h => hD v K' H' g h
end
end Z
end
section
set_option Elab.async false
set_option linter.all false
set_option exponentiation.threshold 20000
set_option maxRecDepth 100000
set_option maxHeartbeats 2000000
/-! Calls that may raise; try with one clause; raising InvalidShares and NotWhole. -/
namespace Z
open PySem PySem.Spec PyProof.Rows L2 L2H
/-- kept by a value, or by an exception of the class C -/
def Spx {α : Type} (pre : α → Prop) (args : α → List Ty) (res : α → Option Ty) (C : Value) : Sp := fun vs H Q E => ∃ a K, pre a ∧ Ex K H ∧ All2 (args a) vs K ∧ (∀ t, res a = some t → ∀ v K' H', Gr K H K' H' → t.p v K' → Q v H') ∧ (res a = none → ∀ d K' H', Gr K H K' H' → E C d H')
structure CalX (P : Program) (w : World) (K : PySem.W.Frag) (mg : Str → Option Value) (base : Heap) (x : Str) (k : Nat) (sp : Sp) : Prop where
  ex : ∃ f fd ps, FnOk P w K mg base (L2N.CX P w) k f fd ps sp ∧ mg x = some (.ref f) ∧ PySem.W.keepIn K (.ref f) = true ∧ Binds K fd ps []
theorem CalX.mono {P : Program} {w : World} {K : PySem.W.Frag} {mg : Str → Option Value} {base : Heap} {x : Str} {j k : Nat} {sp : Sp} (c : CalX P w K mg base x j sp) (h : j ≤ k) : CalX P w K mg base x k sp :=
  let ⟨f, fd, ps, a, b, d, e⟩ := c.ex
  ⟨f, fd, ps, a.mono h, b, d, e⟩
/-- an expression that gives a value or raises -/
def HasX (X : Cx) (Γ : Ctx) (e : Expr) (r : Option Ty) (C : Value) (W : WX) : Prop := ∀ σ K H, Ex K H → Sat Γ σ K → ∀ Q : VK, (∀ t, r = some t → ∀ v K' H', Gr K H K' H' → t.p v K' → Q v H') → (r = none → ∀ d K' H', Gr K H K' H' → W C d σ H') → we X e σ H Q
section
variable {X : Cx} {Γ : Ctx} {e : Expr} {es : List Expr} {t : Ty} {r : Option Ty} {C : Value} {W : WX} {pos p : Pos} {x : Str} {k : Nat} {α : Type} {pre : α → Prop} {args : α → List Ty} {res : α → Option Ty} {Kb Hb : Hp} {N1 N2 M : Mt} {D : Ends} {rest : List Stmt}
theorem hasx_of (h : Has X Γ e t) : HasX X Γ e (some t) C W := fun σ K H s g Q q _ => h σ K H s g Q (q t rfl)
theorem hasx_call (F : CalX X.prog X.w X.K X.mg X.base x k (Spx pre args res C)) (tk : L2N.Takes X W) (a : α) (hp : pre a) (ha : HasA X Γ (e :: es) (args a)) (hr : Room k X.A) (hg : Gl X x := by rfl) (hdb : (x == ("__debug__" : Str)) = false := by decide)
    (he : starEach (e :: es) X.env = (false, eval e X.env) :: starEach es X.env := by rfl) (hpl : (backTo pos (starEach es X.env)).any (·.1) = false := by rfl) : HasX X Γ (.Call (.Name x p) (e :: es) [] pos) (res a) C W := fun σ K H s g Q q qx => by
  obtain ⟨f, fd, ps, G, hm, hk, hb⟩ := F.ex
  refine we_of (pe_callS (E := WE W) G hr hg hm hk hb (L2N.passAt tk) pa_wa hdb he hpl) (ha σ K H s g _ fun vs K1 H1 g1 h1 => ?_)
  exact ⟨a, K1, hp, g1.s, h1, fun t ht v K2 H2 g2 h2 => q t ht v K2 H2 (g1.trans g2) h2, fun hn d K2 H2 g2 => qx hn d K2 H2 (g1.trans g2)⟩
theorem bl_asgX {pos' : Pos} (i : Nat) (h : HasX X Γ e r C W) (k : ∀ t, r = some t → Bl X Kb Hb (Γ.set i (some t)) M rest D) (kx : r = none → ∀ d σ H, Stt Kb Hb Γ M σ H → W C d σ H) (hN : X.N.Nodup) (hi : X.N[i]? = some x := by rfl) (hx : Loc X.env.scope x := by first | exact Or.inl rfl | exact Or.inr rfl)
    (hs : swapsWith e (some (.Name x pos')) pos.line X.env = pure false := by rfl) (hf : X.fn x = true ∨ X.env.scope.names.lookup x = some .local := by first | exact .inl rfl | exact .inr rfl) : Bl X Kb Hb Γ M (.Assign [.Name x pos'] e pos :: rest) D := fun σ H ⟨K, g, sa, m⟩ =>
  wss_cons (ws_of (ps_set hN hi hx pe_we hs hf) (h σ K H g.s sa _ (fun t ht v K' H' g' tv => k t ht _ _ ⟨K', g.trans g', (sa.mo g'.k).set tv, M.st g' m⟩) fun hn d K' H' g' => kx hn d σ H' ⟨K', g.trans g', sa.mo g'.k, M.st g' m⟩))
/-- x = a if c else b, c being drawn -/
theorem bl_asgIfX {a b c : Expr} {pos' pos2 : Pos} {Pc : Bool → Prop} (i : Nat) (hc : HasTC X Kb Hb Γ N1 c Pc N2) (ha : HasX X Γ a r C W) (hb : HasX X Γ b r C W) (k : ∀ t, r = some t → Bl X Kb Hb (Γ.set i (some t)) N2 rest D) (kx : r = none → ∀ d σ H, Stt Kb Hb Γ N2 σ H → W C d σ H) (hN : X.N.Nodup) (hi : X.N[i]? = some x := by rfl) (hx : Loc X.env.scope x := by first | exact Or.inl rfl | exact Or.inr rfl)
    (hs : swapsWith (.IfExp c a b pos2) (some (.Name x pos')) pos.line X.env = pure false := by rfl) (hf : X.fn x = true ∨ X.env.scope.names.lookup x = some .local := by first | exact .inl rfl | exact .inr rfl) : Bl X Kb Hb Γ N1 (.Assign [.Name x pos'] (.IfExp c a b pos2) pos :: rest) D := fun σ H ⟨K, g, sa, m⟩ =>
  wss_cons (ws_of (ps_set hN hi hx (pe_ifExp pt_wt pe_we pe_we) hs hf) (hc σ K H g sa m _ fun kk K1 H1 g1 e1 m1 pk => by
    have fin : ∀ {z : Expr}, HasX X Γ z r C W → we X z σ H1 (fun v H' => gName i v σ H' fun σ H => wss X rest D σ H) := fun hz => hz σ K1 H1 g1.s (sa.mo e1) _ (fun t ht v K' H' g' tv => k t ht _ _ ⟨K', g1.trans g', ((sa.mo e1).mo g'.k).set tv, N2.st g' m1⟩) fun hn d K' H' g' => kx hn d σ H' ⟨K', g1.trans g', (sa.mo e1).mo g'.k, N2.st g' m1⟩
    cases kk with
    | true =>
      rw [if_pos rfl]
      exact fin ha
    | false =>
      rw [if_neg Bool.false_ne_true]
      exact fin hb))
/-- raise -/
theorem bl_raise {tq : St → Hp → XK → Prop} (hc : X.calm = true) (tk : L2N.Takes X W) (he : L2N.PMk X e tq) (q : ∀ σ H, Stt Kb Hb Γ M σ H → tq σ H fun cls d H' => W cls d σ H') : Bl X Kb Hb Γ M (.Raise (some e) none pos :: rest) D := fun σ H s =>
  wss_cons (ws_of (L2N.ps_raise hc tk he) (q σ H s))
/-- try: .. except x: .., in a def that lets nothing out -/
theorem bl_try {c : Value} {body suite : List Stmt} {b₀ : Stmt} {np pos' : Pos} (hs : X.stack = X.env :: X.outer) (hf : X.env.frame = some X.env.locals) (hxe : X.xe = fun _ _ => False) (hc : Names X x c)
    (hb : ∀ (W : WX) (pn : List (Addr × Obj)) (xe : Value → Shared → Prop), L2N.Takes (X.tr pn xe) W → (∀ d σ H, (∀ (a : Addr) (oe : Obj) (pn : List (Addr × Obj)), HotC (suiteX X a ((a, oe) :: pn)) → H a = none → wss (suiteX X a ((a, oe) :: pn)) (b₀ :: suite) { D with nx := wss X rest D } σ H) → W c d σ H) → Bl (X.tr pn xe) Kb Hb Γ M body { D with nx := wss X rest D })
    (hx : PySem.W.exmOne X.K c c = some true) :
    Bl X Kb Hb Γ M (.Try body [.ExceptHandler (some (.Name x np)) none (b₀ :: suite) pos'] [] [] pos :: rest) D := fun σ H st => by
  refine wss_cons (ws_of (ps_try_onlyX (Wout := fun _ _ _ _ => False) (tb := fun W D σ H => ∀ (pn : List (Addr × Obj)) (xe : Value → Shared → Prop), L2N.Takes (X.tr pn xe) W → wss (X.tr pn xe) body D σ H) (ts := fun a cls d D σ H => ∀ (oe : Obj) (pn : List (Addr × Obj)), HotC (suiteX X a ((a, oe) :: pn)) → wss (suiteX X a ((a, oe) :: pn)) (b₀ :: suite) D σ H)
    hs hf hc (fun hd => by rw [hxe]; exact PassesOwnAt.never) (fun u s' h => ?_) (fun W pn xe tk _ _ => ⟨fun pins s σ H D I h => h pn xe tk pins s I⟩) (fun a oe cls d pn _ _ _ hot => ⟨fun pins s σ H D I h => h oe pn hot pins s I⟩)) ?_)
  · obtain ⟨a, B, sI, pins, σ, H, cls, d, _, _, _, _, _, _, _, _, hw⟩ := h
    exact hw.elim
  · intro pn xe tk
    refine hb _ pn xe tk (fun d σ' H' hh => ?_) σ H st
    exact ⟨true, hx, fun _ a ha oe pn2 hot => hh a oe pn2 hot ha, fun z => by cases z⟩
end
section
variable {X : Cx} {C : Addr} {bmB : List Value} {B newId initId : String}
/-- X() of an own exception class -/
theorem pmk_own0 {x : Str} {p pos : Pos} (F : ExcBaseFacts B newId initId bmB) (q : PySem.W.excIn X.K C bmB newId = true) (gC : X.mg x = some (.ref C)) (kC : PySem.W.keepIn X.K (.ref C) = true) (r : Raises X (.ref C)) (hg : Gl X x)
    (hdb : (x == ("__debug__" : Str)) = false := by decide) : L2N.PMk X (.Call (.Name x p) [] [] pos) (fun _ H Q => Q (.ref C) none H) := fun pins s σ H Q I0 h0 => by
  refine wpAny_Call_Name_kw (ld_glob I0 hg gC (PySem.W.callWith_K0 I0.kIn kC ?_) hdb)
  obtain ⟨bm, N, nm, qn, bs, hdct, sn, sub, ab, col, dd, k0, k1, k2, k3, k5, mN, oC, oN, ini, tl⟩ := exc_obj I0.kIn q
  exact wpAny_call_exc_subT F tl oC oN ini (fun h' e hm => L2N.mk_of I0 hm r h0 (I0.hok.gone hm.new)) (by show 0 ≤ sizeLine; exact Nat.zero_le _)
end
section
variable {X : Cx} {e : Expr} {es : List Expr} {ta : TA} {p pos : Pos}
/-- C(e, ..) of an own exception class with an own __init__ -/
theorem pmk_oexN {CX : CXT} {x : Str} {C fI : Addr} {k : Nat} {fd : FuncData} {ps : List Str} {sp : Sp} (T : OexC X.K C) (iC : PySem.W.findIn X.K (.ref C) "__init__" = some (some (.ref fI))) (tI : PySem.W.typeIn X.K (.ref fI) = some (.type "function"))
    (F1 : FnOk X.prog X.w X.K X.mg X.base CX k fI fd ps sp) (hr : Room (k + 1) X.A) (hb : Binds X.K fd ps []) (hx : Passes CX X (fun _ _ _ => False)) (hg : Gl X x) (hm : X.mg x = some (.ref C)) (ha : PA X (e :: es) ta)
    (hdb : (x == ("__debug__" : Str)) = false := by decide) (he : starEach (e :: es) X.env = (false, eval e X.env) :: starEach es X.env := by rfl) (hpl : (backTo pos (starEach es X.env)).any (·.1) = false := by rfl) :
    L2N.PMk X (.Call (.Name x p) (e :: es) [] pos) (tMkO C sp [] ta) := fun pins s σ H Q J h => by
  obtain ⟨nm, q, N, bs, bm, sn, sub, ab, col, dd, k0, k1, k2, k3, k5, oC, obm⟩ := T.cls
  refine wpAny_Call_Name_kw (ld_glob J hg hm (PySem.W.callWith_K (h₀ := X.base) J.ok.mod.kin T.kC (thn (ha.run pos pins s σ H _ J h) fun us s1 ⟨vs, H1, J1, r1, hz, q1⟩ => ⟨J1.kIn, ?_⟩) he hpl) hdb)
  show wpAny _ _ (call (.ref C) us) _ _ _
  obtain ⟨hp, g, dr, tk, os⟩ := s1
  have le1 : hp.objs.size ≤ hp.objs.size + 1 := Nat.le_succ _
  have hn := J1.hok.fresh le1
  have hq := q1 (hp.objs.size + 1) hn
  rw [List.append_nil] at hq
  have kk : ∀ b o, hp.get? b = some o → ((hp.push (PySem.W.kdv_tup us)).push (PySem.HandSPX.excO C hp.objs.size)).get? b = some o := fun b o z => Heap.get?_push_of_some _ (Heap.get?_push_of_some _ z)
  have at1 : ((hp.push (PySem.W.kdv_tup us)).push (PySem.HandSPX.excO C hp.objs.size)).get? (hp.objs.size + 1) = some (PySem.HandSPX.excO C hp.objs.size) := by heap_get
  have J2 : Inv X pins σ (upd H1 (hp.objs.size + 1) (exo (hp.objs.size + 1) C none)) ⟨(hp.push (PySem.W.kdv_tup us)).push (PySem.HandSPX.excO C hp.objs.size), g, dr, tk, os⟩ :=
    J1.laid (t' := tk) (a := hp.objs.size + 1) (o := exo (hp.objs.size + 1) C none) (h' := (hp.push (PySem.W.kdv_tup us)).push (PySem.HandSPX.excO C hp.objs.size)) kk le1 (exo_ok at1)
  have r2 : Vals (V.ref (hp.objs.size + 1) :: vs) (Value.ref (hp.objs.size + 1) :: us) := .cons rfl r1
  have lp := F1.len _ _ _ _ hq
  have lu := r2.length
  have hl : (Value.ref (hp.objs.size + 1) :: us ++ []).length = ps.length := by rw [List.append_nil, ← lu, lp]
  have su : us.length ≤ sizeLine := by rw [← Paired.length r1, sizeLine_eq]; omega
  have b2 := hb _ (Value.ref (hp.objs.size + 1) :: us) J2.kIn hl
  rw [List.append_nil] at b2
  refine wpAny_call (PySem.HandSPX.call_own F.excBase_ValueError (fun Y => PySem.HandSPX.refsVE_contains Y bm obm) (J1.kIn _ _ oC) (PySem.W.looks_findIn J1.kIn iC) (fun self => PySem.W.bind_fn J1.kIn self tI) su
    (codeAny_mono (F1.run _ X.stack _ _ ⟨Value.ref (hp.objs.size + 1) :: us, []⟩ (Value.ref (hp.objs.size + 1) :: us) _ _ (fun _ _ _ => False) (hr.make C us []) (J2.env0.make C us []) b2 r2 hq) fun r s' hq' => ?_))
  match r, hq' with
  | .error er, hq' => exact hx pins σ _ _ er s' J2 hq'
  | .ok .next, hq' => exact False.elim hq'
  | .ok .brk, hq' => exact False.elim hq'
  | .ok .cont, hq' => exact False.elim hq'
  | .ok (.ret u), hq' =>
    obtain ⟨v, H2, os2, bare2, un2, hok2, rv, ev, d, fs, ea, ed, hd1, q2⟩ := hq'
    subst ev
    obtain ⟨h2, g2, d2, t2, os'⟩ := s'
    obtain ⟨t0, G, J3, kG, ge, hoe, na⟩ := mk_end0 (d2 := d2) (t2 := t2) J1 le1 kk un2 hok2 os2 bare2 ea ed hd1
    exact ⟨rv, hp.objs.size + 1, _, _, ⟨G, g2, d2, t2, os'⟩, _, .ref C, some d, rfl, J3, kG, ge, hoe, ⟨rfl, rfl, fun vs hv => by cases hv; rfl⟩, rfl, rfl, na, rfl, bare2, raises_own T.exC T.tyC, q2⟩
end
/-! InvalidShares.__init__ -/
section
variable {P : Program} {w : World} {K : PySem.W.Frag} {mg : Str → Option Value} {base : Heap}
def SpIS (C : Addr) : Sp := fun vs H Q _ => ∃ a y, vs = [.ref a, y] ∧ H a = some (exo a C none) ∧ ∀ dx, H dx = none → dx ≠ a → Q .non (upd (upd H dx (exd dx [("value", y)])) a (exo a C (some dx)))
theorem f_ISInit (T : Tx K mg) {fd : FuncData} (F : FunD K "__init__" "InvalidShares.__init__" (defArgs (inClass (top 9) 0)) (defBody (inClass (top 9) 0)) (defScope (inClass (top 9) 0)) [] [] (He.ma K (ca K "InvalidShares") "__init__") fd) :
    FnOk P w K mg base CX0 1 (He.ma K (ca K "InvalidShares") "__init__") fd ["self", "value"] (SpIS (ca K "InvalidShares")) := by
  refine F.ok (C8.fnScope_by (N := ["self", "value"]) (P := ["self", "value"]) (by decide +kernel)) (fun vs H Q E h => ?_) (fun cdv A outer s H vs Q E hr h => ?_)
  · obtain ⟨a, y, rfl, _⟩ := h
    rfl
  · obtain ⟨a, y, rfl, ha, hq⟩ := h
    refine ⟨_, PSs.nox (pss_one (ps_ost (X := cxB CX0 P w K mg base ["self", "value"] "InvalidShares.__init__" (defScope (inClass (top 9) 0)) (He.ma K (ca K "InvalidShares") "__init__") ⟨cdv, A, outer, s, H, E⟩) (pe_var (i := 0) rfl (Or.inl rfl)) (pe_var (i := 1) rfl (Or.inl rfl)))), ?_⟩
    refine ⟨y, rfl, .ref a, rfl, a, _, rfl, T.oex, T.oexNo, .inl ⟨ha, fun dx hd ne => hq dx hd ne⟩⟩
/-- raise InvalidShares(e) -/
theorem bl_raiseIS {X : Cx} {Γ : Ctx} {e : Expr} {pos p p2 : Pos} {W : WX} {Kb Hb : Hp} {M : Mt} {D : Ends} {rest : List Stmt} {t : Ty} (T : Tx X.K X.mg) (hc : X.calm = true) (tk : L2N.Takes X W) (h : Has X Γ e t) (q : ∀ d σ H, Stt Kb Hb Γ M σ H → W (.ref (ca X.K "InvalidShares")) d σ H) (hr : Room 2 X.A) (hg : Gl X "InvalidShares" := by rfl)
    (he : starEach (e :: []) X.env = (false, eval e X.env) :: starEach [] X.env := by rfl) (hpl : (backTo p2 (starEach [] X.env)).any (·.1) = false := by rfl) :
    Bl X Kb Hb Γ M (.Raise (some (.Call (.Name "InvalidShares" p) [e] [] p2)) none pos :: rest) D := by
  obtain ⟨⟨fd, F⟩, me⟩ := T.m 12 _ rfl
  have bd : Binds X.K fd ["self", "value"] [] := F.bindsN fun _ _ _ _ _ _ us hl => match us, hl with | [_, _], _ => rfl
  refine bl_raise hc tk (pmk_oexN T.oex me.at_ T.oexFn (f_ISInit T F) hr bd pass0 hg T.gIS (pa_cons pe_we pa_nil he) (by decide) he hpl) fun σ H ⟨K, g, sa, m⟩ => ?_
  refine h σ K H g.s sa _ fun v K1 H1 g1 tv => ⟨by show 1 ≤ 1000; decide, fun a ha => ⟨a, v, rfl, upd_same, fun dx hd ne => ⟨rfl, dx, [("value", v)], upd_same, by rw [upd_ne ne]; exact upd_same, by rw [upd_ne ne] at hd; exact hd, ?_⟩⟩⟩
  have hd1 : H1 dx = none := by rw [upd_ne ne] at hd; exact hd
  have eq : upd (del (upd (upd (upd H1 a (exo a (ca X.K "InvalidShares") none)) dx (exd dx [("value", v)])) a (exo a (ca X.K "InvalidShares") (some dx))) a) dx (.xd [("value", v)]) = upd H1 dx (.xd [("value", v)]) := by
    funext b
    by_cases h1 : b = dx
    · subst h1
      rw [upd_same, upd_same]
    · rw [upd_ne h1, upd_ne h1]
      by_cases h2 : b = a
      · subst h2
        rw [del_same, ha]
      · rw [del_ne h2, upd_ne h2, upd_ne h1, upd_ne h2]
  have gf := Gr.newM (o := .xd [("value", v)]) g1.s hd1
  exact eq ▸ q _ _ _ ⟨K1, (g.trans g1).trans gf, sa.mo (g1.trans gf).k, M.st gf (M.st g1 m)⟩
end
end Z
end
section
set_option Elab.async false
set_option linter.all false
set_option exponentiation.threshold 20000
set_option maxRecDepth 100000
set_option maxHeartbeats 2000000
/-! walk_of, looked_at and Walk.__init__, which may raise. -/
namespace Z
open PySem PySem.Spec PyProof.Rows L2
abbrev cxX (P : Program) (w : World) (K : PySem.W.Frag) (mg : Str → Option Value) (base : Heap) (N : List Str) (qual : Str) (scope : Scope) (f : Addr) (b : Bc) : Cx := cxOf (L2N.CX P w) P w K mg base N qual scope f b.cd b.A b.outer b.s b.H b.E
/-- __init__ that may raise -/
def Spix {α : Type} (C : Addr) (pre : α → Prop) (args : α → List Ty) (res : α → List (Str × Ty)) (ok : α → Bool) (V0 : Value) : Sp := fun vs H Q E => ∃ a K x dx ws, vs = .ref x :: ws ∧ K x = none ∧ H x = some (.ins C dx []) ∧ pre a ∧ Ex K H ∧ All2 (args a) ws K ∧
  (ok a = true → ∀ K' H' dx' vs', Ex K K' → Ex K' H' → K' x = none → (∀ b o, b ≠ x → H b = some o → H' b = some o) → (∀ b, H b ≠ none → K b = none → K' b = none) → H' x = some (.ins C dx' vs') → AllF (res a) vs' K' → Q .non H') ∧
  (ok a = false → ∀ d K' H', Gr K (hide x H) K' H' → E V0 d H')
section
variable {P : Program} {w : World} {K : PySem.W.Frag} {mg : Str → Option Value} {base : Heap} {α : Type} {pre : α → Prop} {args : α → List Ty} {k : Nat} {x qual : Str} {params : Arguments} {body : List Stmt} {scope : Scope} {f : Addr} {fd : FuncData} {dvs : List V} {kws : List (Str × V)} {N ps : List Str} {V0 : Value}
theorem fn_tyX {res : α → Option Ty} (F : FunD K x qual params body scope dvs kws f fd) (S : FnScope N ps scope) (hl : ∀ a, (args a).length = ps.length)
    (hb : ∀ a, pre a → ∀ b : Bc, Room k (cxX P w K mg base N qual scope f b).A → ∀ Kb Hb D (W : WX), L2N.Takes (cxX P w K mg base N qual scope f b) W → D.nx = (fun _ H' => D.rt .non H') → (∀ t, res a = some t → ∀ v K' H', Gr Kb Hb K' H' → t.p v K' → D.rt v H') → (res a = none → ∀ d σ K' H', Gr Kb Hb K' H' → W V0 d σ H') →
      Bl (cxX P w K mg base N qual scope f b) Kb Hb ((args a).map some ++ List.replicate (N.length - (args a).length) none) mNone body D) : FnOk P w K mg base (L2N.CX P w) (k + 1) f fd ps (Spx pre args res V0) := by
  refine F.ok S (fun vs H Q E h => ?_) (fun cdv A outer s H vs Q E hr h => ?_)
  · obtain ⟨a, K', _, _, q, _⟩ := h
    rw [q.len, hl]
  · obtain ⟨a, K', hp, s', q, k1, k2⟩ := h
    refine ⟨wss _ body, pss_wss, ?_⟩
    refine hb a hp ⟨cdv, A, outer, s, H, E⟩ hr K' H { nx := fun _ H' => Q .non H', rt := Q } (fun cls d _ H => E cls d H) (L2N.takes_of rfl rfl rfl rfl) rfl k1 (fun hn d _ K2 H2 g => k2 hn d K2 H2 g) _ _ ⟨K', Gr.refl s', ?_, trivial⟩
    have z := Sat.start (N.length - (args a).length) q
    unfold L2.start
    rw [q.len]
    exact z
theorem init_tyX {C : Addr} {ri : α → List (Str × Ty)} {ok : α → Bool} (F : FunD K x qual params body scope dvs kws f fd) (S : FnScope N ps scope) (hl : ∀ a, (args a).length + 1 = ps.length)
    (hb : ∀ a, pre a → ∀ b : Bc, Room k (cxX P w K mg base N qual scope f b).A → ∀ Kb Hb D (W : WX) y, Hb y = none → L2N.Takes (cxX P w K mg base N qual scope f b) W → D.nx = (fun _ H' => D.rt .non H') → (ok a = true → ∀ K' H', Gr Kb Hb K' H' → (mIns y C (ri a)).p K' H' → D.rt .non H') → (ok a = false → ∀ d σ K' H', Gr Kb Hb K' H' → W V0 d σ H') →
      Bl (cxX P w K mg base N qual scope f b) Kb Hb ((tV (.ref y) :: args a).map some ++ List.replicate (N.length - (tV (.ref y) :: args a).length) none) (mAnd (mIns y C []) mNone) body D) : FnOk P w K mg base (L2N.CX P w) (k + 1) f fd ps (Spix C pre args ri ok V0) := by
  refine F.ok S (fun vs H Q E h => ?_) (fun cdv A outer s H vs Q E hr h => ?_)
  · obtain ⟨a, K', x', dx, ws, rfl, _, _, _, _, q, _⟩ := h
    rw [List.length_cons, q.len, hl]
  · obtain ⟨a, K', y, dx, ws, rfl, ky, hy, hp, s', q, k1, k2⟩ := h
    refine ⟨wss _ body, pss_wss, ?_⟩
    have hs : Ex K' (hide y H) := fun b o e => by
      rw [hide_ne fun z => by rw [z, ky] at e; cases e]
      exact s' b o e
    refine hb a hp ⟨cdv, A, outer, s, H, E⟩ hr K' (hide y H) { nx := fun _ H' => Q .non H', rt := Q } (fun cls d _ H => E cls d H) y hide_same (L2N.takes_of rfl rfl rfl rfl) rfl (fun hk K2 H2 g2 ⟨m1, dx2, vs2, m2, m3⟩ => ?_) (fun hk d _ K2 H2 g => k2 hk d K2 H2 g) _ _ ⟨K', ⟨hide_ex, Ex.refl _, s', fun _ _ z => z⟩, ?_, ⟨ky, dx, [], hy, trivial⟩, trivial⟩
    · refine k1 hk K2 H2 dx2 vs2 g2.k g2.s m1 (fun b o hb e => g2.h b o (by rw [hide_ne hb]; exact e)) (fun b hb kb => ?_) m2 m3
      by_cases z : b = y
      · rw [z]
        exact m1
      · exact g2.f b (by rw [hide_ne z]; exact hb) kb
    · have z := Sat.start (ts := tV (.ref y) :: args a) (vs := .ref y :: ws) (H := K') (N.length - (tV (.ref y) :: args a).length) ⟨rfl, q⟩
      unfold L2.start
      rw [show (V.ref y :: ws).length = (tV (.ref y) :: args a).length by rw [List.length_cons, List.length_cons, q.len]]
      exact z
end
section
variable {X : Cx} {CX : CXT} {C f : Addr} {fd : FuncData} {ps : List Str} {sp : Sp} {k : Nat} {x : Str} {e : Expr} {es : List Expr} {p pos : Pos} {t : TA} {W : WX}
def tMakeS (C : Addr) (sp : Sp) (W : WX) (ta : TA) : TE := fun σ H Q => ta σ H fun vs H1 => ∀ y dx, H1 y = none → H1 dx = none → dx ≠ y → sp (.ref y :: vs) (upd (upd H1 dx (.own y)) y (.ins C dx [])) (fun v H2 => v = .non ∧ Q (.ref y) H2) (WE W σ)
theorem pe_makeS (N : Mk X.K C f) (F : FnOk X.prog X.w X.K X.mg X.base CX k f fd ps sp) (hr : Room (k + 1) X.A) (hg : Gl X x) (hm : X.mg x = some (.ref C)) (hb : Binds X.K fd ps []) (hx : ∀ σ, PassesAt CX X σ (WE W σ)) (ha : PA X (e :: es) t) (hdb : (x == ("__debug__" : Str)) = false := by decide)
    (he : starEach (e :: es) X.env = (false, eval e X.env) :: starEach es X.env := by rfl) (hpl : (backTo pos (starEach es X.env)).any (·.1) = false := by rfl) : PE X (.Call (.Name x p) (e :: es) [] pos) (tMakeS C sp W t) := ⟨fun pins s0 σ H Q I0 h0 => by
  refine wpAny_Call_Name_kw (ld_glob I0 hg hm (PySem.W.callWith_K (h₀ := X.base) I0.ok.mod.kin N.kp (thn (ha.run pos pins s0 σ H _ I0 h0) fun us s ⟨vs, H1, I, r, q⟩ => ⟨I.kIn, ?_⟩) he hpl) hdb)
  have hq := q (s.heap.objs.size + 1) s.heap.objs.size (I.hok.fresh (Nat.le_succ _)) (I.hok.fresh (Nat.le_refl _)) (Nat.ne_of_lt (Nat.lt_succ_self _))
  have J := Inv.made (C := C) I
  have r2 : Vals (V.ref (s.heap.objs.size + 1) :: vs) (Value.ref (s.heap.objs.size + 1) :: us) := .cons rfl r
  have lp := F.len _ _ _ _ hq
  have b2 := hb _ (Value.ref (s.heap.objs.size + 1) :: us) J.kIn (by rw [List.append_nil, ← r2.length, lp])
  rw [List.append_nil] at b2
  refine wpAny_call (make_map (f := f) I.kIn N.makes N.init (beq_iff_eq.mp N.fn) (codeAny_mono (F.run _ X.stack _ _ ⟨Value.ref (s.heap.objs.size + 1) :: us, []⟩ (Value.ref (s.heap.objs.size + 1) :: us) _ _ (WE W σ) (hr.make C us []) (J.env0.make C us []) b2 r2 hq) fun z s' hq' => ?_))
  match z, hq' with
  | .error er, hq' => exact hx σ pins _ _ er s' J hq'
  | .ok .next, hq' => exact False.elim hq'
  | .ok .brk, hq' => exact False.elim hq'
  | .ok .cont, hq' => exact False.elim hq'
  | .ok (.ret u), hq' =>
    obtain ⟨v, H', J3, rv, ev, q3⟩ := J.after hq'
    subst ev
    exact ⟨rv, ⟨V.ref (s.heap.objs.size + 1), H', J3, rfl, q3⟩⟩⟩
end
section
variable {X : Cx} {Γ : Ctx} {C f : Addr} {fd : FuncData} {ps : List Str} {k : Nat} {x : Str} {e c a b : Expr} {es : List Expr} {p pos : Pos} {W : WX} {α : Type} {pre : α → Prop} {args : α → List Ty} {ri : α → List (Str × Ty)} {ok : α → Bool} {V0 : Value}
theorem hasx_make (N : Mk X.K C f) (F : FnOk X.prog X.w X.K X.mg X.base (L2N.CX X.prog X.w) k f fd ps (Spix C pre args ri ok V0)) (hbi : Binds X.K fd ps []) (tk : L2N.Takes X W) (hm : X.mg x = some (.ref C)) (a : α) (pa' : pre a) (ha : HasA X Γ (e :: es) (args a)) (hr : Room (k + 1) X.A) (hg : Gl X x := by rfl) (hdb : (x == ("__debug__" : Str)) = false := by decide)
    (he : starEach (e :: es) X.env = (false, eval e X.env) :: starEach es X.env := by rfl) (hpl : (backTo pos (starEach es X.env)).any (·.1) = false := by rfl) : HasX X Γ (.Call (.Name x p) (e :: es) [] pos) (if ok a = true then some (tO C (ri a)) else none) V0 W := fun σ K H s g Q q qx => by
  refine we_of (pe_makeS N F hr hg hm hbi (L2N.passAt tk) pa_wa hdb he hpl) (ha σ K H s g _ fun vs K1 H1 g1 h1 x' dx nx ndx ne => ?_)
  have kx : K1 x' = none := g1.s.back nx
  have kd : K1 dx = none := g1.s.back ndx
  refine ⟨a, K1, x', dx, vs, rfl, kx, upd_same, pa', (g1.s.past kd).past kx, h1, fun hk K' H' dx' vs' ek es' kx' hk2 hf hx hv => ⟨rfl, ?_⟩, fun hk d K' H' g2 => ?_⟩
  · have e0 : Ex H1 H' := fun b o hb => hk2 b o (fun z => by rw [z, nx] at hb; cases hb) (by
      rw [upd_ne (fun z => by rw [z, nx] at hb; cases hb), upd_ne (fun z => by rw [z, ndx] at hb; cases hb)]
      exact hb)
    have ek2 : Ex K' (upd K' x' (.ins C dx' vs')) := Ex.new kx'
    refine q _ (if_pos hk) _ (upd K' x' (.ins C dx' vs')) H' (g1.trans ⟨e0, ek.trans ek2, fun b o hb => ?_, fun b hb kb => ?_⟩) ⟨x', dx', vs', rfl, upd_same, hv.mo ek2⟩
    · by_cases z : b = x'
      · subst z
        rw [upd_same] at hb
        rw [← hb]
        exact hx
      · rw [upd_ne z] at hb
        exact es' b o hb
    · have z : b ≠ x' := fun z => hb (by rw [z]; exact nx)
      rw [upd_ne z]
      refine hf b ?_ kb
      rw [upd_ne z]
      by_cases zd : b = dx
      · rw [zd, upd_same]
        exact Option.some_ne_none _
      · rw [upd_ne zd]
        exact hb
  · refine qx (if_neg (by rw [hk]; decide)) d K' H' (g1.trans ⟨fun b o hb => g2.h b o ?_, g2.k, g2.s, fun b hb kb => g2.f b ?_ kb⟩)
    · rw [hide_ne (fun z => by rw [z, nx] at hb; cases hb), upd_ne (fun z => by rw [z, nx] at hb; cases hb), upd_ne (fun z => by rw [z, ndx] at hb; cases hb)]
      exact hb
    · have z : b ≠ x' := fun z => hb (by rw [z]; exact nx)
      rw [hide_ne z, upd_ne z]
      by_cases zd : b = dx
      · rw [zd, upd_same]
        exact Option.some_ne_none _
      · rw [upd_ne zd]
        exact hb
theorem hasx_if {r : Option Ty} {kk : Bool} (hc : HasT X Γ c kk) (ha : kk = true → HasX X Γ a r V0 W) (hb : kk = false → HasX X Γ b r V0 W) : HasX X Γ (.IfExp c a b pos) r V0 W := fun σ K H s g Q q qx =>
  we_of (pe_ifExp pt_wt pe_we pe_we) (hc σ K H s g _ fun K1 H1 g1 => by
    cases kk with
    | true =>
      rw [if_pos rfl]
      exact ha rfl σ K1 H1 g1.s (g.mo g1.k) Q (fun t ht v K2 H2 g2 h2 => q t ht v K2 H2 (g1.trans g2) h2) fun hn d K2 H2 g2 => qx hn d K2 H2 (g1.trans g2)
    | false =>
      rw [if_neg Bool.false_ne_true]
      exact hb rfl σ K1 H1 g1.s (g.mo g1.k) Q (fun t ht v K2 H2 g2 h2 => q t ht v K2 H2 (g1.trans g2) h2) fun hn d K2 H2 g2 => qx hn d K2 H2 (g1.trans g2))
/-- f(key = e) -/
theorem hasx_kw {res : α → Option Ty} {key : Str} {kp : Pos} {t : Ty} (F : CalK X.prog X.w X.K X.mg X.base (L2N.CX X.prog X.w) x key k (Spx pre args res V0)) (tk : L2N.Takes X W) (a : α) (hp : pre a) (ha : args a = [t]) (h : Has X Γ e t) (hr : Room k X.A) (hg : Gl X x := by rfl) (hdb : (x == ("__debug__" : Str)) = false := by decide)
    (hall : (backToKw pos (keywordEach [⟨some key, e, kp⟩] X.env)).all (·.1.isSome) = true := by rfl) (hks : (backToKw pos (keywordEach [⟨some key, e, kp⟩] X.env)).filterMap (·.1) = [key] := by rfl)
    (hpl : ((backTo pos (starEach [] X.env)).any (·.1) || (backToKw pos (keywordEach [⟨some key, e, kp⟩] X.env)).any (·.1.isNone)) = false := by rfl) : HasX X Γ (.Call (.Name x p) [] [⟨some key, e, kp⟩] pos) (res a) V0 W := fun σ K H s g0 Q q qx => by
  obtain ⟨f, fd, G, hm, hk, hb, _⟩ := F.ex
  have z : PE X (.Call (.Name x p) [] [⟨some key, e, kp⟩] pos) (fun σ H Q => we X e σ H fun v H1 => Spx pre args res V0 [v] H1 Q (WE W σ)) := ⟨fun pins s σ H Q I h0 => by
    refine wpAny_Call_Name_kw (ld_glob I hg hm (PySem.W.callWith_KW0 (h₀ := X.base) I.ok.mod.kin hk hall (thn ((pk_cons pe_we pk_nil).run pos pins s σ H (fun zs H1 => ∃ v, zs = [v] ∧ Spx pre args res V0 [v] H1 Q (WE W σ)) I ?_) fun ws s2 ⟨zs, H2, I2, rz, v, ez, q2⟩ => ⟨I2.kIn, ?_⟩) hpl) hdb)
    · show we X e σ H _
      exact fun pins s I => thn (h0 pins s I) fun u s1 ⟨v, H1, I1, r1, q1⟩ => ⟨v, H1, I1, r1, v, rfl, q1⟩
    · subst ez
      rw [hks]
      have l2 : ws.length = 1 := rz.length.symm
      refine wpAny_call (codeAny_mono (G.run X.A X.stack s2 H2 ⟨[], [key].zip ws⟩ ws [v] Q (WE W σ) hr I2.env0 (hb.to s2 [] ws I2.kIn rfl l2) rz q2) fun r s' hq => ?_)
      match r, hq with
      | .error er, hq => exact L2N.passAt tk σ pins H2 s2 er s' I2 hq
      | .ok .next, hq => exact False.elim hq
      | .ok .brk, hq => exact False.elim hq
      | .ok .cont, hq => exact False.elim hq
      | .ok (.ret u), hq => exact I2.after hq⟩
  refine we_of z (h σ K H s g0 _ fun v K1 H1 g1 tv => ?_)
  exact ⟨a, K1, hp, g1.s, by rw [ha]; exact ⟨tv, trivial⟩, fun t ht v K2 H2 g2 h2 => q t ht v K2 H2 (g1.trans g2) h2, fun hn d K2 H2 g2 => qx hn d K2 H2 (g1.trans g2)⟩
end
/-! ### the defs -/
section
variable {P : Program} {w : World} {K : PySem.W.Frag} {mg : Str → Option Value} {base : Heap}
abbrev vIS (K : PySem.W.Frag) : Value := .ref (ca K "InvalidShares")
abbrev vNW (K : PySem.W.Frag) : Value := .ref (ca K "NotWhole")
noncomputable def isK (a : Rsh) : Bool := decide (M.led a.2 a.1 = a.2)
noncomputable def rKn (K : PySem.W.Frag) (a : Rsh) : Option Ty := if isK a = true then some (tKn K a) else none
theorem fx_looked_at (T : Tx K mg) : CalX P w K mg base "looked_at" 9 (Spx (α := Rsh) pSh (fun a => [tRsq K a.1, tRq K a.2]) (rKn K) (vIS K)) := by
  have d := T.d 26 _ rfl
  obtain ⟨fd, F⟩ := d.fd
  refine ⟨_, fd, ["rows", "shares"], fn_tyX F (C8.fnScope_by (N := ["rows", "shares", "told"]) (P := ["rows", "shares"]) (by decide +kernel)) (fun _ => rfl) fun a pq b r Kb Hb D W tk _ hD hW => ?_, d.mg, F.kp, F.bindsN fun _ _ _ _ _ _ us hl => match us, hl with | [_, _], _ => rfl⟩
  have nd : (["rows", "shares", "told"] : List Str).Nodup := by decide +kernel
  have hl := pq.ro.hi
  have hl2 := pq.len
  refine bl_if (hast_not (hast_val (has_call (f_are_rows T) a.1 pq.ro (hasa_cons (has_var 0) hasa_nil) r))) (fun h => by cases h) fun _ => bl_fall ?_
  refine bl_asg 2 (has_call (f_told_rows_of T) a.1 pq.ro (hasa_cons (has_var 0) hasa_nil) (r.mono (by decide))) ?_ nd
  cases hk : isK a with
  | true =>
    refine bl_if (k := false) (HasT.is (hast_not (hast_val (has_call (f_are_shares T) a pq (hasa_cons (has_var 2) (hasa_cons (has_var 1) hasa_nil)) r))) (by show (!(isK a)) = false; rw [hk]; rfl)) (fun h => by cases h) fun _ => bl_fall ?_
    exact bl_ret (k_Known T a (by omega) (has_var 2) (Has.qT (has_call (f_told_numbers T) a.2 (by omega) (hasa_cons (has_var 1) hasa_nil) (r.mono (by decide)))) (r.mono (by decide))) fun v K' H' g _ h => hD _ (if_pos hk) v K' H' g h
  | false =>
    refine bl_if (k := true) (HasT.is (hast_not (hast_val (has_call (f_are_shares T) a pq (hasa_cons (has_var 2) (hasa_cons (has_var 1) hasa_nil)) r))) (by show (!(isK a)) = true; rw [hk]; rfl)) (fun _ => ?_) fun h => by cases h
    exact bl_raiseIS T rfl tk (has_var 1) (fun d' σ H ⟨K', g, _, _⟩ => hW (if_neg (by rw [hk]; decide)) d' σ K' H g) (r.mono (by decide))
theorem fx_WInit (T : Tx K mg) {fd : FuncData} (F : FdW K fd) :
    FnOk P w K mg base (L2N.CX P w) 10 (He.ma K (ca K "Walk") "__init__") fd ["self", "rows", "shares"] (Spix (α := Rsh) (ca K "Walk") pSh (fun a => [tRR K a.1, tRs K a.2]) (fun a => fW K a) isK (vIS K)) := by
  refine init_tyX F (C8.fnScope_by (N := ["self", "rows", "shares", "known"]) (P := ["self", "rows", "shares"]) (by decide +kernel)) (fun _ => rfl) fun a pa b r Kb Hb D W y hy tk _ hD hW => ?_
  have nd : (["self", "rows", "shares", "known"] : List Str).Nodup := by decide +kernel
  refine bl_asgX (r := rKn K a) 3 (hasx_if (hast_val (kn_isi T (bb := false) (has_var (t := tRR K a.1) 1) hty_L (T.kt 1 (q := kq (.type "list") "Known" false)))) (fun h => by cases h) fun _ => hasx_call (fx_looked_at T) tk a pa (hasa_cons (Has.q (has_var 1)) (hasa_cons (Has.q (has_var (t := tRs K a.2) 2)) hasa_nil)) r) (fun t ht => ?_) (fun hn d σ H ⟨K', g, _, _⟩ => ?_) nd
  · unfold rKn at ht
    cases hk : isK a with
    | false => rw [hk] at ht; cases ht
    | true =>
      rw [hk, if_pos rfl] at ht
      cases ht
      refine bl_fld (t := tRtt K a.1) 0 rfl hy mNone.fr T.cW.cl (T.n 4 (q := nq "Walk" "own_rows")) rfl (by simp) (k_Kr T (has_var 3)) ?_
      refine bl_fld (t := tRt K a.2) 0 rfl hy mNone.fr T.cW.cl (T.n 5 (q := nq "Walk" "own_shares")) rfl (by simp) (k_Ks T (has_var 3)) ?_
      refine bl_fld (t := tAny) 0 rfl hy mNone.fr T.cW.cl (T.n 6 (q := nq "Walk" "own_kept")) rfl (by simp) (Has.imp (has_lst hasa_nil (by simp)) fun _ _ _ => trivial) ?_
      exact bl_nil fun σ H ⟨K', g, _, m, _⟩ => by
        rw [‹D.nx = _›]
        exact hD hk K' H g m
  · cases hk : isK a with
    | false => exact hW hk d σ K' H g
    | true =>
      unfold rKn at hn
      rw [hk, if_pos rfl] at hn
      cases hn
/-- Walk(rows, shares) of lists -/
theorem kx_Walk {X : Cx} {Γ : Ctx} {e e2 : Expr} {pos p : Pos} {W : WX} (T : Tx X.K X.mg) (a : Rsh) (hp : pSh a) (tk : L2N.Takes X W) (h1 : Has X Γ e (tRR X.K a.1)) (h2 : Has X Γ e2 (tRs X.K a.2)) (hr : Room 11 X.A) (hg : Gl X "Walk" := by rfl)
    (he : starEach (e :: [e2]) X.env = (false, eval e X.env) :: starEach [e2] X.env := by rfl) (he2 : starEach [e2] X.env = (false, eval e2 X.env) :: starEach [] X.env := by rfl) (hpl : (backTo pos (starEach [e2] X.env)).any (·.1) = false := by rfl) :
    HasX X Γ (.Call (.Name "Walk" p) [e, e2] [] pos) (if isK a = true then some (tWk X.K a) else none) (vIS X.K) W := by
  obtain ⟨fd, F⟩ := (T.m 8 _ rfl).fd
  exact hasx_make T.mW (fx_WInit T F) (bdW F) tk T.gW a hp (hasa_cons h1 (hasa_cons h2 hasa_nil he2) he) hr hg (by decide) he hpl
/-- what walk_of asks of its rows -/
structure pWo (rows : List (List Rat)) : Prop where
  ro : pRo rows
  on : (clR rows).isNone = true → pOn rows
noncomputable def rWo (K : PySem.W.Frag) (rows : List (List Rat)) : Option Ty := if (clR rows).isNone = true then some (tWk K (rows, M.onlyShares rows)) else none
theorem fx_walk_of (T : Tx K mg) : CalK P w K mg base (L2N.CX P w) "walk_of" "rows" 9 (Spx (α := List (List Rat)) pWo (fun a => [tRR K a]) (rWo K) (vNW K)) := by
  have d := T.d 33 _ rfl
  obtain ⟨fd, F⟩ := d.fd
  have bd := F.bindsN (ps := ["rows"]) fun _ _ _ _ _ _ us hl => match us, hl with | [_], _ => rfl
  have kb : KBn K fd ["rows"] 0 ["rows"] (fun _ ws => ws) (fun _ zs => zs) := by
    obtain ⟨oc, od, dV, kV, doc, pm, an, cdv, ct, osl, rfl, lk, hcd, hDf, hK⟩ := F.ex
    rcases hDf with ⟨_, rfl⟩ | ⟨e, _⟩
    · exact kbn1 fun v => rfl
    · exact absurd rfl e
  refine ⟨_, fd, fn_tyX F (C8.fnScope_by (N := ["rows", "told"]) (P := ["rows"]) (by decide +kernel)) (fun _ => rfl) fun a pq b r Kb Hb D W tk _ hD hW => ?_, d.mg, F.kp, kb, bd⟩
  have nd : (["rows", "told"] : List Str).Nodup := by decide +kernel
  have hl := pq.ro.hi
  have hc : pCl2 a := ⟨hl, fun q hq => (pq.ro.ok q hq).1⟩
  refine bl_if (hast_not (hast_val (has_call (f_are_rows T) a pq.ro (hasa_cons (Has.q (has_var 0)) hasa_nil) r))) (fun h => by cases h) fun _ => bl_fall ?_
  refine bl_asg 1 (has_call (f_told_rows_of T) a pq.ro (hasa_cons (Has.q (has_var 0)) hasa_nil) (r.mono (by decide))) ?_ nd
  cases hk : (clR a).isNone with
  | true =>
    refine bl_if (k := false) (HasT.is (hast_not (hast_val (has_call (f_are_whole_rows T) a hc (hasa_cons (has_var 1) hasa_nil) (r.mono (by decide))))) (by rw [hk]; rfl)) (fun h => by cases h) fun _ => bl_fall ?_
    exact bl_ret (has_call (f_walk_made T) (a, M.onlyShares a) (by simp only; omega) (hasa_cons (has_var 1) (hasa_cons (has_call (f_only_shares T) a (pq.on hk) (hasa_cons (has_var 1) hasa_nil) (r.mono (by decide))) hasa_nil)) (r.mono (by decide))) fun v K' H' g _ h => hD _ (if_pos hk) v K' H' g h
  | false =>
    refine bl_if (k := true) (HasT.is (hast_not (hast_val (has_call (f_are_whole_rows T) a hc (hasa_cons (has_var 1) hasa_nil) (r.mono (by decide))))) (by rw [hk]; rfl)) (fun _ => ?_) fun h => by cases h
    refine bl_raise rfl tk (pmk_own0 PySem.F.excBase_RuntimeError T.xNW T.gNW T.kNW (raises_own T.bNW T.tNW) rfl) fun σ H ⟨K', g, _, _⟩ => ?_
    exact hW (if_neg (by rw [hk]; decide)) none σ K' H g
theorem CalK.x {x key : Str} {k : Nat} {sp : Sp} (c : CalK P w K mg base (L2N.CX P w) x key k sp) : CalX P w K mg base x k sp :=
  let ⟨f, fd, a, b, e, _, g⟩ := c.ex
  ⟨f, fd, [key], a, b, e, g⟩
end
end Z
end
section
set_option Elab.async false
set_option linter.all false
set_option exponentiation.threshold 20000
set_option maxRecDepth 100000
set_option maxHeartbeats 2000000
/-! Bent shares. -/
namespace M
theorem SR_add {f g : Nat → Rat} : ∀ {n : Nat}, (SR n fun i => f i + g i) = SR n f + SR n g
  | 0 => by show (0 : Rat) = 0 + 0; grind
  | n + 1 => by
    show SR n _ + (f n + g n) = (SR n f + f n) + (SR n g + g n)
    rw [SR_add]
    grind
theorem SR_zero {f : Nat → Rat} : ∀ {n : Nat}, (∀ i, i < n → f i = 0) → SR n f = 0
  | 0, _ => rfl
  | n + 1, h => by
    show SR n f + f n = 0
    rw [SR_zero fun i hi => h i (by omega), h n (by omega)]
    grind
/-- only the first two count -/
theorem SR_two {f : Nat → Rat} : ∀ {n : Nat}, 2 ≤ n → (∀ i, i < n → 2 ≤ i → f i = 0) → SR n f = f 0 + f 1
  | 0, h, _ => by omega
  | 1, h, _ => by omega
  | 2, _, _ => by show (0 + f 0) + f 1 = _; grind
  | n + 3, _, k => by
    show SR (n + 2) f + f (n + 2) = _
    rw [SR_two (by omega) fun i hi h => k i (by omega) h, k (n + 2) (by omega) (by omega)]
    grind
def bent (l : List Rat) (m : Rat) : List Rat := [l.getD 0 0 - m * l.getD 0 0, l.getD 1 0 + m * l.getD 0 0] ++ l.drop 2
def dl (l : List Rat) (m : Rat) (i : Nat) : Rat := if i = 0 then 0 - m * l.getD 0 0 else if i = 1 then m * l.getD 0 0 else 0
theorem bent_len {l : List Rat} {m : Rat} (h : 2 ≤ l.length) : (bent l m).length = l.length := by
  unfold bent
  simp only [List.length_append, List.length_cons, List.length_nil, List.length_drop]
  omega
theorem bent_get {l : List Rat} {m : Rat} {i : Nat} (h : 2 ≤ l.length) : (bent l m).getD i 0 = l.getD i 0 + dl l m i := by
  match l, h with
  | a :: b :: t, _ =>
    unfold bent dl
    match i with
    | 0 => simp; grind
    | 1 => simp
    | i + 2 =>
      simp
      grind
theorem bent_total {l : List Rat} {m : Rat} (h : 2 ≤ l.length) : total (bent l m) = total l := by
  have e1 : bent l m = (List.range l.length).map fun i => l.getD i 0 + dl l m i := list_get (bent_len h) fun i _ => bent_get h
  have e2 : l = (List.range l.length).map fun i => l.getD i 0 := list_get rfl fun i _ => rfl
  rw [e1, total_range, SR_add, SR_two (f := dl l m) h fun i _ hi => by unfold dl; rw [if_neg (by omega), if_neg (by omega)]]
  conv => rhs; rw [e2, total_range]
  unfold dl
  simp
  grind
theorem drop1_zero : ∀ {l : List Nat} {n : Nat}, l.length = n → 1 ≤ n → (l.drop 1 = List.replicate (n - 1) 0 ↔ ∀ p, p < n → p ≠ 0 → l.getD p 0 = 0)
  | [], n, h, h1 => by simp only [List.length_nil] at h; omega
  | a :: t, n, h, h1 => by
    simp only [List.length_cons] at h
    rw [List.drop_succ_cons, List.drop_zero, List.eq_replicate_iff]
    constructor
    · intro ⟨_, k⟩ p hp h0
      match p, h0 with
      | p + 1, _ =>
        rw [List.getD_cons_succ]
        exact k _ (getD_mem (by omega))
    · intro k
      refine ⟨by omega, fun b hb => ?_⟩
      obtain ⟨i, hi, rfl⟩ := List.getElem_of_mem hb
      have := k (i + 1) (by omega) (by omega)
      rwa [List.getD_cons_succ, getD_at hi] at this
theorem cut1_zero : ∀ {l : List Nat} {n : Nat}, l.length = n → 2 ≤ n → (cut 1 l = List.replicate (n - 1) 0 ↔ ∀ p, p < n → p ≠ 1 → l.getD p 0 = 0)
  | [], n, h, h1 => by simp only [List.length_nil] at h; omega
  | [_], n, h, h1 => by simp only [List.length_cons, List.length_nil] at h; omega
  | a :: c :: t, n, h, h1 => by
    simp only [List.length_cons] at h
    show a :: t = _ ↔ _
    rw [List.eq_replicate_iff]
    constructor
    · intro ⟨_, k⟩ p hp h0
      match p, h0 with
      | 0, _ => exact k a List.mem_cons_self
      | p + 2, _ =>
        rw [List.getD_cons_succ, List.getD_cons_succ]
        exact k _ (List.mem_cons_of_mem _ (getD_mem (by omega)))
    · intro k
      refine ⟨by simp only [List.length_cons]; omega, fun b hb => ?_⟩
      rcases List.mem_cons.mp hb with rfl | hb
      · exact k 0 (by omega) (by omega)
      · obtain ⟨i, hi, rfl⟩ := List.getElem_of_mem hb
        have := k (i + 2) (by omega) (by omega)
        rwa [List.getD_cons_succ, List.getD_cons_succ, getD_at hi] at this
theorem leads_false {n : Nat} {flow : List (List Nat)} (b : Box n flow) (h : 2 ≤ n) : leads flow = false ↔ (∀ p, p < n → p ≠ 0 → ent flow 0 p = 0) ∧ ∀ p, p < n → p ≠ 1 → ent flow 1 p = 0 := by
  unfold leads
  rw [b.len, Bool.or_eq_false_iff, Bool.not_eq_false', Bool.not_eq_false', decide_eq_true_iff, decide_eq_true_iff]
  exact and_congr (drop1_zero (b.row (by omega)) (by omega)) (cut1_zero (b.row (by omega)) h)
theorem S_two {f : Nat → Nat} {a b : Nat} : ∀ {n : Nat}, a < n → b < n → a ≠ b → f a + f b ≤ S n f
  | 0, h, _, _ => by omega
  | n + 1, h, h2, ne => by
    show f a + f b ≤ S n f + f n
    by_cases e : a = n
    · have := S_le (f := f) (n := n) (a := b) (by omega)
      rw [e]
      omega
    · by_cases e2 : b = n
      · have := S_le (f := f) (n := n) (a := a) (by omega)
        rw [e2]
        omega
      · have := S_two (f := f) (n := n) (a := a) (b := b) (by omega) (by omega) ne
        omega
theorem S_only {f : Nat → Nat} {a : Nat} : ∀ {n : Nat}, a < n → (∀ p, p < n → p ≠ a → f p = 0) → S n f = f a
  | 0, h, _ => by omega
  | n + 1, h, k => by
    show S n f + f n = f a
    by_cases e : a = n
    · have z : S n f = 0 := by
        have : S n f ≤ n * 0 := S_bd fun q hq => Nat.le_of_eq (k q (by omega) (by omega))
        omega
      rw [z, e]
      omega
    · rw [S_only (by omega) fun p hp h2 => k p (by omega) h2, k n (by omega) (by omega)]
      omega
/-- kept exactly if the first two rows lead nowhere else -/
theorem bent_kept {n : Nat} {flow : List (List Nat)} {m : Rat} (f : Flow n flow) (h2 : 2 ≤ n) (ha : 0 < allSum flow) (hm : m ≠ 0) : (led (bent (sharesOf flow) m) (rowsOf flow) = bent (sharesOf flow) m) ↔ leads flow = false := by
  have b := f.toBox
  have l1 : (rowsOf flow).length = n := by unfold rowsOf; rw [List.length_map, b.len]
  have l2 : (sharesOf flow).length = n := by unfold sharesOf; rw [List.length_map, b.len]
  have l3 : (bent (sharesOf flow) m).length = n := by rw [bent_len (by omega), l2]
  have k0 := flow_kept f ha
  rw [led_get (by omega), l1] at k0
  have hk : ∀ p, p < n → (SR n fun i => (sharesOf flow).getD i 0 * ((rowsOf flow).getD i []).getD p 0) = (sharesOf flow).getD p 0 := fun p hp => by
    have := congrArg (fun l => l.getD p 0) k0
    rw [← this, getD_at (by simpa using hp), List.getElem_map, List.getElem_range]
  let P : Nat → Nat → Rat := fun i p => ((rowsOf flow).getD i []).getD p 0
  let s0 : Rat := (sharesOf flow).getD 0 0
  have hs0 : s0 ≠ 0 := by
    show (sharesOf flow).getD 0 0 ≠ 0
    rw [shares_get (by rw [b.len]; omega), row_sum b (by omega)]
    have p1 := cast_ne (f.pos 0 (by omega))
    have p2 := cast_ne ha
    unfold out at p1
    rw [Rat.div_def]
    intro z
    rcases Rat.mul_eq_zero.mp z with z | z
    · exact p1 z
    · have := Rat.mul_inv_cancel _ p2
      rw [z] at this
      grind
  have eP : ∀ i p, i < n → p < n → P i p = ((ent flow i p : Nat) : Rat) / ((S n (ent flow i) : Nat) : Rat) := fun i p hi hp => by
    show ((rowsOf flow).getD i []).getD p 0 = _
    rw [rows_get (by rw [b.len]; exact hi) (by rw [b.row hi]; exact hp), row_sum b hi]
  have hled : ∀ p, p < n → (SR n fun i => (bent (sharesOf flow) m).getD i 0 * P i p) = (sharesOf flow).getD p 0 + m * s0 * (P 1 p - P 0 p) := fun p hp => by
    have e : (SR n fun i => (bent (sharesOf flow) m).getD i 0 * P i p) = SR n fun i => (sharesOf flow).getD i 0 * P i p + dl (sharesOf flow) m i * P i p := SR_congr fun i _ => by
      rw [bent_get (by omega)]
      grind
    rw [e, SR_add, hk p hp, SR_two h2 fun i _ hi => by unfold dl; rw [if_neg (by omega), if_neg (by omega)]; grind]
    unfold dl
    rw [if_pos rfl, if_neg (by decide), if_pos rfl]
    show _ + ((0 - m * s0) * P 0 p + m * s0 * P 1 p) = _
    grind
  have step : (led (bent (sharesOf flow) m) (rowsOf flow) = bent (sharesOf flow) m) ↔ ∀ p, p < n → P 1 p - P 0 p = if p = 0 then -1 else if p = 1 then 1 else 0 := by
    rw [led_get (by omega), l1]
    have e0 : bent (sharesOf flow) m = (List.range n).map fun i => (bent (sharesOf flow) m).getD i 0 := list_get l3 fun i _ => rfl
    constructor
    · intro h p hp
      have z := congrArg (fun l => l.getD p 0) h
      rw [getD_at (by simpa using hp), List.getElem_map, List.getElem_range, bent_get (by omega)] at z
      have z2 := hled p hp
      rw [show (SR n fun i => (bent (sharesOf flow) m).getD i 0 * P i p) = SR n fun i => (bent (sharesOf flow) m).getD i 0 * ((rowsOf flow).getD i []).getD p 0 from rfl, z] at z2
      unfold dl at z2
      have hms : m * s0 ≠ 0 := fun z => (Rat.mul_eq_zero.mp z).elim hm hs0
      have key : ∀ c : Rat, m * s0 * (P 1 p - P 0 p) = m * s0 * c → P 1 p - P 0 p = c := fun c hc => by
        generalize P 1 p - P 0 p = d at hc
        generalize m * s0 = y at hms hc
        grind
      by_cases p0 : p = 0
      · rw [if_pos p0] at z2 ⊢
        exact key _ (by show _ = m * s0 * -1; have : (sharesOf flow).getD 0 0 = s0 := rfl; rw [this] at z2; grind)
      · rw [if_neg p0] at z2 ⊢
        by_cases p1 : p = 1
        · rw [if_pos p1] at z2 ⊢
          exact key _ (by have : (sharesOf flow).getD 0 0 = s0 := rfl; rw [this] at z2; grind)
        · rw [if_neg p1] at z2 ⊢
          exact key _ (by grind)
    · intro h
      rw [e0]
      refine List.map_congr_left fun p hp => ?_
      have hp := List.mem_range.mp hp
      have z := hled p hp
      rw [show (SR n fun i => (bent (sharesOf flow) m).getD i 0 * P i p) = SR n fun i => (bent (sharesOf flow) m).getD i 0 * ((rowsOf flow).getD i []).getD p 0 from rfl] at z
      rw [← e0, z, h p hp, bent_get (by omega)]
      unfold dl
      have : (sharesOf flow).getD 0 0 = s0 := rfl
      rw [this]
      by_cases p0 : p = 0
      · rw [if_pos p0, if_pos p0]
        grind
      · rw [if_neg p0, if_neg p0]
        by_cases p1 : p = 1
        · rw [if_pos p1, if_pos p1]
          grind
        · rw [if_neg p1, if_neg p1]
          grind
  rw [step, leads_false b h2]
  have pos0 := f.pos 0 (by omega)
  have pos1 := f.pos 1 (by omega)
  unfold out at pos0 pos1
  have c0 := cast_ne pos0
  have c1 := cast_ne pos1
  constructor
  · intro h
    have h00 := h 0 (by omega)
    rw [if_pos rfl, eP 1 0 (by omega) (by omega), eP 0 0 (by omega) (by omega)] at h00
    -- P 0 0 = 1 + P 1 0
    have hge : S n (ent flow 0) ≤ ent flow 0 0 ∧ ent flow 1 0 = 0 := by
      have hle : ent flow 0 0 ≤ S n (ent flow 0) := S_le (by omega)
      have x : ent flow 1 0 * S n (ent flow 0) + S n (ent flow 1) * S n (ent flow 0) = ent flow 0 0 * S n (ent flow 1) := by
        have : ((ent flow 1 0 : Nat) : Rat) * ((S n (ent flow 0) : Nat) : Rat) + ((S n (ent flow 1) : Nat) : Rat) * ((S n (ent flow 0) : Nat) : Rat) = ((ent flow 0 0 : Nat) : Rat) * ((S n (ent flow 1) : Nat) : Rat) := by
          generalize ((S n (ent flow 0) : Nat) : Rat) = a at c0 h00
          generalize ((S n (ent flow 1) : Nat) : Rat) = d at c1 h00
          generalize ((ent flow 1 0 : Nat) : Rat) = u at h00
          generalize ((ent flow 0 0 : Nat) : Rat) = v at h00
          grind
        exact_mod_cast this
      have y1 : ent flow 0 0 * S n (ent flow 1) ≤ S n (ent flow 0) * S n (ent flow 1) := Nat.mul_le_mul_right _ hle
      rw [Nat.mul_comm (S n (ent flow 0))] at y1
      have z1 : ent flow 1 0 * S n (ent flow 0) = 0 := by omega
      have z2 : ent flow 1 0 = 0 := (Nat.mul_eq_zero.mp z1).resolve_right (by omega)
      refine ⟨?_, z2⟩
      rw [z1, Nat.zero_add, Nat.mul_comm] at x
      exact Nat.le_of_eq (Nat.eq_of_mul_eq_mul_right pos1 x)
    have hz : ∀ p, p < n → p ≠ 0 → ent flow 0 p = 0 := fun p hp h0 => by
      have := S_two (f := ent flow 0) (n := n) (a := 0) (b := p) (by omega) hp (Ne.symm h0)
      omega
    refine ⟨hz, fun p hp h1 => ?_⟩
    by_cases p0 : p = 0
    · rw [p0]
      exact hge.2
    · have hp' := h p hp
      rw [if_neg p0, if_neg h1, eP 1 p (by omega) hp, eP 0 p (by omega) hp, hz p hp p0] at hp'
      have : ((ent flow 1 p : Nat) : Rat) = 0 := by
        generalize ((S n (ent flow 1) : Nat) : Rat) = d at c1 hp'
        generalize ((S n (ent flow 0) : Nat) : Rat) = a at c0 hp'
        generalize ((ent flow 1 p : Nat) : Rat) = u at hp'
        have h0 : ((0 : Nat) : Rat) = 0 := rfl
        rw [h0] at hp'
        grind
      exact_mod_cast this
  · intro ⟨h0, h1⟩ p hp
    have s0' := S_only (f := ent flow 0) (n := n) (a := 0) (by omega) h0
    have s1' := S_only (f := ent flow 1) (n := n) (a := 1) (by omega) h1
    rw [eP 1 p (by omega) hp, eP 0 p (by omega) hp, s0', s1']
    rw [s0'] at c0 pos0
    rw [s1'] at c1 pos1
    have hz : ((0 : Nat) : Rat) = 0 := rfl
    by_cases p0 : p = 0
    · rw [if_pos p0, p0, h1 0 (by omega) (by decide), hz, div_one pos0]
      grind
    · rw [if_neg p0, h0 p hp p0, hz]
      by_cases p1 : p = 1
      · rw [if_pos p1, p1, div_one pos1]
        grind
      · rw [if_neg p1, h1 p hp p1, hz]
        grind
end M
end
section
set_option Elab.async false
set_option linter.all false
set_option exponentiation.threshold 20000
set_option maxRecDepth 100000
set_option maxHeartbeats 2000000
/-! _law_are_kept. -/
namespace Z
open PySem PySem.Spec PyProof.Rows L2 L2H
section
variable {X : Cx} {Γ : Ctx} {e e2 : Expr} {pos p : Pos} {Kb Hb : Hp} {N1 N2 N3 : Mt}
/-- Ratio(i, d), d being drawn -/
theorem hasc_RatioE {Pd : Nat → Prop} {i : Int} (T : Tx X.K X.mg) (hp : ∀ d, Pd d → pMk (i, d)) (h1 : HasC X Kb Hb Γ N1 e (tI i) N2) (h2 : HasC X Kb Hb Γ N2 e2 (tE Pd fun d : Nat => tI (d : Int)) N3) (hr : Room 3 X.A) (hg : Gl X "Ratio" := by rfl)
    (he : starEach (e :: [e2]) X.env = (false, eval e X.env) :: starEach [e2] X.env := by rfl) (he2 : starEach [e2] X.env = (false, eval e2 X.env) :: starEach [] X.env := by rfl) (hpl : (backTo pos (starEach [e2] X.env)).any (·.1) = false := by rfl) :
    HasC X Kb Hb Γ N1 (.Call (.Name "Ratio" p) [e, e2] [] pos) (tE Pd fun d => tR X.K (mkRat i d)) N3 := fun σ K H g sa m Q q => by
  obtain ⟨fd, F⟩ := (T.m 0 _ rfl).fd
  obtain ⟨ds, rd, bd⟩ := F.binds1 (ps := ["self", "top", "bottom"]) 3 1 (by simp) rfl fun T kV doc pm an cdv ct us its h1 h2 => match us, its, h1, h2 with | [_, _, _], [_], _, _ => ⟨_, rfl, rfl⟩
  have e0 : ds = [] := by cases rd; rfl
  subst e0
  refine we_of (pe_make T.mR (f_RInit T F) hr hg T.gR bd .nil pass0 pa_wa (by decide) he hpl) ((hasac_cons h1 (hasac_cons h2 hasac_nil he2) he) σ K H g sa m _ fun vs K1 H1 g1 e1 m1 hv x' dx nx ndx ne => ?_)
  obtain ⟨v1, v2, rfl, t1, d, pd, t2⟩ := hv.two
  rw [List.append_nil]
  exact spi_use (a := (i, d)) g1.s nx ndx ne (hp d pd) ⟨t1, t2, trivial⟩ fun v K2 H2 g2 h2 => q v K2 H2 (g1.trans g2) (e1.trans g2.k) (N3.st g2 m1) ⟨d, pd, h2⟩
end
/-- bent shares are proper -/
theorem sz_small {d : Nat} (h0 : 0 < d) (h : d < 64) : Sz 6 (mkRat 1 d) := by
  have e : (2 : Nat) ^ 6 = 64 := by decide
  exact sz_mk (by unfold Bd; decide) (by omega) (by omega)
theorem rat_pos {q : Rat} : 0 < q.num ↔ 0 < q := by
  have h1 := @Rat.num_nonneg q
  have h2 := @Rat.num_eq_zero q
  constructor
  · intro h
    have a := h1.mp (Int.le_of_lt h)
    have b : q ≠ 0 := fun z => by
      have := h2.mpr z
      omega
    grind
  · intro h
    have a : 0 ≤ q.num := h1.mpr (by grind)
    have b : q.num ≠ 0 := fun z => by
      have := h2.mp z
      grind
    omega
theorem bent_sh {n d : Nat} {flow : List (List Nat)} (f : M.Flow n flow) (h2 : 2 ≤ n) (h6 : n ≤ 6) (h0 : 1 < d) (hd : d < 64) : pSh (M.rowsOf flow, M.bent (M.sharesOf flow) (mkRat 1 d)) := by
  have fw := flow_fw f h2 h6
  have hl := f.toBox.len
  obtain ⟨a1, a2⟩ := allSum_bd f (by omega) h6
  have lr : (M.rowsOf flow).length = n := by unfold M.rowsOf; rw [List.length_map, hl]
  have ls : (M.sharesOf flow).length = n := by unfold M.sharesOf; rw [List.length_map, hl]
  have lb : (M.bent (M.sharesOf flow) (mkRat 1 d)).length = n := by rw [M.bent_len (by omega), ls]
  have e12 : (2 : Nat) ^ 12 = 4096 := by decide
  have hs : SzL 12 (M.sharesOf flow) := fun q hq => by
    obtain ⟨x, hx, rfl⟩ := List.mem_map.mp hq
    have := (flow_sums f h6 hx).2.2.1
    exact sz_frac (k := 12) (by omega) (by omega) a1
  have hpos : ∀ q ∈ M.sharesOf flow, 0 < q := fun q hq => rat_pos.mp (fw.k.gt q hq)
  have m0 : (M.sharesOf flow).getD 0 0 ∈ M.sharesOf flow := M.getD_mem (by omega)
  have m1 : (M.sharesOf flow).getD 1 0 ∈ M.sharesOf flow := M.getD_mem (by omega)
  have mp : (0 : Rat) < mkRat 1 d ∧ mkRat 1 d < 1 := by
    have e : mkRat 1 d = (1 : Rat) / (d : Rat) := by
      have := M.mk_div (a := 1) (b := d)
      simpa using this
    have hd0 : (0 : Rat) < (d : Rat) := by exact_mod_cast (show 0 < d by omega)
    have hd1 : (1 : Rat) < (d : Rat) := by exact_mod_cast h0
    rw [e]
    constructor
    · rw [Rat.div_def, Rat.one_mul]
      exact Rat.inv_pos.mpr hd0
    · rw [Rat.div_lt_iff hd0]
      grind
  have sm := sz_small (by omega) hd
  have bm : ∀ q ∈ M.bent (M.sharesOf flow) (mkRat 1 d), 0 < q ∧ Sz 100 q := fun q hq => by
    have p0 := hpos _ m0
    have p1 := hpos _ m1
    have z0 := hs _ m0
    have z1 := hs _ m1
    have pm : 0 < mkRat 1 d * (M.sharesOf flow).getD 0 0 := Rat.mul_pos mp.1 p0
    unfold M.bent at hq
    rcases List.mem_append.mp hq with hq | hq
    · simp only [List.mem_cons, List.not_mem_nil, or_false] at hq
      rcases hq with rfl | rfl
      · refine ⟨?_, (z0.sub (sm.mul z0)).mono (by decide)⟩
        have : (M.sharesOf flow).getD 0 0 - mkRat 1 d * (M.sharesOf flow).getD 0 0 = (1 - mkRat 1 d) * (M.sharesOf flow).getD 0 0 := by grind
        rw [this]
        exact Rat.mul_pos (by have := mp.2; grind) p0
      · exact ⟨by grind, (z1.add (sm.mul z0)).mono (by decide)⟩
    · have hq' := List.mem_of_mem_drop hq
      exact ⟨hpos _ hq', (hs _ hq').mono (by decide)⟩
  refine ⟨fw.k.ro, ⟨⟨by simp only [lb]; exact h6, fun q hq => Int.le_of_lt (rat_pos.mpr (bm q hq).1), ?_⟩, fun q hq => (bm q hq).2.mono (by decide)⟩, by simp only [lb, lr], fun q hq => rat_pos.mpr (bm q hq).1, fw.k.s1, fun q hq => (bm q hq).2.mono (by decide)⟩
  show M.total (M.bent _ _) = 1
  rw [M.bent_total (by omega)]
  exact M.total_shares f.toBox a1
theorem bent_ne {n d : Nat} {flow : List (List Nat)} (f : M.Flow n flow) (h2 : 2 ≤ n) (h6 : n ≤ 6) (h0 : 1 < d) : M.bent (M.sharesOf flow) (mkRat 1 d) ≠ M.sharesOf flow := fun z => by
  have fw := flow_fw f h2 h6
  have ls : (M.sharesOf flow).length = n := by unfold M.sharesOf; rw [List.length_map, f.toBox.len]
  have p0 : 0 < (M.sharesOf flow).getD 0 0 := rat_pos.mp (fw.k.gt _ (M.getD_mem (by simp only; omega)))
  have hm : mkRat 1 d ≠ 0 := fun y => by
    rw [Rat.mkRat_eq_zero (by omega)] at y
    cases y
  have := congrArg (fun l => l.getD 0 0) z
  rw [show (M.bent (M.sharesOf flow) (mkRat 1 d)).getD 0 0 = (M.sharesOf flow).getD 0 0 - mkRat 1 d * (M.sharesOf flow).getD 0 0 from rfl] at this
  have y : mkRat 1 d * (M.sharesOf flow).getD 0 0 = 0 := by grind
  rcases Rat.mul_eq_zero.mp y with y | y
  · exact hm y
  · rw [y] at p0
    exact absurd p0 (by decide)
section
variable {P : Program} {w : World} {K : PySem.W.Frag} {mg : Str → Option Value} {base : Heap}
theorem f_kept (T : Tx K mg) : Cal P w K mg base "_law_are_kept" 20 (Spp (α := List (List Nat)) pKf (fun flow => [tNN flow]) fun _ => tB true) :=
  T.calP 14 rfl (C8.fnScope_by (N := ["_law_pot_here", "_law_flow_here", "_law_shares_here", "_law_more", "_law_bent", "_law_told"]) (P := ["_law_pot_here", "_law_flow_here"]) (by decide +kernel)) (fun _ => rfl) (fun _ _ _ _ _ _ us hl => match us, hl with | [_, _], _ => rfl) fun nd flow pf b r Kb Hb D y hy _ hD => by
    obtain ⟨n, f, h2, h5⟩ := pf
    have fw := flow_fw f h2 (by omega)
    have lf := f.toBox.len
    have ls : (M.sharesOf flow).length = n := by unfold M.sharesOf; rw [List.length_map, lf]
    have a1 := (allSum_bd f (by omega) (by omega)).1
    have rl : pRl flow := ⟨by omega, by omega, fun q hq => by rw [lf]; exact f.toBox.rect q hq⟩
    have z0 : Sz 190 ((M.sharesOf flow).getD 0 0) := fw.k.s2 _ (M.getD_mem (by simp only; omega))
    have z1 : Sz 190 ((M.sharesOf flow).getD 1 0) := fw.k.s2 _ (M.getD_mem (by simp only; omega))
    have i0 : IxT (cxB CX0 P w K mg base ["_law_pot_here", "_law_flow_here", "_law_shares_here", "_law_more", "_law_bent", "_law_told"] "_law_are_kept" (defScope (top 73)) (ca K "_law_are_kept") b) (tRs K (M.sharesOf flow)) (tI ((0 : Nat) : Int)) (tR K ((M.sharesOf flow).getD 0 0)) := ix_L (getRs (by omega))
    have i1 : IxT (cxB CX0 P w K mg base ["_law_pot_here", "_law_flow_here", "_law_shares_here", "_law_more", "_law_bent", "_law_told"] "_law_are_kept" (defScope (top 73)) (ca K "_law_are_kept") b) (tRs K (M.sharesOf flow)) (tI ((1 : Nat) : Int)) (tR K ((M.sharesOf flow).getD 1 0)) := ix_L (getRs (by omega))
    refine bl_parC 2 3 (Has.cc (has_call (f_lshares T) flow fw.s (hasa_cons (has_var 1) hasa_nil) (r.mono (by decide)))) (hasc_RatioE T (fun d hd => ?_) (Has.cc has_int) (hasc_op (Has.cc (has_int (i := 50))) (hasc_draw T 9 (by decide) (by decide) 0 rfl hy mNone.fr (Has.cc has_int) (r.mono (by decide))) (bt_addE (c := 50))) (r.mono (by decide))) ?_ nd
    · obtain ⟨d0, h0, rfl⟩ := hd
      exact ⟨by simp only; omega, Nat.lt_of_lt_of_le (show 50 + d0 < 2 ^ 6 by show 50 + d0 < 64; omega) (Nat.pow_le_pow_right (by decide) (by decide))⟩
    refine bl_openE 3 rfl fun d hd => ?_
    obtain ⟨d0, h0, rfl⟩ := hd
    have hd1 : 1 < 50 + d0 := by omega
    have hd2 : 50 + d0 < 64 := by omega
    generalize 50 + d0 = d at hd1 hd2
    have sm : Sz 190 (mkRat 1 d) := (sz_small (by omega) hd2).mono (by decide)
    have bs := bent_sh f h2 (by omega) hd1 hd2
    have bn := bent_ne f h2 (by omega) hd1
    have bk := M.bent_kept (m := mkRat 1 d) f h2 a1 (fun y => by
      rw [Rat.mkRat_eq_zero (by omega)] at y
      cases y)
    have lb : (M.bent (M.sharesOf flow) (mkRat 1 d)).length = n := by rw [M.bent_len (by omega), ls]
    refine bl_asg (t := tRs K (M.bent (M.sharesOf flow) (mkRat 1 d))) 4 (Has.is (has_op (has_lst (hasa_cons (has_op (has_ix (has_var 2) has_int i0) (has_op (has_var 3) (has_ix (has_var 2) has_int i0) (bt_ratMul T (r.mono (by decide)) (sm.mono (by decide)) (z0.mono (by decide)))) (bt_ratSub T (r.mono (by decide)) (z0.mono (by decide)) ((sm.mul z0).mono (by decide)))) (hasa_cons (has_op (has_ix (has_var 2) has_int i1) (has_op (has_var 3) (has_ix (has_var 2) has_int i0) (bt_ratMul T (r.mono (by decide)) (sm.mono (by decide)) (z0.mono (by decide)))) (bt_ratAdd T (r.mono (by decide)) (z1.mono (by decide)) ((sm.mul z0).mono (by decide)))) hasa_nil)) (by simp only [List.length_cons, List.length_nil]; decide)) (has_sliceLo (n := 2) (has_var 2) has_int) (bt_cat (by simp only [List.length_cons, List.length_nil, List.length_drop, List.length_map]; omega))) ?_) ?_ nd
    · unfold M.bent
      show _ = tL (List.map (tR K) (_ ++ _))
      rw [List.map_append, List.map_drop]
      rfl
    refine bl_asg 5 has_non ?_ nd
    refine bl_try rfl rfl rfl ⟨rfl, by decide, .inl T.gIS⟩ (fun W pn xe tk hw => ?_) T.eIS
    refine bl_asgX 5 (kx_Walk T (M.rowsOf flow, M.bent (M.sharesOf flow) (mkRat 1 d)) bs tk (has_call (f_lrows T) flow fw.f (hasa_cons (has_var 1) hasa_nil) (r.mono (by decide))) (has_var 4) (r.mono (by decide))) (fun t ht => ?_) (fun hn d' σ H st => hw d' σ H fun a oe pn2 hot ha => ?_) nd
    · cases hk : isK (M.rowsOf flow, M.bent (M.sharesOf flow) (mkRat 1 d)) with
      | false =>
        rw [hk] at ht
        cases ht
      | true =>
        rw [hk, if_pos rfl] at ht
        cases ht
        have lead : M.leads flow = false := bk.mp (of_decide_eq_true hk)
        refine bl_nil fun σ H st => Bl.use ?_ st
        refine bl_ret (t := tB true) (has_and (k := true) (Has.is (has_not (has_call (f_lead T) flow rl (hasa_cons (has_var 1) hasa_nil) (r.mono (by decide)))) (by rw [lead]; rfl)) fun _ => has_one (Has.is (has_cmp (has_var (t := tWk K (M.rowsOf flow, M.bent (M.sharesOf flow) (mkRat 1 d))) 5) (has_call (f_lwalk T) flow fw (hasa_cons (has_var 1) hasa_nil) (r.mono (by decide))) (ct_neW T (a := (M.rowsOf flow, M.bent (M.sharesOf flow) (mkRat 1 d))) (b := (M.rowsOf flow, M.sharesOf flow)) ⟨Same2.refl _, by simp only [lb, ls]⟩ (r.mono (by decide)))) ?_)) fun v K' H' g m h => hD v K' H' g m.1 h
        rw [decide_eq_false bn, Bool.and_false]
        rfl
    · cases hk : isK (M.rowsOf flow, M.bent (M.sharesOf flow) (mkRat 1 d)) with
      | true =>
        rw [hk, if_pos rfl] at hn
        cases hn
      | false =>
        have lead : M.leads flow = true := by
          cases hl : M.leads flow with
          | true => rfl
          | false => exact absurd (bk.mpr hl) (of_decide_eq_false hk)
        refine Bl.use ?_ st
        refine bl_ret (t := tB true) (Has.is (has_callH (f_leadH T) flow rl (hasa_cons (has_var 1) hasa_nil) ⟨(r.mono (by decide : 1 ≤ 19)).dp, (r.mono (by decide : 1 ≤ 19)).un⟩ hot) (by rw [lead])) fun v K' H' g m h => hD v K' H' g m.1 h
end
end Z
end
section
set_option Elab.async false
set_option linter.all false
set_option exponentiation.threshold 20000
set_option maxRecDepth 100000
set_option maxHeartbeats 2000000
/-! _law_drawn_right. -/
namespace M
/-- drawn weights -/
structure DrRow (n : Nat) (r : List Nat) : Prop where
  len : r.length = n
  pos : 0 < r.sum
  lt : ∀ x ∈ r, x < 3
structure Dr (n : Nat) (rows : List (List Nat)) : Prop where
  len : rows.length = n
  row : ∀ r ∈ rows, DrRow n r
theorem mem_le_sum : ∀ {l : List Nat} {x : Nat}, x ∈ l → x ≤ l.sum
  | [], _, h => by cases h
  | a :: l, x, h => by
    rw [List.sum_cons]
    rcases List.mem_cons.mp h with h | h
    · omega
    · have := mem_le_sum h
      omega
end M
namespace Z
open PySem PySem.Spec PyProof.Rows L2 L2H
/-- what the walk needs of drawn rows -/
structure DrOk (flow : List (List Nat)) : Prop where
  ro : pRo (M.rowsOf flow)
  fl : pFl flow
  iw : pIw flow
  cl : (clR (M.rowsOf flow)).isNone = isW flow
  on : isW flow = true → pOn (M.rowsOf flow) ∧ pOl flow ∧ M.onlyShares (M.rowsOf flow) = M.only flow ∧ pKp (M.rowsOf flow, M.only flow)
  lr : ∀ s, pLr ((M.rowsOf flow, s), flow)
section
variable {X : Cx} {Γ : Ctx}
theorem bt_subE : BinT X .Sub (tLt 5) (tI 2) (tE (fun i : Int => -2 ≤ i ∧ i < 3) tI) := ⟨_, op_sub, fun x y K H s ⟨d, hd, hx⟩ hy Q q => ⟨(d : Int), 2, hx, hy, q _ K H (Gr.refl s) ⟨(d : Int) - 2, ⟨by omega, by omega⟩, rfl⟩⟩⟩
theorem ct_maxE (hc : X.calm = true) : CallT X (.builtin "max") [tI 0, tE (fun i : Int => -2 ≤ i ∧ i < 3) tI] (tLt 3) := ⟨_, call_max2 hc, fun vs K H s hv Q q => by
  obtain ⟨v, w, rfl, e, i, hi, e2⟩ := hv.two
  have e' : v = .int 0 := e
  have e2' : w = .int i := e2
  subst e' e2'
  refine ⟨0, i, rfl, q _ K H (Gr.refl s) ?_⟩
  split
  · exact ⟨i.toNat, by omega, by
      show V.int i = V.int ((i.toNat : Nat) : Int)
      congr 1
      omega⟩
  · exact ⟨0, by decide, rfl⟩⟩
theorem all2_last {α : Type} {P : α → Prop} {f : α → Ty} : ∀ {ts : List Ty} {xs : List V} {K : Hp}, All2 (ts ++ [tE P f]) xs K → ∃ a, P a ∧ All2 (ts ++ [f a]) xs K
  | [], [], _, h => h.elim
  | [], [x], _, h => by
    obtain ⟨⟨a, pa, q⟩, _⟩ := h
    exact ⟨a, pa, q, trivial⟩
  | [], _ :: _ :: _, _, h => h.2.elim
  | _ :: _, [], _, h => h.elim
  | t :: ts, x :: xs, _, h => by
    obtain ⟨a, pa, q⟩ := all2_last (ts := ts) h.2
    exact ⟨a, pa, h.1, q⟩
end
section
variable {P : Program} {w : World} {K : PySem.W.Frag} {mg : Str → Option Value} {base : Heap}
theorem f_drawn (T : Tx K mg) (hdr : ∀ n flow, 2 ≤ n → n ≤ 4 → M.Dr n flow → DrOk flow) : Cal P w K mg base "_law_drawn_right" 20 (Spp (α := Nat) (fun n => 2 ≤ n ∧ n ≤ 4) (fun n => [tI (n : Int)]) fun _ => tB true) :=
  T.calP 13 rfl (C8.fnScope_by (N := ["_law_pot_here", "_law_many", "_law_rows_here", "_law_place", "_law_row", "_law_other", "_law_told", "_law_at"]) (P := ["_law_pot_here", "_law_many"]) (by decide +kernel)) (fun _ => rfl) (fun _ _ _ _ _ _ us hl => match us, hl with | [_, _], _ => rfl) fun nd n pn b r Kb Hb D y hy _ hD => by
    obtain ⟨n2, n4⟩ := pn
    refine bl_newM 2 (fun m hm ⟨K0, H0, hM0, hn0⟩ => ?_) nd
    have hym : y ≠ m := fun z => by
      obtain ⟨⟨_, _, _, _, _, _, hx⟩, _⟩ := hM0
      rw [z, hn0] at hx
      cases hx
    refine bl_for (s_range (n := n) (j := 3) (T.f 1) (by omega) (has_var 1)) (pg_1 nd) (fun i => [some (tV (.ref y)), some (tI (n : Int)), some (tV (.ref m)), none, none, none, none, none]) (fun i => mAnd (mEx (fun rs : List (List Nat) => rs.length = i ∧ ∀ q ∈ rs, M.DrRow n q) fun rs => mLst m (rs.map tNs)) (mAnd (mPot y) mNone)) ⟨fun _ _ h => h, fun _ _ h => h, fun _ _ h => h, trivial⟩ (fun _ _ h => ⟨⟨[], ⟨rfl, fun q hq => by cases hq⟩, h.1⟩, h.2⟩) (fun i d hd K1 up => bl_mex fun rs hrs => ?_) (bl_mex fun rs hrs => ?_)
    · obtain ⟨hri, hrr⟩ := hrs
      have hdn : d < n := List.mem_range.mp (List.mem_of_getElem? hd)
      have hin : i < n := by simpa using (List.getElem?_eq_some_iff.mp hd).1
      refine bl_newM 4 (fun m2 hm2 ⟨K2, H2, hM2, hn2⟩ => ?_) nd
      have hym2 : y ≠ m2 := fun z => by
        obtain ⟨_, ⟨_, _, _, _, _, _, hx⟩, _⟩ := hM2
        rw [z, hn2] at hx
        cases hx
      have ne : m ≠ m2 := fun z => by
        obtain ⟨⟨_, xs, hx, _⟩, _⟩ := hM2
        rw [z, hn2] at hx
        cases hx
      refine bl_for (s_range (n := n) (j := 5) (T.f 1) (by omega) (has_var 1)) (pg_1 nd) (fun j => [some (tV (.ref y)), some (tI (n : Int)), some (tV (.ref m)), some (tI (d : Int)), some (tV (.ref m2)), none, none, none]) (fun j => mAnd (mEx (fun l : List Nat => l.length = j ∧ ∀ x ∈ l, x < 3) fun l => mLst m2 ((cst l).map tI)) (mAnd (mLst m (rs.map tNs)) (mAnd (mPot y) mNone))) ⟨fun _ _ h => h, fun _ _ h => h, fun _ _ h => h, fun _ _ h => h, fun _ _ h => h, trivial⟩ (fun _ _ h => ⟨⟨[], ⟨rfl, fun q hq => by cases hq⟩, h.1⟩, h.2⟩) (fun j o ho K3 up3 => bl_mex fun l hl => ?_) (bl_mex fun l hl => ?_)
      · obtain ⟨hlj, hl3⟩ := hl
        have hjn : j < n := by simpa using (List.getElem?_eq_some_iff.mp ho).1
        refine bl_appC (t := tLt 3) 4 rfl hm2 (mAnd.fr (mLst.fr ne) (mAnd.fr (mPot.fr hym2) mNone.fr)) (by simp only [List.length_map]; omega)
          (HasC.perm (M1 := mAnd (mPot y) (mAnd (mLst m2 ((cst l).map tI)) (mAnd (mLst m (rs.map tNs)) mNone))) (M2 := mAnd (mPot y) (mAnd (mLst m2 ((cst l).map tI)) (mAnd (mLst m (rs.map tNs)) mNone))) (fun _ _ h => ⟨h.2.2.1, h.1, h.2.1, trivial⟩) (fun _ _ h => ⟨h.2.1, h.2.2.1, h.1, trivial⟩)
            (hasc_callB (ct_maxE rfl) (T.f 13) b_max (hasac_cons (Has.cc has_int) (hasac_cons (hasc_op (hasc_draw T 5 (by decide) (by decide) 0 rfl hy (mAnd.fr (mLst.fr hym2.symm) (mAnd.fr (mLst.fr hym.symm) mNone.fr)) (Has.cc has_int) (r.mono (by decide))) (Has.cc has_int) bt_subE) hasac_nil)))) ?_
        refine Bl.nxt (fun _ _ h => h) ⟨fun _ _ h => h, fun _ _ h => h, fun _ _ h => h, fun _ _ h => h, fun _ _ h => h, trivial⟩ fun _ _ h => ⟨?_, h.2⟩
        obtain ⟨ka, xs, hx, hxs⟩ := h.1
        obtain ⟨a, ha, hxs2⟩ := all2_last hxs
        refine ⟨l ++ [a], ⟨by rw [List.length_append, hlj]; rfl, fun x hx' => ?_⟩, ka, xs, hx, by rw [cst_app]; exact hxs2⟩
        rcases List.mem_append.mp hx' with h1 | h1
        · exact hl3 x h1
        · rw [List.mem_singleton.mp h1]
          exact ha
      · obtain ⟨hlj, hl3⟩ := hl
        rw [List.length_range] at hlj
        refine bl_freeze 4 rfl hm2 (mAnd.fz (mLst.fz ne) (mAnd.fz (mPot.fz hym2) mNone.fz)) ?_
        refine bl_appC (t := tNs (if 0 < l.sum then l else M.apOne n d)) 2 rfl hm (mAnd.fr (mPot.fr hym) mNone.fr) (by simp only [List.length_map]; omega) (Has.cc (has_if (hast_cmp (k_sumN T rfl (l := l) (has_var 4)) has_int ct_gt) (fun h => ?_) fun h => ?_)) ?_
        · have h' : 0 < l.sum := by
            have := of_decide_eq_true h
            omega
          rw [if_pos h']
          exact has_var 4
        · have h' : ¬ 0 < l.sum := by
            have := of_decide_eq_false h
            omega
          rw [if_neg h']
          refine Has.is (has_lc [("_law_at", 7)] (s_range (n := n) (j := 7) (T.f 1) (by omega) (has_var 1)) (fun o : Nat => tI (((if d = o then 1 else 0 : Nat)) : Int)) (fun o ho s H C cl fp => Has.is (k_t1 (T.f 5) b_int ct_intB (has_cmp (has_var 7) (has_var 3) ct_eqI)) ?_) (by rw [List.length_range]; omega) nd (fun s H C cl fp => pg_1 nd)) (by unfold tNs tIs cst M.apOne; rw [List.map_map, List.map_map]; rfl)
          congr 2
          by_cases e : d = o
          · rw [if_pos e, if_pos (by rw [e]; simp)]
            rfl
          · rw [if_neg e, if_neg (by simp; omega)]
            rfl
        · refine Bl.nxt (fun _ _ h => h) ⟨fun _ _ h => h, fun _ _ h => h, fun _ _ h => h, trivial⟩ fun _ _ h => ⟨⟨rs ++ [if 0 < l.sum then l else M.apOne n d], ⟨by rw [List.length_append, hri]; rfl, fun q hq => ?_⟩, by show (mLst m (List.map tNs (rs ++ _))).p _ _; rw [List.map_append]; exact h.1⟩, h.2⟩
          rcases List.mem_append.mp hq with h1 | h1
          · exact hrr q h1
          · rw [List.mem_singleton.mp h1]
            by_cases hp : 0 < l.sum
            · rw [if_pos hp]
              exact ⟨hlj, hp, hl3⟩
            · rw [if_neg hp]
              refine ⟨by unfold M.apOne; rw [List.length_map, List.length_range], ?_, fun x hx => ?_⟩
              · refine Nat.lt_of_lt_of_le Nat.zero_lt_one (M.mem_le_sum ?_)
                unfold M.apOne
                exact List.mem_map.mpr ⟨d, List.mem_range.mpr hdn, if_pos rfl⟩
              · unfold M.apOne at hx
                obtain ⟨o, _, rfl⟩ := List.mem_map.mp hx
                split <;> decide
    · rw [List.length_range] at hrs
      obtain ⟨hri, hrr⟩ := hrs
      obtain ⟨ro, fl, iw, cl, on, lr⟩ := hdr n rs n2 n4 ⟨hri, hrr⟩
      generalize rs = flow at *
      have hrl : (M.rowsOf flow).length = n := by unfold M.rowsOf; rw [List.length_map, hri]
      refine bl_freeze 2 rfl hm (mAnd.fz (mPot.fz hym) mNone.fz) ?_
      refine bl_asg 6 has_non ?_ nd
      have pw : pWo (M.rowsOf flow) := ⟨ro, fun h => (on (by rw [← cl]; exact h)).1⟩
      have wo := fx_walk_of (P := P) (w := w) (base := base) T
      have wx := wo.x
      refine bl_try rfl rfl rfl ⟨rfl, by decide, .inl T.gNW⟩ (fun W pn xe tk hw => ?_) T.eNW
      refine bl_asgIfX 6 (r := rWo K (M.rowsOf flow)) (hastc_cmp (hasc_draw T 2 (by decide) (by decide) 0 rfl hy mNone.fr (Has.cc has_int) (r.mono (by decide))) (Has.cc has_int) ct_eqE0)
        (hasx_call (args := fun a => [tRR K a]) (C := vNW K) wx tk (M.rowsOf flow) pw (hasa_cons (has_call (f_lrows T) flow fl (hasa_cons (has_var (t := tNN flow) 2) hasa_nil) (r.mono (by decide))) hasa_nil) (r.mono (by decide)))
        (hasx_kw (args := fun a => [tRR K a]) (V0 := vNW K) wo tk (M.rowsOf flow) pw rfl (has_call (f_lrows T) flow fl (hasa_cons (has_var (t := tNN flow) 2) hasa_nil) (r.mono (by decide))) (r.mono (by decide))) (fun t ht => ?_) (fun hn d' σ H st => hw d' σ H fun a oe pn2 hot ha => ?_) nd
      · unfold rWo at ht
        cases hk : (clR (M.rowsOf flow)).isNone with
        | false =>
          rw [hk] at ht
          cases ht
        | true =>
          rw [hk, if_pos rfl] at ht
          cases ht
          have hW : isW flow = true := by rw [← cl]; exact hk
          obtain ⟨o1, o2, o3, o4⟩ := on hW
          rw [o3]
          refine bl_nil fun σ H st => Bl.use ?_ st
          refine bl_if (k := false) (hast_w (hasw_or (k := false) (l := false) (HasT.is (hast_not (hast_val (has_call (f_lis_whole T) flow iw (hasa_cons (has_var (t := tNN flow) 2) hasa_nil) (r.mono (by decide))))) (by rw [hW]; rfl)) fun _ => hasw_or (k := false) (l := false) (hast_cmp (k_rows T (M.rowsOf flow, M.only flow) (by simp only; omega) (has_var 6) (r.mono (by decide))) (has_call (f_lrows T) flow fl (hasa_cons (has_var (t := tNN flow) 2) hasa_nil) (r.mono (by decide))) (ct_neRR T (r.mono (by decide)))) fun _ => hasw_or1 (hast_cmp (k_shares T (M.rowsOf flow, M.only flow) (has_var 6) (r.mono (by decide))) (has_call (f_only T) flow o2 (hasa_cons (has_var (t := tNN flow) 2) hasa_nil) (r.mono (by decide))) (ct_neRs T (r.mono (by decide)))))) (fun h => by cases h) fun _ => bl_fall ?_
          refine bl_ret (t := tB true) (has_and (k := true) (Has.is (has_cmp (k_places T (a := (M.rowsOf flow, M.only flow)) (has_var 6) (r.mono (by decide))) (has_var 1) ct_eqI) (by simp only [hrl]; rw [decide_eq_true (by trivial)])) fun _ => has_and (k := true) (Has.is (has_cmp (has_var (t := tWk K (M.rowsOf flow, M.only flow)) 6) (k_Walk T (M.rowsOf flow, M.only flow) o4 (has_call (f_lrows T) flow fl (hasa_cons (has_var (t := tNN flow) 2) hasa_nil) (r.mono (by decide))) (has_call (f_only T) flow o2 (hasa_cons (has_var (t := tNN flow) 2) hasa_nil) (r.mono (by decide))) (r.mono (by decide))) (ct_eqW T (a := (M.rowsOf flow, M.only flow)) (b := (M.rowsOf flow, M.only flow)) ⟨Same2.refl _, rfl⟩ (r.mono (by decide)))) (by rw [decide_eq_true rfl, decide_eq_true rfl]; rfl)) fun _ => has_one (has_call (f_lot_right T) ((M.rowsOf flow, M.only flow), flow) (lr _) (hasa_cons (has_var 6) (hasa_cons (has_var (t := tNN flow) 2) hasa_nil)) (r.mono (by decide)))) fun v K' H' g m h => hD v K' H' g m.1 h
      · unfold rWo at hn
        cases hk : (clR (M.rowsOf flow)).isNone with
        | true =>
          rw [hk, if_pos rfl] at hn
          cases hn
        | false =>
          have hW : isW flow = false := by rw [← cl]; exact hk
          refine Bl.use ?_ st
          refine bl_ret (t := tB true) (Has.is (has_not (has_callH (f_lis_wholeH T) flow iw (hasa_cons (has_var (t := tNN flow) 2) hasa_nil) ⟨(r.mono (by decide : 2 ≤ 19)).dp, (r.mono (by decide : 2 ≤ 19)).un⟩ hot)) (by rw [hW]; rfl)) fun v K' H' g m h => hD v K' H' g m.1 h
end
end Z
end
section
set_option Elab.async false
set_option linter.all false
set_option exponentiation.threshold 20000
set_option maxRecDepth 100000
set_option maxHeartbeats 2000000
/-! Drawn rows are as the walk needs them. -/
namespace Z
open PySem PySem.Spec PyProof.Rows L2
section
variable {n : Nat} {flow : List (List Nat)}
theorem dr_box (d : M.Dr n flow) : M.Box n flow := ⟨d.len, fun r hr => (d.row r hr).len⟩
theorem dr_pos (d : M.Dr n flow) {p : Nat} (hp : p < n) : 0 < M.out n flow p := by
  have h := M.row_sum (dr_box d) hp
  unfold M.out
  rw [← h]
  exact (d.row _ (M.getD_mem (by rw [d.len]; exact hp))).pos
theorem dr_le (d : M.Dr n flow) {p q : Nat} (hp : p < n) (hq : q < n) : M.ent flow p q ≤ 2 := by
  have hm : flow.getD p [] ∈ flow := M.getD_mem (by rw [d.len]; exact hp)
  have := (d.row _ hm).lt ((flow.getD p []).getD q 0) (M.getD_mem (by rw [(d.row _ hm).len]; exact hq))
  unfold M.ent
  omega
theorem dr_wh (d : M.Dr n flow) (h2 : 2 ≤ n) (h4 : n ≤ 4) (h : isW flow = true) : M.Wh n flow := by
  refine ⟨dr_box d, h2, h4, fun p hp => dr_pos d hp, fun p q hp hq => dr_le d hp hq, fun p q hp hq => ?_⟩
  unfold isW at h
  have h := of_decide_eq_true h
  rw [d.len] at h
  have hl := h p hp
  have hle := M.reachL_le (E := edN flow) (n := n) (p := p)
  have hm : q ∈ M.reachL (edN flow) n p := by
    have nd := M.reachL_nd (E := edN flow) (n := n) (p := p)
    refine Classical.byContradiction fun z => ?_
    have : (q :: M.reachL (edN flow) n p).Nodup := List.nodup_cons.mpr ⟨z, nd⟩
    have := M.nodup_le this (n := n) fun x hx => by
      rcases List.mem_cons.mp hx with e | hx
      · rw [e]
        exact hq
      · exact (M.mem_reachL.mp hx).1
    rw [List.length_cons] at this
    omega
  exact (M.mem_reachL.mp hm).2
theorem sum_le8 (d : M.Dr n flow) (h4 : n ≤ 4) {r : List Nat} (hr : r ∈ flow) : r.sum ≤ 8 := by
  obtain ⟨i, hi, rfl⟩ := List.getElem_of_mem hr
  have hin : i < n := by rw [← d.len]; exact hi
  have e : flow[i] = flow.getD i [] := (M.getD_at hi).symm
  rw [e, M.row_sum (dr_box d) hin]
  have : M.S n (M.ent flow i) ≤ n * 2 := M.S_bd fun q hq => dr_le d hin hq
  omega
theorem dr_row (d : M.Dr n flow) (h4 : n ≤ 4) {r : List Nat} (hr : r ∈ flow) : (M.rowOf r).length = n ∧ pCh (M.rowOf r) ∧ SzL 4 (M.rowOf r) := by
  have k := d.row r hr
  have hs := sum_le8 d h4 hr
  have e4 : (2 : Nat) ^ 4 = 16 := by decide
  have sz : SzL 4 (M.rowOf r) := fun q hq => by
    obtain ⟨x, hx, rfl⟩ := List.mem_map.mp hq
    have := k.lt x hx
    exact sz_frac (by omega) (by omega) k.pos
  have hlen : (M.rowOf r).length = n := by unfold M.rowOf; rw [List.length_map, k.len]
  exact ⟨hlen, ⟨⟨by omega, fun q hq => by
    obtain ⟨x, _, rfl⟩ := List.mem_map.mp hq
    exact (num_frac k.pos).1, M.total_row k.pos⟩, fun q hq => (sz q hq).mono (by decide)⟩, sz⟩
theorem dr_rows (d : M.Dr n flow) (h4 : n ≤ 4) {r : List Rat} (hr : r ∈ M.rowsOf flow) : r.length = n ∧ pCh r ∧ SzL 4 r := by
  obtain ⟨q, hq, rfl⟩ := List.mem_map.mp hr
  exact dr_row d h4 hq
theorem dr_ro (d : M.Dr n flow) (h2 : 2 ≤ n) (h4 : n ≤ 4) : pRo (M.rowsOf flow) := by
  have hl := M.rows_len (dr_box d)
  exact ⟨by rw [hl]; exact h2, by rw [hl]; omega, fun r hr => by rw [hl]; exact ⟨(dr_rows d h4 hr).1, (dr_rows d h4 hr).2.1⟩⟩
theorem dr_pos_all (d : M.Dr n flow) : ∀ r ∈ flow, 0 < r.sum := fun r hr => (d.row r hr).pos
theorem dr_fl (d : M.Dr n flow) (h4 : n ≤ 4) : pFl flow := by
  have e : (8 : Nat) < 2 ^ 100 := Nat.lt_of_lt_of_le (by decide : 8 < 2 ^ 4) (Nat.pow_le_pow_right (by decide) (by decide))
  exact ⟨by rw [d.len]; omega, fun r hr => ⟨by rw [(d.row r hr).len]; omega, (d.row r hr).pos, Nat.lt_of_le_of_lt (sum_le8 d h4 hr) e⟩⟩
theorem dr_iw (d : M.Dr n flow) (h4 : n ≤ 4) : pIw flow := ⟨by rw [d.len]; omega, fun r hr => by rw [d.len]; exact (d.row r hr).len⟩
theorem dr_ed (d : M.Dr n flow) : ∀ p q, p < n → q < n → edR (M.rowsOf flow) p q = edN flow p q := fun p q hp hq => ed_same (dr_box d) (dr_pos_all d) hp hq
theorem dr_cl (d : M.Dr n flow) : (clR (M.rowsOf flow)).isNone = isW flow := by
  rw [isW_eq, clR, M.rows_len (dr_box d), d.len, closed_same (dr_ed d)]
theorem dr_lr (d : M.Dr n flow) (h4 : n ≤ 4) (s : List Rat) : pLr ((M.rowsOf flow, s), flow) := by
  have hl := M.rows_len (dr_box d)
  refine ⟨?_, ?_, ?_, ?_, ?_⟩
  · show (M.rowsOf flow).length = flow.length
    rw [hl, d.len]
  · show flow.length ≤ 6
    rw [d.len]
    omega
  · exact (dr_iw d h4).rect
  · show ∀ r ∈ M.rowsOf flow, r.length = (M.rowsOf flow).length
    intro r hr
    rw [hl]
    exact (dr_rows d h4 hr).1
  · show ∀ p q, p < flow.length → q < flow.length → _
    rw [d.len]
    exact dr_ed d
theorem col_sz (d : M.Dr n flow) (h4 : n ≤ 4) {h p : Nat} (hh : h < n) (hp : p < n) : Sz 4 (((M.rowsOf flow).getD h []).getD p 0 - if h = p then 1 else 0) := by
  have hs : M.out n flow h ≤ 8 := by
    have : M.S n (M.ent flow h) ≤ n * 2 := M.S_bd fun q hq => dr_le d hh hq
    unfold M.out
    omega
  have h0 := dr_pos d hh
  have he := dr_le d hh hp
  have e : ((M.rowsOf flow).getD h []).getD p 0 - (if h = p then 1 else 0) = mkRat ((M.ent flow h p : Int) - if h = p then (M.out n flow h : Int) else 0) (M.out n flow h) := by
    rw [M.rows_at (dr_box d) hh hp, Rat.mkRat_eq_div, Rat.intCast_sub, Rat.intCast_natCast]
    have := M.cast_ne h0
    by_cases z : h = p
    · rw [if_pos z, if_pos z, Rat.intCast_natCast]
      grind
    · rw [if_neg z, if_neg z]
      show _ - 0 = (_ - 0) / _
      grind
  rw [e]
  have e4 : (2 : Nat) ^ 4 = 16 := by decide
  refine sz_mk ?_ (by omega) (by omega)
  unfold Bd
  split <;> omega
theorem dr_ko (d : M.Dr n flow) (h4 : n ≤ 4) (w : M.Wh n flow) : pKo (M.columns (M.rowsOf flow), (M.rowsOf flow).length) := by
  have hl := M.rows_len (dr_box d)
  refine ⟨?_, ?_, ?_, ?_, ?_⟩
  · show (M.rowsOf flow).length ≤ 4
    rw [hl]
    exact h4
  · show (M.columns (M.rowsOf flow)).length ≤ 4
    unfold M.columns
    rw [List.length_map, List.length_range, hl]
    exact h4
  · show ∀ r ∈ M.columns (M.rowsOf flow), r.length = (M.rowsOf flow).length
    intro r hr
    obtain ⟨p, _, rfl⟩ := List.mem_map.mp hr
    rw [List.length_map, List.length_range]
  · show ∀ r ∈ M.columns (M.rowsOf flow), SzL 4 r
    intro r hr q hq
    obtain ⟨p, hp, rfl⟩ := List.mem_map.mp hr
    obtain ⟨h, hh, rfl⟩ := List.mem_map.mp hq
    rw [hl] at hp hh
    exact col_sz d h4 (List.mem_range.mp hh) (List.mem_range.mp hp)
  · show (M.kernelFound (M.columns (M.rowsOf flow)) (M.rowsOf flow).length).length ≤ 1
    rw [hl, w.kernel.1]
    exact Nat.le_refl _
theorem cc_frac (w : M.Wh n flow) {i : Nat} (hi : i < n) {m : Int} (hm : 0 < m) (hb : m ≤ 4096) : Sz 13 (M.cc flow i / (m : Rat)) ∧ 0 < (M.cc flow i / (m : Rat)).num := by
  obtain ⟨h1, h2⟩ := w.at_pos hi
  have e13 : (2 : Nat) ^ 13 = 8192 := by decide
  unfold M.cc
  rw [← M.mk_int hm]
  refine ⟨sz_mk ?_ (by omega) (by omega), ?_⟩
  · unfold Bd
    omega
  · have := (num_frac (x := (M.onlyAt flow i).toNat) (s := m.toNat) (by omega)).2
    rw [Int.toNat_of_nonneg (by omega)] at this
    exact this.mpr (by omega)
theorem dr_on (d : M.Dr n flow) (h2 : 2 ≤ n) (h4 : n ≤ 4) (w : M.Wh n flow) : pOn (M.rowsOf flow) := by
  have hl := M.rows_len (dr_box d)
  have hk := w.kernel.2
  have h0 : 0 < n := by omega
  have eg : (M.kernelOf (M.columns (M.rowsOf flow)) (M.rowsOf flow).length).getD 0 [] = (List.range n).map fun i => M.cc flow i / M.cc flow 0 := by
    rw [hl, hk]
    rfl
  refine ⟨by rw [hl]; exact h4, fun r hr => by rw [hl]; exact (dr_rows d h4 hr).1, fun r hr q hq => ((dr_rows d h4 hr).2.2 q hq).mono (by decide), dr_ko d h4 w, ?_, ?_, ?_, ?_⟩
  · rw [hl, hk]
    exact Nat.zero_lt_one
  · rw [eg, List.length_map, List.length_range]
    omega
  · rw [eg]
    intro q hq
    obtain ⟨i, hi, rfl⟩ := List.mem_map.mp hq
    obtain ⟨c1, c2⟩ := w.at_pos h0
    exact ((cc_frac w (List.mem_range.mp hi) c1 (by omega)).1).mono (by decide)
  · rw [eg, M.total_range]
    have : 0 < M.SR n fun i => M.cc flow i / M.cc flow 0 := M.SR_pos h0 fun i hi => by
      rw [Rat.div_def]
      exact Rat.mul_pos (w.cpos hi) (Rat.inv_pos.mpr (w.cpos h0))
    have h1 := Rat.num_nonneg.mpr (Rat.le_of_lt this)
    have h2 : (M.SR n fun i => M.cc flow i / M.cc flow 0).num ≠ 0 := fun z => M.pos_ne this (Rat.num_eq_zero.mp z)
    omega
theorem dr_ol (d : M.Dr n flow) (h2 : 2 ≤ n) (h4 : n ≤ 4) (w : M.Wh n flow) : pOl flow := by
  obtain ⟨s1, s2⟩ := w.sum
  have e19 : (2 : Nat) ^ 19 = 524288 := by decide
  have e : 4096 < 2 ^ 8000 := Nat.lt_of_lt_of_le (by decide : 4096 < 2 ^ 13) (Nat.pow_le_pow_right (by decide) (by decide))
  refine ⟨by rw [d.len]; exact h4, by rw [d.len]; omega, fun r hr => ?_, s1, Nat.lt_of_le_of_lt (by omega) e⟩
  have k := d.row r hr
  have := sum_le8 d h4 hr
  exact ⟨by rw [d.len]; exact k.len, by omega, fun x hx => by have := k.lt x hx; omega⟩
theorem dr_kp (d : M.Dr n flow) (h2 : 2 ≤ n) (h4 : n ≤ 4) (w : M.Wh n flow) : pKp (M.rowsOf flow, M.only flow) := by
  have hl := M.rows_len (dr_box d)
  have ho := w.len_only
  obtain ⟨s1, s2⟩ := w.sum
  have hq : ∀ q ∈ M.only flow, Sz 13 q ∧ 0 < q.num := fun q hq => by
    rw [w.only, ← w.onlys] at hq
    obtain ⟨i, hi, rfl⟩ := List.mem_map.mp hq
    exact cc_frac w (List.mem_range.mp hi) s1 s2
  refine ⟨⟨dr_ro d h2 h4, ⟨⟨by simp only [ho]; omega, fun q h => Int.le_of_lt (hq q h).2, w.total⟩, fun q h => (hq q h).1.mono (by decide)⟩, by simp only [ho, hl], fun q h => (hq q h).2, fun r hr q h => ((dr_rows d h4 hr).2.2 q h).mono (by decide), fun q h => (hq q h).1.mono (by decide)⟩, w.kept⟩
theorem dr_ok (d : M.Dr n flow) (h2 : 2 ≤ n) (h4 : n ≤ 4) : DrOk flow := by
  refine ⟨dr_ro d h2 h4, dr_fl d h4, dr_iw d h4, dr_cl d, fun h => ?_, dr_lr d h4⟩
  have w := dr_wh d h2 h4 h
  exact ⟨dr_on d h2 h4 w, dr_ol d h2 h4 w, w.same, dr_kp d h2 h4 w⟩
end
end Z
end
section
set_option Elab.async false
set_option linter.all false
set_option maxRecDepth 100000
set_option maxHeartbeats 2000000
/-! The run's equation; the facts; the law. -/
namespace Z
open PySem PySem.Spec PyProof.Rows L2
theorem run (w : World) : HandSHeadRun.RunEqI Rw qv (hookZ 5) obT 20000 lnames w := by
  have h := after_three (runA w) (runB w) (runC w) (runD w)
  unfold after at h
  have h2 := congrArg (Option.map fun t => (t.1.1, t.1.2, (t.2.1, t.2.2.1, t.2.2.2))) h
  rw [Option.map_map] at h2
  exact h2
section
variable {K : PySem.W.Frag} {h : Heap} {mg : Str → Option Value}
theorem saysD (c : SaysZ K) : He.SaysD hfa hfn K := congrArg (fun z : AlZ => z.1) c
theorem saysB (c : SaysZ K) (i : Nat) {b : Bool} (e : (exB K)[i]? = some b := by rfl) : b = true := by
  have q : exB K = List.replicate 27 true := congrArg (fun z : AlZ => z.2.1) c
  rw [q, List.getElem?_replicate] at e
  split at e
  · exact (Option.some.inj e).symm
  · cases e
theorem saysF (c : SaysZ K) : (props.map fun q => fnA K (prG K q)) = props.map valA := congrArg (fun z : AlZ => z.2.2) c
theorem fact_mem (c : SaysZ K) {f : He.Fa} (hf : f ∈ hfa) : f.ok K = true := by
  obtain ⟨i, hi⟩ := List.mem_iff_getElem?.mp hf
  exact (saysD c).fact i hi
theorem fa1 {f : He.Fa} (h : f ∈ defs.map fun q => He.Fa.glo q.1) : f ∈ hfa := List.mem_append_left _ h
theorem fa2 {f : He.Fa} (h : f ∈ lawDefs.map fun q => He.Fa.glo q.1) : f ∈ hfa := List.mem_append_right _ (List.mem_append_left _ h)
theorem fa3 {f : He.Fa} (h : f ∈ frees.map fun x => He.Fa.free x) : f ∈ hfa := List.mem_append_right _ (List.mem_append_right _ (List.mem_append_left _ h))
theorem fa4 {f : He.Fa} (h : f ∈ ([.int "LEAST_PLACES" 2, .int "MOST_PLACES" 6] : List He.Fa)) : f ∈ hfa := List.mem_append_right _ (List.mem_append_right _ (List.mem_append_right _ (List.mem_append_left _ h)))
theorem fa5 {f : He.Fa} (h : f ∈ noats.map fun q => He.Fa.noat q.1 q.2) : f ∈ hfa := List.mem_append_right _ (List.mem_append_right _ (List.mem_append_right _ (List.mem_append_right _ (List.mem_append_left _ h))))
theorem fa6 {f : He.Fa} (h : f ∈ (["Ratio", "Known", "Walk"] : List Str).map fun x => He.Fa.cls x) : f ∈ hfa := List.mem_append_right _ (List.mem_append_right _ (List.mem_append_right _ (List.mem_append_right _ (List.mem_append_right _ (List.mem_append_left _ h)))))
theorem fa7 {f : He.Fa} (h : f ∈ (["Ratio", "Known", "Walk", "NotWhole", "InvalidShares"] : List Str).map fun x => He.Fa.glo x) : f ∈ hfa := List.mem_append_right _ (List.mem_append_right _ (List.mem_append_right _ (List.mem_append_right _ (List.mem_append_right _ (List.mem_append_right _ (List.mem_append_left _ h))))))
theorem fa8 {f : He.Fa} (h : f ∈ (["Ratio", "Known", "Walk"] : List Str).map fun x => He.Fa.mkr x) : f ∈ hfa := List.mem_append_right _ (List.mem_append_right _ (List.mem_append_right _ (List.mem_append_right _ (List.mem_append_right _ (List.mem_append_right _ (List.mem_append_right _ (List.mem_append_left _ h)))))))
theorem fa9 {f : He.Fa} (h : f ∈ meths.map fun q => He.Fa.meth q.1 q.2.1) : f ∈ hfa := List.mem_append_right _ (List.mem_append_right _ (List.mem_append_right _ (List.mem_append_right _ (List.mem_append_right _ (List.mem_append_right _ (List.mem_append_right _ (List.mem_append_right _ h)))))))
theorem fun_mem (c : SaysZ K) {d : He.DefD} (hd : d ∈ hfn) : ∃ fd, FunD K d.name d.qual d.params d.body d.scope (d.dvs K) (d.kws K) (He.fAd K d.at_) fd := by
  obtain ⟨i, hi⟩ := List.mem_iff_getElem?.mp hd
  exact (saysD c).def_ i hi
theorem fun1 (c : SaysZ K) {q : Str × Nat} (hq : q ∈ defs) : ∃ fd, FunD K q.1 q.1 (defArgs (top q.2)) (defBody (top q.2)) (defScope (top q.2)) [] [] (ca K q.1) fd := fun_mem c (d := defD q) (List.mem_append_left _ (List.mem_map_of_mem hq))
theorem fun2 (c : SaysZ K) {q : Str × Nat} (hq : q ∈ lawDefs) : ∃ fd, FunD K q.1 q.1 (defArgs (top q.2)) (defBody (top q.2)) (defScope (top q.2)) [] [] (ca K q.1) fd := fun_mem c (d := defD q) (List.mem_append_right _ (List.mem_append_left _ (List.mem_map_of_mem hq)))
theorem dv_same : ∀ q ∈ meths, (q.2.2.2.2.2.map dvOf).map (He.Dv.v K) = q.2.2.2.2.2 := by
  intro q hq
  have h : ∀ l : List (Str × Str × Str × Nat × Nat × List V), (∀ q ∈ l, q.2.2.2.2.2 = [] ∨ q.2.2.2.2.2 = [.int 1]) → ∀ q ∈ l, (q.2.2.2.2.2.map dvOf).map (He.Dv.v K) = q.2.2.2.2.2 := fun l hl q hq => by
    rcases hl q hq with e | e <;> (rw [e]; rfl)
  refine h meths (fun q hq => ?_) q hq
  unfold meths at hq
  simp only [List.mem_cons, List.not_mem_nil, or_false] at hq
  rcases hq with rfl | rfl | rfl | rfl | rfl | rfl | rfl | rfl | rfl | rfl | rfl | rfl | rfl
  all_goals first | exact .inl rfl | exact .inr rfl
theorem fun3 (c : SaysZ K) {q : Str × Str × Str × Nat × Nat × List V} (hq : q ∈ meths) : ∃ fd, FunD K q.2.1 q.2.2.1 (defArgs (inClass (top q.2.2.2.1) q.2.2.2.2.1)) (defBody (inClass (top q.2.2.2.1) q.2.2.2.2.1)) (defScope (inClass (top q.2.2.2.1) q.2.2.2.2.1)) q.2.2.2.2.2 [] (He.ma K (ca K q.1) q.2.1) fd := by
  obtain ⟨fd, F⟩ := fun_mem c (d := methD q) (List.mem_append_right _ (List.mem_append_right _ (List.mem_map_of_mem hq)))
  refine ⟨fd, ?_⟩
  have e := dv_same (K := K) q hq
  have F' : FunD K q.2.1 q.2.2.1 (defArgs (inClass (top q.2.2.2.1) q.2.2.2.2.1)) (defBody (inClass (top q.2.2.2.1) q.2.2.2.2.1)) (defScope (inClass (top q.2.2.2.1) q.2.2.2.2.1)) ((q.2.2.2.2.2.map dvOf).map (He.Dv.v K)) [] (He.ma K (ca K q.1) q.2.1) fd := F
  rw [e] at F'
  exact F'
theorem tx_of (X : K.In h) (G : h.Ns mainGlobals mg) (c : SaysZ K) : Tx K mg where
  d := fun i q hq => ⟨fun1 c (List.mem_of_getElem? hq), He.glo_ok X G (fact_mem c (fa1 (List.mem_map_of_mem (List.mem_of_getElem? hq))))⟩
  l := fun i q hq => ⟨fun2 c (List.mem_of_getElem? hq), He.glo_ok X G (fact_mem c (fa2 (List.mem_map_of_mem (List.mem_of_getElem? hq))))⟩
  m := fun i q hq => ⟨fun3 c (List.mem_of_getElem? hq), He.meth_ok (fact_mem c (fa9 (List.mem_map_of_mem (List.mem_of_getElem? hq))))⟩
  p := fun i q hq => by
    have e : (props.map fun q => fnA K (prG K q))[i]? = (props.map valA)[i]? := by rw [saysF c]
    rw [List.getElem?_map, List.getElem?_map, hq] at e
    exact prop_ok (Option.some.inj e) (List.all_eq_true.mp (saysB c 26) q (List.mem_of_getElem? hq))
  fr := fun x hx => He.free_ok X G (fact_mem c (fa3 (List.mem_map_of_mem hx)))
  gcd := PySem.W.mg_of X G (He.eqO_ok (saysB c 0))
  lcm := PySem.W.mg_of X G (He.eqO_ok (saysB c 1))
  least := He.int_ok X G (fact_mem c (fa4 List.mem_cons_self))
  most := He.int_ok X G (fact_mem c (fa4 (List.mem_cons_of_mem _ List.mem_cons_self)))
  na := fun q hq => He.noat_ok (fact_mem c (fa5 (List.mem_map_of_mem hq)))
  cf := fun x hx => by
    have k := He.cls_ok (fact_mem c (fa6 (List.mem_map_of_mem hx)))
    have b : clsB K x = true := by
      simp only [List.mem_cons, List.not_mem_nil, or_false] at hx
      rcases hx with rfl | rfl | rfl
      · exact saysB c 2
      · exact saysB c 3
      · exact saysB c 4
    obtain ⟨b1, b2⟩ := He.ba b
    exact ⟨k, He.eqO_ok b1, of_decide_eq_true (saysB c 5), of_decide_eq_true (saysB c 6), of_decide_eq_true b2⟩
  cg := fun x hx => He.glo_ok X G (fact_mem c (fa7 (List.mem_map_of_mem hx)))
  mkr := fun x hx => He.mkr_ok (fact_mem c (fa8 (List.mem_map_of_mem hx)))
  kit := fun q hq => of_decide_eq_true (List.all_eq_true.mp (saysB c 7) q hq)
  kitR := of_decide_eq_true (saysB c 8)
  selfR := saysB c 9
  rsub := refB_ok (saysB c 10)
  isub := Option.isSome_iff_exists.mp (saysB c 11)
  irsub := Option.isSome_iff_exists.mp (saysB c 12)
  subI := of_decide_eq_true (saysB c 13)
  subL := of_decide_eq_true (saysB c 14)
  neW := He.eqO_ok (saysB c 15)
  moW := of_decide_eq_true (saysB c 16)
  oex := oex_ok (saysB c 17)
  oexNo := He.eqO_ok (saysB c 18)
  oexFn := of_decide_eq_true (saysB c 19)
  xNW := saysB c 20
  kNW := saysB c 21
  bNW := of_decide_eq_true (saysB c 22)
  tNW := of_decide_eq_true (saysB c 23)
  eNW := of_decide_eq_true (saysB c 24)
  eIS := of_decide_eq_true (saysB c 25)
theorem facts {P : Program} {w : World} {f : Addr} (X : K.In h) (G : h.Ns mainGlobals mg) (hfa : mg ("law" : Str) = some (.ref f)) (c : SaysZ K) :
    ∃ fd : FuncData, (∀ (s : Shared) (v : Value), BindsTo s fd ⟨[v], []⟩ [("_law_script", v)]) ∧ ∀ base : Heap, K.In base → base.Ns mainGlobals mg → FnOk P w K mg base CX0 22 f fd ["_law_script"] (SpL K) := by
  have T := tx_of X G c
  have d := T.l 18 _ rfl
  obtain ⟨fd, F⟩ := d.fd
  have e := hfa.symm.trans d.mg
  cases e
  have b := FunD.bindsA (ps := ["_law_script"]) F fun _ _ _ _ _ _ us hl => match us, hl with | [_], _ => rfl
  exact ⟨fd, fun s v => b s [v] rfl, fun base _ _ => fn_law T (f_right T (f_drawn T fun n flow h2 h4 d => dr_ok d h2 h4) (f_kept T)) F⟩
end
end Z
end
section
set_option Elab.async false
set_option linter.all false
set_option maxRecDepth 100000
set_option maxHeartbeats 0
open PySem PySem.W PySem.Calls PyProof.Rows
theorem PySem.Challenge.cw_surerwalks_k21_whole_walks_and_their_sha_holds : PySem.Challenge.rw_surerwalks_k21_whole_walks_and_their_sha.Holds := by
  w_on; o_law
  refine HandSHeadRun.head_imp (r := OpenLaw.row PySem.Challenge.rw_surerwalks_k21_whole_walks_and_their_sha) (q := Z.qv) (H := Z.hookZ 5) (ob := Z.obT) (M := 20000) (loose := Z.lnames) (d := HandSHeadRun.topDef (OpenLaw.row PySem.Challenge.rw_surerwalks_k21_whole_walks_and_their_sha).prog 77) (kwd := []) Z.obT_eq
    Z.run (by kernel_rfl) (by kernel_rfl) (by kernel_rfl) (by rfl) (by first | assumption | decide +kernel) (by decide +kernel) ⟨rfl, rfl, rfl, rfl, rfl, by decide +kernel⟩ ?hw ?hc
  case hw => w_witness2
  case hc =>
    refine L2.walk_ofE (l := PySem.Challenge.rw_surerwalks_k21_whole_walks_and_their_sha) (n := 63) (k := 22) (x := "_law_script") (CX := L2.CX0) rfl (by decide) (by kernel_rfl) ⟨rfl, by decide, by decide⟩ ?F (fun _ _ _ _ z => z)
    intro w mg fa h Y G hmg0
    obtain ⟨K, KX, c⟩ := Y
    have hmg : mg ("law" : PySem.Str) = some (.ref fa) := by
      have e : (HandSHeadRun.topDef (OpenLaw.row PySem.Challenge.rw_surerwalks_k21_whole_walks_and_their_sha).prog 77).name = ("law" : PySem.Str) := by kernel_rfl
      rw [← e]
      exact hmg0
    obtain ⟨fd, hb, hF⟩ := Z.facts (P := (PySem.Challenge.rw_surerwalks_k21_whole_walks_and_their_sha).prog) (w := w) KX G hmg c
    exact ⟨K, fd, Z.SpL K, KX, hb, fun H a ns hl _ hS => ⟨a, ns, rfl, Nat.le_trans hl (by decide), hS, fun _ => rfl⟩, hF⟩
end
