import PyProof.Rows.All
import Wide.All
import OpenK.AllK
import Wide.FinOn
import HandS.ForMost
import HandS.ForExc
import HandS.Zip
import HandS.IsInst
import HandS.TupAny
import HandS.TupLe
import HandS.Wide
import HandS.Flow
import HandS.Defaults
import HandS.HeadHook2
import KE.SortData
import KE.SortKeyHeap
import PyProof.Rows.RuleB_pow
import KE.KeyNested
import HandS.Style
import HandS.TupSets
import HandS.SetKeys
import HandS.SetBool
import HandS.Head0
import HandS.Head1
import HandS.Head2
import HandS.HeadEnd
import HandS.HeadHook1
import PySem.Challenge.RW_eachownmay_k05_standings
set_option Elab.async false
set_option linter.all false
set_option maxRecDepth 100000
set_option maxHeartbeats 2000000
set_option autoImplicit false
/-! Ev: values, the abstract heap of cells, what an evaluator's answer says of the layer's readings. -/
namespace Ev
open PySem PySem.Spec PyProof.Rows L2

/-- a value: deep and immutable, or a cell of the abstract heap -/
inductive D where
  | non | bl (b : Bool) | int (i : Int) | str (x : Str) | tup (xs : List D) | ref (n : Nat)

/-- what may change -/
inductive Cell where
  | lst (xs : List D)
  | ro (xs : List D)
abbrev AH := List Cell

structure Exc where
  cls : Str
  flds : List (Str × D)

inductive Out (α : Type) where
  | ok (a : α) (h : AH)
  | exc (x : Exc) (h : AH)
  | bad
abbrev M (α : Type) := AH → Out α

def ret {α : Type} (a : α) : M α := fun h => .ok a h
def bnd {α β : Type} (m : M α) (k : α → M β) : M β := fun h => match m h with
  | .ok a h' => k a h'
  | .exc x h' => .exc x h'
  | .bad => .bad
def bad {α : Type} : M α := fun _ => .bad
instance : Monad M where
  pure := ret
  bind := bnd
theorem pure_eq {α : Type} (a : α) (h : AH) : (pure a : M α) h = .ok a h := rfl
theorem bind_eq {α β : Type} (m : M α) (k : α → M β) (h : AH) : (m >>= k) h = match m h with
  | .ok a h' => k a h'
  | .exc x h' => .exc x h'
  | .bad => .bad := rfl
theorem bind_ok {α β : Type} {m : M α} {k : α → M β} {h h' : AH} {a : α} (e : m h = .ok a h') : (m >>= k) h = k a h' := by rw [bind_eq, e]
/-- of an option: nothing is bad -/
def opt {α : Type} : Option α → M α
  | some a => ret a
  | none => bad
/-- what raises nothing -/
def quiet {α : Type} (m : M α) : M α := fun h => match m h with
  | .ok a h' => .ok a h'
  | _ => .bad

section
variable (K : PySem.W.Frag) (H : Hp) (ρ : List Addr)
mutual
inductive DV : D → V → Prop
  | non : DV .non .non
  | bl (b : Bool) : DV (.bl b) (.bl b)
  | int (i : Int) : DV (.int i) (.int i)
  | str (x : Str) : DV (.str x) (.str x)
  | tup {a : Addr} {ds : List D} {vs : List V} : SqT K H a vs → DVs ds vs → ds.length ≤ sizeLine → DV (.tup ds) (.ref a)
  | ref {n : Nat} {a : Addr} : ρ[n]? = some a → DV (.ref n) (.ref a)
inductive DVs : List D → List V → Prop
  | nil : DVs [] []
  | cons {d : D} {ds : List D} {v : V} {vs : List V} : DV d v → DVs ds vs → DVs (d :: ds) (v :: vs)
end
def CellOk (a : Addr) : Cell → Prop
  | .lst ds => ds.length ≤ sizeLine ∧ ∃ vs, H a = some (.lst vs) ∧ DVs K H ρ ds vs
  | .ro ds => ds.length ≤ sizeLine ∧ ∃ o vs, H a = some (.frz o (.lst vs)) ∧ DVs K H ρ ds vs
/-- the abstract heap is held -/
structure RelH (ah : AH) : Prop where
  len : ρ.length = ah.length
  nd : ρ.Nodup
  cell : ∀ (n : Nat) (c : Cell), ah[n]? = some c → ∃ a, ρ[n]? = some a ∧ CellOk K H ρ a c
def EnvR (env : List (Option D)) (σ : L2.St) : Prop := env.length = σ.length ∧ ∀ (i : Nat) (d : D), env[i]? = some (some d) → ∃ v, σ[i]? = some (some v) ∧ DV K H ρ d v
end
/-- later: more cells, all else that was tracked stands -/
structure Ext (ρ : List Addr) (H : Hp) (ρ' : List Addr) (H' : Hp) : Prop where
  pre : ∃ t, ρ' = ρ ++ t
  keep : ∀ a o, H a = some o → a ∉ ρ → H' a = some o
  new : ∀ a, a ∈ ρ' → a ∉ ρ → H a = none

section
variable {K : PySem.W.Frag} {H H1 H2 : Hp} {ρ ρ1 ρ2 : List Addr} {ah ah1 : AH}
theorem Ext.refl : Ext ρ H ρ H := ⟨⟨[], by simp⟩, fun _ _ h _ => h, fun _ h n => absurd h n⟩
theorem Ext.trans (x : Ext ρ H ρ1 H1) (y : Ext ρ1 H1 ρ2 H2) : Ext ρ H ρ2 H2 := by
  obtain ⟨t, rfl⟩ := x.pre
  obtain ⟨t', rfl⟩ := y.pre
  refine ⟨⟨t ++ t', by simp⟩, fun a o h n => ?_, fun a h n => ?_⟩
  · refine y.keep a o (x.keep a o h n) fun q => ?_
    have := x.new a q n
    rw [h] at this; cases this
  · by_cases q : a ∈ ρ ++ t
    · exact x.new a q n
    · cases e : H a with
      | none => rfl
      | some o =>
        have := y.new a h q
        rw [x.keep a o e n] at this; cases this
theorem Ext.get (x : Ext ρ H ρ1 H1) {n : Nat} {a : Addr} (h : ρ[n]? = some a) : ρ1[n]? = some a := by
  obtain ⟨t, rfl⟩ := x.pre
  rw [List.getElem?_append_left (List.getElem?_eq_some_iff.mp h).1]
  exact h
theorem Ext.sub (x : Ext ρ H ρ1 H1) {a : Addr} (h : a ∈ ρ) : a ∈ ρ1 := by
  obtain ⟨t, rfl⟩ := x.pre
  exact List.mem_append_left _ h
theorem RelH.noTup (r : RelH K H ρ ah) {a : Addr} {xs : List V} (h : H a = some (.tup xs)) : a ∉ ρ := fun q => by
  obtain ⟨n, hn, e⟩ := List.mem_iff_getElem.mp q
  have hl : n < ah.length := by rw [← r.len]; exact hn
  obtain ⟨b, hb, c⟩ := r.cell n ah[n] (List.getElem?_eq_getElem hl)
  rw [List.getElem?_eq_getElem hn, e] at hb
  cases hb
  cases hc : ah[n] with
  | lst ds => rw [hc] at c; obtain ⟨_, vs, e, _⟩ := c; rw [h] at e; cases e
  | ro ds => rw [hc] at c; obtain ⟨_, o, vs, e, _⟩ := c; rw [h] at e; cases e
theorem RelH.noFrzTup (r : RelH K H ρ ah) {a : Addr} {o : Obj} {xs : List V} (h : H a = some (.frz o (.tup xs))) : a ∉ ρ := fun q => by
  obtain ⟨n, hn, e⟩ := List.mem_iff_getElem.mp q
  have hl : n < ah.length := by rw [← r.len]; exact hn
  obtain ⟨b, hb, c⟩ := r.cell n ah[n] (List.getElem?_eq_getElem hl)
  rw [List.getElem?_eq_getElem hn, e] at hb
  cases hb
  cases hc : ah[n] with
  | lst ds => rw [hc] at c; obtain ⟨_, vs, e, _⟩ := c; rw [h] at e; cases e
  | ro ds => rw [hc] at c; obtain ⟨_, o, vs, e, _⟩ := c; rw [h] at e; cases e
theorem RelH.sqT (r : RelH K H ρ ah) (x : Ext ρ H ρ1 H1) {a : Addr} {vs : List V} (h : SqT K H a vs) : SqT K H1 a vs := by
  rcases h with (h | ⟨o, h⟩) | h
  · exact .inl (.inl (x.keep _ _ h (r.noTup h)))
  · exact .inl (.inr ⟨o, x.keep _ _ h (r.noFrzTup h)⟩)
  · exact .inr h
mutual
theorem DV.imp (f : ∀ (n : Nat) (a : Addr), ρ[n]? = some a → ρ1[n]? = some a) (g : ∀ a vs, SqT K H a vs → SqT K H1 a vs) : ∀ {d : D} {v : V}, DV K H ρ d v → DV K H1 ρ1 d v
  | _, _, .non => .non
  | _, _, .bl b => .bl b
  | _, _, .int i => .int i
  | _, _, .str z => .str z
  | _, _, .tup h t z => .tup (g _ _ h) (DVs.imp f g t) z
  | _, _, .ref h => .ref (f _ _ h)
theorem DVs.imp (f : ∀ (n : Nat) (a : Addr), ρ[n]? = some a → ρ1[n]? = some a) (g : ∀ a vs, SqT K H a vs → SqT K H1 a vs) : ∀ {ds : List D} {vs : List V}, DVs K H ρ ds vs → DVs K H1 ρ1 ds vs
  | _, _, .nil => .nil
  | _, _, .cons h t => .cons (DV.imp f g h) (DVs.imp f g t)
end
theorem DV.ext (r : RelH K H ρ ah) (x : Ext ρ H ρ1 H1) {d : D} {v : V} (h : DV K H ρ d v) : DV K H1 ρ1 d v := h.imp (fun _ _ => x.get) fun _ _ => r.sqT x
theorem DVs.ext (r : RelH K H ρ ah) (x : Ext ρ H ρ1 H1) {ds : List D} {vs : List V} (h : DVs K H ρ ds vs) : DVs K H1 ρ1 ds vs := h.imp (fun _ _ => x.get) fun _ _ => r.sqT x
theorem EnvR.ext {env : List (Option D)} {σ : L2.St} (r : RelH K H ρ ah) (x : Ext ρ H ρ1 H1) (h : EnvR K H ρ env σ) : EnvR K H1 ρ1 env σ :=
  ⟨h.1, fun i d e => let ⟨v, a, b⟩ := h.2 i d e; ⟨v, a, b.ext r x⟩⟩
theorem DVs.length {ds : List D} {vs : List V} (h : DVs K H ρ ds vs) : ds.length = vs.length := by
  induction ds generalizing vs with
  | nil => cases h; rfl
  | cons d ds ih => cases h with | cons _ t => simp [ih t]
theorem DVs.get : ∀ {ds : List D} {vs : List V} {i : Nat} {d : D}, DVs K H ρ ds vs → ds[i]? = some d → ∃ v, vs[i]? = some v ∧ DV K H ρ d v
  | _, _, _, _, .nil, e => by simp at e
  | _, _, 0, _, .cons h _, e => by simp at e; subst e; exact ⟨_, rfl, h⟩
  | _, _, i + 1, d, .cons _ t, e => by simpa using DVs.get (i := i) (d := d) t (by simpa using e)
theorem DVs.append : ∀ {ds es : List D} {vs ws : List V}, DVs K H ρ ds vs → DVs K H ρ es ws → DVs K H ρ (ds ++ es) (vs ++ ws)
  | _, _, _, _, .nil, q => q
  | _, _, _, _, .cons h t, q => .cons h (DVs.append t q)
theorem DVs.take : ∀ {ds : List D} {vs : List V} (n : Nat), DVs K H ρ ds vs → DVs K H ρ (ds.take n) (vs.take n)
  | _, _, 0, _ => by simp; exact .nil
  | _, _, _ + 1, .nil => .nil
  | _, _, n + 1, .cons h t => .cons h (DVs.take n t)
theorem DVs.drop : ∀ {ds : List D} {vs : List V} (n : Nat), DVs K H ρ ds vs → DVs K H ρ (ds.drop n) (vs.drop n)
  | _, _, 0, h => h
  | _, _, _ + 1, .nil => .nil
  | _, _, n + 1, .cons _ t => DVs.drop n t
theorem DVs.set : ∀ {ds : List D} {vs : List V} (n : Nat) {d : D} {v : V}, DV K H ρ d v → DVs K H ρ ds vs → DVs K H ρ (ds.set n d) (vs.set n v)
  | _, _, _, _, _, _, .nil => .nil
  | _, _, 0, _, _, q, .cons _ t => .cons q t
  | _, _, n + 1, _, _, q, .cons h t => .cons h (DVs.set n q t)
theorem DVs.reverse : ∀ {ds : List D} {vs : List V}, DVs K H ρ ds vs → DVs K H ρ ds.reverse vs.reverse
  | _, _, .nil => .nil
  | _, _, .cons h t => by simpa using (DVs.reverse t).append (.cons h .nil)
theorem DVs.eraseIdx : ∀ {ds : List D} {vs : List V} (n : Nat), DVs K H ρ ds vs → DVs K H ρ (ds.eraseIdx n) (vs.eraseIdx n)
  | _, _, _, .nil => .nil
  | _, _, 0, .cons _ t => t
  | _, _, n + 1, .cons h t => .cons h (DVs.eraseIdx n t)
theorem DVs.dropLast {ds : List D} {vs : List V} (h : DVs K H ρ ds vs) : DVs K H ρ ds.dropLast vs.dropLast := by
  rw [List.dropLast_eq_take, List.dropLast_eq_take, h.length]; exact h.take _
theorem DVs.get' {ds : List D} {vs : List V} {i : Nat} {v : V} (h : DVs K H ρ ds vs) (e : vs[i]? = some v) : ∃ d, ds[i]? = some d ∧ DV K H ρ d v := by
  have hi : i < ds.length := by rw [h.length]; exact (List.getElem?_eq_some_iff.mp e).1
  obtain ⟨v', h1, h2⟩ := h.get (List.getElem?_eq_getElem hi)
  rw [e] at h1; cases h1
  exact ⟨_, List.getElem?_eq_getElem hi, h2⟩

/-! ### what an outcome says -/
/-- an exception of ours, in the heap: its class, its own dict -/
def ExcR (mg : Str → Option Value) (K : PySem.W.Frag) (H : Hp) (ρ : List Addr) (x : Exc) (C : Value) (o : Option Addr) : Prop :=
  mg x.cls = some C ∧ ∃ d vs, o = some d ∧ d ∉ ρ ∧ H d = some (.xd (x.flds.map (·.1) |>.zip vs)) ∧ DVs K H ρ (x.flds.map (·.2)) vs

def OutP {α : Type} (mg : Str → Option Value) (K : PySem.W.Frag) (E : XK) (ρ : List Addr) (H : Hp) (o : Out α) (P : α → AH → Hp → List Addr → Prop) : Prop := match o with
  | .ok a ah' => ∀ H' ρ', Ext ρ H ρ' H' → RelH K H' ρ' ah' → P a ah' H' ρ'
  | .exc x ah' => ∀ C d H' ρ', Ext ρ H ρ' H' → RelH K H' ρ' ah' → ExcR mg K H' ρ' x C d → E C d H'
  | .bad => False
variable {mg : Str → Option Value} {E : XK} {α β : Type}
theorem OutP.ext {o : Out α} {P : α → AH → Hp → List Addr → Prop} (x : Ext ρ H ρ1 H1) (h : OutP mg K E ρ H o P) : OutP mg K E ρ1 H1 o P := by
  cases o with
  | ok a ah' => exact fun H' ρ' e r => h H' ρ' (x.trans e) r
  | exc y ah' => exact fun C d H' ρ' e r => h C d H' ρ' (x.trans e) r
  | bad => exact h
theorem OutP.mono {o : Out α} {P Q : α → AH → Hp → List Addr → Prop} (h : OutP mg K E ρ H o P) (hq : ∀ a ah' H' ρ', Ext ρ H ρ' H' → RelH K H' ρ' ah' → P a ah' H' ρ' → Q a ah' H' ρ') : OutP mg K E ρ H o Q := by
  cases o with
  | ok a ah' => exact fun H' ρ' e r => hq _ _ _ _ e r (h H' ρ' e r)
  | exc y ah' => exact h
  | bad => exact h
/-- a sequence -/
theorem OutP.bind {m : M α} {k : α → M β} {ah : AH} {P : β → AH → Hp → List Addr → Prop} (h : OutP mg K E ρ H ((m >>= k) ah) P) :
    OutP mg K E ρ H (m ah) fun a ah1 H1 ρ1 => OutP mg K E ρ1 H1 (k a ah1) P := by
  rw [bind_eq] at h
  cases e : m ah with
  | ok a ah1 => rw [e] at h; exact fun H' ρ' x r => h.ext x
  | exc y ah1 => rw [e] at h; exact h
  | bad => rw [e] at h; exact h
/-- .. the place where one stands kept -/
theorem OutP.bindA {m : M α} {k : α → M β} {ah : AH} {P : β → AH → Hp → List Addr → Prop} (h : OutP mg K E ρ H ((m >>= k) ah) P) :
    OutP mg K E ρ H (m ah) fun a ah1 _ _ => OutP mg K E ρ H (k a ah1) P := by
  rw [bind_eq] at h
  cases e : m ah with
  | ok a ah1 => rw [e] at h; exact fun H' ρ' x r => h
  | exc y ah1 => rw [e] at h; exact h
  | bad => rw [e] at h; exact h
theorem OutP.okI {a : α} {P : α → AH → Hp → List Addr → Prop} {ah : AH} (r : RelH K H ρ ah) (h : OutP mg K E ρ H (.ok a ah) P) : P a ah H ρ := h H ρ .refl r
theorem OutP.okE {a : α} {P : α → AH → Hp → List Addr → Prop} {ah : AH} (h : ∀ H' ρ', Ext ρ H ρ' H' → RelH K H' ρ' ah → P a ah H' ρ') : OutP mg K E ρ H (.ok a ah) P := h
end

/-! ### the judgements -/
abbrev EnvD := List (Option D)
section
variable (X : Cx) (E : XK)
/-- an expression -/
def FE (e : Expr) (f : EnvD → M D) : Prop := ∃ t : TE, PE X e t ∧ ∀ σ H ρ env ah Q, EnvR X.K H ρ env σ → RelH X.K H ρ ah →
  OutP X.mg X.K E ρ H (f env ah) (fun d _ H' ρ' => ∀ v, DV X.K H' ρ' d v → Q v H') → t σ H Q
/-- a test -/
def FT (e : Expr) (f : EnvD → M Bool) : Prop := ∃ t : TT, PT X e t ∧ ∀ σ H ρ env ah Q, EnvR X.K H ρ env σ → RelH X.K H ρ ah →
  OutP X.mg X.K E ρ H (f env ah) (fun b _ H' _ => Q b H') → t σ H Q
/-- a new list -/
def FN (e : Expr) (f : EnvD → M (List D)) : Prop := ∃ t : TE, PE X e t ∧ ∀ σ H ρ env ah Q, EnvR X.K H ρ env σ → RelH X.K H ρ ah →
  OutP X.mg X.K E ρ H (f env ah) (fun ds _ H' ρ' => ∀ a vs, H' a = some (.lst vs) → a ∉ ρ' → H a = none → DVs X.K H' ρ' ds vs → ds.length ≤ sizeLine → Q (.ref a) H') → t σ H Q
/-- where the items of a sequence stand: in a tuple or in a list that nobody else has, or in a cell -/
def SrcOk (K : PySem.W.Frag) (H : Hp) (ρ : List Addr) (ds : List D) (src : Option Nat) (a : Addr) : Prop :=
  ds.length ≤ sizeLine ∧ ∃ vs, DVs K H ρ ds vs ∧ match src with
  | none => SqT K H a vs ∨ (SqL K H a vs ∧ a ∉ ρ)
  | some n => ρ[n]? = some a ∧ SqL K H a vs
/-- a sequence: a tuple or a list -/
def FL (e : Expr) (f : EnvD → M (List D × Option Nat)) : Prop := ∃ t : TE, PE X e t ∧ ∀ σ H ρ env ah Q, EnvR X.K H ρ env σ → RelH X.K H ρ ah →
  OutP X.mg X.K E ρ H (f env ah) (fun p _ H' ρ' => ∀ a, SrcOk X.K H' ρ' p.1 p.2 a → Q (.ref a) H') → t σ H Q
/-- arguments -/
def FA (es : List Expr) (f : EnvD → M (List D)) : Prop := ∃ t : TA, PA X es t ∧ ∀ σ H ρ env ah Q, EnvR X.K H ρ env σ → RelH X.K H ρ ah →
  OutP X.mg X.K E ρ H (f env ah) (fun ds _ H' ρ' => ∀ vs, DVs X.K H' ρ' ds vs → Q vs H') → t σ H Q
/-- off some slots nothing changes -/
def Agree (is : List Nat) (σ σ' : L2.St) : Prop := σ'.length = σ.length ∧ ∀ (i : Nat), i ∉ is → σ'[i]? = σ[i]?
/-- a target; its slots -/
def FG (e : Expr) (is : List Nat) (f : D → EnvD → M EnvD) : Prop := ∃ t : TG, PG X e t ∧ ∀ v σ H ρ d env ah Q, EnvR X.K H ρ env σ → RelH X.K H ρ ah → DV X.K H ρ d v →
  OutP X.mg X.K E ρ H (f d env ah) (fun env' _ H' ρ' => ∀ σ', EnvR X.K H' ρ' env' σ' → Agree is σ σ' → Q σ' H') → t v σ H Q
def FGs (es : List Expr) (is : List Nat) (f : List D → EnvD → M EnvD) : Prop := ∃ t : TGs, PGs X es t ∧ ∀ vs σ H ρ ds env ah Q, EnvR X.K H ρ env σ → RelH X.K H ρ ah → DVs X.K H ρ ds vs →
  OutP X.mg X.K E ρ H (f ds env ah) (fun env' _ H' ρ' => ∀ σ', EnvR X.K H' ρ' env' σ' → Agree is σ σ' → Q σ' H') → t vs σ H Q
end
/-- the cell still holds these items -/
def keeps (src : Option Nat) (ds : List D) (ah : AH) : Prop := match src with
  | none => True
  | some n => ah[n]? = some (.lst ds) ∨ ah[n]? = some (.ro ds)
/-- an iterator that yields the ds -/
def Yields (K : PySem.W.Frag) (J : It) (ds : List D) (src : AH → Prop) (ρ0 : List Addr) (H0 : Hp) : Prop :=
  ds.length ≤ sizeLine ∧ ∀ i H ρ ah, Ext ρ0 H0 ρ H → RelH K H ρ ah → src ah →
    (∀ d, ds[i]? = some d → J.go i H ∧ ∀ x H', J.yld i H x H' → Ext ρ H ρ H' ∧ RelH K H' ρ ah ∧ DV K H' ρ d x) ∧ (ds.length ≤ i → J.stop i H)
section
variable (X : Cx) (E : XK)
/-- what is walked -/
def FI (tg iter : Expr) (f : EnvD → M (List D × (AH → Prop))) : Prop := ∃ wi : TI, PI X tg iter wi ∧ ∀ σ H ρ env ah R, EnvR X.K H ρ env σ → RelH X.K H ρ ah →
  OutP X.mg X.K E ρ H (f env ah) (fun p _ H' ρ' => ∀ J, Yields X.K J p.1 p.2 ρ' H' → R J H') → wi σ H R
inductive Flw where
  | next | brk | cont | rt (d : D)
def EndsOk (K : PySem.W.Frag) (D : Ends) (p : Flw × EnvD) (H : Hp) (ρ : List Addr) : Prop := match p.1 with
  | .next => ∀ σ, EnvR K H ρ p.2 σ → D.nx σ H
  | .brk => ∀ σ, EnvR K H ρ p.2 σ → D.bk σ H
  | .cont => ∀ σ, EnvR K H ρ p.2 σ → D.ct σ H
  | .rt d => ∀ v, DV K H ρ d v → D.rt v H
/-- a statement, a block -/
def FS (st : Stmt) (f : EnvD → M (Flw × EnvD)) : Prop := ∃ t : TS, PS X st t ∧ ∀ σ H ρ env ah D, EnvR X.K H ρ env σ → RelH X.K H ρ ah →
  OutP X.mg X.K E ρ H (f env ah) (fun p _ H' ρ' => EndsOk X.K D p H' ρ') → t D σ H
def FSs (st : List Stmt) (f : EnvD → M (Flw × EnvD)) : Prop := ∃ t : TS, PSs X st t ∧ ∀ σ H ρ env ah D, EnvR X.K H ρ env σ → RelH X.K H ρ ah →
  OutP X.mg X.K E ρ H (f env ah) (fun p _ H' ρ' => EndsOk X.K D p H' ρ') → t D σ H
end
end Ev

set_option Elab.async false
set_option linter.all false
set_option maxRecDepth 100000
set_option maxHeartbeats 2000000
set_option autoImplicit false
namespace Ev
open PySem PySem.Spec PyProof.Rows L2

section
variable {K : PySem.W.Frag} {H H1 H2 : Hp} {ρ ρ1 ρ2 : List Addr} {ah ah1 : AH} {mg : Str → Option Value} {E : XK}
theorem CellOk.there {a : Addr} {c : Cell} (h : CellOk K H ρ a c) : ∃ o, H a = some o := by
  cases c with
  | lst ds => obtain ⟨_, vs, e, _⟩ := h; exact ⟨_, e⟩
  | ro ds => obtain ⟨_, o, vs, e, _⟩ := h; exact ⟨_, e⟩
theorem RelH.at (r : RelH K H ρ ah) {n : Nat} {a : Addr} (h : ρ[n]? = some a) : ∃ c, ah[n]? = some c ∧ CellOk K H ρ a c := by
  have hl : n < ah.length := by rw [← r.len]; exact (List.getElem?_eq_some_iff.mp h).1
  obtain ⟨b, hb, c⟩ := r.cell n ah[n] (List.getElem?_eq_getElem hl)
  rw [h] at hb; cases hb
  exact ⟨_, List.getElem?_eq_getElem hl, c⟩
theorem RelH.tracked (r : RelH K H ρ ah) {a : Addr} (q : a ∈ ρ) : ∃ o, H a = some o := by
  obtain ⟨n, hn, e⟩ := List.mem_iff_getElem.mp q
  obtain ⟨c, _, h⟩ := r.at (n := n) (a := a) (by rw [List.getElem?_eq_getElem hn, e])
  exact h.there
theorem RelH.fresh (r : RelH K H ρ ah) {p : Addr} (h : H p = none) : p ∉ ρ := fun q => by
  obtain ⟨o, e⟩ := r.tracked q; rw [h] at e; cases e
/-- a new thing that no cell is -/
theorem Ext.upd {p : Addr} {o : HO} (h : H p = none) : Ext ρ H ρ (upd H p o) :=
  ⟨⟨[], by simp⟩, fun a o' e _ => by rw [upd_ne (ne_of_none e h)]; exact e, fun a h n => absurd h n⟩
theorem CellOk.imp (f : ∀ (n : Nat) (a : Addr), ρ[n]? = some a → ρ1[n]? = some a) (g : ∀ a vs, SqT K H a vs → SqT K H1 a vs) {a : Addr} {c : Cell} (h : CellOk K H ρ a c) (k : ∀ o, H a = some o → H1 a = some o) : CellOk K H1 ρ1 a c := by
  cases c with
  | lst ds => obtain ⟨z, vs, e, t⟩ := h; exact ⟨z, vs, k _ e, t.imp f g⟩
  | ro ds => obtain ⟨z, o, vs, e, t⟩ := h; exact ⟨z, o, vs, k _ e, t.imp f g⟩
theorem RelH.upd {p : Addr} {o : HO} (r : RelH K H ρ ah) (h : H p = none) : RelH K (upd H p o) ρ ah :=
  ⟨r.len, r.nd, fun n c e => let ⟨a, h1, h2⟩ := r.cell n c e; ⟨a, h1, h2.imp (fun _ _ q => q) (fun _ _ => r.sqT (Ext.upd h)) fun o' e' => by rw [upd_ne (ne_of_none e' h)]; exact e'⟩⟩
/-- a new cell -/
theorem Ext.push {p : Addr} (x : Ext ρ H ρ1 H1) (n : H p = none) : Ext ρ H (ρ1 ++ [p]) H1 := by
  obtain ⟨t, rfl⟩ := x.pre
  refine ⟨⟨t ++ [p], by simp⟩, x.keep, fun a h n' => ?_⟩
  rcases List.mem_append.mp h with q | q
  · exact x.new a q n'
  · have e : a = p := by simpa using q
    rw [e]; exact n
theorem get_push {n : Nat} {a p : Addr} (q : ρ[n]? = some a) : (ρ ++ [p])[n]? = some a := by
  rw [List.getElem?_append_left (List.getElem?_eq_some_iff.mp q).1]; exact q
theorem RelH.push {p : Addr} {c : Cell} (r : RelH K H ρ ah) (h : p ∉ ρ) (hc : CellOk K H ρ p c) : RelH K H (ρ ++ [p]) (ah ++ [c]) := by
  refine ⟨by simp [r.len], ?_, fun n c' e => ?_⟩
  · rw [List.nodup_append]
    exact ⟨r.nd, by simp, fun a ha b hb => by
      have hb' : b = p := by simpa using hb
      intro z
      exact h (by rw [← hb', ← z]; exact ha)⟩
  · by_cases hn : n < ah.length
    · rw [List.getElem?_append_left hn] at e
      obtain ⟨a, h1, h2⟩ := r.cell n c' e
      exact ⟨a, get_push h1, h2.imp (fun _ _ => get_push) (fun _ _ q => q) fun _ q => q⟩
    · rw [List.getElem?_append_right (by omega)] at e
      have hn' : n = ah.length := by
        have := (List.getElem?_eq_some_iff.mp e).1
        simp at this; omega
      subst hn'
      simp at e; subst e
      refine ⟨p, by rw [← r.len]; simp, hc.imp (fun _ _ => get_push) (fun _ _ q => q) fun _ q => q⟩
/-- a cell is written -/
theorem RelH.put {n : Nat} {p : Addr} {o : HO} {c : Cell} (r : RelH K H ρ ah) (h : ρ[n]? = some p) (hc : CellOk K (L2.upd H p o) ρ p c) : Ext ρ H ρ (L2.upd H p o) ∧ RelH K (L2.upd H p o) ρ (ah.set n c) := by
  have hp : p ∈ ρ := List.mem_of_getElem? h
  have x : Ext ρ H ρ (L2.upd H p o) := ⟨⟨[], by simp⟩, fun a o' e hn => by rw [upd_ne (show a ≠ p from fun z => hn (by rw [z]; exact hp))]; exact e, fun a h n => absurd h n⟩
  refine ⟨x, by simp [r.len], r.nd, fun m c' e => ?_⟩
  by_cases hm : m = n
  · subst hm
    have hl : m < ah.length := by rw [← r.len]; exact (List.getElem?_eq_some_iff.mp h).1
    rw [List.getElem?_set_self hl] at e; cases e
    exact ⟨p, h, hc⟩
  · rw [List.getElem?_set_ne (Ne.symm hm)] at e
    obtain ⟨a, h1, h2⟩ := r.cell m c' e
    refine ⟨a, h1, h2.imp (fun _ _ q => q) (fun _ _ => r.sqT x) fun o' e' => ?_⟩
    rw [upd_ne]; exact e'
    rintro rfl
    have e1 := (List.getElem?_eq_some_iff.mp h).2
    have e2 := (List.getElem?_eq_some_iff.mp h1).2
    exact hm ((List.getElem_inj r.nd).mp (e2.trans e1.symm))
end

/-! ### values -/
def asInt : D → Option Int | .int i => some i | _ => none
def alloc (c : Cell) : M D := fun ah => .ok (.ref ah.length) (ah ++ [c])
def itemsM (d : D) : M (List D × Option Nat) := fun ah => match d with
  | .tup ds => .ok (ds, none) ah
  | .ref n => match ah[n]? with
    | some (.lst ds) => .ok (ds, some n) ah
    | some (.ro ds) => .ok (ds, some n) ah
    | none => .bad
  | _ => .bad
def rdLst (n : Nat) : M (List D) := fun ah => match ah[n]? with
  | some (.lst ds) => .ok ds ah
  | _ => .bad
def wrLst (n : Nat) (ds : List D) : M Unit := fun ah => .ok () (ah.set n (.lst ds))

section
variable {K : PySem.W.Frag} {H H1 H2 : Hp} {ρ ρ1 ρ2 : List Addr} {ah ah1 : AH} {mg : Str → Option Value} {E : XK}
theorem DV.int' {i : Int} {v : V} (h : DV K H ρ (.int i) v) : v = .int i := by cases h; rfl
theorem DV.bl' {i : Bool} {v : V} (h : DV K H ρ (.bl i) v) : v = .bl i := by cases h; rfl
theorem DV.str' {i : Str} {v : V} (h : DV K H ρ (.str i) v) : v = .str i := by cases h; rfl
theorem DV.non' {v : V} (h : DV K H ρ .non v) : v = .non := by cases h; rfl
theorem DV.tup' {ds : List D} {v : V} (h : DV K H ρ (.tup ds) v) : ∃ a vs, v = .ref a ∧ SqT K H a vs ∧ DVs K H ρ ds vs := by cases h with | tup h1 h2 _ => exact ⟨_, _, rfl, h1, h2⟩
theorem DV.tupLen {ds : List D} {v : V} (h : DV K H ρ (.tup ds) v) : ds.length ≤ sizeLine := by cases h with | tup _ _ z => exact z
theorem DV.ref' {n : Nat} {v : V} (h : DV K H ρ (.ref n) v) : ∃ a, v = .ref a ∧ ρ[n]? = some a := by cases h with | ref h => exact ⟨_, rfl, h⟩
theorem RelH.lst (r : RelH K H ρ ah) {n : Nat} {a : Addr} {ds : List D} (h : ρ[n]? = some a) (e : ah[n]? = some (.lst ds)) : ∃ vs, H a = some (.lst vs) ∧ DVs K H ρ ds vs := by
  obtain ⟨c, h1, h2⟩ := r.at h
  rw [e] at h1; cases h1; exact h2.2
theorem RelH.lstLen (r : RelH K H ρ ah) {n : Nat} {ds : List D} (e : ah[n]? = some (.lst ds)) : ds.length ≤ sizeLine := by
  obtain ⟨a, _, h2⟩ := r.cell n _ e
  exact h2.1
theorem RelH.roLen (r : RelH K H ρ ah) {n : Nat} {ds : List D} (e : ah[n]? = some (.ro ds)) : ds.length ≤ sizeLine := by
  obtain ⟨a, _, h2⟩ := r.cell n _ e
  exact h2.1
theorem RelH.ro (r : RelH K H ρ ah) {n : Nat} {a : Addr} {ds : List D} (h : ρ[n]? = some a) (e : ah[n]? = some (.ro ds)) : ∃ o vs, H a = some (.frz o (.lst vs)) ∧ DVs K H ρ ds vs := by
  obtain ⟨c, h1, h2⟩ := r.at h
  rw [e] at h1; cases h1; exact h2.2
theorem SrcOk.cell (r : RelH K H ρ ah) {n : Nat} {a : Addr} {ds : List D} (h : ρ[n]? = some a) (e : keeps (some n) ds ah) : SrcOk K H ρ ds (some n) a := by
  rcases e with e | e
  · obtain ⟨vs, h1, h2⟩ := r.lst h e
    exact ⟨r.lstLen e, vs, h2, h, .inl (.inl h1)⟩
  · obtain ⟨o, vs, h1, h2⟩ := r.ro h e
    exact ⟨r.roLen e, vs, h2, h, .inl (.inr ⟨o, h1⟩)⟩
/-- the items of a value -/
theorem items_src {d : D} {v : V} {P : List D × Option Nat → AH → Hp → List Addr → Prop} (r : RelH K H ρ ah) (h : DV K H ρ d v) (o : OutP mg K E ρ H (itemsM d ah) P) :
    ∃ ds src a, v = .ref a ∧ SrcOk K H ρ ds src a ∧ itemsM d ah = .ok (ds, src) ah ∧ P (ds, src) ah H ρ := by
  cases d with
  | tup ds =>
    obtain ⟨a, vs, rfl, h1, h2⟩ := h.tup'
    exact ⟨ds, none, a, rfl, ⟨h.tupLen, vs, h2, .inl h1⟩, rfl, OutP.okI r o⟩
  | ref n =>
    obtain ⟨a, rfl, h1⟩ := h.ref'
    cases e : ah[n]? with
    | none => simp only [itemsM, e] at o; exact o.elim
    | some c =>
      cases c with
      | lst ds => simp only [itemsM, e] at o ⊢; exact ⟨ds, some n, a, rfl, .cell r h1 (.inl e), rfl, OutP.okI r o⟩
      | ro ds => simp only [itemsM, e] at o ⊢; exact ⟨ds, some n, a, rfl, .cell r h1 (.inr e), rfl, OutP.okI r o⟩
  | _ => exact (show False from o).elim
theorem SrcOk.seq {ds : List D} {src : Option Nat} {a : Addr} (h : SrcOk K H ρ ds src a) : ∃ vs, DVs K H ρ ds vs ∧ (SqL K H a vs ∨ SqT K H a vs) := by
  obtain ⟨_, vs, h1, h2⟩ := h
  cases src with
  | none => exact ⟨vs, h1, h2.elim .inr fun z => .inl z.1⟩
  | some n => exact ⟨vs, h1, .inl h2.2⟩
/-- a new list becomes a cell -/
theorem fresh_cell {a : Addr} {vs : List V} {ds : List D} (x : Ext ρ H ρ1 H1) (r : RelH K H1 ρ1 ah) (h : H1 a = some (.lst vs)) (n : a ∉ ρ1) (hn : H a = none) (t : DVs K H1 ρ1 ds vs) (z : ds.length ≤ sizeLine) :
    Ext ρ H (ρ1 ++ [a]) H1 ∧ RelH K H1 (ρ1 ++ [a]) (ah ++ [.lst ds]) ∧ DV K H1 (ρ1 ++ [a]) (.ref ah.length) (.ref a) :=
  ⟨x.push hn, r.push n ⟨z, vs, h, t⟩, .ref (by rw [← r.len]; simp)⟩
theorem same_upd {p : Addr} {o : HO} (h : H p = none) : ∀ a vs, SqT K H a vs → SqT K (upd H p o) a vs := fun a vs q => by
  rcases q with (q | ⟨u, q⟩) | q
  · exact .inl (.inl (by rw [upd_ne (ne_of_none q h)]; exact q))
  · exact .inl (.inr ⟨u, by rw [upd_ne (ne_of_none q h)]; exact q⟩)
  · exact .inr q
theorem DVs.upd {p : Addr} {o : HO} {ds : List D} {vs : List V} (h : H p = none) (t : DVs K H ρ ds vs) : DVs K (upd H p o) ρ ds vs := t.imp (fun _ _ q => q) (same_upd h)
theorem DV.upd {p : Addr} {o : HO} {d : D} {v : V} (h : H p = none) (t : DV K H ρ d v) : DV K (upd H p o) ρ d v := t.imp (fun _ _ q => q) (same_upd h)
/-- a new tuple -/
theorem fresh_tup {p : Addr} {vs : List V} {ds : List D} (h : H p = none) (t : DVs K H ρ ds vs) (z : ds.length ≤ sizeLine) : DV K (L2.upd H p (.tup vs)) ρ (.tup ds) (.ref p) :=
  .tup (.inl (.inl upd_same)) (t.upd h) z
end

/-! ### names, constants, tuples, lists -/
section
variable {X : Cx} {E : XK}
theorem FE.ofPE {e : Expr} {t : TE} {f : EnvD → M D} (h : PE X e t) (q : ∀ σ H ρ env ah Q, EnvR X.K H ρ env σ → RelH X.K H ρ ah → OutP X.mg X.K E ρ H (f env ah) (fun d _ H' ρ' => ∀ v, DV X.K H' ρ' d v → Q v H') → t σ H Q) : FE X E e f := ⟨t, h, q⟩
def sVar (i : Nat) : EnvD → M D := fun env => opt (env[i]?.join)
theorem fe_var {i : Nat} {x : Str} {pos : Pos} (h : PE X (.Name x pos) (tVar i)) : FE X E (.Name x pos) (sVar i) := by
  refine .ofPE h fun σ H ρ env ah Q re r o => ?_
  unfold sVar at o
  cases e : env[i]? with
  | none => rw [e] at o; exact o.elim
  | some w =>
    cases w with
    | none => rw [e] at o; exact o.elim
    | some d =>
      rw [e] at o
      obtain ⟨v, h1, h2⟩ := re.2 i d e
      exact ⟨v, h1, OutP.okI r o v h2⟩
def sC (d : D) : EnvD → M D := fun _ => ret d
theorem fe_int {i j pos} : FE X E (.Constant (.int i) j pos) (sC (.int i)) := .ofPE pe_int fun σ H ρ env ah Q re r o => OutP.okI r o _ (.int i)
theorem fe_bl {i j pos} : FE X E (.Constant (.bool i) j pos) (sC (.bl i)) := .ofPE pe_bl fun σ H ρ env ah Q re r o => OutP.okI r o _ (.bl i)
theorem fe_str {i j pos} : FE X E (.Constant (.str i) j pos) (sC (.str i)) := .ofPE pe_str fun σ H ρ env ah Q re r o => OutP.okI r o _ (.str i)
theorem fe_non {j pos} : FE X E (.Constant .none j pos) (sC .non) := .ofPE pe_non fun σ H ρ env ah Q re r o => OutP.okI r o _ .non
/-- a constant of the module: d says what it is in every heap -/
theorem fe_glob {x : Str} {v : V} {d : D} {pos : Pos} (h : PE X (.Name x pos) (tC v)) (hd : ∀ H ρ, DV X.K H ρ d v) : FE X E (.Name x pos) (sC d) := .ofPE h fun σ H ρ env ah Q re r o => OutP.okI r o _ (hd _ _)
/-- arguments -/
def sNil : EnvD → M (List D) := fun _ => ret []
def sCons (f : EnvD → M D) (g : EnvD → M (List D)) : EnvD → M (List D) := fun env => do
  let d ← f env
  let ds ← g env
  pure (d :: ds)
theorem fa_nil : FA X E [] sNil := ⟨_, pa_nil, fun σ H ρ env ah Q re r o => OutP.okI r o [] .nil⟩
theorem fa_cons {e : Expr} {es : List Expr} {f : EnvD → M D} {g : EnvD → M (List D)} (h : FE X E e f) (hs : FA X E es g) (hst : starEach (e :: es) X.env = (false, eval e X.env) :: starEach es X.env) : FA X E (e :: es) (sCons f g) := by
  obtain ⟨t, h1, q1⟩ := h
  obtain ⟨u, h2, q2⟩ := hs
  refine ⟨_, pa_cons h1 h2 hst, fun σ H ρ env ah Q re r o => ?_⟩
  refine q1 σ H ρ env ah _ re r (o.bind.mono fun d ah1 H1 ρ1 x1 r1 o1 v hv => ?_)
  refine q2 σ H1 ρ1 env ah1 _ (re.ext r x1) r1 (o1.bind.mono fun ds ah2 H2 ρ2 x2 r2 o2 vs hvs => ?_)
  exact OutP.okI r2 o2 _ (.cons (hv.ext r1 x2) hvs)
/-- (a, b, ..) -/
def sTup (g : EnvD → M (List D)) : EnvD → M D := fun env => do
  let ds ← g env
  if ds.length ≤ sizeLine then pure (.tup ds) else bad
theorem ifB {α : Type} {c : Prop} [Decidable c] {m : M α} {ah : AH} {K : PySem.W.Frag} {mg : Str → Option Value} {E : XK} {ρ : List Addr} {H : Hp} {P : α → AH → Hp → List Addr → Prop} (o : OutP mg K E ρ H ((if c then m else bad) ah) P) : c ∧ OutP mg K E ρ H (m ah) P := by
  by_cases h : c
  · rw [if_pos h] at o; exact ⟨h, o⟩
  · rw [if_neg h] at o; exact o.elim
theorem fe_tup {es : List Expr} {k : Nat} {pos : Pos} {g : EnvD → M (List D)} (h : FA X E es g) : FE X E (.Tuple es k pos) (sTup g) := by
  obtain ⟨u, h2, q2⟩ := h
  refine .ofPE (pe_tup h2) fun σ H ρ env ah Q re r o => ?_
  refine q2 σ H ρ env ah _ re r (o.bind.mono fun ds ah1 H1 ρ1 x1 r1 o1 vs hv => ?_)
  obtain ⟨hl, o1⟩ := ifB o1
  refine ⟨by rw [← hv.length]; exact hl, fun p hp => ?_⟩
  exact o1 _ _ (Ext.upd hp) (r1.upd hp) _ (fresh_tup hp hv hl)
/-- [a, b, ..] -/
def sDisp (g : EnvD → M (List D)) : EnvD → M (List D) := fun env => do
  let ds ← g env
  if ds.length ≤ sizeLine then pure ds else bad
theorem fn_disp {es : List Expr} {pos : Pos} {g : EnvD → M (List D)} (h : FA X E es g) : FN X E (.List es pos) (sDisp g) := by
  obtain ⟨u, h2, q2⟩ := h
  refine ⟨_, pe_lst h2, fun σ H ρ env ah Q re r o => ?_⟩
  refine q2 σ H ρ env ah _ re r (o.bind.mono fun ds ah1 H1 ρ1 x1 r1 o1 vs hv => ?_)
  obtain ⟨hl, o1⟩ := ifB o1
  refine ⟨by rw [← hv.length]; exact hl, fun p hp => ?_⟩
  have hp0 : H p = none := by
    cases e : H p with
    | none => rfl
    | some o =>
      by_cases q : p ∈ ρ
      · obtain ⟨o2, e2⟩ := r1.tracked (x1.sub q); rw [hp] at e2; cases e2
      · rw [x1.keep p o e q] at hp; cases hp
  exact o1 _ _ (Ext.upd hp) (r1.upd hp) p vs upd_same (r1.fresh hp) hp0 (hv.upd hp) hl
/-- a new list as a value: a new cell -/
def sNew (g : EnvD → M (List D)) : EnvD → M D := fun env => do
  let ds ← g env
  alloc (.lst ds)
theorem fe_new {e : Expr} {g : EnvD → M (List D)} (h : FN X E e g) : FE X E e (sNew g) := by
  obtain ⟨t, h1, q1⟩ := h
  refine .ofPE h1 fun σ H ρ env ah Q re r o => ?_
  refine q1 σ H ρ env ah _ re r ?_
  have ob := o.bind
  cases e : g env ah with
  | bad => rw [e] at ob; exact ob
  | exc y ah1 => rw [e] at ob; exact ob
  | ok ds ah1 =>
    rw [e] at ob
    refine fun H1 ρ1 x1 r1 a vs ha hn hn0 hv hz => ?_
    obtain ⟨x2, r2, d2⟩ := fresh_cell x1 r1 ha hn hn0 hv hz
    have oo : OutP X.mg X.K E ρ H ((sNew g env) ah) _ := o
    have ee : (sNew g env) ah = .ok (.ref ah1.length) (ah1 ++ [.lst ds]) := by
      show ((g env) >>= fun ds => alloc (.lst ds)) ah = _
      rw [bind_eq, e]; rfl
    rw [ee] at oo
    exact oo H1 (ρ1 ++ [a]) x2 r2 _ d2
/-- .. as a sequence -/
def sSeqN (g : EnvD → M (List D)) : EnvD → M (List D × Option Nat) := fun env => do
  let ds ← g env
  pure (ds, none)
theorem fl_new {e : Expr} {g : EnvD → M (List D)} (h : FN X E e g) : FL X E e (sSeqN g) := by
  obtain ⟨t, h1, q1⟩ := h
  refine ⟨t, h1, fun σ H ρ env ah Q re r o => ?_⟩
  refine q1 σ H ρ env ah _ re r (o.bind.mono fun ds ah1 H1 ρ1 x1 r1 o1 a vs ha hn hn0 hv hz => ?_)
  exact OutP.okI r1 o1 a ⟨hz, vs, hv, .inr ⟨.inl (.inl ha), hn⟩⟩
def sSeqV (g : EnvD → M D) : EnvD → M (List D × Option Nat) := fun env => do
  let d ← g env
  itemsM d
theorem fl_val {e : Expr} {g : EnvD → M D} (h : FE X E e g) : FL X E e (sSeqV g) := by
  obtain ⟨t, h1, q1⟩ := h
  refine ⟨t, h1, fun σ H ρ env ah Q re r o => ?_⟩
  refine q1 σ H ρ env ah _ re r (o.bind.mono fun d ah1 H1 ρ1 x1 r1 o1 v hv => ?_)
  obtain ⟨ds, src, a, rfl, hs, _, p⟩ := items_src r1 hv o1
  exact p a hs
end

/-! ### operators on values -/
section
variable (X : Cx) (E : XK)
def OpD (r : R2) (g : D → D → M D) : Prop := ∀ H ρ ah d1 d2 x y Q, RelH X.K H ρ ah → DV X.K H ρ d1 x → DV X.K H ρ d2 y →
  OutP X.mg X.K E ρ H (g d1 d2 ah) (fun d _ H' ρ' => ∀ v, DV X.K H' ρ' d v → Q v H') → r x y H Q
def sOp (g : D → D → M D) (fa fb : EnvD → M D) : EnvD → M D := fun env => do
  let x ← fa env
  let y ← fb env
  g x y
end
section
variable {X : Cx} {E : XK} {r : R2} {g : D → D → M D} {a b : Expr} {fa fb : EnvD → M D} {pos : Pos}
theorem tOp_of {ta tb : TE} (hr : OpD X E r g)
    (qa : ∀ σ H ρ env ah Q, EnvR X.K H ρ env σ → RelH X.K H ρ ah → OutP X.mg X.K E ρ H (fa env ah) (fun d _ H' ρ' => ∀ v, DV X.K H' ρ' d v → Q v H') → ta σ H Q)
    (qb : ∀ σ H ρ env ah Q, EnvR X.K H ρ env σ → RelH X.K H ρ ah → OutP X.mg X.K E ρ H (fb env ah) (fun d _ H' ρ' => ∀ v, DV X.K H' ρ' d v → Q v H') → tb σ H Q) :
    ∀ σ H ρ env ah Q, EnvR X.K H ρ env σ → RelH X.K H ρ ah → OutP X.mg X.K E ρ H (sOp g fa fb env ah) (fun d _ H' ρ' => ∀ v, DV X.K H' ρ' d v → Q v H') → tOp r ta tb σ H Q := by
  intro σ H ρ env ah Q re rh o
  refine qa σ H ρ env ah _ re rh (o.bind.mono fun d1 ah1 H1 ρ1 x1 r1 o1 v hv => ?_)
  refine qb σ H1 ρ1 env ah1 _ (re.ext rh x1) r1 (o1.bind.mono fun d2 ah2 H2 ρ2 x2 r2 o2 w hw => ?_)
  exact hr H2 ρ2 ah2 d1 d2 v w Q r2 (hv.ext r1 x2) hw o2
theorem fe_bin {op : Operator} (ho : OpR X (binaryOp op) r) (hr : OpD X E r g) (ha : FE X E a fa) (hb : FE X E b fb) : FE X E (.BinOp a op b pos) (sOp g fa fb) := by
  obtain ⟨ta, h1, q1⟩ := ha
  obtain ⟨tb, h2, q2⟩ := hb
  exact .ofPE (pe_op ho h1 h2) (tOp_of hr q1 q2)
theorem fe_cmp {op : CmpOp} (ho : OpR X (compareOp op) r) (hr : OpD X E r g) (ha : FE X E a fa) (hb : FE X E b fb) (hm : behindInMarks op b = false) : FE X E (.Compare a [op] [b] pos) (sOp g fa fb) := by
  obtain ⟨ta, h1, q1⟩ := ha
  obtain ⟨tb, h2, q2⟩ := hb
  exact .ofPE (pe_cmpR ho h1 h2 hm) (tOp_of hr q1 q2)
theorem OpD.or {r r' : R2} {g g' : D → D → M D} (h : OpD X E r g) (h' : OpD X E r' g') {k : D → D → M D} (hk : ∀ x y, k x y = g x y ∨ k x y = g' x y) : OpD X E (fun x y H Q => r x y H Q ∨ r' x y H Q) k := by
  intro H ρ ah d1 d2 x y Q rh h1 h2 o
  rcases hk d1 d2 with e | e
  · rw [e] at o; exact .inl (h H ρ ah d1 d2 x y Q rh h1 h2 o)
  · rw [e] at o; exact .inr (h' H ρ ah d1 d2 x y Q rh h1 h2 o)
def asBool (m : EnvD → M D) : EnvD → M Bool := fun env => do
  match ← m env with
  | .bl b => pure b
  | _ => bad
theorem OutP.asBool {m : M D} {ah : AH} {K : PySem.W.Frag} {mg : Str → Option Value} {E : XK} {ρ : List Addr} {H : Hp} {P : Bool → Hp → Prop}
    (o : OutP mg K E ρ H ((do match ← m with | .bl b => pure b | _ => bad : M Bool) ah) (fun b _ H' _ => P b H')) :
    OutP mg K E ρ H (m ah) fun d _ H' ρ' => ∀ v, DV K H' ρ' d v → ∃ b, v = .bl b ∧ P b H' := by
  refine o.bind.mono fun d ah1 H1 ρ1 x1 r1 o1 v hv => ?_
  cases d with
  | bl b => cases hv; exact ⟨b, rfl, OutP.okI r1 o1⟩
  | _ => exact (show False from o1).elim
theorem ft_cmp {op : CmpOp} (ho : OpR X (compareOp op) r) (hr : OpD X E r g) (ha : FE X E a fa) (hb : FE X E b fb) (hm : behindInMarks op b = false) : FT X E (.Compare a [op] [b] pos) (asBool (sOp g fa fb)) := by
  obtain ⟨ta, h1, q1⟩ := ha
  obtain ⟨tb, h2, q2⟩ := hb
  refine ⟨_, pt_cmpR ho h1 h2 hm, fun σ H ρ env ah Q re rh o => ?_⟩
  exact tOp_of hr q1 q2 σ H ρ env ah _ re rh (OutP.asBool o)
end
end Ev

set_option Elab.async false
set_option linter.all false
set_option maxRecDepth 100000
set_option maxHeartbeats 2000000
set_option autoImplicit false
namespace Ev
open PySem PySem.Spec PyProof.Rows L2

/-! ### a value as a key: == by value -/
mutual
def D.nk : D → Option NestedKey
  | .non => some .none
  | .bl b => some (.num (if b = true then 1 else 0))
  | .int i => some (.num i)
  | .str x => some (.text x)
  | .tup ds => (nks ds).map .tup
  | .ref _ => none
def nks : List D → Option (List NestedKey)
  | [] => some []
  | d :: ds => match d.nk, nks ds with
    | some k, some ks => some (k :: ks)
    | _, _ => none
end
theorem nks_cons {d : D} {ds : List D} {ks : List NestedKey} (h : nks (d :: ds) = some ks) : ∃ k r, ks = k :: r ∧ d.nk = some k ∧ nks ds = some r := by
  unfold nks at h
  cases e : d.nk with
  | none => rw [e] at h; simp at h
  | some k =>
    cases e2 : nks ds with
    | none => rw [e, e2] at h; simp at h
    | some r => rw [e, e2] at h; simp at h; exact ⟨k, r, h.symm, rfl, rfl⟩
section
variable {X : Cx} {pins : List (Addr × Obj)} {σ : L2.St} {H : Hp} {s : Shared} {ρ : List Addr}
mutual
theorem DV.key (I : Inv X pins σ H s) : ∀ (d : D) (v : V) (u : Value) (k : NestedKey), DV X.K H ρ d v → RelV v u → d.nk = some k → NestedIs s.heap k u
  | .non, _, _, _, h, r, e => by cases h; cases r; cases e; exact .none
  | .bl b, _, _, _, h, r, e => by cases h; cases r; cases e; exact .bool rfl
  | .int i, _, _, _, h, r, e => by cases h; obtain ⟨t, rfl⟩ := r; cases e; exact .int _ _
  | .str x, _, _, _, h, r, e => by cases h; obtain ⟨t, rfl⟩ := r; cases e; exact .text _ _
  | .tup ds, _, _, k, h, r, e => by
    obtain ⟨a, vs, rfl, h1, h2⟩ := h.tup'
    cases r
    obtain ⟨its, rv, ⟨o, ho, hc, n, hd⟩, _⟩ := I.tuple h1
    unfold D.nk at e
    cases e2 : nks ds with
    | none => rw [e2] at e; cases e
    | some ks =>
      rw [e2] at e; cases e
      exact .tup ho hc hd (DVs.keys I ds vs its ks h2 rv e2)
  | .ref _, _, _, _, _, _, e => by cases e
theorem DVs.keys (I : Inv X pins σ H s) : ∀ (ds : List D) (vs : List V) (us : List Value) (ks : List NestedKey), DVs X.K H ρ ds vs → Vals vs us → nks ds = some ks → NestedAll s.heap ks us
  | [], _, _, _, h, r, e => by cases h; cases r; cases e; exact .nil
  | d :: ds, _, _, _, h, r, e => by
    obtain ⟨k, ks, rfl, e1, e2⟩ := nks_cons e
    cases h with
    | cons h1 h2 =>
      cases r with
      | cons r1 r2 => exact .cons (DV.key I d _ _ k h1 r1 e1) (DVs.keys I ds _ _ ks h2 r2 e2)
end
end

/-! ### == of keys -/
open SeqAt in
theorem rcAt_key (x y : NestedKey) {A : Around} {s : Shared} {a b : Value} (ha : NestedIs s.heap x a) (hb : NestedIs s.heap y b) (hu : A.units + min x.depth y.depth < cLine) : RcAt A s a b (NestedKey.beq x y) := by
  have hr : A.units < cLine := by omega
  cases ha with
  | none =>
    cases hb with
    | none => exact RcAt.none_none
    | bool e => exact RcAt.none_bool _
    | int j t => exact RcAt.none_int _ _
    | text z t => exact RcAt.none_str _ _
    | tup h1 h2 h3 h4 => exact RcAt.none_tuple ⟨_, h1, h2, _, h3⟩ hr
  | @bool p i e =>
    subst e
    cases hb with
    | none => exact RcAt.bool_none _
    | @bool q j e2 =>
      subst e2
      have := RcAt.bool_bool (A := A) (s := s) p q
      have e3 : NestedKey.beq (.num (if p = true then 1 else 0)) (.num (if q = true then 1 else 0)) = (p == q) := by cases p <;> cases q <;> rfl
      rw [e3]; exact this
    | int j t =>
      have e3 : NestedKey.beq (.num (if p = true then 1 else 0)) (.num j) = ((if p then 1 else 0) == j) := by
        unfold NestedKey.beq; rw [Bool.beq_eq_decide_eq]
      rw [e3]; exact RcAt.bool_int _ _ _
    | text z t => exact RcAt.bool_str _ _ _
    | tup h1 h2 h3 h4 => exact RcAt.bool_tuple _ ⟨_, h1, h2, _, h3⟩ hr
  | int i t =>
    cases hb with
    | none => exact RcAt.int_none _ _
    | @bool q j e2 =>
      subst e2
      have e3 : NestedKey.beq (.num i) (.num (if q = true then 1 else 0)) = (i == (if q then 1 else 0)) := by
        unfold NestedKey.beq; rw [Bool.beq_eq_decide_eq]
      rw [e3]; exact RcAt.int_bool _ _ _
    | int j t' =>
      have e3 : NestedKey.beq (.num i) (.num j) = (i == j) := by unfold NestedKey.beq; rw [Bool.beq_eq_decide_eq]
      rw [e3]; exact RcAt.int_int _ _ _ _
    | text z t' => exact RcAt.int_str _ _ _ _
    | tup h1 h2 h3 h4 => exact RcAt.int_tuple _ _ ⟨_, h1, h2, _, h3⟩ hr
  | text z t =>
    cases hb with
    | none => exact RcAt.str_none _ _
    | bool e => exact RcAt.str_bool _ _ _
    | int j t' => exact RcAt.str_int _ _ _ _
    | text z' t' =>
      have e3 : NestedKey.beq (.text z) (.text z') = (z == z') := by unfold NestedKey.beq; rw [Bool.beq_eq_decide_eq]
      rw [e3]; exact RcAt.str_str _ _ _ _
    | tup h1 h2 h3 h4 => exact RcAt.str_tuple _ _ ⟨_, h1, h2, _, h3⟩ hr
  | @tup l o vs n ks h1 h2 h3 h4 =>
    have hl : s.heap.IsTuple l vs := ⟨_, h1, h2, _, h3⟩
    cases hb with
    | none => exact RcAt.tuple_none hl hr
    | bool e => exact RcAt.tuple_bool _ hl hr
    | int j t' => exact RcAt.tuple_int _ _ hl hr
    | text z t' => exact RcAt.tuple_str _ _ hl hr
    | @tup l' o' vs' n' ks' k1 k2 k3 k4 =>
      have hl' : s.heap.IsTuple l' vs' := ⟨_, k1, k2, _, k3⟩
      have n1 : vs.size = ks.length := by simpa using h4.length
      have n2 : vs'.size = ks'.length := by simpa using k4.length
      have hd : A.in1.units + min (NestedKey.depthAll ks) (NestedKey.depthAll ks') < cLine := by
        have e : A.in1.units = A.units + 1 := rfl
        simp only [NestedKey.depth] at hu
        omega
      have he : ∀ j (j1 : j < vs.size) (j2 : j < vs'.size), EqAt A.in1 s vs[j] vs'[j] (keyEqAt ks ks' j) := fun j j1 j2 => by
        have := eqAt_keys ks ks' A.in1 s vs.toList vs'.toList h4 k4 hd j (by simpa using j1) (by simpa using j2)
        simpa using this
      have q := RcAt.tuples hl hl' hr he
      rw [n1, n2, beqAll_eq] at q
      exact q
open SeqAt in
theorem rcNeAt_key (x y : NestedKey) {A : Around} {s : Shared} {a b : Value} (ha : NestedIs s.heap x a) (hb : NestedIs s.heap y b) (hu : A.units + min x.depth y.depth < cLine) : RcNeAt A s a b (!NestedKey.beq x y) := by
  have hr : A.units < cLine := by omega
  cases ha with
  | none =>
    cases hb with
    | none => exact RcNeAt.none_none
    | bool e => exact RcNeAt.none_bool _
    | int j t => exact RcNeAt.none_int _ _
    | text z t => exact RcNeAt.none_str _ _
    | tup h1 h2 h3 h4 => exact RcNeAt.none_tuple ⟨_, h1, h2, _, h3⟩ hr
  | @bool p i e =>
    subst e
    cases hb with
    | none => exact RcNeAt.bool_none _
    | @bool q j e2 =>
      subst e2
      have := RcNeAt.bool_bool (A := A) (s := s) p q
      have e3 : NestedKey.beq (.num (if p = true then 1 else 0)) (.num (if q = true then 1 else 0)) = (p == q) := by cases p <;> cases q <;> rfl
      rw [e3]; exact this
    | int j t =>
      have e3 : NestedKey.beq (.num (if p = true then 1 else 0)) (.num j) = ((if p then 1 else 0) == j) := by
        unfold NestedKey.beq; rw [Bool.beq_eq_decide_eq]
      rw [e3]; exact RcNeAt.bool_int _ _ _
    | text z t => exact RcNeAt.bool_str _ _ _
    | tup h1 h2 h3 h4 => exact RcNeAt.bool_tuple _ ⟨_, h1, h2, _, h3⟩ hr
  | int i t =>
    cases hb with
    | none => exact RcNeAt.int_none _ _
    | @bool q j e2 =>
      subst e2
      have e3 : NestedKey.beq (.num i) (.num (if q = true then 1 else 0)) = (i == (if q then 1 else 0)) := by
        unfold NestedKey.beq; rw [Bool.beq_eq_decide_eq]
      rw [e3]; exact RcNeAt.int_bool _ _ _
    | int j t' =>
      have e3 : NestedKey.beq (.num i) (.num j) = (i == j) := by unfold NestedKey.beq; rw [Bool.beq_eq_decide_eq]
      rw [e3]; exact RcNeAt.int_int _ _ _ _
    | text z t' => exact RcNeAt.int_str _ _ _ _
    | tup h1 h2 h3 h4 => exact RcNeAt.int_tuple _ _ ⟨_, h1, h2, _, h3⟩ hr
  | text z t =>
    cases hb with
    | none => exact RcNeAt.str_none _ _
    | bool e => exact RcNeAt.str_bool _ _ _
    | int j t' => exact RcNeAt.str_int _ _ _ _
    | text z' t' =>
      have e3 : NestedKey.beq (.text z) (.text z') = (z == z') := by unfold NestedKey.beq; rw [Bool.beq_eq_decide_eq]
      rw [e3]; exact RcNeAt.str_str _ _ _ _
    | tup h1 h2 h3 h4 => exact RcNeAt.str_tuple _ _ ⟨_, h1, h2, _, h3⟩ hr
  | @tup l o vs n ks h1 h2 h3 h4 =>
    have hl : s.heap.IsTuple l vs := ⟨_, h1, h2, _, h3⟩
    cases hb with
    | none => exact RcNeAt.tuple_none hl hr
    | bool e => exact RcNeAt.tuple_bool _ hl hr
    | int j t' => exact RcNeAt.tuple_int _ _ hl hr
    | text z t' => exact RcNeAt.tuple_str _ _ hl hr
    | @tup l' o' vs' n' ks' k1 k2 k3 k4 =>
      have hl' : s.heap.IsTuple l' vs' := ⟨_, k1, k2, _, k3⟩
      have n1 : vs.size = ks.length := by simpa using h4.length
      have n2 : vs'.size = ks'.length := by simpa using k4.length
      have hd : A.in1.units + min (NestedKey.depthAll ks) (NestedKey.depthAll ks') < cLine := by
        have e : A.in1.units = A.units + 1 := rfl
        simp only [NestedKey.depth] at hu
        omega
      have he : ∀ j (j1 : j < vs.size) (j2 : j < vs'.size), EqAt A.in1 s vs[j] vs'[j] (keyEqAt ks ks' j) := fun j j1 j2 => by
        have := eqAt_keys ks ks' A.in1 s vs.toList vs'.toList h4 k4 hd j (by simpa using j1) (by simpa using j2)
        simpa using this
      have q := RcNeAt.tuples hl hl' hr he
      rw [n1, n2, beqAll_eq] at q
      exact q
end Ev

set_option Elab.async false
set_option linter.all false
set_option maxRecDepth 100000
set_option maxHeartbeats 2000000
set_option autoImplicit false
namespace Ev
open PySem PySem.Spec PyProof.Rows L2

section
variable {X : Cx} {E : XK}
/-! ### == and != -/
def eqD (x y : D) : M D := match x.nk, y.nk with
  | some p, some q => if min p.depth q.depth ≤ 60 then ret (.bl (p.beq q)) else bad
  | _, _ => bad
def neD (x y : D) : M D := match x.nk, y.nk with
  | some p, some q => if min p.depth q.depth ≤ 60 then ret (.bl (!p.beq q)) else bad
  | _, _ => bad
def rEqK (K : PySem.W.Frag) : R2 := fun x y H Q => ∃ ρ d e p q, DV K H ρ d x ∧ DV K H ρ e y ∧ d.nk = some p ∧ e.nk = some q ∧ min p.depth q.depth ≤ 60 ∧ Q (.bl (p.beq q)) H
def rNeK (K : PySem.W.Frag) : R2 := fun x y H Q => ∃ ρ d e p q, DV K H ρ d x ∧ DV K H ρ e y ∧ d.nk = some p ∧ e.nk = some q ∧ min p.depth q.depth ≤ 60 ∧ Q (.bl (!p.beq q)) H
theorem op_eqK (hu : X.A.units + 64 < cLine) : OpR X (compareOp .Eq) (rEqK X.K) := by
  rintro pins s σ H x y v u Q I rx ry ⟨ρ, d, e, p, q, hd, he, kp, kq, hz, hQ⟩
  exact rcAt_key p q (DV.key I d x v p hd rx kp) (DV.key I e y u q he ry kq) (by omega) X.prog X.w X.xe _ ⟨.bl _, H, I, rfl, hQ⟩
theorem op_neK (hu : X.A.units + 64 < cLine) : OpR X (compareOp .NotEq) (rNeK X.K) := by
  rintro pins s σ H x y v u Q I rx ry ⟨ρ, d, e, p, q, hd, he, kp, kq, hz, hQ⟩
  exact rcNeAt_key p q (DV.key I d x v p hd rx kp) (DV.key I e y u q he ry kq) (by omega) X.prog X.w X.xe _ ⟨.bl _, H, I, rfl, hQ⟩
theorem od_eq : OpD X E (rEqK X.K) eqD := by
  intro H ρ ah d1 d2 x y Q rh h1 h2 o
  unfold eqD at o
  cases e1 : d1.nk with
  | none => rw [e1] at o; exact o.elim
  | some p =>
    cases e2 : d2.nk with
    | none => rw [e1, e2] at o; exact o.elim
    | some q =>
      rw [e1, e2] at o
      obtain ⟨hz, o⟩ := ifB o
      exact ⟨ρ, d1, d2, p, q, h1, h2, e1, e2, hz, OutP.okI rh o _ (.bl _)⟩
theorem od_ne : OpD X E (rNeK X.K) neD := by
  intro H ρ ah d1 d2 x y Q rh h1 h2 o
  unfold neD at o
  cases e1 : d1.nk with
  | none => rw [e1] at o; exact o.elim
  | some p =>
    cases e2 : d2.nk with
    | none => rw [e1, e2] at o; exact o.elim
    | some q =>
      rw [e1, e2] at o
      obtain ⟨hz, o⟩ := ifB o
      exact ⟨ρ, d1, d2, p, q, h1, h2, e1, e2, hz, OutP.okI rh o _ (.bl _)⟩

/-! ### ints -/
def intOp (C : Int → Int → Prop) [∀ i j, Decidable (C i j)] (g : Int → Int → D) (x y : D) : M D := match x, y with
  | .int i, .int j => if C i j then ret (g i j) else bad
  | _, _ => bad
theorem od_int {C : Int → Int → Prop} [∀ i j, Decidable (C i j)] {g : Int → Int → Int} : OpD X E (rI C fun i j => .int (g i j)) (intOp C fun i j => .int (g i j)) := by
  intro H ρ ah d1 d2 x y Q rh h1 h2 o
  cases d1 with
  | int i =>
    cases d2 with
    | int j =>
      cases h1; cases h2
      obtain ⟨hc, o⟩ := ifB (show OutP _ _ _ _ _ ((if C i j then ret (D.int (g i j)) else bad) ah) _ from o)
      exact ⟨i, j, rfl, rfl, hc, OutP.okI rh o _ (.int _)⟩
    | _ => exact (show False from o).elim
  | _ => cases d2 <;> exact (show False from o).elim
theorem op_sub1 : OpR X (binaryOp .Sub) (rI (fun _ _ => True) fun i j => .int (i - j)) := fun pins s σ H x y v u Q I rx ry ⟨i, j, a, b, _, q⟩ => op_sub pins s σ H x y v u Q I rx ry ⟨i, j, a, b, q⟩
theorem op_pow1 : OpR X (binaryOp .Pow) (rI (fun i n => 0 ≤ n ∧ (Builtin.Int.intBits i : Int) * n ≤ 134217728) fun i n => .int (i ^ n.toNat)) := opI fun _ _ _ _ _ _ _ hc q => pow_int hc.1 hc.2 q
instance (i j : Int) : Decidable (CMulW i j) := by unfold CMulW; infer_instance
instance (i j : Int) : Decidable (CDivW i j) := by unfold CDivW; infer_instance
instance (i j : Int) : Decidable (CPow i j) := by unfold CPow; infer_instance
def subD : D → D → M D := intOp (fun _ _ => True) fun i j => .int (i - j)
def mulD : D → D → M D := intOp CMulW fun i j => .int (i * j)
def modD : D → D → M D := intOp (fun _ j => 0 < j) fun i j => .int (i % j)
def fdivD : D → D → M D := intOp CDivW fun i j => .int (i / j)
def powD : D → D → M D := intOp (fun i n => 0 ≤ n ∧ (Builtin.Int.intBits i : Int) * n ≤ 134217728) fun i n => .int (i ^ n.toNat)
def shlD : D → D → M D := intOp CPow fun i j => .int (i * 2 ^ j.toNat)
def shrD : D → D → M D := intOp (fun _ j => 0 ≤ j) fun i j => .int (i / 2 ^ j.toNat)
def andD : D → D → M D := intOp (fun _ _ => True) fun i j => .int (Builtin.bitAnd i j)
theorem op_and1 : OpR X (binaryOp .BitAnd) (rI (fun _ _ => True) fun i j => .int (Builtin.bitAnd i j)) := fun pins s σ H x y v u Q I rx ry ⟨i, j, a, b, _, q⟩ => op_and pins s σ H x y v u Q I rx ry ⟨i, j, a, b, q⟩

/-! ### + -/
def addD (x y : D) : M D := match x, y with
  | .int i, .int j => ret (.int (i + j))
  | .str i, .str j => if i.length + j.length ≤ sizeLine then ret (.str (i ++ j)) else bad
  | .tup xs, .tup ys => if xs.length + ys.length ≤ sizeLine then ret (.tup (xs ++ ys)) else bad
  | .ref n, .ref m => do
    let xs ← rdLst n
    let ys ← rdLst m
    if xs.length + ys.length ≤ sizeLine then alloc (.lst (xs ++ ys)) else bad
  | _, _ => bad
def rAdd3 (K : PySem.W.Frag) : R2 := fun x y H Q => (((∃ i j, x = .int i ∧ y = .int j ∧ Q (.int (i + j)) H) ∨ (∃ i j, x = .str i ∧ y = .str j ∧ i.length + j.length ≤ sizeLine ∧ Q (.str (i ++ j)) H)) ∨ rCatA K x y H Q) ∨ rCat x y H Q
theorem op_add3 : OpR X (binaryOp .Add) (rAdd3 X.K) := ((op_add.or op_add_str).or op_catA).or op_cat
theorem rdLst_of {n : Nat} {ah : AH} {K : PySem.W.Frag} {mg : Str → Option Value} {ρ : List Addr} {H : Hp} {P : List D → AH → Hp → List Addr → Prop} {a : Addr} (r : RelH K H ρ ah) (h : ρ[n]? = some a) (o : OutP mg K E ρ H (rdLst n ah) P) :
    ∃ ds vs, ah[n]? = some (.lst ds) ∧ H a = some (.lst vs) ∧ DVs K H ρ ds vs ∧ P ds ah H ρ := by
  cases e : ah[n]? with
  | none => simp only [rdLst, e] at o; exact o.elim
  | some c =>
    cases c with
    | lst ds =>
      simp only [rdLst, e] at o
      obtain ⟨vs, h1, h2⟩ := r.lst h e
      exact ⟨ds, vs, rfl, h1, h2, OutP.okI r o⟩
    | ro ds => simp only [rdLst, e] at o; exact o.elim
theorem newlst {K : PySem.W.Frag} {mg : Str → Option Value} {ρ : List Addr} {H : Hp} {ah : AH} {ds : List D} {vs : List V} {P : D → AH → Hp → List Addr → Prop} (r : RelH K H ρ ah) (hv : DVs K H ρ ds vs) (z : ds.length ≤ sizeLine) (o : OutP mg K E ρ H (alloc (.lst ds) ah) P) :
    ∀ p, H p = none → P (.ref ah.length) (ah ++ [.lst ds]) (upd H p (.lst vs)) (ρ ++ [p]) ∧ DV K (upd H p (.lst vs)) (ρ ++ [p]) (.ref ah.length) (.ref p) := by
  intro p hp
  obtain ⟨x, r2, d⟩ := fresh_cell (Ext.upd (o := .lst vs) hp) (r.upd hp) upd_same (r.fresh hp) hp (hv.upd hp) z
  exact ⟨o _ _ x r2, d⟩
theorem od_add : OpD X E (rAdd3 X.K) addD := by
  intro H ρ ah d1 d2 x y Q rh h1 h2 o
  cases d1 with
  | int i =>
    cases d2 with
    | int j => cases h1; cases h2; exact .inl (.inl (.inl ⟨i, j, rfl, rfl, OutP.okI rh (show OutP _ _ _ _ _ (Out.ok _ _) _ from o) _ (.int _)⟩))
    | _ => exact (show False from o).elim
  | str i =>
    cases d2 with
    | str j =>
      cases h1; cases h2
      obtain ⟨hz, o⟩ := ifB (show OutP _ _ _ _ _ ((if i.length + j.length ≤ sizeLine then ret (D.str (i ++ j)) else bad) ah) _ from o)
      exact .inl (.inl (.inr ⟨i, j, rfl, rfl, hz, OutP.okI rh o _ (.str _)⟩))
    | _ => exact (show False from o).elim
  | tup xs =>
    cases d2 with
    | tup ys =>
      obtain ⟨a, vs, rfl, s1, t1⟩ := h1.tup'
      obtain ⟨b, ws, rfl, s2, t2⟩ := h2.tup'
      obtain ⟨hz, o⟩ := ifB (show OutP _ _ _ _ _ ((if xs.length + ys.length ≤ sizeLine then ret (D.tup (xs ++ ys)) else bad) ah) _ from o)
      refine .inl (.inr ⟨a, b, vs, ws, rfl, rfl, s1, s2, by rw [← t1.length, ← t2.length]; exact hz, fun e => ?_, fun e e2 => ?_, fun _ _ p hp => ?_⟩)
      · subst e; cases t1
        exact OutP.okI rh o _ (.tup s2 t2 h2.tupLen)
      · subst e2; cases t2
        rw [List.append_nil] at o
        exact OutP.okI rh o _ (.tup s1 t1 h1.tupLen)
      · exact o _ _ (Ext.upd hp) (rh.upd hp) _ (fresh_tup hp (t1.append t2) (by rw [List.length_append]; exact hz))
    | _ => exact (show False from o).elim
  | ref n =>
    cases d2 with
    | ref m =>
      obtain ⟨a, rfl, s1⟩ := h1.ref'
      obtain ⟨b, rfl, s2⟩ := h2.ref'
      obtain ⟨xs, vs, e1, f1, t1, o1⟩ := rdLst_of rh s1 (OutP.bind (show OutP _ _ _ _ _ ((rdLst n >>= fun xs => rdLst m >>= fun ys => if xs.length + ys.length ≤ sizeLine then alloc (.lst (xs ++ ys)) else bad) ah) _ from o))
      obtain ⟨ys, ws, e2, f2, t2, o2⟩ := rdLst_of rh s2 o1.bind
      obtain ⟨hz, o3⟩ := ifB o2
      refine .inr ⟨a, b, vs, ws, rfl, rfl, f1, f2, by rw [← t1.length, ← t2.length]; exact hz, fun p hp => ?_⟩
      obtain ⟨q, d⟩ := newlst rh (t1.append t2) (by rw [List.length_append]; exact hz) o3 p hp
      exact q _ d
    | _ => exact (show False from o).elim
  | _ => cases d2 <;> exact (show False from o).elim

/-! ### order -/
def ltS (i j : Str) : Bool := decide (i.cps.toList < j.cps.toList)
def ordD (fi : Int → Int → Bool) (fs : Str → Str → Bool) (x y : D) : M D := match x, y with
  | .int i, .int j => ret (.bl (fi i j))
  | .str i, .str j => ret (.bl (fs i j))
  | _, _ => bad
def ltD : D → D → M D := ordD (fun i j => decide (i < j)) ltS
def leD : D → D → M D := ordD (fun i j => decide (i ≤ j)) fun i j => !ltS j i
def gtD : D → D → M D := ordD (fun i j => decide (j < i)) fun i j => ltS j i
def geD : D → D → M D := ordD (fun i j => decide (j ≤ i)) fun i j => !ltS i j
def rOrd (fi : Int → Int → Bool) (fs : Str → Str → Bool) : R2 := fun x y H Q => (∃ i j, x = .int i ∧ y = .int j ∧ Q (.bl (fi i j)) H) ∨ (∃ i j, x = .str i ∧ y = .str j ∧ Q (.bl (fs i j)) H)
theorem od_ord {fi : Int → Int → Bool} {fs : Str → Str → Bool} : OpD X E (rOrd fi fs) (ordD fi fs) := by
  intro H ρ ah d1 d2 x y Q rh h1 h2 o
  cases d1 with
  | int i =>
    cases d2 with
    | int j => cases h1; cases h2; exact .inl ⟨i, j, rfl, rfl, OutP.okI rh (show OutP _ _ _ _ _ (Out.ok _ _) _ from o) _ (.bl _)⟩
    | _ => exact (show False from o).elim
  | str i =>
    cases d2 with
    | str j => cases h1; cases h2; exact .inr ⟨i, j, rfl, rfl, OutP.okI rh (show OutP _ _ _ _ _ (Out.ok _ _) _ from o) _ (.bl _)⟩
    | _ => exact (show False from o).elim
  | _ => cases d2 <;> exact (show False from o).elim
theorem op_lt2 : OpR X (compareOp .Lt) (rOrd (fun i j => decide (i < j)) ltS) := op_lt.or op_lt_str
theorem op_le2 : OpR X (compareOp .LtE) (rOrd (fun i j => decide (i ≤ j)) fun i j => !ltS j i) := op_le.or op_le_str
theorem op_gt2 : OpR X (compareOp .Gt) (rOrd (fun i j => decide (j < i)) fun i j => ltS j i) := op_gt.or op_gt_str
theorem op_ge2 : OpR X (compareOp .GtE) (rOrd (fun i j => decide (j ≤ i)) fun i j => !ltS i j) := op_ge.or op_ge_str

/-! ### in -/
def subS (i j : Str) : Bool := !(Builtin.Str.occurrences j i 0 j.length 1).isEmpty
/-- is the key among the keys -/
def inKeys (k : NestedKey) (ks : List NestedKey) : Bool := ks.any fun y => NestedKey.beq y k
def inD (neg : Bool) (x y : D) : M D := match x, y with
  | .str i, .str j => ret (.bl (neg != subS i j))
  | x, y => do
    let (ds, _) ← itemsM y
    match x.nk, nks ds with
    | some k, some ks => if k.depth ≤ 60 then ret (.bl (neg != inKeys k ks)) else bad
    | _, _ => bad
def rInK (K : PySem.W.Frag) (neg : Bool) : R2 := fun x y H Q => (∃ i j, x = .str i ∧ y = .str j ∧ Q (.bl (neg != subS i j)) H) ∨
  ∃ ρ d k ds ks src a, DV K H ρ d x ∧ d.nk = some k ∧ nks ds = some ks ∧ k.depth ≤ 60 ∧ y = .ref a ∧ SrcOk K H ρ ds src a ∧ Q (.bl (neg != inKeys k ks)) H
end
theorem keyAll_mem {h : Heap} : ∀ (ks : List NestedKey) (us : List Value), NestedAll h ks us → ∀ y ∈ us, ∃ k', NestedIs h k' y
  | [], _, r, y, hy => by cases r; cases hy
  | k :: ks, _, r, y, hy => by
    cases r with
    | cons h1 h2 =>
      rcases List.mem_cons.mp hy with e | hy
      · rw [e]; exact ⟨_, h1⟩
      · exact keyAll_mem ks _ h2 y hy
theorem keyAll_any {h : Heap} (k : NestedKey) (e : Value → Bool) (he : ∀ k' v, NestedIs h k' v → e v = NestedKey.beq k' k) : ∀ (ks : List NestedKey) (us : List Value), NestedAll h ks us → us.any e = inKeys k ks
  | [], _, r => by cases r; rfl
  | k' :: ks, _, r => by
    cases r with
    | cons h1 h2 => rw [List.any_cons, keyAll_any k e he ks _ h2, he k' _ h1]; rfl
open SeqAt in
theorem items_keyEq {A : Around} {s : Shared} {x : Value} {k : NestedKey} (hx : NestedIs s.heap k x) (hu : A.units + k.depth < cLine) : ∀ (ks : List NestedKey) (us : List Value), NestedAll s.heap ks us →
    ∃ e : Value → Bool, (∀ y ∈ us, EqAt A s y x (e y)) ∧ us.any e = inKeys k ks := by
  intro ks us h
  classical
  refine ⟨fun y => if z : ∃ k', NestedIs s.heap k' y then NestedKey.beq z.choose k else false, ?_, ?_⟩
  · intro y hy
    have this : ∃ k', NestedIs s.heap k' y := keyAll_mem ks us h y hy
    show EqAt A s y x (if z : ∃ k', NestedIs s.heap k' y then z.choose.beq k else false)
    rw [dif_pos this]
    exact eqAt_key _ k A s y x this.choose_spec hx (by omega)
  · exact keyAll_any k _ (fun k' v h1 => by
      have z : ∃ k', NestedIs s.heap k' v := ⟨_, h1⟩
      show (if z : ∃ k', NestedIs s.heap k' v then z.choose.beq k else false) = _
      rw [dif_pos z, NestedIs.inj _ _ v z.choose_spec h1]) ks us h
section
variable {X : Cx} {E : XK}
theorem SrcOk.keysOf {pins : List (Addr × Obj)} {σ : L2.St} {H : Hp} {s : Shared} {ρ : List Addr} {ds : List D} {ks : List NestedKey} {src : Option Nat} {a : Addr} (I : Inv X pins σ H s) (h : SrcOk X.K H ρ ds src a) (e : nks ds = some ks) :
    ∃ its : List Value, NestedAll s.heap ks its ∧ (s.heap.IsList a its.toArray ∨ s.heap.IsTuple a its.toArray) := by
  obtain ⟨vs, hv, hs⟩ := h.seq
  rcases hs with hs | hs
  · obtain ⟨its, r, p, _⟩ := I.list hs
    exact ⟨its, DVs.keys I ds vs its ks hv r e, .inl p.isList⟩
  · obtain ⟨its, r, p, _⟩ := I.tuple hs
    exact ⟨its, DVs.keys I ds vs its ks hv r e, .inr p⟩
theorem op_inK (hu : X.A.units + 65 < cLine) : OpR X (compareOp .In) (rInK X.K false) := by
  rintro pins s σ H x y v u Q I rx ry (⟨i, j, rfl, rfl, hQ⟩ | ⟨ρ, d, k, ds, ks, src, a, hd, ek, eks, hz, rfl, hs, hQ⟩)
  · obtain ⟨t, rfl⟩ := rx
    obtain ⟨t', rfl⟩ := ry
    refine in_str ⟨.bl _, H, I, rfl, ?_⟩
    rw [Bool.false_bne] at hQ; exact hQ
  · cases ry
    obtain ⟨its, hk, hl⟩ := hs.keysOf I eks
    obtain ⟨e, h1, h2⟩ := items_keyEq (A := X.A.in1) (DV.key I d x v k hd rx ek) (show X.A.units + 1 + k.depth < cLine by omega) ks its hk
    have hQ' : EP X pins σ Q (.bool (its.toArray.any e)) s := ⟨.bl _, H, I, by rw [List.any_toArray, h2]; rfl, by rw [Bool.false_bne] at hQ; exact hQ⟩
    rcases hl with hl | hl
    · exact SeqAt.in_listAt e hl (fun y hy => h1 y (by simpa using hy)) hQ'
    · exact SeqAt.in_tupleAt e hl (fun y hy => h1 y (by simpa using hy)) hQ'
theorem op_notInK (hu : X.A.units + 65 < cLine) : OpR X (compareOp .NotIn) (rInK X.K true) := by
  rintro pins s σ H x y v u Q I rx ry (⟨i, j, rfl, rfl, hQ⟩ | ⟨ρ, d, k, ds, ks, src, a, hd, ek, eks, hz, rfl, hs, hQ⟩)
  · obtain ⟨t, rfl⟩ := rx
    obtain ⟨t', rfl⟩ := ry
    refine notIn_str ⟨.bl _, H, I, rfl, ?_⟩
    rw [Bool.true_bne] at hQ; exact hQ
  · cases ry
    obtain ⟨its, hk, hl⟩ := hs.keysOf I eks
    obtain ⟨e, h1, h2⟩ := items_keyEq (A := X.A.in1) (DV.key I d x v k hd rx ek) (show X.A.units + 1 + k.depth < cLine by omega) ks its hk
    have hQ' : EP X pins σ Q (.bool (!its.toArray.any e)) s := ⟨.bl _, H, I, by rw [List.any_toArray, h2]; rfl, by rw [Bool.true_bne] at hQ; exact hQ⟩
    rcases hl with hl | hl
    · exact SeqAt.notIn_listAt e hl (fun y hy => h1 y (by simpa using hy)) hQ'
    · exact SeqAt.notIn_tupleAt e hl (fun y hy => h1 y (by simpa using hy)) hQ'
theorem od_in {neg : Bool} : OpD X E (rInK X.K neg) (inD neg) := by
  intro H ρ ah d1 d2 x y Q rh h1 h2 o
  have main : OutP X.mg X.K E ρ H ((do let (ds, _) ← itemsM d2; match d1.nk, nks ds with | some k, some ks => if k.depth ≤ 60 then ret (D.bl (neg != inKeys k ks)) else bad | _, _ => bad : M D) ah) (fun d _ H' ρ' => ∀ v, DV X.K H' ρ' d v → Q v H') → rInK X.K neg x y H Q := fun o => by
    obtain ⟨ds, src, a, rfl, hs, _, o1⟩ := items_src rh h2 o.bind
    cases e1 : d1.nk with
    | none => simp only [e1] at o1; exact o1.elim
    | some k =>
      cases e2 : nks ds with
      | none => simp only [e1, e2] at o1; exact o1.elim
      | some ks =>
        simp only [e1, e2] at o1
        obtain ⟨hz, o2⟩ := ifB o1
        exact .inr ⟨ρ, d1, k, ds, ks, src, a, h1, e1, e2, hz, rfl, hs, OutP.okI rh o2 _ (.bl _)⟩
  cases d1 with
  | str i =>
    cases d2 with
    | str j => cases h1; cases h2; exact .inl ⟨i, j, rfl, rfl, OutP.okI rh (show OutP _ _ _ _ _ (Out.ok _ _) _ from o) _ (.bl _)⟩
    | _ => exact main o
  | _ => exact main o

/-! ### is None -/
def D.isNone : D → Bool
  | .non => true
  | _ => false
def isND (neg : Bool) (x y : D) : M D := match y with
  | .non => ret (.bl (neg != x.isNone))
  | _ => bad
def rIsN (neg : Bool) : R2 := fun x y H Q => y = .non ∧ Q (.bl (neg != decide (x = .non))) H
theorem op_is1 : OpR X (compareOp .Is) (rIsN false) := fun pins s σ H x y v u Q I rx ry ⟨a, b⟩ => op_isN pins s σ H x y v u Q I rx ry ⟨a, by rw [Bool.false_bne] at b; exact b⟩
theorem op_isnt1 : OpR X (compareOp .IsNot) (rIsN true) := fun pins s σ H x y v u Q I rx ry ⟨a, b⟩ => op_notN pins s σ H x y v u Q I rx ry ⟨a, by rw [Bool.true_bne] at b; exact b⟩
theorem od_is {neg : Bool} : OpD X E (rIsN neg) (isND neg) := by
  intro H ρ ah d1 d2 x y Q rh h1 h2 o
  cases d2 with
  | non =>
    cases h2
    refine ⟨rfl, ?_⟩
    have q := OutP.okI rh (show OutP X.mg X.K E ρ H (.ok (D.bl (neg != d1.isNone)) ah) (fun d _ H' ρ' => ∀ v, DV X.K H' ρ' d v → Q v H') from o) _ (.bl _)
    have e : d1.isNone = decide (x = V.non) := by
      cases h1 <;> simp [D.isNone]
    rw [e] at q; exact q
  | _ => exact (show False from o).elim
end
end Ev

set_option Elab.async false
set_option linter.all false
set_option maxRecDepth 100000
set_option maxHeartbeats 2000000
set_option autoImplicit false
namespace Ev
open PySem PySem.Spec PyProof.Rows L2

/-! ### what the shape of a text says -/
def noStar : Expr → Bool
  | .Starred .. => false
  | _ => true
theorem star_of {e : Expr} {es : List Expr} {env : Env} (h : noStar e = true) : starEach (e :: es) env = (false, eval e env) :: starEach es env := by
  cases e <;> first | rfl | cases h
def noStars : List Expr → Bool
  | [] => true
  | e :: es => noStar e && noStars es
theorem stars_any {es : List Expr} {env : Env} {pos : Pos} (h : noStars es = true) : (backTo pos (starEach es env)).any (·.1) = false := by
  induction es with
  | nil => rfl
  | cons e es ih =>
    simp only [noStars, Bool.and_eq_true] at h
    have := ih h.2
    rw [star_of h.1]
    show (false || (backTo pos (starEach es env)).any (·.1)) = false
    rw [this]; rfl
def noSlice : Expr → Bool
  | .Slice .. => false
  | _ => true
theorem plainIx_of {b : Expr} (h : noSlice b = true) : PlainIx b := by
  cases b <;> first | exact fun _ _ => rfl | cases h
def plainTest : Expr → Bool
  | .UnaryOp .Not _ _ => false
  | .BoolOp .. => false
  | .IfExp .. => false
  | .Compare .. => false
  | _ => true
theorem isTrue_of {e : Expr} {env : Env} (h : plainTest e = true) : ∀ whole, isTrue e env whole = (do let v ← whole; standAt e.pos; holding [v] (truthy v)) := by
  intro whole
  cases e with
  | UnaryOp op _ _ => cases op <;> first | rfl | cases h
  | _ => first | rfl | cases h
def noSet : Expr → Bool
  | .Set .. => false
  | _ => true
theorem noMark_of {b : Expr} (h : noSet b = true) (op : CmpOp) : behindInMarks op b = false := by
  cases b <;> first | rfl | cases h
theorem noFold_of {e : Expr} {env : Env} (h : noSet e = true) : ∀ x, foldedSetIterable e env x = pure x := by
  intro x
  cases e <;> first | rfl | cases h
def noComp : Expr → Bool
  | .ListComp .. => false
  | .SetComp .. => false
  | .DictComp .. => false
  | _ => true
theorem noSwap_of {e : Expr} {t : Option Expr} {l : Nat} {env : Env} (h : noComp e = true) : swapsWith e t l env = pure false := by
  cases e <;> first | rfl | cases h
def noSuper : Expr → Bool
  | .Call (.Name ..) [] [] _ => false
  | _ => true
theorem base_of {o : Expr} {a : Str} {env : Env} (h : noSuper o = true) : attributeBase o a env (eval o env) = eval o env := by
  cases o with
  | Call f as ks p =>
    cases f with
    | Name x q =>
      cases as with
      | nil =>
        cases ks with
        | nil => cases h
        | cons _ _ => rfl
      | cons _ _ => rfl
    | _ => rfl
  | _ => rfl

section
variable {X : Cx} {E : XK}
/-! ### subscripts -/
def idxD (x y : D) : M D := match x, y with
  | .str z, .int i => if z.length ≤ sizeLine then opt ((atI z.cps.toList i).map fun c => D.str ⟨#[c]⟩) else bad
  | x, .int i => do
    let (ds, _) ← itemsM x
    opt (atI ds i)
  | _, _ => bad
theorem atI_rel {K : PySem.W.Frag} {H : Hp} {ρ : List Addr} {ds : List D} {vs : List V} (h : DVs K H ρ ds vs) {i : Int} {d : D} (e : atI ds i = some d) : ∃ v, atI vs i = some v ∧ DV K H ρ d v := by
  unfold atI at e ⊢
  rw [← h.length]
  cases q : ixN ds.length i with
  | none => rw [q] at e; cases e
  | some j =>
    rw [q] at e
    exact h.get e
theorem od_idx : OpD X E (rIx X.K) idxD := by
  intro H ρ ah d1 d2 x y Q rh h1 h2 o
  cases d2 with
  | int i =>
    cases h2
    have main : OutP X.mg X.K E ρ H ((itemsM d1 >>= fun p => opt (atI p.1 i)) ah) (fun d _ H' ρ' => ∀ v, DV X.K H' ρ' d v → Q v H') → rIx X.K x (.int i) H Q := fun o => by
      obtain ⟨ds, src, a, rfl, hs, _, o1⟩ := items_src rh h1 o.bind
      obtain ⟨vs, hv, hq⟩ := hs.seq
      cases e : atI ds i with
      | none => simp only [e] at o1; exact o1.elim
      | some d =>
        simp only [e] at o1
        obtain ⟨v, e2, hd⟩ := atI_rel hv e
        rcases hq with hq | hq
        · exact .inl ⟨a, vs, i, v, rfl, rfl, hq, e2, OutP.okI rh o1 v hd⟩
        · exact .inr (.inl ⟨a, vs, i, v, rfl, rfl, hq, e2, OutP.okI rh o1 v hd⟩)
    cases d1 with
    | str z =>
      cases h1
      obtain ⟨hz, o⟩ := ifB (show OutP _ _ _ _ _ ((if z.length ≤ sizeLine then opt ((atI z.cps.toList i).map fun c => D.str ⟨#[c]⟩) else bad) ah) _ from o)
      cases e : atI z.cps.toList i with
      | none => rw [e] at o; exact o.elim
      | some c =>
        rw [e] at o
        exact .inr (.inr ⟨z, i, c, rfl, rfl, hz, e, OutP.okI rh o _ (.str _)⟩)
    | _ => exact main o
  | _ => cases d1 <;> exact (show False from o).elim
theorem fe_ix {a b : Expr} {pos : Pos} {fa fb : EnvD → M D} (ha : FE X E a fa) (hb : FE X E b fb) (h : noSlice b = true) : FE X E (.Subscript a b pos) (sOp idxD fa fb) := by
  obtain ⟨ta, h1, q1⟩ := ha
  obtain ⟨tb, h2, q2⟩ := hb
  exact .ofPE (pe_ix ix_seq h1 h2 (plainIx_of h)) (tOp_of od_idx q1 q2)

/-! ### slices -/
def cutD {α : Type} (xs : List α) (lo hi : Option Int) : List α := (xs.drop (HT.sIx xs.length 0 lo)).take (HT.sIx xs.length xs.length hi - HT.sIx xs.length 0 lo)
def FO (X : Cx) (E : XK) (e : Option Expr) (f : EnvD → M (Option Int)) : Prop := ∃ t : TO, PO X e t ∧ ∀ σ H ρ env ah Q, EnvR X.K H ρ env σ → RelH X.K H ρ ah →
  OutP X.mg X.K E ρ H (f env ah) (fun i _ H' _ => Q i H') → t σ H Q
def sNoPart : EnvD → M (Option Int) := fun _ => ret none
def sPart (f : EnvD → M D) : EnvD → M (Option Int) := fun env => do
  match ← f env with
  | .int i => pure (some i)
  | _ => bad
theorem fo_none : FO X E none sNoPart := ⟨_, po_none, fun σ H ρ env ah Q re r o => OutP.okI r o⟩
theorem fo_some {e : Expr} {f : EnvD → M D} (h : FE X E e f) : FO X E (some e) (sPart f) := by
  obtain ⟨t, h1, q1⟩ := h
  refine ⟨_, po_some h1, fun σ H ρ env ah Q re r o => ?_⟩
  refine q1 σ H ρ env ah _ re r (o.bind.mono fun d ah1 H1 ρ1 x1 r1 o1 v hv => ?_)
  cases d with
  | int i => cases hv; exact ⟨i, rfl, OutP.okI r1 o1⟩
  | _ => exact (show False from o1).elim
def sliceD (x : D) (lo hi : Option Int) : M D := match x with
  | .str z => if z.length ≤ sizeLine then ret (.str (cutS z lo hi)) else bad
  | .tup ds => ret (.tup (cutD ds lo hi))
  | x => do
    let (ds, _) ← itemsM x
    alloc (.lst (cutD ds lo hi))
def sSlice (f : EnvD → M D) (l h : EnvD → M (Option Int)) : EnvD → M D := fun env => do
  let x ← f env
  let lo ← l env
  let hi ← h env
  sliceD x lo hi
def rSl3 (K : PySem.W.Frag) : V → Option Int → Option Int → Hp → VK → Prop := fun x lo hi H Q => (rSlA K x lo hi H Q ∨ rSlL K x lo hi H Q) ∨ rSlS x lo hi H Q
theorem sl_3 : SlR X (rSl3 X.K) := (sl_tupA.or sl_list).or sl_str
theorem cut_len {α : Type} (xs : List α) (lo hi : Option Int) {n : Nat} (h : xs.length ≤ n) : (cutD xs lo hi).length ≤ n := by
  unfold cutD
  rw [List.length_take, List.length_drop]
  omega
theorem cut_rel {K : PySem.W.Frag} {H : Hp} {ρ : List Addr} {ds : List D} {vs : List V} (h : DVs K H ρ ds vs) (lo hi : Option Int) : DVs K H ρ (cutD ds lo hi) (cutV vs lo hi) := by
  unfold cutD cutV
  rw [h.length]
  exact (h.drop _).take _
theorem cut_all {α : Type} {xs : List α} {lo hi : Option Int} (h : HT.sIx xs.length 0 lo = 0 ∧ HT.sIx xs.length xs.length hi = xs.length) : cutD xs lo hi = xs := by
  unfold cutD
  rw [h.1, h.2]; simp
theorem fe_slice {e : Expr} {lo hi : Option Expr} {p2 pos : Pos} {f : EnvD → M D} {l h : EnvD → M (Option Int)} (he : FE X E e f) (hl : FO X E lo l) (hh : FO X E hi h) : FE X E (.Subscript e (.Slice lo hi none p2) pos) (sSlice f l h) := by
  obtain ⟨t, h1, q1⟩ := he
  obtain ⟨tl, h2, q2⟩ := hl
  obtain ⟨tu, h3, q3⟩ := hh
  refine .ofPE (pe_slice sl_3 h1 h2 h3) fun σ H ρ env ah Q re r o => ?_
  refine q1 σ H ρ env ah _ re r (o.bind.mono fun d ah1 H1 ρ1 x1 r1 o1 v hv => ?_)
  refine q2 σ H1 ρ1 env ah1 _ (re.ext r x1) r1 (o1.bind.mono fun lo ah2 H2 ρ2 x2 r2 o2 => ?_)
  refine q3 σ H2 ρ2 env ah2 _ ((re.ext r x1).ext r1 x2) r2 (o2.bind.mono fun hi ah3 H3 ρ3 x3 r3 o3 => ?_)
  have hv := (hv.ext r1 x2).ext r2 x3
  have main : OutP X.mg X.K E ρ3 H3 ((itemsM d >>= fun p => alloc (.lst (cutD p.1 lo hi))) ah3) (fun d _ H' ρ' => ∀ v, DV X.K H' ρ' d v → Q v H') → (∀ ds, d ≠ .tup ds) → rSl3 X.K v lo hi H3 Q := fun o hn => by
    obtain ⟨ds, src, a, rfl, hs, ei, o1⟩ := items_src r3 hv o.bind
    obtain ⟨vs, hvs, hq⟩ := hs.seq
    rcases hq with hq | hq
    · refine .inl (.inr ⟨a, vs, rfl, hq, fun p hp => ?_⟩)
      obtain ⟨q, dd⟩ := newlst r3 (cut_rel hvs lo hi) (cut_len _ _ _ hs.1) o1 p hp
      exact q _ dd
    · cases src with
      | none =>
        cases d with
        | tup ds' => exact absurd rfl (hn ds')
        | ref n =>
          unfold itemsM at ei
          cases e9 : ah3[n]? with
          | none => simp [e9] at ei
          | some c => cases c <;> simp [e9] at ei
        | _ => simp [itemsM] at ei
      | some n =>
        obtain ⟨hz0, ws, hws, hr, hl⟩ := hs
        refine .inl (.inr ⟨a, ws, rfl, hl, fun p hp => ?_⟩)
        obtain ⟨q, dd⟩ := newlst r3 (cut_rel hws lo hi) (cut_len _ _ _ hz0) o1 p hp
        exact q _ dd
  cases d with
  | str z =>
    cases hv
    obtain ⟨hz, o3⟩ := ifB (show OutP _ _ _ _ _ ((if z.length ≤ sizeLine then ret (D.str (cutS z lo hi)) else bad) ah3) _ from o3)
    exact .inr ⟨z, rfl, hz, OutP.okI r3 o3 _ (.str _)⟩
  | tup ds =>
    obtain ⟨a, vs, rfl, s1, t1⟩ := hv.tup'
    refine .inl (.inl ⟨a, vs, rfl, s1, fun e => ?_, fun _ p hp => ?_⟩)
    · have e' : cutD ds lo hi = ds := cut_all (by rw [t1.length]; exact e)
      have o4 : OutP X.mg X.K E ρ3 H3 (.ok (D.tup (cutD ds lo hi)) ah3) (fun d _ H' ρ' => ∀ v, DV X.K H' ρ' d v → Q v H') := o3
      rw [e'] at o4
      exact OutP.okI r3 o4 _ (.tup s1 t1 hv.tupLen)
    · exact (show OutP X.mg X.K E ρ3 H3 (.ok (D.tup (cutD ds lo hi)) ah3) (fun d _ H' ρ' => ∀ v, DV X.K H' ρ' d v → Q v H') from o3) _ _ (Ext.upd hp) (r3.upd hp) _ (fresh_tup hp (cut_rel t1 lo hi) (cut_len _ _ _ hv.tupLen))
  | _ => exact main o3 (fun ds e => nomatch e)

/-! ### calls of built-ins by values -/
def CallD (X : Cx) (E : XK) (r : List V → Hp → VK → Prop) (g : D → M D) : Prop := ∀ H ρ ah d x Q, RelH X.K H ρ ah → DV X.K H ρ d x →
  OutP X.mg X.K E ρ H (g d ah) (fun d _ H' ρ' => ∀ v, DV X.K H' ρ' d v → Q v H') → r [x] H Q
def sCall1 (g : D → M D) (f : EnvD → M D) : EnvD → M D := fun env => do
  let x ← f env
  g x
theorem tCB_of {r : List V → Hp → VK → Prop} {g : D → M D} {f : EnvD → M D} {ta : TE} (hr : CallD X E r g)
    (q1 : ∀ σ H ρ env ah Q, EnvR X.K H ρ env σ → RelH X.K H ρ ah → OutP X.mg X.K E ρ H (f env ah) (fun d _ H' ρ' => ∀ v, DV X.K H' ρ' d v → Q v H') → ta σ H Q) :
    ∀ σ H ρ env ah Q, EnvR X.K H ρ env σ → RelH X.K H ρ ah → OutP X.mg X.K E ρ H (sCall1 g f env ah) (fun d _ H' ρ' => ∀ v, DV X.K H' ρ' d v → Q v H') → tCB r (tCons ta tNil) σ H Q := by
  intro σ H ρ env ah Q re rh o
  refine q1 σ H ρ env ah _ re rh (o.bind.mono fun d ah1 H1 ρ1 x1 r1 o1 v hv => ?_)
  exact hr H1 ρ1 ah1 d v Q r1 hv o1
theorem fe_callB {x : Str} {id : String} {r : List V → Hp → VK → Prop} {g : D → M D} {e : Expr} {f : EnvD → M D} {p pos : Pos} (hc : CallR X (.builtin id) r) (hr : CallD X E r g) (hg : Gl X x) (hm : X.mg x = none) (hv : bootBuiltins x = some (.builtin id)) (hn : x ≠ "__name__") (hdb : (x == ("__debug__" : Str)) = false)
    (h : FE X E e f) (hs : noStar e = true) : FE X E (.Call (.Name x p) [e] [] pos) (sCall1 g f) := by
  obtain ⟨ta, h1, q1⟩ := h
  exact .ofPE (pe_callB hc hg hm hv (pa_cons h1 pa_nil (star_of hs)) hn hdb (star_of hs) rfl) (tCB_of hr q1)
theorem fe_callT {x : Str} {id : String} {r : List V → Hp → VK → Prop} {g : D → M D} {e : Expr} {f : EnvD → M D} {p pos : Pos} (hc : CallR X (.type id) r) (hr : CallD X E r g) (hg : Gl X x) (hm : X.mg x = none) (hv : bootBuiltins x = some (.type id)) (hn : x ≠ "__name__") (hdb : (x == ("__debug__" : Str)) = false)
    (h : FE X E e f) (hs : noStar e = true) : FE X E (.Call (.Name x p) [e] [] pos) (sCall1 g f) := by
  obtain ⟨ta, h1, q1⟩ := h
  exact .ofPE (pe_callTy hc hg hm hv (pa_cons h1 pa_nil (star_of hs)) hn hdb (star_of hs) rfl) (tCB_of hr q1)
/-- .. by the items of a sequence -/
def CallL (X : Cx) (E : XK) (r : List V → Hp → VK → Prop) (g : List D → M D) : Prop := ∀ H ρ ah ds src a Q, RelH X.K H ρ ah → SrcOk X.K H ρ ds src a →
  OutP X.mg X.K E ρ H (g ds ah) (fun d _ H' ρ' => ∀ v, DV X.K H' ρ' d v → Q v H') → r [.ref a] H Q
def sCallL (g : List D → M D) (f : EnvD → M (List D × Option Nat)) : EnvD → M D := fun env => do
  let (ds, _) ← f env
  g ds
theorem tCL_of {r : List V → Hp → VK → Prop} {g : List D → M D} {f : EnvD → M (List D × Option Nat)} {ta : TE} (hr : CallL X E r g)
    (q1 : ∀ σ H ρ env ah Q, EnvR X.K H ρ env σ → RelH X.K H ρ ah → OutP X.mg X.K E ρ H (f env ah) (fun p _ H' ρ' => ∀ a, SrcOk X.K H' ρ' p.1 p.2 a → Q (.ref a) H') → ta σ H Q) :
    ∀ σ H ρ env ah Q, EnvR X.K H ρ env σ → RelH X.K H ρ ah → OutP X.mg X.K E ρ H (sCallL g f env ah) (fun d _ H' ρ' => ∀ v, DV X.K H' ρ' d v → Q v H') → tCB r (tCons ta tNil) σ H Q := by
  intro σ H ρ env ah Q re rh o
  refine q1 σ H ρ env ah _ re rh (o.bind.mono fun d ah1 H1 ρ1 x1 r1 o1 a ha => ?_)
  exact hr H1 ρ1 ah1 d.1 d.2 a Q r1 ha o1
theorem fe_callBL {x : Str} {id : String} {r : List V → Hp → VK → Prop} {g : List D → M D} {e : Expr} {f : EnvD → M (List D × Option Nat)} {p pos : Pos} (hc : CallR X (.builtin id) r) (hr : CallL X E r g) (hg : Gl X x) (hm : X.mg x = none) (hv : bootBuiltins x = some (.builtin id)) (hn : x ≠ "__name__") (hdb : (x == ("__debug__" : Str)) = false)
    (h : FL X E e f) (hs : noStar e = true) : FE X E (.Call (.Name x p) [e] [] pos) (sCallL g f) := by
  obtain ⟨ta, h1, q1⟩ := h
  exact .ofPE (pe_callB hc hg hm hv (pa_cons h1 pa_nil (star_of hs)) hn hdb (star_of hs) rfl) (tCL_of hr q1)
theorem fe_callTL {x : Str} {id : String} {r : List V → Hp → VK → Prop} {g : List D → M D} {e : Expr} {f : EnvD → M (List D × Option Nat)} {p pos : Pos} (hc : CallR X (.type id) r) (hr : CallL X E r g) (hg : Gl X x) (hm : X.mg x = none) (hv : bootBuiltins x = some (.type id)) (hn : x ≠ "__name__") (hdb : (x == ("__debug__" : Str)) = false)
    (h : FL X E e f) (hs : noStar e = true) : FE X E (.Call (.Name x p) [e] [] pos) (sCallL g f) := by
  obtain ⟨ta, h1, q1⟩ := h
  exact .ofPE (pe_callTy hc hg hm hv (pa_cons h1 pa_nil (star_of hs)) hn hdb (star_of hs) rfl) (tCL_of hr q1)
/-- .. that give a new list -/
def CallN (X : Cx) (E : XK) (r : List V → Hp → VK → Prop) (g : List D → M (List D)) : Prop := ∀ H ρ ah ds src a Q, RelH X.K H ρ ah → SrcOk X.K H ρ ds src a →
  OutP X.mg X.K E ρ H (g ds ah) (fun es _ H' ρ' => ∀ b vs, H' b = some (.lst vs) → b ∉ ρ' → H b = none → DVs X.K H' ρ' es vs → es.length ≤ sizeLine → Q (.ref b) H') → r [.ref a] H Q
def sCallN (g : List D → M (List D)) (f : EnvD → M (List D × Option Nat)) : EnvD → M (List D) := fun env => do
  let (ds, _) ← f env
  g ds
theorem Ext.none {ρ ρ1 : List Addr} {H H1 : Hp} {K : PySem.W.Frag} {ah1 : AH} (x : Ext ρ H ρ1 H1) (r : RelH K H1 ρ1 ah1) {p : Addr} (h : H1 p = .none) : H p = .none := by
  cases e : H p with
  | none => rfl
  | some o =>
    by_cases q : p ∈ ρ
    · obtain ⟨o2, e2⟩ := r.tracked (x.sub q); rw [h] at e2; cases e2
    · rw [x.keep p o e q] at h; cases h
theorem tCN_of {r : List V → Hp → VK → Prop} {g : List D → M (List D)} {f : EnvD → M (List D × Option Nat)} {ta : TE} (hr : CallN X E r g)
    (q1 : ∀ σ H ρ env ah Q, EnvR X.K H ρ env σ → RelH X.K H ρ ah → OutP X.mg X.K E ρ H (f env ah) (fun p _ H' ρ' => ∀ a, SrcOk X.K H' ρ' p.1 p.2 a → Q (.ref a) H') → ta σ H Q) :
    ∀ σ H ρ env ah Q, EnvR X.K H ρ env σ → RelH X.K H ρ ah → OutP X.mg X.K E ρ H (sCallN g f env ah) (fun ds _ H' ρ' => ∀ a vs, H' a = some (.lst vs) → a ∉ ρ' → H a = none → DVs X.K H' ρ' ds vs → ds.length ≤ sizeLine → Q (.ref a) H') → tCB r (tCons ta tNil) σ H Q := by
  intro σ H ρ env ah Q re rh o
  refine q1 σ H ρ env ah _ re rh (o.bind.mono fun d ah1 H1 ρ1 x1 r1 o1 a ha => ?_)
  refine hr H1 ρ1 ah1 d.1 d.2 a Q r1 ha (o1.mono fun es ah2 H2 ρ2 x2 r2 q b vs hb hn h0 hv hz => q b vs hb hn (x1.none r1 h0) hv hz)
theorem fn_callB {x : Str} {id : String} {r : List V → Hp → VK → Prop} {g : List D → M (List D)} {e : Expr} {f : EnvD → M (List D × Option Nat)} {p pos : Pos} (hc : CallR X (.builtin id) r) (hr : CallN X E r g) (hg : Gl X x) (hm : X.mg x = none) (hv : bootBuiltins x = some (.builtin id)) (hn : x ≠ "__name__") (hdb : (x == ("__debug__" : Str)) = false)
    (h : FL X E e f) (hs : noStar e = true) : FN X E (.Call (.Name x p) [e] [] pos) (sCallN g f) := by
  obtain ⟨ta, h1, q1⟩ := h
  exact ⟨_, pe_callB hc hg hm hv (pa_cons h1 pa_nil (star_of hs)) hn hdb (star_of hs) rfl, tCN_of hr q1⟩
theorem fn_callT {x : Str} {id : String} {r : List V → Hp → VK → Prop} {g : List D → M (List D)} {e : Expr} {f : EnvD → M (List D × Option Nat)} {p pos : Pos} (hc : CallR X (.type id) r) (hr : CallN X E r g) (hg : Gl X x) (hm : X.mg x = none) (hv : bootBuiltins x = some (.type id)) (hn : x ≠ "__name__") (hdb : (x == ("__debug__" : Str)) = false)
    (h : FL X E e f) (hs : noStar e = true) : FN X E (.Call (.Name x p) [e] [] pos) (sCallN g f) := by
  obtain ⟨ta, h1, q1⟩ := h
  exact ⟨_, pe_callTy hc hg hm hv (pa_cons h1 pa_nil (star_of hs)) hn hdb (star_of hs) rfl, tCN_of hr q1⟩
end
end Ev

set_option Elab.async false
set_option linter.all false
set_option maxRecDepth 100000
set_option maxHeartbeats 2000000
set_option autoImplicit false
namespace Ev
open PySem PySem.Spec PyProof.Rows L2
/-! ### xs[::-1] -/
section
variable {prog : Program} {w : World} {A : Around} {E : Value → Shared → Prop} {s : Shared}
theorem places_back (n : Nat) : Builtin.Slice.slicePlaces ((n : Int) - 1) (-1) (-1) = n := by
  unfold Builtin.Slice.slicePlaces
  rw [if_neg (by omega)]
  by_cases h : (n : Int) - 1 > -1
  · rw [if_pos h]
    have : ((n : Int) - 1 - -1 - 1) / (- -1) + 1 = n := by
      have e : (- -1 : Int) = 1 := rfl
      rw [e, Int.ediv_one]; omega
    rw [this]; omega
  · rw [if_neg h]; omega
theorem pick_back (xs : Array Value) : ((List.range xs.size).filterMap fun (k : Nat) => xs[((xs.size : Int) - 1 + (k : Int) * (-1)).toNat]?) = xs.toList.reverse := by
  refine List.ext_getElem? fun i => ?_
  have e1 : ((List.range xs.size).filterMap fun (k : Nat) => xs[((xs.size : Int) - 1 + (k : Int) * (-1)).toNat]?) = (List.range xs.size).map fun k => xs.toList[xs.size - 1 - k]?.getD .none := by
    have go : ∀ l : List Nat, (∀ k ∈ l, k < xs.size) → l.filterMap (fun (k : Nat) => xs[((xs.size : Int) - 1 + (k : Int) * (-1)).toNat]?) = l.map fun k => xs.toList[xs.size - 1 - k]?.getD .none := by
      intro l
      induction l with
      | nil => intro _; rfl
      | cons k l ih =>
        intro hl
        have hk := hl k (.head _)
        have e : ((xs.size : Int) - 1 + (k : Int) * (-1)).toNat = xs.size - 1 - k := by omega
        have hz : xs.size - 1 - k < xs.toList.length := by rw [Array.length_toList]; omega
        have at1 : xs[((xs.size : Int) - 1 + (k : Int) * (-1)).toNat]? = some xs.toList[xs.size - 1 - k] := by rw [e, ← Array.getElem?_toList, List.getElem?_eq_getElem hz]
        rw [List.filterMap_cons_some (f := fun (k : Nat) => xs[((xs.size : Int) - 1 + (k : Int) * (-1)).toNat]?) at1, ih fun x hx => hl x (.tail _ hx), List.map_cons, List.getElem?_eq_getElem hz]; rfl
    exact go _ fun k hk => List.mem_range.mp hk
  rw [e1, List.getElem?_map]
  by_cases hi : i < xs.size
  · rw [List.getElem?_range hi, List.getElem?_reverse (by simpa using hi)]
    have hl : xs.size - 1 - i < xs.toList.length := by rw [Array.length_toList]; omega
    simp only [Option.map_some, Array.length_toList]
    rw [List.getElem?_eq_getElem hl]; rfl
  · rw [List.getElem?_eq_none (by simpa using hi), List.getElem?_eq_none (by simpa using hi)]; rfl
theorem item_back {t sl : Addr} {items : Array Value} {u : Tok} {Q : Value → Shared → Prop} (ht : IsTup s.heap t items) (hs : s.heap.IsSliceOf sl .none .none (.int (-1) u))
    (q : Q (.ref s.heap.objs.size) { s with heap := s.heap.push { cls := .type "tuple", data := .seq items.toList.reverse.toArray } }) (hz : items.size ≤ sizeLine) : wpAny (model prog w) A (getItem (.ref t) (.ref sl)) Q E s := by
  obtain ⟨os, hos, hcs, hds⟩ := id hs
  have hT : s.TypeIs (.ref sl) "slice" := ⟨os, hos, hcs⟩
  unfold getItem
  try with_reducible refine wpAny_holding ?_
  first | refine wpAny_bind (wpAny_pure ?_) | skip
  refine wpAny_bind (wpAny_sequenceKey ht.typeIs (by decide) ?_)
  refine wpAny_bind (wpAny_callSpecial?_slot (name := Str.ofString "__getitem__") ht.typeIs PyProof.Rows.slot_tuple_getitem (wpAny_call_entry PyProof.Rows.slot_tuple_getitem ht.typeIs entry_tuple_getitem ?_ (args_tuple_getitem _ _)))
  show wpAny _ _ (Builtin.Tuple.tupleItemsOf (.ref t) >>= _) _ _ s
  refine wpAny_bind (tupleItemsOf_ ht (wpAny_bind (wpAny_typeOf hT ?_)))
  rw [if_pos (by decide)]
  refine wpAny_bind ?_
  · unfold Builtin.Slice.sliceApplied Builtin.Slice.sliceFields
    refine wpAny_bind (wpAny_bind (wpAny_field hos hds (x := .none) rfl (wpAny_bind (wpAny_field hos hds (x := .none) rfl (wpAny_bind (wpAny_field hos hds (x := .int (-1) u) rfl (wpAny_pure ?_)))))))
    refine wpAny_bind (slicePart_int ?_)
    show wpAny _ _ (if ((-1 : Int) == 0) = true then _ else _) _ _ s
    rw [if_neg (by decide)]
    refine wpAny_bind (slicePart_none (wpAny_bind (slicePart_none (wpAny_bind (wpAny_pure ?_)))))
    show wpAny _ _ (pure ((items.size : Int) - 1, (-1 : Int), Builtin.Slice.slicePlaces ((items.size : Int) - 1) (-1) (-1))) _ _ s
    rw [places_back]
    refine wpAny_pure ?_
    show wpAny _ _ (if (((items.size : Int) - 1) == 0 && (-1 : Int) == 1 && items.size == items.size) = true then _ else _) _ _ s
    rw [if_neg (by simp), pick_back]
    have hok : sizeOk (.seq items.toList.reverse.toArray) := by
      show items.toList.reverse.toArray.size ≤ sizeLine
      rw [List.size_toArray, List.length_reverse, Array.length_toList]; exact hz
    first
      | exact wpAny_bind (m := Builtin.Tuple.tupleExact _) (wpAny_newObj_type (wpAny_pure ⟨_, rfl, wpAny_pure q⟩) hok)
      | exact wpAny_bind (m := Builtin.Tuple.tupleExact _) (wpAny_newObj_type (wpAny_bind (wpAny_pure (wpAny_pure ⟨_, rfl, wpAny_pure q⟩))) hok)
end
section
variable {X : Cx} {E : XK}
def tBack (K : PySem.W.Frag) (te : TE) : TE := fun σ H Q => te σ H fun x H1 => ∃ a xs, x = .ref a ∧ ((SqL K H1 a xs ∧ ∀ p, H1 p = none → Q (.ref p) (upd H1 p (.lst xs.reverse))) ∨ (SqT K H1 a xs ∧ ∀ p, H1 p = none → Q (.ref p) (upd H1 p (.tup xs.reverse))))
theorem pe_back {e : Expr} {te : TE} {k : Nat} {p1 p2 p3 pos : Pos} (he : PE X e te) : PE X (.Subscript e (.Slice none none (some (.UnaryOp .USub (.Constant (.int 1) k p1) p2)) p3) pos) (tBack X.K te) := by
  refine ⟨fun pins s σ H Q I h => ?_⟩
  refine Subscript_ (thn (he.run pins s σ H _ I h) fun v s1 ⟨x, H1, I1, r1, a, xs, ex, q⟩ => ?_)
  subst ex
  cases r1
  have hst : PO X (some (.UnaryOp .USub (.Constant (.int 1) k p1) p2)) (tPart (tUn (rU fun i => .int (-i)) (tC (.int 1)))) := po_some (pe_un un_neg pe_int)
  refine wpAny_Slice (thn (po_none.run pins s1 σ H1 (fun o H2 => o = none ∧ H2 = H1) I1 ⟨rfl, rfl⟩) fun vl s2 ⟨l, H2, I2, pl, el, e2⟩ => ?_)
  subst el e2
  refine thn (po_none.run pins s2 σ H2 (fun o H3 => o = none ∧ H3 = H2) I2 ⟨rfl, rfl⟩) fun vu s3 ⟨u, H3, I3, pu, eu, e3⟩ => ?_
  subst eu e3
  refine thn (hst.run pins s3 σ H3 (fun o H4 => o = some (-1) ∧ H4 = H3) I3 ⟨1, rfl, -1, rfl, rfl, rfl⟩) fun vs s4 ⟨o, H4, I4, ps, eo, e4⟩ => ?_
  subst eo e4
  have I5 : Inv X pins σ H4 { s4 with heap := s4.heap.push { cls := .type "slice", data := .fields #[vl, vu, vs] } } := I4.kept (t' := s4.toks) fun b ob z => Heap.get?_push_of_some _ z
  show wpAny (model X.prog X.w) X.A (subscriptTail e (.Slice none none (some (.UnaryOp .USub (.Constant (.int 1) k p1) p2)) p3) (.ref a) (.ref s4.heap.objs.size)) (EP X pins σ Q) X.xe { s4 with heap := s4.heap.push { cls := .type "slice", data := .fields #[vl, vu, vs] } }
  rcases q with ⟨hx, q⟩ | ⟨hx, q⟩
  · obtain ⟨its, r, ht, hz⟩ := I5.list hx
    have len := r.length
    refine tail_any (ops := [.ref a, .ref s4.heap.objs.size]) ht.isList.typeIs (PySem.slot_list_getitem.lookup) ?_ (by with_unfolding_all rfl)
    refine wpAny_getItem_list_slice ht.isList (Heap.IsSliceOf.new _ vl vu vs) pl pu ps (by decide) ?_ (by rw [List.size_toArray]; omega)
    rw [PySem.W.krv_pick]
    exact ⟨.ref _, _, I5.laid (t' := s4.toks) (o := .lst xs.reverse) (fun b ob z => Heap.get?_push_of_some _ z) (Nat.le_refl _) ⟨by rw [List.length_reverse]; exact hz, _, 0, r.reverse, Heap.get?_push_size _ rfl⟩, rfl, q _ (I5.hok.fresh (Nat.le_refl _))⟩
  · obtain ⟨its, r, ht, hz⟩ := I5.tuple hx
    have len := r.length
    refine tail_any (ops := [.ref a, .ref s4.heap.objs.size]) ht.typeIs PyProof.Rows.slot_tuple_getitem.lookup ?_ (by with_unfolding_all rfl)
    cases pl
    cases pu
    cases ps with
    | int i tk =>
      refine item_back ht (Heap.IsSliceOf.new _ .none .none _) ?_ (by rw [List.size_toArray]; omega)
      exact ⟨.ref _, _, I5.laid (t' := s4.toks) (o := .tup xs.reverse) (fun b ob z => Heap.get?_push_of_some _ z) (Nat.le_refl _) ⟨by rw [List.length_reverse]; exact hz, _, r.reverse, IsTup.new _ _⟩, rfl, q _ (I5.hok.fresh (Nat.le_refl _))⟩
def backD (d : D) : M D := match d with
  | .tup ds => ret (.tup ds.reverse)
  | .ref n => do
    let (ds, _) ← itemsM (.ref n)
    alloc (.lst ds.reverse)
  | _ => bad
theorem fe_back {e : Expr} {k : Nat} {p1 p2 p3 pos : Pos} {f : EnvD → M D} (he : FE X E e f) : FE X E (.Subscript e (.Slice none none (some (.UnaryOp .USub (.Constant (.int 1) k p1) p2)) p3) pos) (sCall1 backD f) := by
  obtain ⟨t, h1, q1⟩ := he
  refine .ofPE (pe_back h1) fun σ H ρ env ah Q re r o => ?_
  refine q1 σ H ρ env ah _ re r (o.bind.mono fun d ah1 H1 ρ1 x1 r1 o1 v hv => ?_)
  cases d with
  | tup ds =>
    obtain ⟨a, vs, rfl, s1, t1⟩ := hv.tup'
    refine ⟨a, vs, rfl, .inr ⟨s1, fun p hp => ?_⟩⟩
    exact (show OutP X.mg X.K E ρ1 H1 (.ok (D.tup ds.reverse) ah1) (fun d _ H' ρ' => ∀ v, DV X.K H' ρ' d v → Q v H') from o1) _ _ (Ext.upd hp) (r1.upd hp) _ (fresh_tup hp t1.reverse (by rw [List.length_reverse]; exact hv.tupLen))
  | ref n =>
    have o2 : OutP X.mg X.K E ρ1 H1 ((itemsM (.ref n) >>= fun p => alloc (.lst p.1.reverse)) ah1) (fun d _ H' ρ' => ∀ v, DV X.K H' ρ' d v → Q v H') := o1
    obtain ⟨ds, src, a, rfl, hs, ei, o3⟩ := items_src r1 hv o2.bind
    obtain ⟨vs, hvs, hq⟩ := hs.seq
    cases src with
    | none =>
      unfold itemsM at ei
      cases e9 : ah1[n]? with
      | none => simp [e9] at ei
      | some c => cases c <;> simp [e9] at ei
    | some m =>
      obtain ⟨hz0, ws, hws, hr, hl⟩ := hs
      refine ⟨a, ws, rfl, .inl ⟨hl, fun p hp => ?_⟩⟩
      obtain ⟨q, dd⟩ := newlst r1 hws.reverse (by rw [List.length_reverse]; exact hz0) o3 p hp
      exact q _ dd
  | _ => exact (show False from o1).elim
end
end Ev

set_option Elab.async false
set_option linter.all false
set_option maxRecDepth 100000
set_option maxHeartbeats 2000000
set_option autoImplicit false
namespace Ev
open PySem PySem.Spec PyProof.Rows L2
section
variable {X : Cx} {E : XK}
/-! ### len, abs, int -/
def lenD (x : D) : M D := match x with
  | .str z => if z.length ≤ sizeLine then ret (.int z.length) else bad
  | x => do
    let (ds, _) ← itemsM x
    ret (.int ds.length)
theorem cd_len : CallD X E (fun xs H Q => ∃ x n, xs = [x] ∧ LenV X.K x H n ∧ Q (.int n) H) lenD := by
  intro H ρ ah d x Q rh h o
  have main : OutP X.mg X.K E ρ H ((itemsM d >>= fun p => ret (D.int p.1.length)) ah) (fun d _ H' ρ' => ∀ v, DV X.K H' ρ' d v → Q v H') → (∃ x1 n, [x] = [x1] ∧ LenV X.K x1 H n ∧ Q (.int n) H) := fun o => by
    obtain ⟨ds, src, a, rfl, hs, _, o1⟩ := items_src rh h o.bind
    obtain ⟨vs, hv, hq⟩ := hs.seq
    refine ⟨_, ds.length, rfl, ?_, OutP.okI rh o1 _ (.int _)⟩
    rcases hq with hq | hq
    · exact .inl ⟨vs, hq, hv.length⟩
    · exact .inr ⟨vs, hq, hv.length⟩
  cases d with
  | str z =>
    cases h
    obtain ⟨hz, o⟩ := ifB (show OutP _ _ _ _ _ ((if z.length ≤ sizeLine then ret (D.int z.length) else bad) ah) _ from o)
    exact ⟨_, z.length, rfl, ⟨hz, rfl⟩, OutP.okI rh o _ (.int _)⟩
  | _ => exact main o
def lenL (ds : List D) : M D := ret (.int ds.length)
theorem cl_len : CallL X E (fun xs H Q => ∃ x n, xs = [x] ∧ LenV X.K x H n ∧ Q (.int n) H) lenL := by
  intro H ρ ah ds src a Q rh hs o
  obtain ⟨vs, hv, hq⟩ := hs.seq
  refine ⟨_, ds.length, rfl, ?_, OutP.okI rh o _ (.int _)⟩
  rcases hq with hq | hq
  · exact .inl ⟨vs, hq, hv.length⟩
  · exact .inr ⟨vs, hq, hv.length⟩
def absD (x : D) : M D := match x with
  | .int i => ret (.int (if i < 0 then -i else i))
  | _ => bad
theorem cd_abs : CallD X E (fun xs H Q => ∃ i, xs = [.int i] ∧ Q (.int (if i < 0 then -i else i)) H) absD := by
  intro H ρ ah d x Q rh h o
  cases d with
  | int i => cases h; exact ⟨i, rfl, OutP.okI rh (show OutP _ _ _ _ _ (Out.ok _ _) _ from o) _ (.int _)⟩
  | _ => exact (show False from o).elim
def intD (x : D) : M D := match x with
  | .int i => ret (.int i)
  | .bl b => ret (.int (if b then 1 else 0))
  | _ => bad
theorem cd_int : CallD X E (fun xs H Q => (∃ i, xs = [.int i] ∧ Q (.int i) H) ∨ ∃ k, xs = [.bl k] ∧ Q (.int (if k then 1 else 0)) H) intD := by
  intro H ρ ah d x Q rh h o
  cases d with
  | int i => cases h; exact .inl ⟨i, rfl, OutP.okI rh (show OutP _ _ _ _ _ (Out.ok _ _) _ from o) _ (.int _)⟩
  | bl i => cases h; exact .inr ⟨i, rfl, OutP.okI rh (show OutP _ _ _ _ _ (Out.ok _ _) _ from o) _ (.int _)⟩
  | _ => exact (show False from o).elim
def strD (x : D) : M D := match x with
  | .int i => if i.natAbs.log2 < 1920 then ret (.str (toString i)) else bad
  | _ => bad
theorem cd_str : CallD X E (fun xs H Q => ∃ i, xs = [.int i] ∧ i.natAbs.log2 < 1920 ∧ Q (.str (toString i)) H) strD := by
  intro H ρ ah d x Q rh h o
  cases d with
  | int i =>
    cases h
    obtain ⟨hz, o⟩ := ifB (show OutP _ _ _ _ _ ((if i.natAbs.log2 < 1920 then ret (D.str (toString i)) else bad) ah) _ from o)
    exact ⟨i, rfl, hz, OutP.okI rh o _ (.str _)⟩
  | _ => exact (show False from o).elim
/-! ### all, any, min, max, sum -/
def boolsOf : List D → Option (List Bool)
  | [] => some []
  | .bl b :: ds => (boolsOf ds).map (b :: ·)
  | _ => none
def intsOf : List D → Option (List Int)
  | [] => some []
  | .int b :: ds => (intsOf ds).map (b :: ·)
  | _ => none
theorem bools_vals {K : PySem.W.Frag} {H : Hp} {ρ : List Addr} : ∀ {ds : List D} {vs : List V} {bs : List Bool}, DVs K H ρ ds vs → boolsOf ds = some bs → vs = bs.map V.bl
  | [], _, _, h, e => by cases h; cases e; rfl
  | d :: ds, _, bs, h, e => by
    cases h with
    | cons h1 h2 =>
      cases d with
      | bl b =>
        cases h1
        cases q : boolsOf ds with
        | none => simp [boolsOf, q] at e
        | some r => simp [boolsOf, q] at e; subst e; simp [bools_vals h2 q]
      | _ => cases e
theorem ints_vals {K : PySem.W.Frag} {H : Hp} {ρ : List Addr} : ∀ {ds : List D} {vs : List V} {bs : List Int}, DVs K H ρ ds vs → intsOf ds = some bs → vs = bs.map V.int
  | [], _, _, h, e => by cases h; cases e; rfl
  | d :: ds, _, bs, h, e => by
    cases h with
    | cons h1 h2 =>
      cases d with
      | int b =>
        cases h1
        cases q : intsOf ds with
        | none => simp [intsOf, q] at e
        | some r => simp [intsOf, q] at e; subst e; simp [ints_vals h2 q]
      | _ => cases e
/-- the items must stand in a list -/
def allL (ds : List D) : M D := match boolsOf ds with
  | some bs => ret (.bl (bs.all id))
  | none => bad
def anyL (ds : List D) : M D := match boolsOf ds with
  | some bs => ret (.bl (bs.any id))
  | none => bad
end
section
variable (X : Cx) (E : XK)
/-- a new list alone (not a tuple) -/
def CallW (r : List V → Hp → VK → Prop) (g : List D → M D) : Prop := ∀ H ρ ah ds a vs Q, RelH X.K H ρ ah → DVs X.K H ρ ds vs → SqL X.K H a vs →
  OutP X.mg X.K E ρ H (g ds ah) (fun d _ H' ρ' => ∀ v, DV X.K H' ρ' d v → Q v H') → r [.ref a] H Q
end
section
variable {X : Cx} {E : XK}
def sCallW (g : List D → M D) (f : EnvD → M (List D)) : EnvD → M D := fun env => do
  let ds ← f env
  g ds
theorem fe_callBW {x : Str} {id : String} {r : List V → Hp → VK → Prop} {g : List D → M D} {e : Expr} {f : EnvD → M (List D)} {p pos : Pos} (hc : CallR X (.builtin id) r) (hr : CallW X E r g) (hg : Gl X x) (hm : X.mg x = none) (hv : bootBuiltins x = some (.builtin id)) (hn : x ≠ "__name__") (hdb : (x == ("__debug__" : Str)) = false)
    (h : FN X E e f) (hs : noStar e = true) : FE X E (.Call (.Name x p) [e] [] pos) (sCallW g f) := by
  obtain ⟨ta, h1, q1⟩ := h
  refine .ofPE (pe_callB hc hg hm hv (pa_cons h1 pa_nil (star_of hs)) hn hdb (star_of hs) rfl) fun σ H ρ env ah Q re rh o => ?_
  refine q1 σ H ρ env ah _ re rh (o.bind.mono fun d ah1 H1 ρ1 x1 r1 o1 a vs ha hn0 h0 hv hz => ?_)
  exact hr H1 ρ1 ah1 d a vs Q r1 hv (.inl (.inl ha)) o1
theorem cw_all : CallW X E (rAll X.K) allL := by
  intro H ρ ah ds a vs Q rh hv hs o
  unfold allL at o
  cases e : boolsOf ds with
  | none => rw [e] at o; exact o.elim
  | some bs => rw [e] at o; exact ⟨a, bs, rfl, by rw [← bools_vals hv e]; exact hs, OutP.okI rh o _ (.bl _)⟩
theorem cw_any : CallW X E (rAny X.K) anyL := by
  intro H ρ ah ds a vs Q rh hv hs o
  unfold anyL at o
  cases e : boolsOf ds with
  | none => rw [e] at o; exact o.elim
  | some bs => rw [e] at o; exact ⟨a, bs, rfl, by rw [← bools_vals hv e]; exact hs, OutP.okI rh o _ (.bl _)⟩
def sumL (ds : List D) : M D := match intsOf ds with
  | some bs => ret (.int bs.sum)
  | none => bad
theorem cw_sum : CallW X E (rSum X.K) sumL := by
  intro H ρ ah ds a vs Q rh hv hs o
  unfold sumL at o
  cases e : intsOf ds with
  | none => rw [e] at o; exact o.elim
  | some bs => rw [e] at o; exact ⟨a, bs, rfl, by rw [← ints_vals hv e]; exact hs, OutP.okI rh o _ (.int _)⟩
/-- least of intsOf -/
def leastI : List Int → Int
  | [] => 0
  | [x] => x
  | x :: y :: r => min x (leastI (y :: r))
def mostI : List Int → Int
  | [] => 0
  | [x] => x
  | x :: y :: r => max x (mostI (y :: r))
theorem leastI_uniq : ∀ {ns : List Int} {m : Int}, m ∈ ns → (∀ y, y ∈ ns → m ≤ y) → m = leastI ns
  | [x], m, h, _ => by simpa [leastI] using h
  | x :: y :: r, m, h, hm => by
    have ih := fun k hk hk2 => leastI_uniq (ns := y :: r) (m := k) hk hk2
    have mem : ∀ l : List Int, l ≠ [] → leastI l ∈ l ∧ ∀ z ∈ l, leastI l ≤ z := by
      intro l
      induction l with
      | nil => simp
      | cons a l ihl =>
        intro _
        cases l with
        | nil => simp [leastI]
        | cons b l =>
          obtain ⟨h1, h2⟩ := ihl (by simp)
          unfold leastI
          refine ⟨?_, fun z hz => ?_⟩
          · rcases Int.le_total a (leastI (b :: l)) with q | q
            · rw [Int.min_eq_left q]; exact .head _
            · rw [Int.min_eq_right q]; exact .tail _ h1
          · rcases List.mem_cons.mp hz with rfl | hz
            · exact Int.min_le_left _ _
            · exact Int.le_trans (Int.min_le_right _ _) (h2 z hz)
    obtain ⟨h1, h2⟩ := mem (x :: y :: r) (by simp)
    exact Int.le_antisymm (hm _ h1) (h2 m h)
theorem mostI_uniq : ∀ {ns : List Int} {m : Int}, m ∈ ns → (∀ y, y ∈ ns → y ≤ m) → m = mostI ns
  | [x], m, h, _ => by simpa [mostI] using h
  | x :: y :: r, m, h, hm => by
    have mem : ∀ l : List Int, l ≠ [] → mostI l ∈ l ∧ ∀ z ∈ l, z ≤ mostI l := by
      intro l
      induction l with
      | nil => simp
      | cons a l ihl =>
        intro _
        cases l with
        | nil => simp [mostI]
        | cons b l =>
          obtain ⟨h1, h2⟩ := ihl (by simp)
          unfold mostI
          refine ⟨?_, fun z hz => ?_⟩
          · rcases Int.le_total a (mostI (b :: l)) with q | q
            · rw [Int.max_eq_right q]; exact .tail _ h1
            · rw [Int.max_eq_left q]; exact .head _
          · rcases List.mem_cons.mp hz with rfl | hz
            · exact Int.le_max_left _ _
            · exact Int.le_trans (h2 z hz) (Int.le_max_right _ _)
    obtain ⟨h1, h2⟩ := mem (x :: y :: r) (by simp)
    exact Int.le_antisymm (h2 m h) (hm _ h1)
def minL (ds : List D) : M D := match intsOf ds with
  | some bs => if 0 < bs.length then ret (.int (leastI bs)) else bad
  | none => bad
def maxL (ds : List D) : M D := match intsOf ds with
  | some bs => if 0 < bs.length then ret (.int (mostI bs)) else bad
  | none => bad
theorem cw_min : CallW X E (rMin X.K) minL := by
  intro H ρ ah ds a vs Q rh hv hs o
  unfold minL at o
  cases e : intsOf ds with
  | none => rw [e] at o; exact o.elim
  | some bs =>
    rw [e] at o
    obtain ⟨hz, o⟩ := ifB o
    refine ⟨a, bs, rfl, by rw [← ints_vals hv e]; exact hs, hz, fun m h1 h2 => ?_⟩
    rw [leastI_uniq h1 h2]
    exact OutP.okI rh o _ (.int _)
theorem cw_max : CallW X E (rMax X.K) maxL := by
  intro H ρ ah ds a vs Q rh hv hs o
  unfold maxL at o
  cases e : intsOf ds with
  | none => rw [e] at o; exact o.elim
  | some bs =>
    rw [e] at o
    obtain ⟨hz, o⟩ := ifB o
    refine ⟨a, bs, rfl, by rw [← ints_vals hv e]; exact hs, hz, fun m h1 h2 => ?_⟩
    rw [mostI_uniq h1 h2]
    exact OutP.okI rh o _ (.int _)
/-- .. of a list that is a value -/
def CallV (X : Cx) (E : XK) (r : List V → Hp → VK → Prop) (g : D → M D) : Prop := CallD X E r g
def listVal (g : List D → M D) (x : D) : M D := match x with
  | .ref n => do
    let (ds, _) ← itemsM (.ref n)
    g ds
  | _ => bad
theorem cd_listVal {r : List V → Hp → VK → Prop} {g : List D → M D} (h : CallW X E r g) : CallD X E r (listVal g) := by
  intro H ρ ah d x Q rh hd o
  cases d with
  | ref n =>
    obtain ⟨ds, src, a, rfl, hs, ei, o1⟩ := items_src rh hd (OutP.bind (show OutP _ _ _ _ _ ((itemsM (.ref n) >>= fun p => g p.1) ah) _ from o))
    obtain ⟨_, vs, hvs, hq⟩ := hs
    cases src with
    | none =>
      unfold itemsM at ei
      cases e9 : ah[n]? with
      | none => simp [e9] at ei
      | some c => cases c <;> simp [e9] at ei
    | some m => exact h H ρ ah ds a vs Q rh hvs hq.2 o1
  | _ => exact (show False from o).elim

/-! ### tuple, list, sorted -/
def tupL (ds : List D) : M D := ret (.tup ds)
theorem cl_tup : CallL X E (fun xs H Q => ∃ p ys, xs = [.ref p] ∧ ((SqL X.K H p ys ∧ ∀ l, H l = none → Q (.ref l) (upd H l (.tup ys))) ∨ (SqT X.K H p ys ∧ Q (.ref p) H))) tupL := by
  intro H ρ ah ds src a Q rh hs o
  obtain ⟨vs, hv, hq⟩ := hs.seq
  rcases hq with hq | hq
  · exact ⟨a, vs, rfl, .inl ⟨hq, fun l hl => (show OutP X.mg X.K E ρ H (.ok (D.tup ds) ah) _ from o) _ _ (Ext.upd hl) (rh.upd hl) _ (fresh_tup hl hv hs.1)⟩⟩
  · exact ⟨a, vs, rfl, .inr ⟨hq, OutP.okI rh o _ (.tup hq hv hs.1)⟩⟩
def lstL (ds : List D) : M (List D) := ret ds
theorem cn_list : CallN X E (fun xs H Q => ∃ p ys, xs = [.ref p] ∧ (SqL X.K H p ys ∨ SqT X.K H p ys) ∧ ∀ l, H l = none → Q (.ref l) (upd H l (.lst ys))) lstL := by
  intro H ρ ah ds src a Q rh hs o
  obtain ⟨vs, hv, hq⟩ := hs.seq
  exact ⟨a, vs, rfl, hq, fun l hl => (show OutP X.mg X.K E ρ H (.ok ds ah) _ from o) _ _ (Ext.upd hl) (rh.upd hl) l vs upd_same (rh.fresh hl) hl (hv.upd hl) hs.1⟩

/-! ### isinstance -/
/-- the name of a value's built-in type -/
def tyName (x : D) : M String := match x with
  | .non => ret "NoneType"
  | .bl _ => ret "bool"
  | .int _ => ret "int"
  | .str _ => ret "str"
  | .tup _ => ret "tuple"
  | .ref n => fun ah => match ah[n]? with
    | some (.lst _) => .ok "list" ah
    | some (.ro _) => .ok "list" ah
    | none => .bad
def isiD (T : String) (x : D) : M D := do
  let n ← tyName x
  match kitB n T with
  | some b => ret (.bl b)
  | none => bad
theorem sqT_tyX {K : PySem.W.Frag} {H : Hp} {a : Addr} {vs : List V} (h : SqT K H a vs) : TyX K H (.ref a) (.type "tuple") := by
  rcases h with (h | ⟨o, h⟩) | ⟨o, its, n, h1, h2, _⟩
  · exact .base (.tup h)
  · exact .fTuple h
  · exact .kTuple h1 h2
theorem tyName_of {H : Hp} {ρ : List Addr} {ah : AH} {d : D} {x : V} {P : String → AH → Hp → List Addr → Prop} (rh : RelH X.K H ρ ah) (h : DV X.K H ρ d x) (o : OutP X.mg X.K E ρ H (tyName d ah) P) : ∃ T, TyX X.K H x (.type T) ∧ P T ah H ρ := by
  cases d with
  | non => cases h; exact ⟨_, .base .non, OutP.okI rh o⟩
  | bl b => cases h; exact ⟨_, .base (.bl _), OutP.okI rh o⟩
  | int b => cases h; exact ⟨_, .base (.int _), OutP.okI rh o⟩
  | str b => cases h; exact ⟨_, .base (.str _), OutP.okI rh o⟩
  | tup ds => obtain ⟨a, vs, rfl, s1, _⟩ := h.tup'; exact ⟨_, sqT_tyX s1, OutP.okI rh o⟩
  | ref n =>
    obtain ⟨a, rfl, h1⟩ := h.ref'
    cases e : ah[n]? with
    | none => simp only [tyName, e] at o; exact o.elim
    | some c =>
      cases c with
      | lst ds =>
        simp only [tyName, e] at o
        obtain ⟨vs, q, _⟩ := rh.lst h1 e
        exact ⟨_, .base (.lst q), OutP.okI rh o⟩
      | ro ds =>
        simp only [tyName, e] at o
        obtain ⟨ob, vs, q, _⟩ := rh.ro h1 e
        exact ⟨_, .base (.frz q), OutP.okI rh o⟩
theorem fe_isi {x y : Str} {T : String} {e : Expr} {f : EnvD → M D} {p q pos : Pos} (hg : Gl X x) (hm : X.mg x = none) (hx : x = "isinstance") (hg2 : Gl X y) (hm2 : X.mg y = none) (hy : bootBuiltins y = some (.type T)) (hn2 : y ≠ "__name__") (hd2 : (y == ("__debug__" : Str)) = false)
    (h : FE X E e f) (hs : noStar e = true) : FE X E (.Call (.Name x p) [e, .Name y q] [] pos) (sCall1 (isiD T) f) := by
  obtain ⟨ta, h1, q1⟩ := h
  subst hx
  refine .ofPE (pe_callB call_isi hg hm boot_isinstance (pa_cons h1 (pa_cons (pe_bltn (v := .ty T) hg2 hm2 hy rfl hn2 hd2) pa_nil rfl) (star_of hs)) (by decide) (by decide) (star_of hs) rfl) fun σ H ρ env ah Q re rh o => ?_
  refine q1 σ H ρ env ah _ re rh (o.bind.mono fun d ah1 H1 ρ1 x1 r1 o1 v hv => ?_)
  obtain ⟨T', ty, o2⟩ := tyName_of r1 hv (OutP.bind (show OutP _ _ _ _ _ ((tyName d >>= fun n => match kitB n T with | some b => ret (D.bl b) | none => bad) ah1) _ from o1))
  cases e9 : kitB T' T with
  | none => rw [e9] at o2; exact o2.elim
  | some b =>
    rw [e9] at o2
    exact ⟨v, .ty T, .type T', .type T, b, rfl, .ty T, ty, kit_ty e9, OutP.okI r1 o2 _ (.bl _)⟩
end
end Ev

set_option Elab.async false
set_option linter.all false
set_option maxRecDepth 100000
set_option maxHeartbeats 2000000
set_option autoImplicit false
namespace Ev
open PySem PySem.Spec PyProof.Rows PySem.W PySem.SeqAt
/-! ### sorting tuples of which some may be empty -/
section
variable {prog : Program} {w : World} {A : Around} {E : Value → Shared → Prop} {s : Shared}
theorem call_tup_lt {Q : Value → Shared → Prop} {l b : Addr} {xs ys : Array Value} {e r : Nat → Bool} (hl : s.heap.IsTuple l xs) (hb : s.heap.IsTuple b ys)
    (he : ∀ j (h1 : j < xs.size) (h2 : j < ys.size), EqAt A.in1 s xs[j] ys[j] (e j)) (hr : ∀ j (h1 : j < xs.size) (h2 : j < ys.size), e j = false → RcLt A.in1 s xs[j] ys[j] (r j))
    (q : Q (.bool (firstLt e r (decide (xs.size < ys.size)) (List.range (min xs.size ys.size)))) s) : wpAny (model prog w) A (call (.builtin "tuple.__lt__") [.ref l, .ref b]) Q E s := by
  obtain ⟨⟨c1, d1, t1, s1⟩, h1, k1, n, m1⟩ := id hl
  obtain ⟨⟨c2, d2, t2, s2⟩, h2, k2, n2, m2⟩ := id hb
  dsimp only at k1 m1 k2 m2
  subst k1 m1 k2 m2
  exact call_meets F.slot_tuple_lt ⟨_, h1, rfl⟩ F.entry_tuple_lt (F.args_tuple_lt_2 _ _) (tuple_ltAt l b xs ys n n2 d1 d2 s1 s2 e r) ⟨h1, h2, he, hr, q⟩
theorem oneLt_any {f : Bool} {da db : PyData} {a b : Value} {as bs : List Addr} {Q : Bool → Shared → Prop} (ra : Reads s.heap a da as) (rb : Reads s.heap b db bs) (h : alike da db = true) (hn : da ≠ .none)
    (hu : A.units + min da.depth db.depth < cLine) (q : Q (dataLt da db) s) : wpAny (model prog w) A (oneLt' f a b) Q E s := by
  by_cases ht : f = true → ∀ xs, da ≠ .tuple xs
  · exact oneLt_alike ht ra rb h hn hu q
  · have hf : f = true := Classical.byContradiction fun z => ht fun y => absurd y z
    obtain ⟨xs, rfl⟩ : ∃ xs, da = .tuple xs := Classical.byContradiction fun z => ht fun _ xs e => z ⟨xs, e⟩
    subst hf
    cases db with
    | tuple ys =>
      have hal : alikeAll xs ys = true := by simpa [alike] using h
      cases ra with
      | @tuple l o vs n _ as1 h1 h2 h3 h4 =>
        cases rb with
        | @tuple l2 o2 us n2 _ bs1 k1 k2 k3 k4 =>
          have z1 : vs.size = xs.length := by simpa using ReadsAll.length _ _ _ h4
          have z2 : us.size = ys.length := by simpa using ReadsAll.length _ _ _ k4
          rw [dataLt_tuple, ← firstLt_toks xs ys hal, ← z1, ← z2] at q
          rw [oneLt'_eq]
          simp only [if_true]
          refine wpAny_bind (wpAny_cRoomFor (room_here hu) ?_)
          refine wpAny_bind (wpAny_callSpecialIfBound?_slot (T := "tuple") ⟨_, h1, h2⟩ F.slot_tuple_lt (call_tup_lt (e := pairEq xs ys) (r := fun j => dataLt (xs.getD j .none) (ys.getD j .none)) ⟨_, h1, h2, _, h3⟩ ⟨_, k1, k2, _, k3⟩ (fun j j1 j2 => ?_) (fun j j1 j2 hj => ?_) (wpAny_truthy_bool q)))
          · have := eqAt_alikeAll xs ys A.in1 s vs.toList us.toList _ _ h4 k4 hal (room_in hu) j (by simpa using j1) (by simpa using j2)
            simpa using this
          · have := rcLt_alikeAll xs ys A.in1 s vs.toList us.toList _ _ h4 k4 hal (room_in hu) j (by simpa using j1) (by simpa using j2) hj
            simpa using this
    | _ => exact absurd h (by simp [alike])
def someT : PyData → Bool
  | .tuple (_ :: _) => true
  | _ => false
theorem reads_some {l : List Value} {xs : List PyData} {as : List Addr} (hr : ReadsAll s.heap l xs as) : l[0]?.isSome = someT (.tuple xs) := by
  cases hr with
  | nil => rfl
  | cons _ _ => rfl
theorem firsts_at {M : Model} : ∀ {vs : List Value} {ds : List PyData}, EachIs (fun v d => ∃ as, Reads s.heap v d as) vs ds → (∀ d ∈ ds, ∃ xs, d = .tuple xs) →
    ∃ fs : List (Option Value), EachIs (fun f d => f.isSome = someT d) fs ds ∧ ∀ {Q : List (Option Value) → Shared → Prop}, Q fs s → wpAny M A (vs.mapM firstOfTuple') Q E s
  | _, _, .nil, _ => ⟨[], .nil, fun q => by rw [List.mapM_nil]; exact wpAny_pure q⟩
  | _, _, .cons (b := d) ⟨as, r⟩ t, ht => by
    obtain ⟨fs, h1, h2⟩ := firsts_at t fun d hd => ht d (.tail _ hd)
    obtain ⟨xs, rfl⟩ := ht d (.head _)
    cases r with
    | @tuple a o vs n _ _ ho hc hd hr =>
      refine ⟨vs[0]? :: fs, .cons ?_ h1, fun {Q} q => ?_⟩
      · rw [← Array.getElem?_toList]
        exact reads_some hr
      · rw [List.mapM_cons]
        refine wpAny_bind ?_
        rw [kas_first_eq]
        refine wpAny_bind (Looks.here (show Looks M s.heap (typeOf (.ref a)) o.cls from (Looks.ld ho).andThen .now) ?_)
        rw [hc, if_neg (by first | decide | simp)]
        refine wpAny_bind (listItems_at ho hd (wpAny_pure ?_))
        exact wpAny_bind (h2 (Q := fun bs s1 => wpAny M A (pure (vs[0]? :: bs)) Q E s1) (wpAny_pure q))
theorem each_all {α β : Type} {R : α → β → Prop} {p : α → Bool} {q : β → Bool} (h : ∀ a b, R a b → p a = q b) : ∀ {as : List α} {bs : List β}, EachIs R as bs → as.all p = bs.all q
  | _, _, .nil => rfl
  | _, _, .cons r t => by rw [List.all_cons, List.all_cons, h _ _ r, each_all h t]
/-- tuples, alike, sort -/
theorem sortsAt_tups {vs : List Value} {ds : List PyData} (e : EachIs (fun v d => ∃ as, Reads s.heap v d as) vs ds) (hal : AllAlike ds) (ht : ∀ d ∈ ds, ∃ xs, d = .tuple xs) (hu : ∀ d, d ∈ ds → A.units + d.depth < cLine) : SortsAt prog w A s (dataKind s.heap ds) vs := by
  by_cases hne : ∀ d ∈ ds, ∃ x r, d = .tuple (x :: r)
  · exact .data e hal (.inl hne) hu
  · have one : ∀ f : Bool, ∀ {x y : Value} {a b : (dataKind s.heap ds).α} {E : Value → Shared → Prop} {Q : Bool → Shared → Prop}, (dataKind s.heap ds).keyOf x = some a → (dataKind s.heap ds).keyOf y = some b → Q ((dataKind s.heap ds).blt a b) s → wpAny (model prog w) A (oneLt' f x y) Q E s := by
      intro f x y a b E Q ha hb q
      obtain ⟨d, as, hd, ra, rfl⟩ := dataKind_inv ha
      obtain ⟨d', as', hd', rb, rfl⟩ := dataKind_inv hb
      obtain ⟨xs, rfl⟩ := ht d hd
      exact oneLt_any ra rb (hal _ hd _ hd') (fun z => nomatch z) (Nat.lt_of_le_of_lt (Nat.add_le_add_left (Nat.min_le_left _ _) _) (hu _ hd)) q
    obtain ⟨fs, f1, _⟩ := firsts_at (M := model prog w) (A := A) (E := fun _ _ => True) e ht
    have notall : fs.all (·.isSome) = false := by
      rw [each_all (p := Option.isSome) (q := someT) (fun a b h => h) f1]
      rw [← Bool.not_eq_true]
      intro z
      refine hne fun d hd => ?_
      have := List.all_eq_true.mp z d hd
      obtain ⟨xs, rfl⟩ := ht d hd
      cases xs with
      | nil => cases this
      | cons x r => exact ⟨x, r, rfl⟩
    refine ⟨fun v hv => let ⟨d, hd, as, r⟩ := e.left v hv; ⟨_, dataKind_some hal hd r⟩, ?_⟩
    refine ⟨if (ds[0]?.elim false someT) = true then general' else oneType', ?_, fun h2 E Q hq => ?_⟩
    · intro E x y a b Q ha hb q
      by_cases c : (ds[0]?.elim false someT) = true
      · rw [if_pos c]; show wpAny _ _ (oneLt' false x y) _ _ _; exact one false ha hb q
      · rw [if_neg c, keyLt'_oneType]; exact one true ha hb q
    · obtain ⟨gs, g1, g2⟩ := firsts_at (M := model prog w) (A := A) (E := E) e ht
      have ge : gs.all (·.isSome) = false := by
        rw [each_all (p := Option.isSome) (q := someT) (fun a b h => h) g1, ← each_all (p := Option.isSome) (q := someT) (fun a b h => h) f1]; exact notall
      rw [kat_kind_eq, List.mapM_toArray, map_eq_pure_bind]
      refine wpAny_bind (wpAny_bind (g2 (wpAny_pure ?_)))
      rw [if_neg (by simp only [List.all_toArray]; rw [ge]; decide)]
      have g0 : (gs.toArray[0]?.bind id).isSome = (ds[0]?.elim false someT) := by
        cases g1 with
        | nil => rfl
        | cons h _ => simpa using h
      by_cases c : (ds[0]?.elim false someT) = true
      · rw [if_pos c] at hq
        rw [if_pos (by rw [g0]; exact c)]
        exact wpAny_pure hq
      · rw [if_neg c] at hq
        rw [if_neg (by rw [g0]; exact c)]
        have hT : ∀ v ∈ vs, Looks (model prog w) s.heap (typeOf v) (.type "tuple") := fun v hv => by
          obtain ⟨d, hd, as, r⟩ := e.left v hv
          obtain ⟨xs, rfl⟩ := ht d hd
          exact looks_reads r
        rw [oneTypeOnly'_eq, List.mapM_toArray, map_eq_pure_bind]
        refine wpAny_bind (wpAny_bind (wpAny_bind (kas_mapM (r := Value.type "tuple") _ (fun v hv Q' z => (hT v hv).here z) (wpAny_pure ?_))))
        match vs, h2 with
        | v1 :: v2 :: rest, _ =>
          have al : ((List.map (fun _ => Value.type "tuple") (v1 :: v2 :: rest)).toArray.all fun x => x == Value.type "tuple") = true := by
            simp only [List.all_toArray, List.all_map, List.all_eq_true]
            intro _ _
            exact beq_self_eq_true _
          have h0 : (List.map (fun _ => Value.type "tuple") (v1 :: v2 :: rest)).toArray[0]? = some (Value.type "tuple") := by simp
          rw [h0]
          simp only [al, if_true]
          exact wpAny_pure (wpAny_pure hq)
/-- what can be sorted: alike, no None -/
theorem sortsAt_any {vs : List Value} {ds : List PyData} (e : EachIs (fun v d => ∃ as, Reads s.heap v d as) vs ds) (hal : AllAlike ds) (hn : ∀ d ∈ ds, d ≠ .none) (hu : ∀ d, d ∈ ds → A.units + d.depth < cLine) : SortsAt prog w A s (dataKind s.heap ds) vs := by
  by_cases ht : ∀ d ∈ ds, ∃ xs, d = .tuple xs
  · exact sortsAt_tups e hal ht hu
  · refine .data e hal (.inr fun d hd => ⟨hn d hd, fun xs z => ht fun d' hd' => ?_⟩) hu
    subst z
    have := hal _ hd d' hd'
    cases d' with
    | tuple ys => exact ⟨ys, rfl⟩
    | _ => simp [alike] at this
theorem sorted_any {β : Type} {vs : List Value} {bs : List β} {enc : β → PyData} {R : Value → β → Prop} {l : Addr} {Q : Value → Shared → Prop} (hl : s.heap.IsList l vs.toArray) (e : EachIs R vs bs) (er : EachIs (fun v b => ∃ as, Reads s.heap v (enc b) as) vs bs) (hal : AllAlike (bs.map enc)) (hn : ∀ b ∈ bs, enc b ≠ .none) (hL : bs.length ≤ sizeLine)
    (hu : ∀ b, b ∈ bs → A.units + 2 + (enc b).depth < cLine) (q : ∀ out, out.length = bs.length → EachIs R out (bs.mergeSort (dataLe false enc)) → Q (.ref (s.heap.objs.size + 1)) { s with heap := sortedAll s.heap vs (List.toArray out) }) :
    wpAny (model prog w) A (call (.builtin "sorted") [.ref l]) Q E s := by
  have er2 : EachIs (fun v b => ∃ as, Reads (sortingHeap (copyHeap s.heap vs) (s.heap.objs.size + 1) vs) v (enc b) as) vs bs := er.mono fun _ _ ⟨as, r⟩ => ⟨as, PyProof.Rows.Reads.keeps (fun _ _ => sorting_copy_old) r⟩
  exact sorted_vals hl (sortsAt_any (s := { s with heap := sortingHeap (copyHeap s.heap vs) (s.heap.objs.size + 1) vs }) (each_map (R := fun v d => ∃ as, Reads (sortingHeap (copyHeap s.heap vs) (s.heap.objs.size + 1) vs) v d as) enc er2) hal (fun d hd => by obtain ⟨b, hb, rfl⟩ := List.mem_map.mp hd; exact hn b hb) (bound_map hu)) (by rw [e.length]; exact hL)
    (q _ (by rw [sortVals_length false rfl]; exact e.length) (sortVals_data false e er2 hal))
end
end Ev

set_option Elab.async false
set_option linter.all false
set_option maxRecDepth 100000
set_option maxHeartbeats 2000000
set_option autoImplicit false
namespace Ev
open PySem PySem.Spec PyProof.Rows L2
/-! ### sorted -/
mutual
def D.pd : D → PyData
  | .non => .none
  | .bl b => .bool b
  | .int i => .int i
  | .str x => .str x
  | .tup ds => .tuple (pds ds)
  | .ref _ => .none
def pds : List D → List PyData
  | [] => []
  | d :: ds => d.pd :: pds ds
end
mutual
/-- no cell within -/
def D.pure : D → Bool
  | .tup ds => pures ds
  | .ref _ => false
  | _ => true
def pures : List D → Bool
  | [] => true
  | d :: ds => d.pure && pures ds
end
section
variable {X : Cx} {E : XK} {pins : List (Addr × Obj)} {σ : L2.St} {H : Hp} {s : Shared} {ρ : List Addr}
mutual
theorem DV.reads (I : Inv X pins σ H s) : ∀ (d : D) (v : V) (u : Value), DV X.K H ρ d v → RelV v u → d.pure = true → ∃ as, Reads s.heap u d.pd as
  | .non, _, _, h, r, e => by cases h; cases r; exact ⟨_, .none⟩
  | .bl b, _, _, h, r, e => by cases h; cases r; exact ⟨_, .bool _⟩
  | .int i, _, _, h, r, e => by cases h; obtain ⟨t, rfl⟩ := r; exact ⟨_, .int _ _⟩
  | .str x, _, _, h, r, e => by cases h; obtain ⟨t, rfl⟩ := r; exact ⟨_, .str _ _⟩
  | .tup ds, _, _, h, r, e => by
    obtain ⟨a, vs, rfl, h1, h2⟩ := h.tup'
    cases r
    obtain ⟨its, rv, ⟨o, ho, hc, n, hd⟩, _⟩ := I.tuple h1
    obtain ⟨as, q⟩ := DVs.reads I ds vs its h2 rv (by simpa [D.pure] using e)
    exact ⟨_, .tuple ho hc hd q⟩
  | .ref _, _, _, _, _, e => by cases e
theorem DVs.reads (I : Inv X pins σ H s) : ∀ (ds : List D) (vs : List V) (us : List Value), DVs X.K H ρ ds vs → Vals vs us → pures ds = true → ∃ as, ReadsAll s.heap us (pds ds) as
  | [], _, _, h, r, e => by cases h; cases r; exact ⟨_, .nil⟩
  | d :: ds, _, _, h, r, e => by
    cases h with
    | cons h1 h2 =>
      cases r with
      | cons r1 r2 =>
        simp only [pures, Bool.and_eq_true] at e
        obtain ⟨as, q1⟩ := DV.reads I d _ _ h1 r1 e.1
        obtain ⟨bs, q2⟩ := DVs.reads I ds _ _ h2 r2 e.2
        exact ⟨_, .cons q1 q2⟩
end
/-- these can be sorted -/
structure SortOk (ds : List D) : Prop where
  pure : ∀ d ∈ ds, d.pure = true
  alike : PySem.W.AllAlike (ds.map D.pd)
  some : ∀ d ∈ ds, d ≠ .non
  depth : ∀ d ∈ ds, d.pd.depth ≤ 40
def sortD (ds : List D) : List D := ds.mergeSort (PySem.W.dataLe false D.pd)
noncomputable def sortL (ds : List D) : M (List D) := open Classical in if SortOk ds then ret (sortD ds) else bad
def rSortD (K : PySem.W.Frag) : List V → Hp → VK → Prop := fun xs H Q => ∃ ρ a ds vs, xs = [.ref a] ∧ DVs K H ρ ds vs ∧ SqL K H a vs ∧ SortOk ds ∧ ∀ ws p, DVs K H ρ (sortD ds) ws → H p = none → Q (.ref p) (upd H p (.lst ws))
/-- v stands for d -/
def StandsFor (K : PySem.W.Frag) (H : Hp) (ρ : List Addr) (u : Value) (d : D) : Prop := ∃ v, RelV v u ∧ DV K H ρ d v
theorem stands_of {K : PySem.W.Frag} : ∀ {ds : List D} {vs : List V} {us : List Value}, DVs K H ρ ds vs → Vals vs us → PySem.W.EachIs (StandsFor K H ρ) us ds
  | [], _, _, h, r => by cases h; cases r; exact .nil
  | d :: ds, _, _, h, r => by
    cases h with
    | cons h1 h2 =>
      cases r with
      | cons r1 r2 => exact .cons ⟨_, r1, h1⟩ (stands_of h2 r2)
theorem of_stands {K : PySem.W.Frag} : ∀ {ds : List D} {us : List Value}, PySem.W.EachIs (StandsFor K H ρ) us ds → ∃ vs, DVs K H ρ ds vs ∧ Vals vs us
  | _, _, .nil => ⟨[], .nil, .nil⟩
  | _, _, .cons ⟨v, r, h⟩ t => by
    obtain ⟨vs, h2, r2⟩ := of_stands t
    exact ⟨v :: vs, .cons h h2, .cons r r2⟩
theorem pd_some {d : D} (h : d.pure = true) (hn : d ≠ .non) : d.pd ≠ .none := by
  cases d with
  | non => exact absurd rfl hn
  | ref _ => cases h
  | _ => exact fun z => nomatch z
theorem cr_sortD (hu : X.A.units + 64 < cLine) : CallR X (.builtin "sorted") (rSortD X.K) := by
  rintro pins s σ H xs us Q I r ⟨ρ, a, ds, vs, rfl, hv, hs, ok, q⟩
  obtain ⟨u, rfl, rfl⟩ := vals1 r
  obtain ⟨its, rv, hl, hz⟩ := I.list hs
  have e1 := stands_of (K := X.K) hv rv
  have e2 : PySem.W.EachIs (fun u d => ∃ as, Reads s.heap u d.pd as) its ds :=
    (PySem.W.each_mem e1).mono fun u d ⟨⟨v, r1, h1⟩, hd⟩ => DV.reads I d v u h1 r1 (ok.pure d hd)
  refine sorted_any hl.isList e1 e2 ok.alike (fun d hd => pd_some (ok.pure d hd) (ok.some d hd)) (by rw [hv.length]; exact hz) (fun d hd => by have := ok.depth d hd; omega) fun out ho eo => ?_
  obtain ⟨ws, hw, rw'⟩ := of_stands eo
  obtain ⟨ep, he'⟩ := PyProof.Rows.sortedAll_at s.heap its out.toArray
  have hn : H (s.heap.objs.size + 1) = none := I.hok.fresh (Nat.le_succ _)
  have hlen : ws.length ≤ sizeLine := by rw [rw'.length, ho, hv.length]; exact hz
  exact ⟨.ref _, upd H (s.heap.objs.size + 1) (.lst ws), I.laid (t' := s.toks) (fun _ _ => PyProof.Rows.sortedAll_old) (Nat.le_succ _) ⟨hlen, out, ep, rw', he'⟩, rfl, q ws _ hw hn⟩
theorem DVs.perm {K : PySem.W.Frag} {ds es : List D} (p : ds.Perm es) : ∀ {vs : List V}, DVs K H ρ ds vs → ∃ ws, DVs K H ρ es ws := by
  intro vs h
  have : ∀ e ∈ es, ∃ w, DV K H ρ e w := fun e he => by
    obtain ⟨i, hi, q⟩ := List.mem_iff_getElem.mp (p.mem_iff.mpr he)
    obtain ⟨v, _, hv⟩ := h.get (i := i) (d := e) (by rw [List.getElem?_eq_getElem hi, q])
    exact ⟨v, hv⟩
  clear p h
  induction es with
  | nil => exact ⟨[], .nil⟩
  | cons e es ih =>
    obtain ⟨w, hw⟩ := this e (.head _)
    obtain ⟨ws, hws⟩ := ih fun x hx => this x (.tail _ hx)
    exact ⟨w :: ws, .cons hw hws⟩
/-- of a list -/
def CallNW (X : Cx) (E : XK) (r : List V → Hp → VK → Prop) (g : List D → M (List D)) : Prop := ∀ H ρ ah ds a vs Q, RelH X.K H ρ ah → DVs X.K H ρ ds vs → ds.length ≤ sizeLine → SqL X.K H a vs →
  OutP X.mg X.K E ρ H (g ds ah) (fun es _ H' ρ' => ∀ b vs, H' b = some (.lst vs) → b ∉ ρ' → H b = none → DVs X.K H' ρ' es vs → es.length ≤ sizeLine → Q (.ref b) H') → r [.ref a] H Q
def sCallNW (g : List D → M (List D)) (f : EnvD → M (List D)) : EnvD → M (List D) := fun env => do
  let ds ← f env
  g ds
theorem fn_callBW {x : Str} {id : String} {r : List V → Hp → VK → Prop} {g : List D → M (List D)} {e : Expr} {f : EnvD → M (List D)} {p pos : Pos} (hc : CallR X (.builtin id) r) (hr : CallNW X E r g) (hg : Gl X x) (hm : X.mg x = none) (hv : bootBuiltins x = some (.builtin id)) (hn : x ≠ "__name__") (hdb : (x == ("__debug__" : Str)) = false)
    (h : FN X E e f) (hs : noStar e = true) : FN X E (.Call (.Name x p) [e] [] pos) (sCallNW g f) := by
  obtain ⟨ta, h1, q1⟩ := h
  refine ⟨_, pe_callB hc hg hm hv (pa_cons h1 pa_nil (star_of hs)) hn hdb (star_of hs) rfl, fun σ H ρ env ah Q re rh o => ?_⟩
  refine q1 σ H ρ env ah _ re rh (o.bind.mono fun d ah1 H1 ρ1 x1 r1 o1 a vs ha hn0 h0 hv hz => ?_)
  exact hr H1 ρ1 ah1 d a vs Q r1 hv hz (.inl (.inl ha)) (o1.mono fun es ah2 H2 ρ2 x2 r2 q b vs hb hn h0 hv hz => q b vs hb hn (x1.none r1 h0) hv hz)
theorem cn_sort : CallNW X E (rSortD X.K) sortL := by
  intro H ρ ah ds a vs Q rh hv hz hs o
  unfold sortL at o
  by_cases h : SortOk ds
  · rw [if_pos h] at o
    refine ⟨ρ, a, ds, vs, rfl, hv, hs, h, fun ws p hw hp => ?_⟩
    exact (show OutP X.mg X.K E ρ H (.ok (sortD ds) ah) _ from o) _ _ (Ext.upd hp) (rh.upd hp) p ws upd_same (rh.fresh hp) hp (hw.upd hp) (by unfold sortD; rw [List.length_mergeSort]; exact hz)
  · rw [if_neg h] at o; exact o.elim
/-- .. of a list that is a value -/
def listValN (g : List D → M (List D)) (f : EnvD → M D) : EnvD → M (List D) := fun env => do
  match ← f env with
  | .ref n => do
    let (ds, _) ← itemsM (.ref n)
    g ds
  | _ => bad
theorem fn_callBV {x : Str} {id : String} {r : List V → Hp → VK → Prop} {g : List D → M (List D)} {e : Expr} {f : EnvD → M D} {p pos : Pos} (hc : CallR X (.builtin id) r) (hr : CallNW X E r g) (hg : Gl X x) (hm : X.mg x = none) (hv : bootBuiltins x = some (.builtin id)) (hn : x ≠ "__name__") (hdb : (x == ("__debug__" : Str)) = false)
    (h : FE X E e f) (hs : noStar e = true) : FN X E (.Call (.Name x p) [e] [] pos) (listValN g f) := by
  obtain ⟨ta, h1, q1⟩ := h
  refine ⟨_, pe_callB hc hg hm hv (pa_cons h1 pa_nil (star_of hs)) hn hdb (star_of hs) rfl, fun σ H ρ env ah Q re rh o => ?_⟩
  refine q1 σ H ρ env ah _ re rh (o.bind.mono fun d ah1 H1 ρ1 x1 r1 o1 v hv => ?_)
  cases d with
  | ref n =>
    obtain ⟨ds, src, a, rfl, hs2, ei, o2⟩ := items_src r1 hv (OutP.bind (show OutP _ _ _ _ _ ((itemsM (.ref n) >>= fun p => g p.1) ah1) _ from o1))
    obtain ⟨hz2, vs, hvs, hq⟩ := hs2
    cases src with
    | none =>
      unfold itemsM at ei
      cases e9 : ah1[n]? with
      | none => simp [e9] at ei
      | some c => cases c <;> simp [e9] at ei
    | some m => exact hr H1 ρ1 ah1 ds a vs Q r1 hvs hz2 hq.2 (o2.mono fun es ah2 H2 ρ2 x2 r2 q b vs hb hn h0 hv hz => q b vs hb hn (x1.none r1 h0) hv hz)
  | _ => exact (show False from o1).elim
end

/-! ### the order -/
mutual
theorem eqv_same : ∀ (a b : D), PySem.W.alike a.pd b.pd = true → PyData.eqv a.pd b.pd = true → a.pure = true → b.pure = true → a = b
  | .non, b, h, e, _, q => by cases b <;> first | rfl | (cases q; done) | (simp [D.pd, PySem.W.alike] at h; done)
  | .bl x, b, h, e, _, q => by
    cases b with
    | bl y => simp [D.pd, PyData.eqv] at e; rw [e]
    | ref _ => cases q
    | _ => simp [D.pd, PySem.W.alike] at h
  | .int x, b, h, e, _, q => by
    cases b with
    | int y => simp [D.pd, PyData.eqv] at e; rw [e]
    | ref _ => cases q
    | _ => simp [D.pd, PySem.W.alike] at h
  | .str x, b, h, e, _, q => by
    cases b with
    | str y => simp [D.pd, PyData.eqv] at e; rw [e]
    | ref _ => cases q
    | _ => simp [D.pd, PySem.W.alike] at h
  | .ref _, _, _, _, p, _ => by cases p
  | .tup xs, b, h, e, p, q => by
    cases b with
    | tup ys =>
      simp only [D.pd, PySem.W.alike, PyData.eqv, D.pure] at h e p q
      rw [eqvs_same xs ys h e p q]
    | ref _ => cases q
    | _ => simp [D.pd, PySem.W.alike] at h
theorem eqvs_same : ∀ (as bs : List D), PySem.W.alikeAll (pds as) (pds bs) = true → PyData.eqvAll (pds as) (pds bs) = true → pures as = true → pures bs = true → as = bs
  | [], [], _, _, _, _ => rfl
  | [], _ :: _, _, e, _, _ => by simp [pds, PyData.eqvAll] at e
  | _ :: _, [], _, e, _, _ => by simp [pds, PyData.eqvAll] at e
  | a :: as, b :: bs, h, e, p, q => by
    simp only [pds, PySem.W.alikeAll, PyData.eqvAll, pures, Bool.and_eq_true] at h e p q
    rw [eqv_same a b h.1 e.1 p.1 q.1, eqvs_same as bs h.2 e.2 p.2 q.2]
end
theorem toks_same {a b : D} (h : PySem.W.alike a.pd b.pd = true) (p : a.pure = true) (q : b.pure = true) (e : PySem.W.keyToks a.pd = PySem.W.keyToks b.pd) : a = b := by
  cases hv : PyData.eqv a.pd b.pd with
  | true => exact eqv_same a b h hv p q
  | false =>
    have := (PySem.W.toks_eqv a.pd b.pd h).2 hv [] [Sum.inl 0]
    rw [← e, PySem.W.lex_pre] at this
    have h2 := PySem.W.lex_pre (PySem.W.keyToks a.pd) [] []
    rw [List.append_nil] at h2
    rw [h2] at this
    exact absurd this (by decide)
abbrev leS (a b : D) : Bool := PySem.W.dataLe false D.pd a b
theorem leS_total : ∀ a b, (leS a b || leS b a) = true := fun a b => by
  rw [Bool.or_eq_true]; exact (PySem.W.sortLe_total (PyProof.Rows.listOrd PyProof.Rows.itemOrd) false fun b : D => PySem.W.keyToks b.pd).total a b
theorem leS_trans : ∀ a b c, leS a b = true → leS b c = true → leS a c = true := (PySem.W.sortLe_total (PyProof.Rows.listOrd PyProof.Rows.itemOrd) false fun b : D => PySem.W.keyToks b.pd).trans
theorem leS_antisymm {a b : D} (h : PySem.W.alike a.pd b.pd = true) (p : a.pure = true) (q : b.pure = true) (h1 : leS a b = true) (h2 : leS b a = true) : a = b := by
  refine toks_same h p q ((PyProof.Rows.listOrd PyProof.Rows.itemOrd).total _ _ ?_ ?_)
  · have : (!(PyProof.Rows.listOrd PyProof.Rows.itemOrd).blt (PySem.W.keyToks a.pd) (PySem.W.keyToks b.pd)) = true := h2
    simpa using this
  · have : (!(PyProof.Rows.listOrd PyProof.Rows.itemOrd).blt (PySem.W.keyToks b.pd) (PySem.W.keyToks a.pd)) = true := h1
    simpa using this
theorem sortD_perm (ds : List D) : (sortD ds).Perm ds := List.mergeSort_perm _ _
theorem sortD_sorted (ds : List D) : (sortD ds).Pairwise fun a b => leS a b = true := List.pairwise_mergeSort leS_trans leS_total ds
theorem sorted_unique {ds es : List D} (p : ds.Perm es) (h1 : ds.Pairwise fun a b => leS a b = true) (h2 : es.Pairwise fun a b => leS a b = true) (al : ∀ d ∈ ds, ∀ e ∈ ds, PySem.W.alike d.pd e.pd = true) (pu : ∀ d ∈ ds, d.pure = true) : ds = es :=
  List.Perm.eq_of_pairwise (le := fun a b => leS a b = true) (fun a b ha hb z1 z2 => leS_antisymm (al a ha b (p.mem_iff.mpr hb)) (pu a ha) (pu b (p.mem_iff.mpr hb)) z1 z2) h1 h2 p
theorem sortD_congr {ds es : List D} (p : ds.Perm es) (al : ∀ d ∈ ds, ∀ e ∈ ds, PySem.W.alike d.pd e.pd = true) (pu : ∀ d ∈ ds, d.pure = true) : sortD ds = sortD es :=
  sorted_unique ((sortD_perm ds).trans (p.trans (sortD_perm es).symm)) (sortD_sorted ds) (sortD_sorted es) (fun d hd e he => al d ((sortD_perm ds).mem_iff.mp hd) e ((sortD_perm ds).mem_iff.mp he)) fun d hd => pu d ((sortD_perm ds).mem_iff.mp hd)
theorem SortOk.al {ds : List D} (h : SortOk ds) : ∀ d ∈ ds, ∀ e ∈ ds, PySem.W.alike d.pd e.pd = true := fun d hd e he => h.alike _ (List.mem_map.mpr ⟨d, hd, rfl⟩) _ (List.mem_map.mpr ⟨e, he, rfl⟩)
end Ev

set_option Elab.async false
set_option linter.all false
set_option maxRecDepth 100000
set_option maxHeartbeats 2000000
set_option autoImplicit false
namespace Ev
open PySem PySem.Spec PyProof.Rows L2
/-! ### one reading for an answer, whatever the context -/
section
variable (K : PySem.W.Frag) (mg : Str → Option Value) (E : XK)
def tE (f : EnvD → M D) : TE := fun σ H Q => ∃ ρ env ah, EnvR K H ρ env σ ∧ RelH K H ρ ah ∧ OutP mg K E ρ H (f env ah) (fun d _ H' ρ' => ∀ v, DV K H' ρ' d v → Q v H')
def tT (f : EnvD → M Bool) : TT := fun σ H Q => ∃ ρ env ah, EnvR K H ρ env σ ∧ RelH K H ρ ah ∧ OutP mg K E ρ H (f env ah) (fun b _ H' _ => Q b H')
def tG (is : List Nat) (f : D → EnvD → M EnvD) : TG := fun v σ H Q => ∃ ρ d env ah, EnvR K H ρ env σ ∧ RelH K H ρ ah ∧ DV K H ρ d v ∧ OutP mg K E ρ H (f d env ah) (fun env' _ H' ρ' => ∀ σ', EnvR K H' ρ' env' σ' → Agree is σ σ' → Q σ' H')
end
section
variable {X : Cx} {E : XK}
theorem FE.pe {e : Expr} {f : EnvD → M D} (h : FE X E e f) : PE X e (tE X.K X.mg E f) := by
  obtain ⟨t, h1, q⟩ := h
  exact ⟨fun pins s σ H Q I ⟨ρ, env, ah, a, b, c⟩ => h1.run pins s σ H Q I (q σ H ρ env ah Q a b c)⟩
theorem FT.pt {e : Expr} {f : EnvD → M Bool} (h : FT X E e f) : PT X e (tT X.K X.mg E f) := by
  obtain ⟨t, h1, q⟩ := h
  exact ⟨fun pins s σ H Q I ⟨ρ, env, ah, a, b, c⟩ => h1.run pins s σ H Q I (q σ H ρ env ah Q a b c)⟩
theorem FG.pg {e : Expr} {is : List Nat} {f : D → EnvD → M EnvD} (h : FG X E e is f) : PG X e (tG X.K X.mg E is f) := by
  obtain ⟨t, h1, q⟩ := h
  exact ⟨fun pins s σ H v u Q I r ⟨ρ, d, env, ah, a, b, c, o⟩ => h1.run pins s σ H v u Q I r (q v σ H ρ d env ah Q a b c o)⟩

/-! ### what is walked -/
theorem PI.or {tg e : Expr} {w1 w2 : TI} (h1 : PI X tg e w1) (h2 : PI X tg e w2) : PI X tg e (fun σ H R => w1 σ H R ∨ w2 σ H R) :=
  ⟨fun pins s σ H R I h => h.elim (fun q => h1.run pins s σ H R I q) fun q => h2.run pins s σ H R I q⟩
theorem yld_list {K : PySem.W.Frag} {H0 : Hp} {ρ0 : List Addr} {a : Addr} {ds : List D} {gd : AH → Prop} (hz : ds.length ≤ sizeLine)
    (h : ∀ H ρ ah, Ext ρ0 H0 ρ H → RelH K H ρ ah → gd ah → ∃ vs, SqL K H a vs ∧ DVs K H ρ ds vs) : Yields K (Itl K a) ds gd ρ0 H0 := by
  refine ⟨hz, fun i H ρ ah x r g => ?_⟩
  obtain ⟨vs, h1, h2⟩ := h H ρ ah x r g
  refine ⟨fun d e => ?_, fun e => ⟨vs, h1, by rw [← h2.length]; exact e⟩⟩
  obtain ⟨v, e2, hv⟩ := h2.get e
  refine ⟨⟨vs, v, h1, e2⟩, fun y H' ⟨q1, q2⟩ => ?_⟩
  subst q1
  have q3 := q2 vs h1
  rw [e2] at q3; cases q3
  exact ⟨.refl, r, hv⟩
theorem yld_tup {K : PySem.W.Frag} {H0 : Hp} {ρ0 : List Addr} {a : Addr} {ds : List D} {gd : AH → Prop} (hz : ds.length ≤ sizeLine)
    (h : ∀ H ρ ah, Ext ρ0 H0 ρ H → RelH K H ρ ah → ∃ vs, SqT K H a vs ∧ DVs K H ρ ds vs) : Yields K (Itt K a) ds gd ρ0 H0 := by
  refine ⟨hz, fun i H ρ ah x r g => ?_⟩
  obtain ⟨vs, h1, h2⟩ := h H ρ ah x r
  refine ⟨fun d e => ?_, fun e => ⟨vs, h1, by rw [← h2.length]; exact e⟩⟩
  obtain ⟨v, e2, hv⟩ := h2.get e
  refine ⟨⟨vs, v, h1, e2⟩, fun y H' ⟨q1, q2⟩ => ?_⟩
  subst q1
  have q3 := q2 vs h1
  rw [e2] at q3; cases q3
  exact ⟨.refl, r, hv⟩
def chars (z : Str) : List D := z.cps.toList.map fun c => D.str ⟨#[c]⟩
theorem yld_str {K : PySem.W.Frag} {H0 : Hp} {ρ0 : List Addr} {z : Str} {gd : AH → Prop} (hz : z.length ≤ sizeLine) : Yields K (Its z) (chars z) gd ρ0 H0 := by
  have hl : (chars z).length = z.cps.size := by unfold chars; simp
  refine ⟨by rw [hl]; exact hz, fun i H ρ ah x r g => ⟨fun d e => ?_, fun e => by rw [hl] at e; exact e⟩⟩
  have hi : i < z.cps.size := by rw [← hl]; exact (List.getElem?_eq_some_iff.mp e).1
  refine ⟨hi, fun y H' ⟨q1, c, q2, q3⟩ => ?_⟩
  subst q1 q3
  refine ⟨.refl, r, ?_⟩
  unfold chars at e
  rw [List.getElem?_map, Array.getElem?_toList, q2] at e
  cases e
  exact .str _
/-- a value that is walked -/
def walkM (d : D) : M (List D × (AH → Prop)) := match d with
  | .str z => if z.length ≤ sizeLine then ret (chars z, fun _ => True) else bad
  | d => do
    let (ds, src) ← itemsM d
    ret (ds, keeps src ds)
def sWalk (f : EnvD → M D) : EnvD → M (List D × (AH → Prop)) := fun env => do
  let d ← f env
  walkM d
theorem fi_val {tg e : Expr} {f : EnvD → M D} (h : FE X E e f) : FI X E tg e (sWalk f) := by
  obtain ⟨t, h1, q1⟩ := h
  refine ⟨_, PI.or (PI.or (pi_list h1) (pi_tup h1)) (pi_str h1), fun σ H ρ env ah R re r o => ?_⟩
  have ob := o.bind
  -- the answer says which
  cases e0 : f env ah with
  | bad => rw [e0] at ob; exact ob.elim
  | exc y ah1 =>
    refine .inl (.inl (q1 σ H ρ env ah _ re r ?_))
    rw [e0] at ob ⊢; exact ob
  | ok d ah1 =>
    rw [e0] at ob
    cases d with
    | str z =>
      refine .inr (q1 σ H ρ env ah _ re r ?_)
      rw [e0]
      refine fun H1 ρ1 x1 r1 v hv => ?_
      cases hv
      obtain ⟨hz, o2⟩ := ifB (show OutP _ _ _ _ _ ((if z.length ≤ sizeLine then ret (chars z, fun _ : AH => True) else bad) ah1) _ from ob H1 ρ1 x1 r1)
      exact ⟨z, rfl, OutP.okI r1 o2 _ (yld_str hz)⟩
    | tup ds =>
      refine .inl (.inr (q1 σ H ρ env ah _ re r ?_))
      rw [e0]
      refine fun H1 ρ1 x1 r1 v hv => ?_
      have hz := hv.tupLen
      obtain ⟨a, vs, rfl, s1, t1⟩ := hv.tup'
      refine ⟨a, rfl, ⟨vs, s1⟩, OutP.okI r1 (show OutP _ _ _ _ _ (Out.ok (ds, keeps none ds) ah1) _ from ob H1 ρ1 x1 r1) _ (yld_tup hz fun H2 ρ2 ah2 x2 r2 => ⟨vs, r1.sqT x2 s1, t1.ext r1 x2⟩)⟩
    | ref n =>
      refine .inl (.inl (q1 σ H ρ env ah _ re r ?_))
      rw [e0]
      refine fun H1 ρ1 x1 r1 v hv => ?_
      have o2 := ob H1 ρ1 x1 r1
      obtain ⟨a, rfl, s1⟩ := hv.ref'
      obtain ⟨ds, src, a', ea, hs, ei, o3⟩ := items_src r1 (.ref s1) (OutP.bind (show OutP _ _ _ _ _ ((itemsM (.ref n) >>= fun p => ret (p.1, keeps p.2 p.1)) ah1) _ from o2))
      cases ea
      have hsrc : src = some n := by
        unfold itemsM at ei
        cases e9 : ah1[n]? with
        | none => simp [e9] at ei
        | some c => cases c <;> simp [e9] at ei <;> exact ei.2.symm
      subst hsrc
      obtain ⟨hz, vs, t1, _, hl⟩ := hs
      refine ⟨a, rfl, ⟨vs, hl⟩, OutP.okI r1 o3 _ (yld_list hz fun H2 ρ2 ah2 x2 r2 g => ?_)⟩
      obtain ⟨_, ws, w1, w2, w3⟩ := SrcOk.cell r2 (x2.get s1) g
      exact ⟨ws, w3, w1⟩
    | _ =>
      refine .inl (.inl (q1 σ H ρ env ah _ re r ?_))
      rw [e0]
      exact fun H1 ρ1 x1 r1 v hv => (show False from ob H1 ρ1 x1 r1).elim
/-- a new list that is walked -/
def sWalkN (f : EnvD → M (List D)) : EnvD → M (List D × (AH → Prop)) := fun env => do
  let ds ← f env
  pure (ds, fun _ => True)
theorem fi_new {tg e : Expr} {f : EnvD → M (List D)} (h : FN X E e f) : FI X E tg e (sWalkN f) := by
  obtain ⟨t, h1, q1⟩ := h
  refine ⟨_, pi_list h1, fun σ H ρ env ah R re r o => ?_⟩
  refine q1 σ H ρ env ah _ re r (o.bind.mono fun ds ah1 H1 ρ1 x1 r1 o1 a vs ha hn hn0 hv hz => ?_)
  refine ⟨a, rfl, ⟨vs, .inl (.inl ha)⟩, OutP.okI r1 o1 _ (yld_list hz fun H2 ρ2 ah2 x2 r2 _ => ⟨vs, .inl (.inl (x2.keep _ _ ha hn)), hv.ext r1 x2⟩)⟩
/-- range -/
def rangeD (lo : Int) (n : Nat) : List D := (List.range n).map fun i => D.int (lo + (i : Nat))
theorem yld_range {K : PySem.W.Frag} {H0 : Hp} {ρ0 : List Addr} {lo : Int} {n : Nat} {gd : AH → Prop} (hz : n ≤ sizeLine) : Yields K (Itr lo n) (rangeD lo n) gd ρ0 H0 := by
  have hl : (rangeD lo n).length = n := by unfold rangeD; simp
  refine ⟨by rw [hl]; exact hz, fun i H ρ ah x r g => ⟨fun d e => ?_, fun e => by rw [hl] at e; exact e⟩⟩
  have hi : i < n := by rw [← hl]; exact (List.getElem?_eq_some_iff.mp e).1
  refine ⟨hi, fun y H' ⟨q1, q2⟩ => ?_⟩
  subst q1 q2
  refine ⟨.refl, r, ?_⟩
  unfold rangeD at e
  rw [List.getElem?_map, List.getElem?_range hi] at e
  cases e
  exact .int _
def sRange1 (f : EnvD → M D) : EnvD → M (List D × (AH → Prop)) := fun env => do
  match ← f env with
  | .int j => if j ≤ sizeLine ∧ -(2 ^ 62) ≤ j then pure (rangeD 0 j.toNat, fun _ => True) else bad
  | _ => bad
theorem fi_range1 {tg a : Expr} {f : EnvD → M D} {x : Str} {p pos : Pos} (hx : x = "range") (hg : Gl X x) (hm : X.mg x = none) (h : FE X E a f) (hs : noStar a = true) : FI X E tg (.Call (.Name x p) [a] [] pos) (sRange1 f) := by
  subst hx
  obtain ⟨t, h1, q1⟩ := h
  refine ⟨_, pi_range1 hg hm (pa_cons h1 pa_nil (star_of hs)) (star_of hs), fun σ H ρ env ah R re r o => ?_⟩
  refine q1 σ H ρ env ah _ re r (o.bind.mono fun d ah1 H1 ρ1 x1 r1 o1 v hv => ?_)
  cases d with
  | int j =>
    cases hv
    obtain ⟨hz, o2⟩ := ifB (show OutP _ _ _ _ _ ((if j ≤ sizeLine ∧ -(2 ^ 62) ≤ j then pure (rangeD 0 j.toNat, fun _ : AH => True) else bad) ah1) _ from o1)
    have hs : (sizeLine : Nat) = 16777216 := sizeLine_eq
    exact ⟨j, rfl, hz.2, by have := hz.1; omega, OutP.okI r1 o2 _ (yld_range (by omega))⟩
  | _ => exact (show False from o1).elim
def sRange2 (f g : EnvD → M D) : EnvD → M (List D × (AH → Prop)) := fun env => do
  let x ← f env
  let y ← g env
  match x, y with
  | .int i, .int j => if -(2 ^ 62) ≤ i ∧ i < 2 ^ 62 ∧ -(2 ^ 62) ≤ j ∧ j < 2 ^ 62 ∧ (j - i).toNat ≤ sizeLine then pure (rangeD i (j - i).toNat, fun _ => True) else bad
  | _, _ => bad
theorem fi_range2 {tg a b : Expr} {f g : EnvD → M D} {x : Str} {p pos : Pos} (hx : x = "range") (hg : Gl X x) (hm : X.mg x = none) (h : FE X E a f) (h' : FE X E b g) (hs : noStar a = true) (hs' : noStar b = true) : FI X E tg (.Call (.Name x p) [a, b] [] pos) (sRange2 f g) := by
  subst hx
  obtain ⟨t, h1, q1⟩ := h
  obtain ⟨u, h2, q2⟩ := h'
  refine ⟨_, pi_range2 hg hm (pa_cons h1 (pa_cons h2 pa_nil (star_of hs')) (star_of hs)) (by rw [star_of hs, star_of hs']; rfl) (star_of hs'), fun σ H ρ env ah R re r o => ?_⟩
  refine q1 σ H ρ env ah _ re r (o.bind.mono fun d ah1 H1 ρ1 x1 r1 o1 v hv => ?_)
  refine q2 σ H1 ρ1 env ah1 _ (re.ext r x1) r1 (o1.bind.mono fun d2 ah2 H2 ρ2 x2 r2 o2 v2 hv2 => ?_)
  cases d with
  | int i =>
    cases d2 with
    | int j =>
      cases hv; cases hv2
      obtain ⟨hz, o3⟩ := ifB (show OutP _ _ _ _ _ ((if -(2 ^ 62) ≤ i ∧ i < 2 ^ 62 ∧ -(2 ^ 62) ≤ j ∧ j < 2 ^ 62 ∧ (j - i).toNat ≤ sizeLine then pure (rangeD i (j - i).toNat, fun _ : AH => True) else bad) ah2) _ from o2)
      exact ⟨i, j, rfl, ⟨hz.1, hz.2.1, hz.2.2.1, hz.2.2.2.1⟩, OutP.okI r2 o3 _ (yld_range hz.2.2.2.2)⟩
    | _ => exact (show False from o2).elim
  | _ => cases d2 <;> exact (show False from o2).elim
/-- zip of two tuples or of two lists -/
def zipD (xs ys : List D) : List D := (xs.zip ys).map fun p => D.tup [p.1, p.2]
theorem zipD_len (xs ys : List D) : (zipD xs ys).length = min xs.length ys.length := by unfold zipD; simp
theorem zipD_get {xs ys : List D} {i : Nat} {d : D} (h : (zipD xs ys)[i]? = some d) : ∃ x y, xs[i]? = some x ∧ ys[i]? = some y ∧ d = .tup [x, y] := by
  unfold zipD at h
  rw [List.getElem?_map] at h
  cases e : (xs.zip ys)[i]? with
  | none => rw [e] at h; cases h
  | some p =>
    rw [e] at h; cases h
    have := List.getElem?_zip_eq_some.mp e
    exact ⟨p.1, p.2, this.1, this.2, rfl⟩
theorem two_le : (2 : Nat) ≤ sizeLine := by rw [sizeLine_eq]; decide
theorem yld_zipT {K : PySem.W.Frag} {H0 : Hp} {ρ0 : List Addr} {a b : Addr} {xs ys : List D} {gd : AH → Prop} (hz : xs.length ≤ sizeLine)
    (h : ∀ H ρ ah, Ext ρ0 H0 ρ H → RelH K H ρ ah → ∃ vs ws, SqT K H a vs ∧ SqT K H b ws ∧ DVs K H ρ xs vs ∧ DVs K H ρ ys ws) : Yields K (RZ.ItzT K a b) (zipD xs ys) gd ρ0 H0 := by
  refine ⟨by rw [zipD_len]; omega, fun i H ρ ah x r g => ?_⟩
  obtain ⟨vs, ws, h1, h2, t1, t2⟩ := h H ρ ah x r
  refine ⟨fun d e => ?_, fun e => ⟨vs, ws, h1, h2, by rw [zipD_len] at e; rw [← t1.length, ← t2.length]; omega⟩⟩
  obtain ⟨p, q, e1, e2, rfl⟩ := zipD_get e
  obtain ⟨v, f1, hv⟩ := t1.get e1
  obtain ⟨w, f2, hw⟩ := t2.get e2
  refine ⟨⟨vs, ws, v, w, h1, h2, f1, f2⟩, fun y H' ⟨T, x1, x2, ey, nT, eH, g1, g2⟩ => ?_⟩
  have k1 := g1 vs h1
  have k2 := g2 ws h2
  rw [f1] at k1; rw [f2] at k2
  cases k1; cases k2
  subst ey eH
  exact ⟨Ext.upd nT, r.upd nT, fresh_tup nT (.cons hv (.cons hw .nil)) two_le⟩
theorem yld_zipL {K : PySem.W.Frag} {H0 : Hp} {ρ0 : List Addr} {a b : Addr} {xs ys : List D} {gd : AH → Prop} (hz : xs.length ≤ sizeLine)
    (h : ∀ H ρ ah, Ext ρ0 H0 ρ H → RelH K H ρ ah → gd ah → ∃ vs ws, SqL K H a vs ∧ SqL K H b ws ∧ DVs K H ρ xs vs ∧ DVs K H ρ ys ws) : Yields K (Itz K a b) (zipD xs ys) gd ρ0 H0 := by
  refine ⟨by rw [zipD_len]; omega, fun i H ρ ah x r g => ?_⟩
  obtain ⟨vs, ws, h1, h2, t1, t2⟩ := h H ρ ah x r g
  refine ⟨fun d e => ?_, fun e => ⟨vs, ws, h1, h2, by rw [zipD_len] at e; rw [← t1.length, ← t2.length]; omega⟩⟩
  obtain ⟨p, q, e1, e2, rfl⟩ := zipD_get e
  obtain ⟨v, f1, hv⟩ := t1.get e1
  obtain ⟨w, f2, hw⟩ := t2.get e2
  refine ⟨⟨vs, ws, v, w, h1, h2, f1, f2⟩, fun y H' ⟨T, x1, x2, ey, nT, eH, g1, g2⟩ => ?_⟩
  have k1 := g1 vs h1
  have k2 := g2 ws h2
  rw [f1] at k1; rw [f2] at k2
  cases k1; cases k2
  subst ey eH
  exact ⟨Ext.upd nT, r.upd nT, fresh_tup nT (.cons hv (.cons hw .nil)) two_le⟩
def zipM (x y : D) : M (List D × (AH → Prop)) := match x, y with
  | .tup xs, .tup ys => ret (zipD xs ys, fun _ => True)
  | .ref n, .ref m => do
    let (xs, s1) ← itemsM (.ref n)
    let (ys, s2) ← itemsM (.ref m)
    ret (zipD xs ys, fun ah => keeps s1 xs ah ∧ keeps s2 ys ah)
  | _, _ => bad
def sZip (f g : EnvD → M D) : EnvD → M (List D × (AH → Prop)) := fun env => do
  let x ← f env
  let y ← g env
  zipM x y
theorem fi_zip {es : List Expr} {k : Nat} {tp : Pos} {a b : Expr} {f g : EnvD → M D} {x : Str} {p pos : Pos} (hx : x = "zip") (hg : Gl X x) (hm : X.mg x = none) (h : FE X E a f) (h' : FE X E b g) (hs : noStar a = true) (hs' : noStar b = true) : FI X E (.Tuple es k tp) (.Call (.Name x p) [a, b] [] pos) (sZip f g) := by
  subst hx
  obtain ⟨t, h1, q1⟩ := h
  obtain ⟨u, h2, q2⟩ := h'
  refine ⟨_, RZ.pi_zipA hg hm (pa_cons h1 (pa_cons h2 pa_nil (star_of hs')) (star_of hs)) (star_of hs) (by rw [star_of hs']; rfl), fun σ H ρ env ah R re r o => ?_⟩
  refine q1 σ H ρ env ah _ re r (o.bind.mono fun d ah1 H1 ρ1 x1 r1 o1 v hv => ?_)
  refine q2 σ H1 ρ1 env ah1 _ (re.ext r x1) r1 (o1.bind.mono fun d2 ah2 H2 ρ2 x2 r2 o2 v2 hv2 => ?_)
  have hv := hv.ext r1 x2
  cases d with
  | tup xs =>
    cases d2 with
    | tup ys =>
      have hz := hv.tupLen
      obtain ⟨a1, vs, rfl, s1, t1⟩ := hv.tup'
      obtain ⟨a2, ws, rfl, s2, t2⟩ := hv2.tup'
      exact ⟨a1, a2, vs, ws, rfl, .inr ⟨s1, s2, OutP.okI r2 (show OutP _ _ _ _ _ (Out.ok (zipD xs ys, fun _ : AH => True) ah2) _ from o2) _ (yld_zipT hz fun H3 ρ3 ah3 x3 r3 => ⟨vs, ws, r2.sqT x3 s1, r2.sqT x3 s2, t1.ext r2 x3, t2.ext r2 x3⟩)⟩⟩
    | _ => exact (show False from o2).elim
  | ref n =>
    cases d2 with
    | ref m =>
      obtain ⟨a1, rfl, s1⟩ := hv.ref'
      obtain ⟨a2, rfl, s2⟩ := hv2.ref'
      have one : ∀ {k : Nat} {aa : Addr} {dd : List D} {src : Option Nat}, itemsM (.ref k) ah2 = .ok (dd, src) ah2 → src = some k := fun {k aa dd src} ei => by
        unfold itemsM at ei
        cases e9 : ah2[k]? with
        | none => simp [e9] at ei
        | some c => cases c <;> simp [e9] at ei <;> exact ei.2.symm
      obtain ⟨xs, src, b1, eb1, hs1, ei, o3⟩ := items_src r2 (.ref s1) (OutP.bind (show OutP _ _ _ _ _ ((itemsM (.ref n) >>= fun p => itemsM (.ref m) >>= fun q => ret (zipD p.1 q.1, fun ah => keeps p.2 p.1 ah ∧ keeps q.2 q.1 ah)) ah2) _ from o2))
      cases eb1
      obtain ⟨ys, src2, b2, eb2, hs2, ei2, o4⟩ := items_src r2 (.ref s2) o3.bind
      cases eb2
      have h1 := one (aa := a1) ei
      have h2 := one (aa := a2) ei2
      subst h1 h2
      obtain ⟨vs, w1, w2⟩ := hs1.seq
      obtain ⟨ws, w3, w4⟩ := hs2.seq
      obtain ⟨z1, vs', t1', _, l1⟩ := hs1
      obtain ⟨z2, ws', t2', _, l2⟩ := hs2
      refine ⟨a1, a2, vs', ws', rfl, .inl ⟨l1, l2, OutP.okI r2 o4 _ (yld_zipL z1 fun H3 ρ3 ah3 x3 r3 g => ?_)⟩⟩
      obtain ⟨_, us, u1, _, u2⟩ := SrcOk.cell r3 (x3.get s1) g.1
      obtain ⟨_, us', u1', _, u2'⟩ := SrcOk.cell r3 (x3.get s2) g.2
      exact ⟨us, us', u2, u2', u1, u1'⟩
    | _ => exact (show False from o2).elim
  | _ => cases d2 <;> exact (show False from o2).elim

/-! ### targets -/
theorem Agree.refl {is : List Nat} {σ : L2.St} : Agree is σ σ := ⟨rfl, fun _ _ => rfl⟩
theorem Agree.trans {is js : List Nat} {σ σ1 σ2 : L2.St} (a : Agree is σ σ1) (b : Agree js σ1 σ2) : Agree (is ++ js) σ σ2 :=
  ⟨b.1.trans a.1, fun i h => by rw [List.mem_append, not_or] at h; exact (b.2 i h.2).trans (a.2 i h.1)⟩
def gVar (i : Nat) : D → EnvD → M EnvD := fun d env => ret (env.set i (some d))
theorem EnvR.set {K : PySem.W.Frag} {H : Hp} {ρ : List Addr} {env : EnvD} {σ : L2.St} (h : EnvR K H ρ env σ) {i : Nat} {d : D} {v : V} (hv : DV K H ρ d v) : EnvR K H ρ (env.set i (some d)) (σ.set i (some v)) := by
  refine ⟨by simp [h.1], fun j d' e => ?_⟩
  by_cases hj : i = j
  · subst hj
    by_cases hi : i < env.length
    · rw [List.getElem?_set_self hi] at e; cases e
      exact ⟨v, List.getElem?_set_self (by rw [← h.1]; exact hi), hv⟩
    · rw [List.getElem?_eq_none (by simpa using hi)] at e; cases e
  · rw [List.getElem?_set_ne hj] at e ⊢
    exact h.2 j d' e
theorem fg_name {i : Nat} {e : Expr} (h : PG X e (gName i)) : FG X E e [i] (gVar i) := by
  refine ⟨_, h, fun v σ H ρ d env ah Q re r hd o => ?_⟩
  exact OutP.okI r o _ (re.set hd) ⟨by simp, fun j hj => List.getElem?_set_ne (fun z => hj (by simp [z]))⟩
def gsNil : List D → EnvD → M EnvD := fun ds env => match ds with
  | [] => ret env
  | _ => bad
def gsCons (f : D → EnvD → M EnvD) (g : List D → EnvD → M EnvD) : List D → EnvD → M EnvD := fun ds env => match ds with
  | d :: r => do
    let env' ← f d env
    g r env'
  | [] => bad
theorem fgs_nil : FGs X E [] [] gsNil := by
  refine ⟨_, pgs_nil, fun vs σ H ρ ds env ah Q re r hd o => ?_⟩
  cases ds with
  | nil => cases hd; exact ⟨rfl, OutP.okI r o _ re .refl⟩
  | cons _ _ => exact (show False from o).elim
theorem fgs_cons {e : Expr} {es : List Expr} {is js : List Nat} {f : D → EnvD → M EnvD} {g : List D → EnvD → M EnvD} (h : FG X E e is f) (hs : FGs X E es js g)
    (ha : (assignEach (e :: es) X.env).map (·.2) = assign e X.env :: (assignEach es X.env).map (·.2)) : FGs X E (e :: es) (is ++ js) (gsCons f g) := by
  obtain ⟨t, h1, q1⟩ := h
  obtain ⟨u, h2, q2⟩ := hs
  refine ⟨_, pgs_cons h1 h2 ha, fun vs σ H ρ ds env ah Q re r hd o => ?_⟩
  cases ds with
  | nil => exact (show False from o).elim
  | cons d dr =>
    cases hd with
    | cons hd1 hd2 =>
      refine ⟨_, _, rfl, q1 _ σ H ρ d env ah _ re r hd1 ((show OutP _ _ _ _ _ ((f d env >>= fun env' => g dr env') ah) _ from o).bind.mono fun env1 ah1 H1 ρ1 x1 r1 o1 σ1 re1 ag => ?_)⟩
      exact q2 _ σ1 H1 ρ1 dr env1 ah1 _ re1 r1 (hd2.ext r x1) (o1.mono fun env2 ah2 H2 ρ2 x2 r2 q σ2 re2 ag2 => q σ2 re2 (ag.trans ag2))
def gTupD (n : Nat) (g : List D → EnvD → M EnvD) : D → EnvD → M EnvD := fun d env => match d with
  | .tup ds => if ds.length = n then g ds env else bad
  | _ => bad
theorem fg_tup {es : List Expr} {k : Nat} {pos : Pos} {n : Nat} {is : List Nat} {g : List D → EnvD → M EnvD} (hc : X.calm = true) (h : FGs X E es is g) (hn : (assignEach es X.env).length = n) (hst : (assignEach es X.env).findIdx? (·.1) = none) : FG X E (.Tuple es k pos) is (gTupD n g) := by
  obtain ⟨t, h1, q1⟩ := h
  refine ⟨_, pg_tup hc h1 hn hst, fun v σ H ρ d env ah Q re r hd o => ?_⟩
  cases d with
  | tup ds =>
    obtain ⟨a, vs, rfl, s1, t1⟩ := hd.tup'
    obtain ⟨hl, o⟩ := ifB (show OutP _ _ _ _ _ ((if ds.length = n then g ds env else bad) ah) _ from o)
    exact ⟨a, vs, rfl, s1, by rw [← t1.length]; exact hl, q1 vs σ H ρ ds env ah Q re r t1 o⟩
  | _ => exact (show False from o).elim
end
end Ev

set_option Elab.async false
set_option linter.all false
set_option maxRecDepth 100000
set_option maxHeartbeats 2000000
set_option autoImplicit false
namespace Ev
open PySem PySem.Spec PyProof.Rows L2
/-! ### tests -/
section
variable {X : Cx} {E : XK}
theorem FT.of {e : Expr} {t : TT} {f : EnvD → M Bool} (h : PT X e t) (q : ∀ σ H ρ env ah Q, EnvR X.K H ρ env σ → RelH X.K H ρ ah → OutP X.mg X.K E ρ H (f env ah) (fun b _ H' _ => Q b H') → t σ H Q) : FT X E e f := ⟨t, h, q⟩
/-- a value's truth -/
def truM (d : D) : M Bool := match d with
  | .non => ret false
  | .bl b => ret b
  | .int i => ret (i != 0)
  | .str z => if z.length ≤ sizeLine then ret ((z.length : Int) != 0) else bad
  | d => do
    let (ds, _) ← itemsM d
    ret (!ds.isEmpty)
def sTru (f : EnvD → M D) : EnvD → M Bool := fun env => do
  let d ← f env
  truM d
theorem isEmpty_rel {K : PySem.W.Frag} {H : Hp} {ρ : List Addr} {ds : List D} {vs : List V} (h : DVs K H ρ ds vs) : ds.isEmpty = vs.isEmpty := by cases h <;> rfl
theorem tru_of {H : Hp} {ρ : List Addr} {ah : AH} {d : D} {v : V} {P : Bool → AH → Hp → List Addr → Prop} (r : RelH X.K H ρ ah) (h : DV X.K H ρ d v) (o : OutP X.mg X.K E ρ H (truM d ah) P) : ∃ k, TruV X.K v H k ∧ P k ah H ρ := by
  have main : OutP X.mg X.K E ρ H ((itemsM d >>= fun p => ret (!p.1.isEmpty)) ah) P → ∃ k, TruV X.K v H k ∧ P k ah H ρ := fun o => by
    obtain ⟨ds, src, a, rfl, hs, _, o1⟩ := items_src r h o.bind
    obtain ⟨vs, hv, hq⟩ := hs.seq
    refine ⟨!ds.isEmpty, ?_, OutP.okI r o1⟩
    rw [isEmpty_rel hv]
    rcases hq with hq | hq
    · exact .inl ⟨vs, hq, rfl⟩
    · exact .inr (.inl ⟨vs, hq, rfl⟩)
  cases d with
  | non => cases h; exact ⟨_, rfl, OutP.okI r o⟩
  | bl b => cases h; exact ⟨_, rfl, OutP.okI r o⟩
  | int b => cases h; exact ⟨_, rfl, OutP.okI r o⟩
  | str z =>
    cases h
    obtain ⟨hz, o⟩ := ifB (show OutP _ _ _ _ _ ((if z.length ≤ sizeLine then ret ((z.length : Int) != 0) else bad) ah) _ from o)
    exact ⟨_, ⟨hz, rfl⟩, OutP.okI r o⟩
  | _ => exact main o
theorem ft_tru {e : Expr} {f : EnvD → M D} (h : FE X E e f) (hp : plainTest e = true) : FT X E e (sTru f) := by
  obtain ⟨t, h1, q1⟩ := h
  refine .of (pt_truth h1 (isTrue_of hp)) fun σ H ρ env ah Q re r o => ?_
  refine q1 σ H ρ env ah _ re r (o.bind.mono fun d ah1 H1 ρ1 x1 r1 o1 v hv => ?_)
  exact tru_of r1 hv o1
def sNotT (f : EnvD → M Bool) : EnvD → M Bool := fun env => do
  let b ← f env
  pure (!b)
theorem ft_not {a : Expr} {pos : Pos} {f : EnvD → M Bool} (h : FT X E a f) : FT X E (.UnaryOp .Not a pos) (sNotT f) := by
  obtain ⟨t, h1, q1⟩ := h
  refine .of (pt_not h1) fun σ H ρ env ah Q re r o => ?_
  exact q1 σ H ρ env ah _ re r (o.bind.mono fun b ah1 H1 ρ1 x1 r1 o1 => OutP.okI r1 o1)
def sAndT (f g : EnvD → M Bool) : EnvD → M Bool := fun env => do
  let b ← f env
  if b then g env else pure false
def sOrT (f g : EnvD → M Bool) : EnvD → M Bool := fun env => do
  let b ← f env
  if b then pure true else g env
/-- and, or: the list of the tests -/
def FW (X : Cx) (E : XK) (e : Expr) (f : EnvD → M Bool) : Prop := ∃ t : TT, PW X e t ∧ ∀ σ H ρ env ah Q, EnvR X.K H ρ env σ → RelH X.K H ρ ah →
  OutP X.mg X.K E ρ H (f env ah) (fun b _ H' _ => Q b H') → t σ H Q
theorem FW.ft {e : Expr} {f : EnvD → M Bool} (h : FW X E e f) : FT X E e f := let ⟨t, h1, q1⟩ := h; ⟨t, h1.pt, q1⟩
theorem fw_and1 {a : Expr} {pos : Pos} {f : EnvD → M Bool} (h : FT X E a f) : FW X E (.BoolOp .And [a] pos) f := let ⟨t, h1, q1⟩ := h; ⟨t, pw_and1 h1, q1⟩
theorem fw_or1 {a : Expr} {pos : Pos} {f : EnvD → M Bool} (h : FT X E a f) : FW X E (.BoolOp .Or [a] pos) f := let ⟨t, h1, q1⟩ := h; ⟨t, pw_or1 h1, q1⟩
theorem fw_and {a b : Expr} {rest : List Expr} {pos : Pos} {f g : EnvD → M Bool} (h : FT X E a f) (h' : FW X E (.BoolOp .And (b :: rest) pos) g) : FW X E (.BoolOp .And (a :: b :: rest) pos) (sAndT f g) := by
  obtain ⟨t, h1, q1⟩ := h
  obtain ⟨u, h2, q2⟩ := h'
  refine ⟨_, pw_and h1 h2, fun σ H ρ env ah Q re r o => ?_⟩
  refine q1 σ H ρ env ah _ re r (o.bind.mono fun b ah1 H1 ρ1 x1 r1 o1 => ?_)
  cases b with
  | true => exact q2 σ H1 ρ1 env ah1 _ (re.ext r x1) r1 o1
  | false => exact OutP.okI r1 o1
theorem fw_or {a b : Expr} {rest : List Expr} {pos : Pos} {f g : EnvD → M Bool} (h : FT X E a f) (h' : FW X E (.BoolOp .Or (b :: rest) pos) g) : FW X E (.BoolOp .Or (a :: b :: rest) pos) (sOrT f g) := by
  obtain ⟨t, h1, q1⟩ := h
  obtain ⟨u, h2, q2⟩ := h'
  refine ⟨_, pw_or h1 h2, fun σ H ρ env ah Q re r o => ?_⟩
  refine q1 σ H ρ env ah _ re r (o.bind.mono fun b ah1 H1 ρ1 x1 r1 o1 => ?_)
  cases b with
  | true => exact OutP.okI r1 o1
  | false => exact q2 σ H1 ρ1 env ah1 _ (re.ext r x1) r1 o1
/-! ### as values -/
def sNotV (f : EnvD → M D) : EnvD → M D := fun env => do
  let d ← f env
  let b ← truM d
  pure (.bl (!b))
theorem fe_not {a : Expr} {pos : Pos} {f : EnvD → M D} (h : FE X E a f) : FE X E (.UnaryOp .Not a pos) (sNotV f) := by
  obtain ⟨t, h1, q1⟩ := h
  refine .ofPE (pe_notT h1) fun σ H ρ env ah Q re r o => ?_
  refine q1 σ H ρ env ah _ re r (o.bind.mono fun d ah1 H1 ρ1 x1 r1 o1 v hv => ?_)
  obtain ⟨k, hk, o2⟩ := tru_of r1 hv o1.bind
  exact ⟨k, hk, OutP.okI r1 o2 _ (.bl _)⟩
def sAndV (f g : EnvD → M D) : EnvD → M D := fun env => do
  let d ← f env
  let b ← truM d
  if b then g env else pure d
def sOrV (f g : EnvD → M D) : EnvD → M D := fun env => do
  let d ← f env
  let b ← truM d
  if b then pure d else g env
theorem fe_one {op : BoolOp} {a : Expr} {pos : Pos} {f : EnvD → M D} (h : FE X E a f) : FE X E (.BoolOp op [a] pos) f := let ⟨t, h1, q1⟩ := h; ⟨t, pe_one h1, q1⟩
theorem fe_and {a b : Expr} {rest : List Expr} {pos : Pos} {f g : EnvD → M D} (h : FE X E a f) (h' : FE X E (.BoolOp .And (b :: rest) pos) g) : FE X E (.BoolOp .And (a :: b :: rest) pos) (sAndV f g) := by
  obtain ⟨t, h1, q1⟩ := h
  obtain ⟨u, h2, q2⟩ := h'
  refine .ofPE (pe_andT h1 h2) fun σ H ρ env ah Q re r o => ?_
  refine q1 σ H ρ env ah _ re r (o.bind.mono fun d ah1 H1 ρ1 x1 r1 o1 v hv => ?_)
  obtain ⟨k, hk, o2⟩ := tru_of r1 hv o1.bind
  refine ⟨k, hk, ?_⟩
  cases k with
  | true => exact q2 σ H1 ρ1 env ah1 _ (re.ext r x1) r1 o2
  | false => exact OutP.okI r1 o2 _ hv
theorem fe_or {a b : Expr} {rest : List Expr} {pos : Pos} {f g : EnvD → M D} (h : FE X E a f) (h' : FE X E (.BoolOp .Or (b :: rest) pos) g) : FE X E (.BoolOp .Or (a :: b :: rest) pos) (sOrV f g) := by
  obtain ⟨t, h1, q1⟩ := h
  obtain ⟨u, h2, q2⟩ := h'
  refine .ofPE (pe_orT h1 h2) fun σ H ρ env ah Q re r o => ?_
  refine q1 σ H ρ env ah _ re r (o.bind.mono fun d ah1 H1 ρ1 x1 r1 o1 v hv => ?_)
  obtain ⟨k, hk, o2⟩ := tru_of r1 hv o1.bind
  refine ⟨k, hk, ?_⟩
  cases k with
  | true => exact OutP.okI r1 o2 _ hv
  | false => exact q2 σ H1 ρ1 env ah1 _ (re.ext r x1) r1 o2
def sIf (t : EnvD → M Bool) (f g : EnvD → M D) : EnvD → M D := fun env => do
  let b ← t env
  if b then f env else g env
theorem fe_if {c a b : Expr} {pos : Pos} {t : EnvD → M Bool} {f g : EnvD → M D} (hc : FT X E c t) (ha : FE X E a f) (hb : FE X E b g) : FE X E (.IfExp c a b pos) (sIf t f g) := by
  obtain ⟨tc, h0, q0⟩ := hc
  obtain ⟨ta, h1, q1⟩ := ha
  obtain ⟨tb, h2, q2⟩ := hb
  refine .ofPE (pe_ifExp h0 h1 h2) fun σ H ρ env ah Q re r o => ?_
  refine q0 σ H ρ env ah _ re r (o.bind.mono fun b ah1 H1 ρ1 x1 r1 o1 => ?_)
  cases b with
  | true => exact q1 σ H1 ρ1 env ah1 _ (re.ext r x1) r1 o1
  | false => exact q2 σ H1 ρ1 env ah1 _ (re.ext r x1) r1 o1
/-- a op b op' c -/
def sChain (g g' : D → D → M D) (fa fb fc : EnvD → M D) : EnvD → M D := fun env => do
  let x ← fa env
  let y ← fb env
  match ← g x y with
  | .bl true => do
    let z ← fc env
    g' y z
  | .bl false => pure (.bl false)
  | _ => bad
theorem chain_of {op op' : CmpOp} {r r' : R2} {g g' : D → D → M D} {a b c : Expr} {fa fb fc : EnvD → M D} {ta tb tc : TE} (hr : OpD X E r g) (hr' : OpD X E r' g')
    (q1 : ∀ σ H ρ env ah Q, EnvR X.K H ρ env σ → RelH X.K H ρ ah → OutP X.mg X.K E ρ H (fa env ah) (fun d _ H' ρ' => ∀ v, DV X.K H' ρ' d v → Q v H') → ta σ H Q)
    (q2 : ∀ σ H ρ env ah Q, EnvR X.K H ρ env σ → RelH X.K H ρ ah → OutP X.mg X.K E ρ H (fb env ah) (fun d _ H' ρ' => ∀ v, DV X.K H' ρ' d v → Q v H') → tb σ H Q)
    (q3 : ∀ σ H ρ env ah Q, EnvR X.K H ρ env σ → RelH X.K H ρ ah → OutP X.mg X.K E ρ H (fc env ah) (fun d _ H' ρ' => ∀ v, DV X.K H' ρ' d v → Q v H') → tc σ H Q) :
    ∀ σ H ρ env ah Q, EnvR X.K H ρ env σ → RelH X.K H ρ ah → OutP X.mg X.K E ρ H (sChain g g' fa fb fc env ah) (fun d _ H' ρ' => ∀ v, DV X.K H' ρ' d v → Q v H') → tChain r r' ta tb tc σ H Q := by
  intro σ H ρ env ah Q re rh o
  refine q1 σ H ρ env ah _ re rh (o.bind.mono fun d1 ah1 H1 ρ1 x1 r1 o1 v hv => ?_)
  refine q2 σ H1 ρ1 env ah1 _ (re.ext rh x1) r1 (o1.bind.mono fun d2 ah2 H2 ρ2 x2 r2 o2 w hw => ?_)
  refine hr H2 ρ2 ah2 d1 d2 v w _ r2 (hv.ext r1 x2) hw (o2.bind.mono fun d3 ah3 H3 ρ3 x3 r3 o3 z hz => ?_)
  cases d3 with
  | bl k =>
    cases hz
    refine ⟨k, rfl, ?_⟩
    cases k with
    | true =>
      refine q3 σ H3 ρ3 env ah3 _ (((re.ext rh x1).ext r1 x2).ext r2 x3) r3 ((show OutP _ _ _ _ _ ((fc env >>= fun z => g' d2 z) ah3) _ from o3).bind.mono fun d4 ah4 H4 ρ4 x4 r4 o4 u hu => ?_)
      exact hr' H4 ρ4 ah4 d2 d4 w u Q r4 ((hw.ext r2 x3).ext r3 x4) hu o4
    | false => exact OutP.okI r3 (show OutP _ _ _ _ _ (Out.ok (D.bl false) ah3) _ from o3) _ (.bl _)
  | _ => exact (show False from o3).elim
theorem fe_chain {op op' : CmpOp} {r r' : R2} {g g' : D → D → M D} {a b c : Expr} {pos : Pos} {fa fb fc : EnvD → M D} (ho : OpR X (compareOp op) r) (ho' : OpR X (compareOp op') r') (hr : OpD X E r g) (hr' : OpD X E r' g')
    (ha : FE X E a fa) (hb : FE X E b fb) (hc : FE X E c fc) (hm : lastMarks [op, op'] [b, c] = false) : FE X E (.Compare a [op, op'] [b, c] pos) (sChain g g' fa fb fc) := by
  obtain ⟨ta, h1, q1⟩ := ha
  obtain ⟨tb, h2, q2⟩ := hb
  obtain ⟨tc, h3, q3⟩ := hc
  exact .ofPE (pe_chain ho ho' h1 h2 h3 hm) (chain_of (op := op) (op' := op') (a := a) (b := b) (c := c) hr hr' q1 q2 q3)
theorem ft_chain {op op' : CmpOp} {r r' : R2} {g g' : D → D → M D} {a b c : Expr} {pos : Pos} {fa fb fc : EnvD → M D} (ho : OpR X (compareOp op) r) (ho' : OpR X (compareOp op') r') (hr : OpD X E r g) (hr' : OpD X E r' g')
    (ha : FE X E a fa) (hb : FE X E b fb) (hc : FE X E c fc) (hm : lastMarks [op, op'] [b, c] = false) : FT X E (.Compare a [op, op'] [b, c] pos) (asBool (sChain g g' fa fb fc)) := by
  obtain ⟨ta, h1, q1⟩ := ha
  obtain ⟨tb, h2, q2⟩ := hb
  obtain ⟨tc, h3, q3⟩ := hc
  refine ⟨_, pt_chain ho ho' h1 h2 h3 hm, fun σ H ρ env ah Q re rh o => ?_⟩
  exact chain_of (op := op) (op' := op') (a := a) (b := b) (c := c) hr hr' q1 q2 q3 σ H ρ env ah _ re rh (OutP.asBool o)
/-- - a -/
def negD (x : D) : M D := match x with
  | .int i => ret (.int (-i))
  | _ => bad
theorem fe_neg {a : Expr} {pos : Pos} {f : EnvD → M D} (h : FE X E a f) : FE X E (.UnaryOp .USub a pos) (sCall1 negD f) := by
  obtain ⟨t, h1, q1⟩ := h
  refine .ofPE (pe_un un_neg h1) fun σ H ρ env ah Q re r o => ?_
  refine q1 σ H ρ env ah _ re r (o.bind.mono fun d ah1 H1 ρ1 x1 r1 o1 v hv => ?_)
  cases d with
  | int i => cases hv; exact ⟨i, rfl, OutP.okI r1 (show OutP _ _ _ _ _ (Out.ok _ _) _ from o1) _ (.int _)⟩
  | _ => exact (show False from o1).elim

/-! ### list comprehensions -/
def wipeD (env : EnvD) : List Nat → EnvD
  | [] => env
  | v :: vs => (wipeD env vs).set v none
theorem EnvR.wipe {K : PySem.W.Frag} {H : Hp} {ρ : List Addr} {env : EnvD} {σ : L2.St} (h : EnvR K H ρ env σ) : ∀ vs : List Nat, EnvR K H ρ (wipeD env vs) (wipe σ vs)
  | [] => h
  | v :: vs => by
    have ih := h.wipe vs
    refine ⟨by unfold wipeD L2.wipe; simp [ih.1], fun j d e => ?_⟩
    unfold wipeD at e
    by_cases hj : v = j
    · subst hj
      by_cases hi : v < (wipeD env vs).length
      · rw [List.getElem?_set_self hi] at e; cases e
      · rw [List.getElem?_eq_none (by simpa using hi)] at e; cases e
    · rw [List.getElem?_set_ne hj] at e
      obtain ⟨v', a, b⟩ := ih.2 j d e
      unfold L2.wipe
      exact ⟨v', by rw [List.getElem?_set_ne hj]; exact a, b⟩
theorem wipe_agree {σ σ2 : L2.St} : ∀ {vs : List Nat}, (Agree vs σ σ2) → wipe σ2 vs = wipe σ vs := by
  intro vs h
  have key : ∀ (ws : List Nat) (τ : L2.St), (wipe τ ws).length = τ.length ∧ ∀ j : Nat, (wipe τ ws)[j]? = if j < τ.length ∧ j ∈ ws then some none else τ[j]? := by
    intro ws τ
    induction ws with
    | nil => exact ⟨rfl, fun j => by simp [L2.wipe]⟩
    | cons w ws ih =>
      unfold L2.wipe
      refine ⟨by simp [ih.1], fun j => ?_⟩
      by_cases hj : w = j
      · subst hj
        by_cases hl : w < τ.length
        · rw [List.getElem?_set_self (by rw [ih.1]; exact hl), if_pos ⟨hl, by simp⟩]
        · rw [List.getElem?_eq_none (by simp [ih.1]; omega), if_neg (fun z => hl z.1), List.getElem?_eq_none (by omega)]
      · rw [List.getElem?_set_ne hj, ih.2 j]
        have : (j ∈ w :: ws) ↔ j ∈ ws := by simp [Ne.symm hj]
        simp only [this]
  refine List.ext_getElem? fun j => ?_
  rw [(key vs σ2).2 j, (key vs σ).2 j, h.1]
  by_cases hj : j ∈ vs
  · by_cases hl : j < σ.length
    · rw [if_pos ⟨hl, hj⟩, if_pos ⟨hl, hj⟩]
    · rw [if_neg (fun z => hl z.1), if_neg (fun z => hl z.1), List.getElem?_eq_none (by rw [h.1]; omega), List.getElem?_eq_none (by omega)]
  · rw [if_neg (fun z => hj z.2), if_neg (fun z => hj z.2)]
    exact h.2 j hj
theorem wipe_wipe (σ : L2.St) (vs : List Nat) : wipe (wipe σ vs) vs = wipe σ vs := (wipe_agree (vs := vs) (σ := σ) (σ2 := wipe σ vs) ⟨wipe_length σ vs, fun j hj => by
  have : ∀ (ws : List Nat), j ∉ ws → (wipe σ ws)[j]? = σ[j]? := by
    intro ws h
    induction ws with
    | nil => rfl
    | cons w ws ih =>
      simp only [List.mem_cons, not_or] at h
      unfold L2.wipe
      rw [List.getElem?_set_ne (Ne.symm h.1)]
      exact ih h.2
  exact this vs hj⟩)
noncomputable def guardM (p : AH → Prop) : M Unit := fun ah => open Classical in if p ah then .ok () ah else .bad
/-- the loop: target, test, element, from one environment -/
noncomputable def lcGo (g : D → EnvD → M EnvD) (t : EnvD → M Bool) (e : EnvD → M D) (gd : AH → Prop) (env : EnvD) : List D → M (List D)
  | [] => do
    guardM gd
    pure []
  | d :: ds => do
    guardM gd
    let env1 ← quiet (g d env)
    let b ← quiet (t env1)
    if b then do
      let y ← quiet (e env1)
      let ys ← lcGo g t e gd env ds
      pure (y :: ys)
    else lcGo g t e gd env ds
noncomputable def sLc (it : EnvD → M (List D × (AH → Prop))) (g : D → EnvD → M EnvD) (t : EnvD → M Bool) (e : EnvD → M D) (vs : List Nat) : EnvD → M (List D) := fun env => do
  let (ds, gd) ← it env
  lcGo g t e gd (wipeD env vs) ds
theorem guard_of {K : PySem.W.Frag} {mg : Str → Option Value} {E : XK} {H : Hp} {ρ : List Addr} {ah : AH} {p : AH → Prop} {P : Unit → AH → Hp → List Addr → Prop} (o : OutP mg K E ρ H (guardM p ah) P) : p ah ∧ OutP mg K E ρ H (.ok () ah) P := by
  unfold guardM at o
  by_cases h : p ah
  · rw [if_pos h] at o; exact ⟨h, o⟩
  · rw [if_neg h] at o; exact o.elim
theorem quiet_of {α : Type} {K : PySem.W.Frag} {mg : Str → Option Value} {E E' : XK} {H : Hp} {ρ : List Addr} {ah : AH} {m : M α} {P : α → AH → Hp → List Addr → Prop} (o : OutP mg K E ρ H (quiet m ah) P) : OutP mg K E' ρ H (m ah) P := by
  unfold quiet at o
  cases e : m ah with
  | ok a h => rw [e] at o; exact o
  | exc x h => rw [e] at o; exact o.elim
  | bad => rw [e] at o; exact o.elim
/-- the new list stands apart -/
theorem RelH.off {K : PySem.W.Frag} {H : Hp} {ρ : List Addr} {ah : AH} {D0 : Addr} {xs ys : List V} (r : RelH K H ρ ah) (hD : H D0 = some (.lst xs)) (hn : D0 ∉ ρ) :
    RelH K (L2.upd H D0 (.lst ys)) ρ ah ∧ (∀ a vs, SqT K H a vs → SqT K (L2.upd H D0 (.lst ys)) a vs) := by
  have sq : ∀ a vs, SqT K H a vs → SqT K (L2.upd H D0 (.lst ys)) a vs := fun a vs q => by
    rcases q with (q | ⟨u, q⟩) | q
    · refine .inl (.inl ?_)
      rw [upd_ne]; exact q
      rintro rfl; rw [hD] at q; cases q
    · refine .inl (.inr ⟨u, ?_⟩)
      rw [upd_ne]; exact q
      rintro rfl; rw [hD] at q; cases q
    · exact .inr q
  refine ⟨⟨r.len, r.nd, fun n c e => ?_⟩, sq⟩
  obtain ⟨a, h1, h2⟩ := r.cell n c e
  refine ⟨a, h1, h2.imp (fun _ _ q => q) sq fun o e' => ?_⟩
  rw [upd_ne]; exact e'
  rintro rfl; exact hn (List.mem_of_getElem? h1)
theorem Ext.off {ρ ρ1 ρ2 : List Addr} {H H1 H2 : Hp} {D0 : Addr} {o : HO} (x : Ext ρ H ρ1 H1) (y : Ext ρ1 H1 ρ2 H2) (h0 : H D0 = Option.none) (hn : D0 ∉ ρ2) : Ext ρ H ρ2 (L2.upd H2 D0 o) := by
  have z := x.trans y
  refine ⟨z.pre, fun a u e hna => ?_, z.new⟩
  rw [upd_ne (ne_of_none e h0)]
  exact z.keep a u e hna
theorem DVs.snoc {K : PySem.W.Frag} {H : Hp} {ρ : List Addr} {ds : List D} {vs : List V} {d : D} {v : V} (h : DVs K H ρ ds vs) (hd : DV K H ρ d v) : DVs K H ρ (ds ++ [d]) (vs ++ [v]) := h.append (.cons hd .nil)
end
section
variable {X : Cx} {E : XK}
theorem lc_read {own : List (Str × Nat)} {it : EnvD → M (List D × (AH → Prop))} {is : List Nat} {g : D → EnvD → M EnvD} {t : EnvD → M Bool} {f : EnvD → M D} {wi : TI}
    (q1 : ∀ σ H ρ env ah R, EnvR X.K H ρ env σ → RelH X.K H ρ ah → OutP X.mg X.K E ρ H (it env ah) (fun p _ H' ρ' => ∀ J, Yields X.K J p.1 p.2 ρ' H' → R J H') → wi σ H R) (his : ∀ i ∈ is, i ∈ own.map (·.2)) :
    ∀ σ H ρ env ah Q, EnvR X.K H ρ env σ → RelH X.K H ρ ah → OutP X.mg X.K E ρ H (sLc it g t f (own.map (·.2)) env ah) (fun ds _ H' ρ' => ∀ a vs, H' a = some (.lst vs) → a ∉ ρ' → H a = none → DVs X.K H' ρ' ds vs → ds.length ≤ sizeLine → Q (.ref a) H') →
      tLc wi (tG X.K X.mg E0 is g) (tT X.K X.mg E0 t) (tE X.K X.mg E0 f) (own.map (·.2)) σ H Q := by
  intro σ H ρ env ah Q re r o
  refine q1 σ H ρ env ah _ re r (o.bind.mono fun p ah1 H1 ρ1 x1 r1 o1 J hJ => ?_)
  obtain ⟨ds, gd⟩ := p
  obtain ⟨hz, hy⟩ := hJ
  have hz : ds.length ≤ sizeLine := hz
  refine fun D0 hD => ?_
  have reW := (re.ext r x1).wipe (own.map (·.2))
  have hD1 : D0 ∉ ρ1 := r1.fresh hD
  refine ⟨fun i m H2 => m = ds.length - i ∧ i ≤ ds.length ∧ ∃ ρ2 ah2 acc ys, H2 D0 = some (.lst acc) ∧ D0 ∉ ρ2 ∧ Ext ρ1 H1 ρ2 H2 ∧ RelH X.K H2 ρ2 ah2 ∧ DVs X.K H2 ρ2 ys acc ∧ ys.length ≤ i ∧
    OutP X.mg X.K E ρ1 H1 (lcGo g t f gd (wipeD env (own.map (·.2))) (ds.drop i) ah2) (fun rest _ H' ρ' => ∀ a vs, H' a = some (.lst vs) → a ∉ ρ' → H a = none → DVs X.K H' ρ' (ys ++ rest) vs → (ys ++ rest).length ≤ sizeLine → Q (.ref a) H'),
    ⟨ds.length, by simp, Nat.zero_le _, ρ1, ah1, [], [], upd_same, hD1, Ext.upd hD, r1.upd hD, .nil, Nat.le_refl _, by simpa using o1⟩, ?_⟩
  rintro i m H2 ⟨rfl, hi, ρ2, ah2, acc, ys, eD, nD, x2, r2, hacc, hys, o2⟩
  by_cases hlt : i < ds.length
  · right
    have ed : ds.drop i = ds[i] :: ds.drop (i + 1) := List.drop_eq_getElem_cons hlt
    rw [ed] at o2
    -- the loop's next turn
    have o2' : OutP X.mg X.K E ρ1 H1 ((guardM gd >>= fun _ => quiet (g ds[i] (wipeD env (own.map (·.2)))) >>= fun env1 => quiet (t env1) >>= fun b => if b then (quiet (f env1) >>= fun y => lcGo g t f gd (wipeD env (own.map (·.2))) (ds.drop (i + 1)) >>= fun ys => pure (y :: ys)) else lcGo g t f gd (wipeD env (own.map (·.2))) (ds.drop (i + 1))) ah2) _ := o2
    obtain ⟨hgd, o3⟩ := guard_of o2'.bindA
    have o5 := o3 H2 ρ2 x2 r2
    obtain ⟨hgo, hstop⟩ := hy i H2 ρ2 ah2 x2 r2 hgd
    obtain ⟨hgo1, hyl⟩ := hgo ds[i] (List.getElem?_eq_getElem hlt)
    refine ⟨hgo1, fun H' => ∃ ρ3 ah3 acc' ys', H' D0 = some (.lst acc') ∧ D0 ∉ ρ3 ∧ Ext ρ1 H1 ρ3 H' ∧ RelH X.K H' ρ3 ah3 ∧ DVs X.K H' ρ3 ys' acc' ∧ ys'.length ≤ i + 1 ∧
      OutP X.mg X.K E ρ1 H1 (lcGo g t f gd (wipeD env (own.map (·.2))) (ds.drop (i + 1)) ah3) (fun rest _ H' ρ' => ∀ a vs, H' a = some (.lst vs) → a ∉ ρ' → H a = none → DVs X.K H' ρ' (ys' ++ rest) vs → (ys' ++ rest).length ≤ sizeLine → Q (.ref a) H'),
      fun H' hN' => ⟨ds.length - (i + 1), by omega, rfl, hlt, hN'⟩, fun x H3 hyld => ?_⟩
    obtain ⟨x3, r3, hx⟩ := hyl x H3 hyld
    have x13 : Ext ρ1 H1 ρ2 H3 := x2.trans x3
    have eD3 : H3 D0 = some (.lst acc) := x3.keep _ _ eD nD
    refine ⟨ρ2, ds[i], wipeD env (own.map (·.2)), ah2, (reW.ext r1 x13), r3, hx, ?_⟩
    refine (quiet_of (o5.bindA.ext x13)).mono fun env1 ah4 H4 ρ4 x4 r4 o6 σ4 re4 ag => ?_
    have n4 : D0 ∉ ρ4 := fun q => by
      have := x4.new D0 q nD
      rw [eD3] at this; cases this
    have eD4 : H4 D0 = some (.lst acc) := x4.keep _ _ eD3 nD
    refine ⟨?_, ?_⟩
    · have ag' : Agree (own.map (·.2)) (wipe σ (own.map (·.2))) σ4 := ⟨ag.1, fun j hj => ag.2 j fun z => hj (his j z)⟩
      rw [wipe_agree ag', wipe_wipe]
    · have x14 := x13.trans x4
      refine ⟨ρ4, env1, ah4, re4, r4, (quiet_of (o6.bindA.ext x14)).mono fun b ah5 H5 ρ5 x5 r5 o7 => ?_⟩
      have n5 : D0 ∉ ρ5 := fun q => by
        have := x5.new D0 q n4
        rw [eD4] at this; cases this
      have eD5 : H5 D0 = some (.lst acc) := x5.keep _ _ eD4 n4
      have x15 := x14.trans x5
      have acc5 : DVs X.K H5 ρ5 ys acc := ((hacc.ext r2 x3).ext r3 x4).ext r4 x5
      cases b with
      | true =>
        rw [if_pos rfl] at o7
        refine L2.iteT ?_
        refine ⟨ρ5, env1, ah5, re4.ext r4 x5, r5, (quiet_of (o7.bindA.ext x15)).mono fun y ah6 H6 ρ6 x6 r6 o8 v hv => ?_⟩
        have n6 : D0 ∉ ρ6 := fun q => by
          have := x6.new D0 q n5
          rw [eD5] at this; cases this
        have eD6 : H6 D0 = some (.lst acc) := x6.keep _ _ eD5 n5
        have acc6 := acc5.ext r5 x6
        obtain ⟨r7, sq⟩ := r6.off (ys := acc ++ [v]) eD6 n6
        refine ⟨acc, eD6, by rw [← acc6.length]; omega, ρ6, ah6, acc ++ [v], ys ++ [y], upd_same, n6, x15.off x6 hD n6, r7, (acc6.snoc hv).imp (fun _ _ q => q) sq, by simp; omega, ?_⟩
        refine o8.bindA.mono fun rest ah8 H8 ρ8 x8 r8 o9 => ?_
        have q9 := (show OutP _ _ _ _ _ (Out.ok (y :: rest) ah8) _ from o9) H8 ρ8 x8 r8
        intro a vs ha hna h0 hv8 hl8
        exact q9 a vs ha hna h0 (by simpa using hv8) (by simpa using hl8)
      | false =>
        rw [if_neg Bool.false_ne_true] at o7
        refine L2.iteF ?_
        exact ⟨ρ5, ah5, acc, ys, eD5, n5, x15, r5, acc5, by omega, o7⟩
  · left
    have e : i = ds.length := by omega
    subst e
    rw [List.drop_length] at o2
    have o2' : OutP X.mg X.K E ρ1 H1 ((guardM gd >>= fun _ => pure []) ah2) _ := o2
    obtain ⟨hgd, o3⟩ := guard_of o2'.bindA
    have o5 := o3 H2 ρ2 x2 r2
    obtain ⟨_, hstop⟩ := hy ds.length H2 ρ2 ah2 x2 r2 hgd
    refine ⟨hstop (Nat.le_refl _), ?_⟩
    have q := (show OutP _ _ _ _ _ (Out.ok [] ah2) _ from o5) H2 ρ2 x2 r2 D0 acc eD nD (x1.none r1 hD) (by simpa using hacc) (by simp; omega)
    exact q
theorem fn_lc {elt tg iter : Expr} {ifs : List Expr} {scope : Scope} {own : List (Str × Nat)} {pos : Pos} {it : EnvD → M (List D × (AH → Prop))} {is : List Nat} {g : D → EnvD → M EnvD} {t : EnvD → M Bool} {f : EnvD → M D}
    (hc : X.calm = true) (hN : X.N.Nodup) (hi : FI X E tg iter it) (ok : BlkOk X.N X.env.scope scope own) (his : ∀ i ∈ is, i ∈ own.map (·.2))
    (hg : ∀ (s : Shared) (H : Hp) (C : Addr) (cl : List (Str × Addr)) (fp : List Addr), FG (X.blk s H scope (compEnvC scope cl C X.env) fp) E0 tg is g)
    (ht : ∀ (s : Shared) (H : Hp) (C : Addr) (cl : List (Str × Addr)) (fp : List Addr), PTs (X.blk s H scope (compEnvC scope cl C X.env) fp) ifs (tT X.K X.mg E0 t))
    (he : ∀ (s : Shared) (H : Hp) (C : Addr) (cl : List (Str × Addr)) (fp : List Addr), FE (X.blk s H scope (compEnvC scope cl C X.env) fp) E0 elt f) (hs : noSet iter = true) :
    FN X E (.ListComp elt [⟨tg, iter, ifs, 0⟩] scope pos) (sLc it g t f (own.map (·.2))) := by
  obtain ⟨wi, h1, q1⟩ := hi
  exact ⟨_, pe_lc (g := tG X.K X.mg E0 is g) (tt := tT X.K X.mg E0 t) (te := tE X.K X.mg E0 f) hc hN h1 ok (fun s H C cl fp => (hg s H C cl fp).pg) ht (fun s H C cl fp => (he s H C cl fp).pe) (noFold_of hs), lc_read q1 his⟩
end
end Ev

set_option Elab.async false
set_option linter.all false
set_option maxRecDepth 100000
set_option maxHeartbeats 2000000
set_option autoImplicit false
namespace Ev
open PySem PySem.Spec PyProof.Rows L2
section
variable {X : Cx} {E : XK}
theorem FS.of {st : Stmt} {t : TS} {f : EnvD → M (Flw × EnvD)} (h : PS X st t) (q : ∀ σ H ρ env ah D, EnvR X.K H ρ env σ → RelH X.K H ρ ah → OutP X.mg X.K E ρ H (f env ah) (fun p _ H' ρ' => EndsOk X.K D p H' ρ') → t D σ H) : FS X E st f := ⟨t, h, q⟩
/-! ### blocks -/
def ssNil : EnvD → M (Flw × EnvD) := fun env => ret (.next, env)
def ssCons (f g : EnvD → M (Flw × EnvD)) : EnvD → M (Flw × EnvD) := fun env => do
  let p ← f env
  match p.1 with
  | .next => g p.2
  | _ => pure p
theorem fss_nil : FSs X E [] ssNil := ⟨_, pss_nil, fun σ H ρ env ah D re r o => OutP.okI r o σ re⟩
theorem fss_cons {st : Stmt} {sts : List Stmt} {f g : EnvD → M (Flw × EnvD)} (h : FS X E st f) (hs : FSs X E sts g) : FSs X E (st :: sts) (ssCons f g) := by
  obtain ⟨t, h1, q1⟩ := h
  obtain ⟨u, h2, q2⟩ := hs
  refine ⟨_, pss_cons h1 h2, fun σ H ρ env ah D re r o => ?_⟩
  refine q1 σ H ρ env ah _ re r (o.bind.mono fun p ah1 H1 ρ1 x1 r1 o1 => ?_)
  obtain ⟨fl, env1⟩ := p
  cases fl with
  | next => exact fun σ1 re1 => q2 σ1 H1 ρ1 env1 ah1 D re1 r1 o1
  | brk => exact OutP.okI r1 (show OutP _ _ _ _ _ (Out.ok (Flw.brk, env1) ah1) _ from o1)
  | cont => exact OutP.okI r1 (show OutP _ _ _ _ _ (Out.ok (Flw.cont, env1) ah1) _ from o1)
  | rt d => exact OutP.okI r1 (show OutP _ _ _ _ _ (Out.ok (Flw.rt d, env1) ah1) _ from o1)
def sPass : EnvD → M (Flw × EnvD) := fun env => ret (.next, env)
theorem fs_pass {pos : Pos} : FS X E (.Pass pos) sPass := .of ps_pass fun σ H ρ env ah D re r o => OutP.okI r o σ re
theorem fs_doc {x : Str} {j pos pos'} : FS X E (.Expr (.Constant (.str x) j pos) pos') sPass := .of ps_doc fun σ H ρ env ah D re r o => OutP.okI r o σ re
def sBrk : EnvD → M (Flw × EnvD) := fun env => ret (.brk, env)
def sCont : EnvD → M (Flw × EnvD) := fun env => ret (.cont, env)
theorem fs_brk {pos : Pos} : FS X E (.Break pos) sBrk := .of ps_break fun σ H ρ env ah D re r o => OutP.okI r o σ re
theorem fs_cont {pos : Pos} : FS X E (.Continue pos) sCont := .of ps_continue fun σ H ρ env ah D re r o => OutP.okI r o σ re
def sExpr (f : EnvD → M D) : EnvD → M (Flw × EnvD) := fun env => do
  let _ ← f env
  pure (.next, env)
theorem fs_expr {e : Expr} {pos : Pos} {f : EnvD → M D} (h : FE X E e f) (hn : noComp e = true) : FS X E (.Expr e pos) (sExpr f) := by
  obtain ⟨t, h1, q1⟩ := h
  refine .of (ps_expr h1 (noSwap_of hn)) fun σ H ρ env ah D re r o => ?_
  exact q1 σ H ρ env ah _ re r (o.bind.mono fun d ah1 H1 ρ1 x1 r1 o1 v hv => OutP.okI r1 o1 σ (re.ext r x1))
def sRet (f : EnvD → M D) : EnvD → M (Flw × EnvD) := fun env => do
  let d ← f env
  pure (.rt d, env)
theorem fs_ret {e : Expr} {pos : Pos} {f : EnvD → M D} (h : FE X E e f) : FS X E (.Return (some e) pos) (sRet f) := by
  obtain ⟨t, h1, q1⟩ := h
  refine .of (ps_ret h1) fun σ H ρ env ah D re r o => ?_
  exact q1 σ H ρ env ah _ re r (o.bind.mono fun d ah1 H1 ρ1 x1 r1 o1 v hv => OutP.okI r1 o1 v hv)
def sRetN : EnvD → M (Flw × EnvD) := fun env => ret (.rt .non, env)
theorem fs_retN {pos : Pos} : FS X E (.Return none pos) sRetN := .of ps_retN fun σ H ρ env ah D re r o => OutP.okI r o _ .non
def sIfS (t : EnvD → M Bool) (f g : EnvD → M (Flw × EnvD)) : EnvD → M (Flw × EnvD) := fun env => do
  let b ← t env
  if b then f env else g env
theorem fs_if {c : Expr} {a b : List Stmt} {pos : Pos} {t : EnvD → M Bool} {f g : EnvD → M (Flw × EnvD)} (hc : FT X E c t) (ha : FSs X E a f) (hb : FSs X E b g) : FS X E (.If c a b pos) (sIfS t f g) := by
  obtain ⟨tc, h0, q0⟩ := hc
  obtain ⟨ta, h1, q1⟩ := ha
  obtain ⟨tb, h2, q2⟩ := hb
  refine .of (ps_if h0 h1 h2) fun σ H ρ env ah D re r o => ?_
  refine q0 σ H ρ env ah _ re r (o.bind.mono fun b ah1 H1 ρ1 x1 r1 o1 => ?_)
  cases b with
  | true => exact L2.iteT (q1 σ H1 ρ1 env ah1 D (re.ext r x1) r1 o1)
  | false => exact L2.iteF (q2 σ H1 ρ1 env ah1 D (re.ext r x1) r1 o1)
/-! ### assignments -/
def sAsg (f : EnvD → M D) (g : D → EnvD → M EnvD) : EnvD → M (Flw × EnvD) := fun env => do
  let d ← f env
  let env' ← g d env
  pure (.next, env')
/-- x = e -/
theorem fs_set {i : Nat} {x : Str} {e : Expr} {pos pos' : Pos} {f : EnvD → M D} (hN : X.N.Nodup) (hi : X.N[i]? = some x) (hx : Loc X.env.scope x) (h : FE X E e f) (hs : swapsWith e (some (.Name x pos')) pos.line X.env = pure false) (hf : X.fn x = true ∨ X.env.scope.names.lookup x = some .local) :
    FS X E (.Assign [.Name x pos'] e pos) (sAsg f (gVar i)) := by
  obtain ⟨t, h1, q1⟩ := h
  refine .of (ps_set hN hi hx h1 hs hf) fun σ H ρ env ah D re r o => ?_
  exact q1 σ H ρ env ah _ re r (o.bind.mono fun d ah1 H1 ρ1 x1 r1 o1 v hv => OutP.okI r1 (show OutP _ _ _ _ _ (Out.ok (Flw.next, env.set i (some d)) ah1) _ from o1) _ ((re.ext r x1).set hv))
/-- x = [.. for ..] on one line, x a local of the def -/
theorem fs_setLc {i : Nat} {y : Str} {py : Pos} {elt tg iter : Expr} {ifs : List Expr} {scope : Scope} {own : List (Str × Nat)} {pos spos : Pos} {it : EnvD → M (List D × (AH → Prop))} {is : List Nat} {g : D → EnvD → M EnvD} {t : EnvD → M Bool} {f : EnvD → M D}
    (hc : X.calm = true) (hN : X.N.Nodup) (hy : X.N[i]? = some y) (hyl : X.env.scope.names.lookup y = some .local) (hsw : swapsWith (.ListComp elt [⟨tg, iter, ifs, 0⟩] scope pos) (some (.Name y py)) spos.line X.env = pure true)
    (hi : FI X E tg iter it) (ok : BlkOk X.N X.env.scope scope own) (his : ∀ i ∈ is, i ∈ own.map (·.2))
    (hg : ∀ (s : Shared) (H : Hp) (C : Addr) (cl : List (Str × Addr)) (fp : List Addr), FG (X.blk s H scope (compEnvC scope cl C X.env) fp) E0 tg is g)
    (ht : ∀ (s : Shared) (H : Hp) (C : Addr) (cl : List (Str × Addr)) (fp : List Addr), PTs (X.blk s H scope (compEnvC scope cl C X.env) fp) ifs (tT X.K X.mg E0 t))
    (he : ∀ (s : Shared) (H : Hp) (C : Addr) (cl : List (Str × Addr)) (fp : List Addr), FE (X.blk s H scope (compEnvC scope cl C X.env) fp) E0 elt f) (hs : noSet iter = true) :
    FS X E (.Assign [.Name y py] (.ListComp elt [⟨tg, iter, ifs, 0⟩] scope pos) spos) (sAsg (sNew (sLc it g t f (own.map (·.2)))) (gVar i)) := by
  obtain ⟨wi, h1, q1⟩ := hi
  refine .of (ps_setLc (g := tG X.K X.mg E0 is g) (tt := tT X.K X.mg E0 t) (te := tE X.K X.mg E0 f) hc hN hy hyl hsw h1 ok (fun s H C cl fp => (hg s H C cl fp).pg) ht (fun s H C cl fp => (he s H C cl fp).pe) (noFold_of hs)) fun σ H ρ env ah D re r o => ?_
  refine lc_read q1 his σ H ρ env ah (fun x H1 => gName i x σ H1 D.nx) re r ?_
  have o' : OutP X.mg X.K E ρ H ((sNew (sLc it g t f (own.map (·.2))) env >>= fun d => pure (Flw.next, env.set i (some d))) ah) (fun p _ H' ρ' => EndsOk X.K D p H' ρ') := o
  cases e : sLc it g t f (own.map (·.2)) env ah with
  | bad =>
    have e2 : sNew (sLc it g t f (own.map (·.2))) env ah = .bad := by
      show (sLc it g t f (own.map (·.2)) env >>= fun ds => alloc (.lst ds)) ah = _
      rw [bind_eq, e]
    rw [bind_eq, e2] at o'; exact o'
  | exc y ah1 =>
    have e2 : sNew (sLc it g t f (own.map (·.2))) env ah = .exc y ah1 := by
      show (sLc it g t f (own.map (·.2)) env >>= fun ds => alloc (.lst ds)) ah = _
      rw [bind_eq, e]
    rw [bind_eq, e2] at o'; exact o'
  | ok ds ah1 =>
    have e2 : sNew (sLc it g t f (own.map (·.2))) env ah = .ok (.ref ah1.length) (ah1 ++ [.lst ds]) := by
      show (sLc it g t f (own.map (·.2)) env >>= fun ds => alloc (.lst ds)) ah = _
      rw [bind_eq, e]; rfl
    rw [bind_eq, e2] at o'
    intro H1 ρ1 x1 r1 a vs ha hn h0 hv hz
    obtain ⟨x2, r2, d2⟩ := fresh_cell x1 r1 ha hn h0 hv hz
    exact (show OutP X.mg X.K E ρ H (.ok (Flw.next, env.set i (some (.ref ah1.length))) (ah1 ++ [.lst ds])) _ from o') H1 (ρ1 ++ [a]) x2 r2 _ ((re.ext r x2).set d2)
/-- target = e -/
theorem fs_asg {tg e : Expr} {pos : Pos} {is : List Nat} {f : EnvD → M D} {g : D → EnvD → M EnvD} (h : FE X E e f) (hg : FG X E tg is g) (hs : swapsWithSole [tg] e pos.line X.env = pure false) (hw : swappedStores [tg] e X.env = pure none) (h1 : (assignEach [tg] X.env).map (·.2) = [assign tg X.env]) :
    FS X E (.Assign [tg] e pos) (sAsg f g) := by
  obtain ⟨t, k1, q1⟩ := h
  obtain ⟨u, k2, q2⟩ := hg
  refine .of (ps_asg k1 k2 hs hw h1) fun σ H ρ env ah D re r o => ?_
  refine q1 σ H ρ env ah _ re r (o.bind.mono fun d ah1 H1 ρ1 x1 r1 o1 v hv => ?_)
  exact q2 v σ H1 ρ1 d env ah1 _ (re.ext r x1) r1 hv (o1.bind.mono fun env2 ah2 H2 ρ2 x2 r2 o2 σ2 re2 _ => OutP.okI r2 o2 σ2 re2)
/-- a, b = x, y -/
def sPar (i j : Nat) (f : EnvD → M (List D)) : EnvD → M (Flw × EnvD) := fun env => do
  match ← f env with
  | [a, b] => pure (.next, (env.set i (some a)).set j (some b))
  | _ => bad
theorem fs_par {i j : Nat} {x y : Str} {a b : Expr} {px py pt : Pos} {kt k2 : Nat} {pt2 pos : Pos} {f : EnvD → M (List D)} (hc : X.calm = true) (hN : X.N.Nodup) (hi : X.N[i]? = some x) (hj : X.N[j]? = some y) (hij : i ≠ j)
    (hx : X.env.scope.names.lookup x = some .local) (hy : X.env.scope.names.lookup y = some .local) (ha : FA X E [a, b] f)
    (hw : swappedStores [.Tuple [.Name x px, .Name y py] kt pt] (.Tuple [a, b] k2 pt2) X.env = pure (some [x, y])) : FS X E (.Assign [.Tuple [.Name x px, .Name y py] kt pt] (.Tuple [a, b] k2 pt2) pos) (sPar i j f) := by
  obtain ⟨t, k1, q1⟩ := ha
  refine .of (ps_par hc hN hi hj hij hx hy k1 hw rfl) fun σ H ρ env ah D re r o => ?_
  refine q1 σ H ρ env ah _ re r (o.bind.mono fun ds ah1 H1 ρ1 x1 r1 o1 vs hv => ?_)
  match ds, hv, o1 with
  | [d1, d2], .cons h1 (.cons h2 .nil), o1 =>
    exact ⟨_, _, rfl, OutP.okI r1 (show OutP _ _ _ _ _ (Out.ok (Flw.next, (env.set i (some d1)).set j (some d2)) ah1) _ from o1) _ (((re.ext r x1).set h1).set h2)⟩
  | [], _, o1 => exact (show False from o1).elim
  | [_], _, o1 => exact (show False from o1).elim
  | _ :: _ :: _ :: _, _, o1 => exact (show False from o1).elim
/-- o[i] = e -/
def setIxD (o i v : D) : M Unit := match o, i with
  | .ref n, .int k => do
    let ds ← rdLst n
    match ixN ds.length k with
    | some j => wrLst n (ds.set j v)
    | none => bad
  | _, _ => bad
theorem wr_of {n : Nat} {ah : AH} {K : PySem.W.Frag} {mg : Str → Option Value} {ρ : List Addr} {H : Hp} {P : Unit → AH → Hp → List Addr → Prop} {a : Addr} {es : List D} {ws : List V} (r : RelH K H ρ ah) (h : ρ[n]? = some a) (t : DVs K H ρ es ws) (hz : es.length ≤ sizeLine) {vs : List V} (hH : H a = some (.lst vs))
    (o : OutP mg K E ρ H (wrLst n es ah) P) : P () (ah.set n (.lst es)) (upd H a (.lst ws)) ρ ∧ Ext ρ H ρ (upd H a (.lst ws)) ∧ RelH K (upd H a (.lst ws)) ρ (ah.set n (.lst es)) := by
  have sq : ∀ b us, SqT K H b us → SqT K (upd H a (.lst ws)) b us := fun b us q => by
    rcases q with (q | ⟨u, q⟩) | q
    · refine .inl (.inl ?_)
      rw [upd_ne]; exact q
      rintro rfl; rw [hH] at q; cases q
    · refine .inl (.inr ⟨u, ?_⟩)
      rw [upd_ne]; exact q
      rintro rfl; rw [hH] at q; cases q
    · exact .inr q
  obtain ⟨x, r2⟩ := r.put (o := .lst ws) (c := .lst es) h ⟨hz, ws, upd_same, t.imp (fun _ _ q => q) sq⟩
  exact ⟨(show OutP mg K E ρ H (.ok () (ah.set n (.lst es))) P from o) _ _ x r2, x, r2⟩
def gIx (fo fi : EnvD → M D) : D → EnvD → M EnvD := fun d env => do
  let o ← fo env
  let i ← fi env
  setIxD o i d
  pure env
theorem fg_ix {o i : Expr} {pos : Pos} {fo fi : EnvD → M D} (ho : FE X E o fo) (hi : FE X E i fi) (ha : ∀ v, assign (.Subscript o i pos) X.env v = (do
      let ov ← holding [v] (eval o X.env)
      let iv ← holding [v, ov] (eval i X.env)
      standAt pos
      holding [v, ov, iv] (setItem ov iv v)
      release [v, ov, iv] [])) : FG X E (.Subscript o i pos) [] (gIx fo fi) := by
  obtain ⟨t, h1, q1⟩ := ho
  obtain ⟨u, h2, q2⟩ := hi
  refine ⟨_, pg_sub h1 h2 set_list ha, fun v σ H ρ d env ah Q re r hd oo => ?_⟩
  refine q1 σ H ρ env ah _ re r (oo.bind.mono fun d1 ah1 H1 ρ1 x1 r1 o1 w hw => ?_)
  refine q2 σ H1 ρ1 env ah1 _ (re.ext r x1) r1 (o1.bind.mono fun d2 ah2 H2 ρ2 x2 r2 o2 z hz => ?_)
  have hw := hw.ext r1 x2
  have hd := (hd.ext r x1).ext r1 x2
  have re2 := (re.ext r x1).ext r1 x2
  cases d1 with
  | ref n =>
    cases d2 with
    | int k =>
      cases hz
      obtain ⟨a, rfl, s1⟩ := hw.ref'
      have o2' : OutP X.mg X.K E ρ2 H2 ((rdLst n >>= fun ds => match ixN ds.length k with | some j => wrLst n (ds.set j d) | none => bad) ah2) _ := o2.bind
      obtain ⟨ds, vs, e1, f1, t1, o3⟩ := rdLst_of r2 s1 o2'.bind
      cases e : ixN ds.length k with
      | none => rw [e] at o3; exact o3.elim
      | some j =>
        rw [e] at o3
        refine ⟨a, vs, k, j, rfl, rfl, f1, by rw [← t1.length]; exact e, ?_⟩
        obtain ⟨p, x3, r3⟩ := wr_of r2 s1 (t1.set j hd) (by simpa using r2.lstLen e1) f1 o3
        exact OutP.okI r3 p σ (re2.ext r2 x3) .refl
    | _ => exact (show False from o2.bind).elim
  | _ => cases d2 <;> exact (show False from o2.bind).elim
/-- x op= e -/
def sAug (i : Nat) (g : D → D → M D) (f : EnvD → M D) : EnvD → M (Flw × EnvD) := fun env => do
  let x ← opt (env[i]?.join)
  let y ← f env
  let z ← g x y
  pure (.next, env.set i (some z))
def iaddD (x y : D) : M D := match x, y with
  | .int i, .int j => ret (.int (i + j))
  | _, _ => bad
theorem fs_aug {i : Nat} {x : Str} {e : Expr} {pos pos' : Pos} {f : EnvD → M D} (hN : X.N.Nodup) (hi : X.N[i]? = some x) (hx : Loc X.env.scope x) (h : FE X E e f) (hf : X.fn x = true ∨ X.env.scope.names.lookup x = some .local) :
    FS X E (.AugAssign (.Name x pos') .Add e pos) (sAug i iaddD f) := by
  obtain ⟨t, h1, q1⟩ := h
  refine .of (ps_aug hN hi hx h1 ip_add hf) fun σ H ρ env ah D re r o => ?_
  have ob := o.bind
  cases e9 : env[i]? with
  | none => rw [e9] at ob; exact ob.elim
  | some w =>
    cases w with
    | none => rw [e9] at ob; exact ob.elim
    | some d =>
      rw [e9] at ob
      obtain ⟨v, k1, k2⟩ := re.2 i d e9
      refine ⟨v, k1, q1 σ H ρ env ah _ re r ((OutP.okI r ob).bind.mono fun y ah1 H1 ρ1 x1 r1 o1 w hw => ?_)⟩
      have k3 := k2.ext r x1
      cases d with
      | int a =>
        cases y with
        | int b =>
          cases k3; cases hw
          exact ⟨a, b, rfl, rfl, OutP.okI r1 (show OutP _ _ _ _ _ (Out.ok (Flw.next, env.set i (some (.int (a + b)))) ah1) _ from o1) _ ((re.ext r x1).set (.int _))⟩
        | _ => exact (show False from o1).elim
      | _ => cases y <;> exact (show False from o1).elim
/-- xs[i] of a list, by values -/
theorem get_listV : PGet X (rIxL X.K) := by
  rintro pins s σ H o i ov iv Q I ro ri ⟨p, xs, k, z, rfl, rfl, hq, he, q⟩
  cases ro
  obtain ⟨t, rfl⟩ := ri
  obtain ⟨its, rv, pl, hz⟩ := I.list hq
  obtain ⟨j, h1, h2, h3, h4, h5⟩ := atI_get he
  obtain ⟨w, ew, rw'⟩ := rv.get h2
  have hl := rv.length
  have hn := line63
  have fin : EP X pins σ Q w s := ⟨z, H, I, rw', q⟩
  by_cases h0 : 0 ≤ k
  · have hj : k.toNat = j := by
      rw [seqIndex_of h0 h5] at h1; exact Option.some.inj h1
    exact wpAny_getItem_list pl.isList h0 (by omega) (by rw [hj]; simpa using ew) fin
  · have hj : (k + (its.toArray.size : Int)).toNat = j := by
      rw [seqIndex_neg (by omega) h4] at h1
      rw [List.size_toArray, ← hl]; exact Option.some.inj h1
    exact wpAny_getItem_list_neg pl.isList (by omega) (by rw [List.size_toArray]; omega) (by omega) (by rw [hj]; simpa using ew) fin
/-- the item of a list -/
def lixD (o i : D) : M D := match o, i with
  | .ref n, .int k => do
    let ds ← rdLst n
    opt (atI ds k)
  | _, _ => bad
/-- o[i] += e -/
def sAugIx (fo fi fe : EnvD → M D) : EnvD → M (Flw × EnvD) := fun env => do
  let o ← fo env
  let i ← fi env
  let x ← lixD o i
  let y ← fe env
  let z ← iaddD x y
  setIxD o i z
  pure (.next, env)
theorem fs_augIx {o i e : Expr} {tpos pos : Pos} {fo fi fe : EnvD → M D} (ho : FE X E o fo) (hi : FE X E i fi) (he : FE X E e fe) (ha : ∀ ov iv new, augStore i ov iv new = (do holding [new, ov, iv] (setItem ov iv new); release [new, ov, iv] []; pure .next)) :
    FS X E (.AugAssign (.Subscript o i tpos) .Add e pos) (sAugIx fo fi fe) := by
  obtain ⟨t, h1, q1⟩ := ho
  obtain ⟨u, h2, q2⟩ := hi
  obtain ⟨w, h3, q3⟩ := he
  refine .of (ps_augS h1 h2 (tget := rIxL X.K) get_listV h3 ip_add set_list ha) fun σ H ρ env ah D re r oo => ?_
  refine q1 σ H ρ env ah _ re r (oo.bind.mono fun d1 ah1 H1 ρ1 x1 r1 o1 v hv => ?_)
  refine q2 σ H1 ρ1 env ah1 _ (re.ext r x1) r1 (o1.bind.mono fun d2 ah2 H2 ρ2 x2 r2 o2 z hz => ?_)
  have hv := hv.ext r1 x2
  have re2 := (re.ext r x1).ext r1 x2
  -- the item
  cases d1 with
  | ref n =>
    cases d2 with
    | int k =>
      cases hz
      obtain ⟨a, rfl, s1⟩ := hv.ref'
      have o2' : OutP X.mg X.K E ρ2 H2 ((rdLst n >>= fun ds => opt (atI ds k)) ah2) _ := o2.bind
      obtain ⟨ds, vs, e1, f1, t1, o3⟩ := rdLst_of r2 s1 o2'.bind
      have l1 : SqL X.K H2 a vs := .inl (.inl f1)
      cases e : atI ds k with
      | none => simp only [e] at o3; exact o3.elim
      | some d3 =>
        simp only [e] at o3
        obtain ⟨x3, e2, hx3⟩ := atI_rel t1 e
        refine ⟨a, vs, k, x3, rfl, rfl, l1, e2, ?_⟩
        have o4 := OutP.okI r2 (show OutP _ _ _ _ _ (Out.ok d3 ah2) _ from o3)
        refine q3 σ H2 ρ2 env ah2 _ re2 r2 (o4.bind.mono fun d4 ah4 H4 ρ4 x4 r4 o5 y hy => ?_)
        have hx4 := hx3.ext r2 x4
        cases d3 with
        | int ia =>
          cases d4 with
          | int ib =>
            cases hx4; cases hy
            refine ⟨ia, ib, rfl, rfl, ?_⟩
            have o6 : OutP X.mg X.K E ρ4 H4 ((setIxD (.ref n) (.int k) (.int (ia + ib)) >>= fun _ => pure (Flw.next, env)) ah4) _ := o5
            have o6' : OutP X.mg X.K E ρ4 H4 ((rdLst n >>= fun ds => match ixN ds.length k with | some j => wrLst n (ds.set j (.int (ia + ib))) | none => bad) ah4) _ := o6.bind
            obtain ⟨ds', vs', e1', f1', t1', o7⟩ := rdLst_of r4 (x4.get s1) o6'.bind
            cases e5 : ixN ds'.length k with
            | none => rw [e5] at o7; exact o7.elim
            | some j =>
              rw [e5] at o7
              refine ⟨a, vs', k, j, rfl, rfl, f1', by rw [← t1'.length]; exact e5, ?_⟩
              obtain ⟨p, x5, r5⟩ := wr_of r4 (x4.get s1) (t1'.set j (.int (ia + ib))) (by simpa using r4.lstLen e1') f1' o7
              exact OutP.okI r5 p σ ((re2.ext r2 x4).ext r4 x5)
          | _ => exact (show False from o5).elim
        | _ => cases d4 <;> exact (show False from o5).elim
    | _ => exact (show False from o2.bind).elim
  | _ => cases d2 <;> exact (show False from o2.bind).elim
end
end Ev

set_option Elab.async false
set_option linter.all false
set_option maxRecDepth 100000
set_option maxHeartbeats 2000000
set_option autoImplicit false
namespace Ev
open PySem PySem.Spec PyProof.Rows L2
/-! ### loops -/
noncomputable def forGo (g : D → EnvD → M EnvD) (b : EnvD → M (Flw × EnvD)) (gd : AH → Prop) : List D → EnvD → M (Flw × EnvD)
  | [], env => do
    guardM gd
    pure (.next, env)
  | d :: ds, env => do
    guardM gd
    let env1 ← g d env
    let p ← b env1
    match p.1 with
    | .next => forGo g b gd ds p.2
    | .cont => forGo g b gd ds p.2
    | .brk => pure (.next, p.2)
    | .rt d => pure (.rt d, p.2)
noncomputable def sFor (it : EnvD → M (List D × (AH → Prop))) (g : D → EnvD → M EnvD) (b : EnvD → M (Flw × EnvD)) : EnvD → M (Flw × EnvD) := fun env => do
  let p ← it env
  forGo g b p.2 p.1 env
section
variable {X : Cx} {E : XK}
theorem fs_for {tg iter : Expr} {body : List Stmt} {pos : Pos} {is : List Nat} {it : EnvD → M (List D × (AH → Prop))} {g : D → EnvD → M EnvD} {b : EnvD → M (Flw × EnvD)} (hp : PassesOwn (model X.prog X.w) X.A X.env X.xe) (hc : X.calm = true)
    (hi : FI X E tg iter it) (hg : FG X E tg is g) (hb : FSs X E body b) (hs : noSet iter = true) : FS X E (.For tg iter body [] pos) (sFor it g b) := by
  obtain ⟨wi, h1, q1⟩ := hi
  obtain ⟨tg', h2, q2⟩ := hg
  obtain ⟨tb, h3, q3⟩ := hb
  refine .of (ps_for hp hc h1 h2 h3 (noFold_of hs)) fun σ H ρ env ah D re r o => ?_
  refine q1 σ H ρ env ah _ re r (o.bind.mono fun p ah1 H1 ρ1 x1 r1 o1 J hJ => ?_)
  obtain ⟨ds, gd⟩ := p
  obtain ⟨hz, hy⟩ := hJ
  have hz : ds.length ≤ sizeLine := hz
  refine ⟨fun i m σ2 H2 => m = ds.length - i ∧ i ≤ ds.length ∧ ∃ ρ2 env2 ah2, Ext ρ1 H1 ρ2 H2 ∧ RelH X.K H2 ρ2 ah2 ∧ EnvR X.K H2 ρ2 env2 σ2 ∧
    OutP X.mg X.K E ρ2 H2 (forGo g b gd (ds.drop i) env2 ah2) (fun p _ H' ρ' => EndsOk X.K D p H' ρ'), ⟨ds.length, by simp, Nat.zero_le _, ρ1, env, ah1, .refl, r1, re.ext r x1, o1⟩, ?_⟩
  rintro i m σ2 H2 ⟨rfl, hi, ρ2, env2, ah2, x2, r2, re2, o2⟩
  by_cases hlt : i < ds.length
  · right
    rw [List.drop_eq_getElem_cons hlt] at o2
    have o2' : OutP X.mg X.K E ρ2 H2 ((guardM gd >>= fun _ => g ds[i] env2 >>= fun env1 => b env1 >>= fun p => match p.1 with | .next => forGo g b gd (ds.drop (i + 1)) p.2 | .cont => forGo g b gd (ds.drop (i + 1)) p.2 | .brk => pure (.next, p.2) | .rt d => pure (.rt d, p.2)) ah2) _ := o2
    obtain ⟨hgd, o3⟩ := guard_of o2'.bindA
    have o3 := OutP.okI r2 o3
    obtain ⟨hgo, _⟩ := hy i H2 ρ2 ah2 x2 r2 hgd
    obtain ⟨hgo1, hyl⟩ := hgo ds[i] (List.getElem?_eq_getElem hlt)
    refine ⟨hgo1, fun σ' H' => ∃ ρ3 env3 ah3, Ext ρ1 H1 ρ3 H' ∧ RelH X.K H' ρ3 ah3 ∧ EnvR X.K H' ρ3 env3 σ' ∧ OutP X.mg X.K E ρ3 H' (forGo g b gd (ds.drop (i + 1)) env3 ah3) (fun p _ H' ρ' => EndsOk X.K D p H' ρ'),
      fun σ' H' hN => ⟨ds.length - (i + 1), by omega, rfl, hlt, hN⟩, fun x H3 hyld => ?_⟩
    obtain ⟨x3, r3, hx⟩ := hyl x H3 hyld
    refine q2 x σ2 H3 ρ2 ds[i] env2 ah2 _ (re2.ext r2 x3) r3 hx ((o3.ext x3).bind.mono fun env4 ah4 H4 ρ4 x4 r4 o4 σ4 re4 _ => ?_)
    refine q3 σ4 H4 ρ4 env4 ah4 _ re4 r4 (o4.bind.mono fun p ah5 H5 ρ5 x5 r5 o5 => ?_)
    have x15 := ((x2.trans x3).trans x4).trans x5
    obtain ⟨fl, env5⟩ := p
    cases fl with
    | next => exact fun σ5 re5 => ⟨ρ5, env5, ah5, x15, r5, re5, o5⟩
    | cont => exact fun σ5 re5 => ⟨ρ5, env5, ah5, x15, r5, re5, o5⟩
    | brk => exact OutP.okI r5 (show OutP _ _ _ _ _ (Out.ok (Flw.next, env5) ah5) _ from o5)
    | rt d => exact OutP.okI r5 (show OutP _ _ _ _ _ (Out.ok (Flw.rt d, env5) ah5) _ from o5)
  · left
    have e : i = ds.length := by omega
    subst e
    rw [List.drop_length] at o2
    have o2' : OutP X.mg X.K E ρ2 H2 ((guardM gd >>= fun _ => pure (Flw.next, env2)) ah2) _ := o2
    obtain ⟨hgd, o3⟩ := guard_of o2'.bindA
    obtain ⟨_, hstop⟩ := hy ds.length H2 ρ2 ah2 x2 r2 hgd
    exact ⟨hstop (Nat.le_refl _), OutP.okI r2 (show OutP _ _ _ _ _ (Out.ok (Flw.next, env2) ah2) _ from OutP.okI r2 o3) σ2 re2⟩
/-- while, at most so many turns -/
def whileN (t : EnvD → M Bool) (b : EnvD → M (Flw × EnvD)) : Nat → EnvD → M (Flw × EnvD)
  | 0, _ => bad
  | n + 1, env => do
    let c ← t env
    if c then do
      let p ← b env
      match p.1 with
      | .next => whileN t b n p.2
      | .cont => whileN t b n p.2
      | .brk => pure (.next, p.2)
      | .rt d => pure (.rt d, p.2)
    else pure (.next, env)
noncomputable def sWhile (t : EnvD → M Bool) (b : EnvD → M (Flw × EnvD)) : EnvD → M (Flw × EnvD) := fun env ah => open Classical in
  if h : ∃ n, whileN t b n env ah ≠ .bad then whileN t b h.choose env ah else .bad
theorem fs_while {c : Expr} {body : List Stmt} {pos : Pos} {t : EnvD → M Bool} {b : EnvD → M (Flw × EnvD)} (hp : PassesOwn (model X.prog X.w) X.A X.env X.xe) (hc : FT X E c t) (hb : FSs X E body b) : FS X E (.While c body [] pos) (sWhile t b) := by
  obtain ⟨tc, h1, q1⟩ := hc
  obtain ⟨tb, h2, q2⟩ := hb
  refine .of (ps_while hp h1 h2) fun σ H ρ env ah D re r o => ?_
  unfold sWhile at o
  by_cases h : ∃ n, whileN t b n env ah ≠ .bad
  · rw [dif_pos h] at o
    generalize h.choose = n0 at o
    refine ⟨fun m σ2 H2 => ∃ ρ2 env2 ah2, RelH X.K H2 ρ2 ah2 ∧ EnvR X.K H2 ρ2 env2 σ2 ∧ OutP X.mg X.K E ρ2 H2 (whileN t b m env2 ah2) (fun p _ H' ρ' => EndsOk X.K D p H' ρ'), ⟨n0, ρ, env, ah, r, re, o⟩, ?_⟩
    rintro m σ2 H2 ⟨ρ2, env2, ah2, r2, re2, o2⟩
    cases m with
    | zero => exact (show False from o2).elim
    | succ m =>
      have o2' : OutP X.mg X.K E ρ2 H2 ((t env2 >>= fun c => if c then b env2 >>= fun p => (match p.1 with | .next => whileN t b m p.2 | .cont => whileN t b m p.2 | .brk => pure (.next, p.2) | .rt d => pure (.rt d, p.2)) else pure (.next, env2)) ah2) _ := o2
      refine q1 σ2 H2 ρ2 env2 ah2 _ re2 r2 (o2'.bind.mono fun c ah3 H3 ρ3 x3 r3 o3 => ?_)
      cases c with
      | true =>
        refine L2.iteT ⟨fun σ' H' => ∃ ρ4 env4 ah4, RelH X.K H' ρ4 ah4 ∧ EnvR X.K H' ρ4 env4 σ' ∧ OutP X.mg X.K E ρ4 H' (whileN t b m env4 ah4) (fun p _ H' ρ' => EndsOk X.K D p H' ρ'), fun σ' H' hN => ⟨m, Nat.lt_succ_self _, hN⟩, ?_⟩
        rw [if_pos rfl] at o3
        refine q2 σ2 H3 ρ3 env2 ah3 _ (re2.ext r2 x3) r3 (o3.bind.mono fun p ah5 H5 ρ5 x5 r5 o5 => ?_)
        obtain ⟨fl, env5⟩ := p
        cases fl with
        | next => exact fun σ5 re5 => ⟨ρ5, env5, ah5, r5, re5, o5⟩
        | cont => exact fun σ5 re5 => ⟨ρ5, env5, ah5, r5, re5, o5⟩
        | brk => exact OutP.okI r5 (show OutP _ _ _ _ _ (Out.ok (Flw.next, env5) ah5) _ from o5)
        | rt d => exact OutP.okI r5 (show OutP _ _ _ _ _ (Out.ok (Flw.rt d, env5) ah5) _ from o5)
      | false =>
        rw [if_neg Bool.false_ne_true] at o3
        exact L2.iteF (OutP.okI r3 (show OutP _ _ _ _ _ (Out.ok (Flw.next, env2) ah3) _ from o3) σ2 (re2.ext r2 x3))
  · rw [dif_neg h] at o; exact o.elim

/-! ### methods of lists -/
/-- the receiver a cell, the method changes it -/
def MthD (X : Cx) (E : XK) (r : V → List V → Hp → VK → Prop) (g : Nat → List D → M D) : Prop := ∀ H ρ ah n a ds vs Q, RelH X.K H ρ ah → ρ[n]? = some a → DVs X.K H ρ ds vs →
  OutP X.mg X.K E ρ H (g n ds ah) (fun d _ H' ρ' => ∀ v, DV X.K H' ρ' d v → Q v H') → r (.ref a) vs H Q
def sMth (g : Nat → List D → M D) (fo : EnvD → M D) (fa : EnvD → M (List D)) : EnvD → M D := fun env => do
  match ← fo env with
  | .ref n => do
    let _ ← rdLst n
    let ds ← fa env
    g n ds
  | _ => bad
theorem fe_mth {o e : Expr} {es : List Expr} {name : Str} {id : String} {apos cpos : Pos} {r : V → List V → Hp → VK → Prop} {g : Nat → List D → M D} {fo : EnvD → M D} {fa : EnvD → M (List D)}
    (slot : Slot "list" name id) (hty : typeOf (.builtin id) = pure (.type "method_descriptor")) (hm : MtR X id r) (hr : MthD X E r g) (ho : FE X E o fo) (ha : FA X E (e :: es) fa) (hb : noSuper o = true) (hl : (apos.endLine == cpos.line) = true)
    (hs : noStars (e :: es) = true) (hfew : ((backTo cpos (starEach (e :: es) X.env)).all (fun x => !x.1) && (backToKw cpos (keywordEach [] X.env)).all (fun x => x.1.isSome)
      && decide ((e :: es).length + ([] : List Keyword).length + (if ([] : List Keyword).isEmpty then 0 else 1) < 30)) = true) : FE X E (.Call (.Attribute o name apos) (e :: es) [] cpos) (sMth g fo fa) := by
  obtain ⟨t, h1, q1⟩ := ho
  obtain ⟨u, h2, q2⟩ := ha
  simp only [noStars, Bool.and_eq_true] at hs
  refine .ofPE (pe_bm PySem.F.plainAttrs_list slot hty hm h1 h2 (base_of hb) hfew hl (star_of hs.1) (stars_any hs.2)) fun σ H ρ env ah Q re r' oo => ?_
  refine q1 σ H ρ env ah _ re r' (oo.bind.mono fun d ah1 H1 ρ1 x1 r1 o1 v hv => ?_)
  cases d with
  | ref n =>
    obtain ⟨a, rfl, s1⟩ := hv.ref'
    have o1' : OutP X.mg X.K E ρ1 H1 ((rdLst n >>= fun _ => fa env >>= fun ds => g n ds) ah1) _ := o1
    obtain ⟨ds0, vs0, e1, f1, t1, o2⟩ := rdLst_of r1 s1 o1'.bind
    refine ⟨.inl ⟨rfl, vs0, .inl (.inl f1)⟩, ?_⟩
    refine q2 σ H1 ρ1 env ah1 _ (re.ext r' x1) r1 (o2.bind.mono fun ds ah2 H2 ρ2 x2 r2 o3 vs hvs => ?_)
    exact hr H2 ρ2 ah2 n a ds vs Q r2 (x2.get s1) hvs o3
  | _ => exact (show False from o1).elim
theorem fe_mth0 {o : Expr} {name : Str} {id : String} {apos cpos : Pos} {r : V → List V → Hp → VK → Prop} {g : Nat → List D → M D} {fo : EnvD → M D}
    (slot : Slot "list" name id) (hty : typeOf (.builtin id) = pure (.type "method_descriptor")) (hm : MtR X id r) (hr : MthD X E r g) (ho : FE X E o fo) (hb : noSuper o = true) (hl : (apos.endLine == cpos.line) = true) :
    FE X E (.Call (.Attribute o name apos) [] [] cpos) (sMth g fo sNil) := by
  obtain ⟨t, h1, q1⟩ := ho
  refine .ofPE (pe_bm0 PySem.F.plainAttrs_list slot hty hm h1 (base_of hb) hl) fun σ H ρ env ah Q re r' oo => ?_
  refine q1 σ H ρ env ah _ re r' (oo.bind.mono fun d ah1 H1 ρ1 x1 r1 o1 v hv => ?_)
  cases d with
  | ref n =>
    obtain ⟨a, rfl, s1⟩ := hv.ref'
    have o1' : OutP X.mg X.K E ρ1 H1 ((rdLst n >>= fun _ => sNil env >>= fun ds => g n ds) ah1) _ := o1
    obtain ⟨ds0, vs0, e1, f1, t1, o2⟩ := rdLst_of r1 s1 o1'.bind
    refine ⟨.inl ⟨rfl, vs0, .inl (.inl f1)⟩, ?_⟩
    exact hr H1 ρ1 ah1 n a [] [] Q r1 s1 .nil o2
  | _ => exact (show False from o1).elim
def appendD (n : Nat) (ds : List D) : M D := match ds with
  | [d] => do
    let xs ← rdLst n
    if xs.length < sizeLine then do
      wrLst n (xs ++ [d])
      pure .non
    else bad
  | _ => bad
theorem md_append : MthD X E rAppend appendD := by
  intro H ρ ah n a ds vs Q r s1 hv o
  match ds, hv, o with
  | [d], .cons (v := v) h1 .nil, o =>
    have o' : OutP X.mg X.K E ρ H ((rdLst n >>= fun xs => if xs.length < sizeLine then (wrLst n (xs ++ [d]) >>= fun _ => pure D.non) else bad) ah) _ := o
    obtain ⟨xs, ws, e1, f1, t1, o2⟩ := rdLst_of r s1 o'.bind
    obtain ⟨hz, o3⟩ := ifB o2
    obtain ⟨p, x3, r3⟩ := wr_of r s1 (t1.snoc h1) (by simp; omega) f1 o3.bind
    exact ⟨a, ws, v, rfl, rfl, f1, by rw [← t1.length]; exact hz, OutP.okI r3 p _ .non⟩
  | [], _, o => exact (show False from o).elim
  | _ :: _ :: _, _, o => exact (show False from o).elim
def popD (n : Nat) (ds : List D) : M D := match ds with
  | [] => do
    let xs ← rdLst n
    match xs[xs.length - 1]? with
    | some d => do
      wrLst n xs.dropLast
      pure d
    | none => bad
  | _ => bad
theorem md_pop : MthD X E rPop popD := by
  intro H ρ ah n a ds vs Q r s1 hv o
  match ds, hv, o with
  | [], .nil, o =>
    have o' : OutP X.mg X.K E ρ H ((rdLst n >>= fun xs => match xs[xs.length - 1]? with | some d => (wrLst n xs.dropLast >>= fun _ => pure d) | none => bad) ah) _ := o
    obtain ⟨xs, ws, e1, f1, t1, o2⟩ := rdLst_of r s1 o'.bind
    cases e : xs[xs.length - 1]? with
    | none => simp only [e] at o2; exact o2.elim
    | some d =>
      simp only [e] at o2
      obtain ⟨w, e2, hw⟩ := t1.get e
      obtain ⟨p, x3, r3⟩ := wr_of r s1 t1.dropLast (by simp; have := r.lstLen e1; omega) f1 o2.bind
      exact ⟨a, ws, w, rfl, rfl, f1, by rw [← t1.length]; exact e2, OutP.okI r3 p _ (hw.ext r x3)⟩
  | _ :: _, _, o => exact (show False from o).elim
def popAtD (n : Nat) (ds : List D) : M D := match ds with
  | [.int i] => if -(2 ^ 63) ≤ i ∧ i < 2 ^ 63 then do
      let xs ← rdLst n
      match seqIndex? i xs.length with
      | some k => match xs[k]? with
        | some d => do
          wrLst n (xs.eraseIdx k)
          pure d
        | none => bad
      | none => bad
    else bad
  | _ => bad
theorem md_popAt : MthD X E rPopAt popAtD := by
  intro H ρ ah n a ds vs Q r s1 hv o
  match ds, hv, o with
  | [.int i], .cons (.int _) .nil, o =>
    obtain ⟨hb, o'⟩ := ifB (show OutP X.mg X.K E ρ H ((if -(2 ^ 63) ≤ i ∧ i < 2 ^ 63 then (rdLst n >>= fun xs => match seqIndex? i xs.length with | some k => (match xs[k]? with | some d => (wrLst n (xs.eraseIdx k) >>= fun _ => pure d) | none => bad) | none => bad) else bad) ah) _ from o)
    obtain ⟨xs, ws, e1, f1, t1, o2⟩ := rdLst_of r s1 o'.bind
    cases e : seqIndex? i xs.length with
    | none => simp only [e] at o2; exact o2.elim
    | some k =>
      simp only [e] at o2
      cases e5 : xs[k]? with
      | none => simp only [e5] at o2; exact o2.elim
      | some d =>
        simp only [e5] at o2
        obtain ⟨w, e2, hw⟩ := t1.get e5
        obtain ⟨p, x3, r3⟩ := wr_of r s1 (t1.eraseIdx k) (by have := r.lstLen e1; have := len_erase xs k; omega) f1 o2.bind
        exact ⟨a, ws, i, k, w, rfl, rfl, f1, hb.1, hb.2, by rw [← t1.length]; exact e, e2, OutP.okI r3 p _ (hw.ext r x3)⟩
  | [], _, o => exact (show False from o).elim
  | d :: _ :: _, _, o => cases d <;> exact (show False from o).elim
  | [.non], _, o => exact (show False from o).elim
  | [.bl _], _, o => exact (show False from o).elim
  | [.str _], _, o => exact (show False from o).elim
  | [.tup _], _, o => exact (show False from o).elim
  | [.ref _], _, o => exact (show False from o).elim
def extendD (n : Nat) (ds : List D) : M D := match ds with
  | [.ref m] => do
    let xs ← rdLst n
    let ys ← rdLst m
    if xs.length + ys.length ≤ sizeLine then do
      wrLst n (xs ++ ys)
      pure .non
    else bad
  | _ => bad
theorem md_extend : MthD X E rExtend extendD := by
  intro H ρ ah n a ds vs Q r s1 hv o
  match ds, hv, o with
  | [.ref m], .cons (.ref (a := b) s2) .nil, o =>
    have o' : OutP X.mg X.K E ρ H ((rdLst n >>= fun xs => rdLst m >>= fun ys => if xs.length + ys.length ≤ sizeLine then (wrLst n (xs ++ ys) >>= fun _ => pure D.non) else bad) ah) _ := o
    obtain ⟨xs, ws, e1, f1, t1, o2⟩ := rdLst_of r s1 o'.bind
    obtain ⟨ys, us, e2, f2, t2, o3⟩ := rdLst_of r s2 o2.bind
    obtain ⟨hz, o4⟩ := ifB o3
    obtain ⟨p, x3, r3⟩ := wr_of r s1 (t1.append t2) (by simpa using hz) f1 o4.bind
    exact ⟨a, b, ws, us, rfl, rfl, f1, f2, by rw [← t1.length, ← t2.length]; exact hz, OutP.okI r3 p _ .non⟩
  | [], _, o => exact (show False from o).elim
  | d :: _ :: _, _, o => cases d <;> exact (show False from o).elim
  | [.non], _, o => exact (show False from o).elim
  | [.bl _], _, o => exact (show False from o).elim
  | [.str _], _, o => exact (show False from o).elim
  | [.tup _], _, o => exact (show False from o).elim
  | [.int _], _, o => exact (show False from o).elim
end
end Ev

set_option Elab.async false
set_option linter.all false
set_option maxRecDepth 100000
set_option maxHeartbeats 2000000
set_option autoImplicit false
namespace Ev
open PySem PySem.Spec PyProof.Rows L2
/-! ### what a call leaves: new cells that nobody knows are dropped -/
mutual
def D.under (n : Nat) : D → Bool
  | .tup ds => unders n ds
  | .ref m => decide (m < n)
  | _ => true
def unders (n : Nat) : List D → Bool
  | [] => true
  | d :: ds => d.under n && unders n ds
end
def Cell.under (n : Nat) : Cell → Bool
  | .lst ds => unders n ds
  | .ro ds => unders n ds
section
variable {K : PySem.W.Frag} {H H1 : Hp} {ρ t : List Addr}
mutual
theorem DV.scoped : ∀ {d : D} {v : V}, DV K H ρ d v → d.under ρ.length = true
  | _, _, .non => rfl
  | _, _, .bl _ => rfl
  | _, _, .int _ => rfl
  | _, _, .str _ => rfl
  | _, _, .tup _ h _ => by unfold D.under; exact DVs.scoped h
  | _, _, .ref h => by unfold D.under; exact decide_eq_true (List.getElem?_eq_some_iff.mp h).1
theorem DVs.scoped : ∀ {ds : List D} {vs : List V}, DVs K H ρ ds vs → unders ρ.length ds = true
  | _, _, .nil => rfl
  | _, _, .cons h t => by unfold unders; rw [DV.scoped h, DVs.scoped t]; rfl
end
mutual
theorem DV.shrink : ∀ {d : D} {v : V}, d.under ρ.length = true → DV K H (ρ ++ t) d v → DV K H ρ d v
  | _, _, _, .non => .non
  | _, _, _, .bl _ => .bl _
  | _, _, _, .int _ => .int _
  | _, _, _, .str _ => .str _
  | _, _, b, .tup h q z => .tup h (DVs.shrink (by unfold D.under at b; exact b) q) z
  | _, _, b, .ref h => by
    unfold D.under at b
    have b' := of_decide_eq_true b
    rw [List.getElem?_append_left b'] at h
    exact .ref h
theorem DVs.shrink : ∀ {ds : List D} {vs : List V}, unders ρ.length ds = true → DVs K H (ρ ++ t) ds vs → DVs K H ρ ds vs
  | _, _, _, .nil => .nil
  | _, _, b, .cons h q => by
    unfold unders at b
    rw [Bool.and_eq_true] at b
    exact .cons (DV.shrink b.1 h) (DVs.shrink b.2 q)
end
theorem CellOk.scoped {a : Addr} {c : Cell} (h : CellOk K H ρ a c) : c.under ρ.length = true := by
  cases c with
  | lst ds => obtain ⟨_, vs, _, t⟩ := h; exact t.scoped
  | ro ds => obtain ⟨_, o, vs, _, t⟩ := h; exact t.scoped
theorem CellOk.shrink {a : Addr} {c : Cell} (b : c.under ρ.length = true) (h : CellOk K H (ρ ++ t) a c) : CellOk K H ρ a c := by
  cases c with
  | lst ds => obtain ⟨z, vs, e, t⟩ := h; exact ⟨z, vs, e, t.shrink b⟩
  | ro ds => obtain ⟨z, o, vs, e, t⟩ := h; exact ⟨z, o, vs, e, t.shrink b⟩
end
/-- the old cells stand by themselves -/
def Closed (ah ah' : AH) : Prop := ∀ i, i < ah.length → (ah'[i]? = ah[i]? ∨ ∃ c, ah'[i]? = some c ∧ c.under ah.length = true)
noncomputable def gcM (m : M D) : M D := fun ah => match m ah with
  | .ok d ah' => open Classical in if d.under ah.length = true ∧ ah.length ≤ ah'.length ∧ Closed ah ah' then .ok d (ah'.take ah.length) else .ok d ah'
  | .exc x ah' => .exc x ah'
  | .bad => .bad
theorem gc_of {K : PySem.W.Frag} {mg : Str → Option Value} {E : XK} {H : Hp} {ρ : List Addr} {ah : AH} {m : M D} {Q : VK} (r : RelH K H ρ ah)
    (o : OutP mg K E ρ H (gcM m ah) (fun d _ H' ρ' => ∀ v, DV K H' ρ' d v → Q v H')) : OutP mg K E ρ H (m ah) (fun d _ H' ρ' => ∀ v, DV K H' ρ' d v → Q v H') := by
  unfold gcM at o
  cases e : m ah with
  | bad => rw [e] at o; exact o
  | exc x ah' => rw [e] at o; exact o
  | ok d ah' =>
    rw [e] at o
    by_cases h : d.under ah.length = true ∧ ah.length ≤ ah'.length ∧ Closed ah ah'
    · simp only [if_pos h] at o
      obtain ⟨hd, hl, hc⟩ := h
      intro H' ρ' x r' v hv
      obtain ⟨t, rfl⟩ := x.pre
      have hρ : ρ.length = ah.length := r.len
      have xx : Ext ρ H ρ H' := ⟨⟨[], by simp⟩, x.keep, fun a h n => absurd h n⟩
      have rr : RelH K H' ρ (ah'.take ah.length) := by
        refine ⟨by rw [List.length_take, r.len]; omega, r.nd, fun n c en => ?_⟩
        have hn : n < ah.length := by
          have := (List.getElem?_eq_some_iff.mp en).1
          rw [List.length_take] at this; omega
        rw [List.getElem?_take_of_lt hn] at en
        obtain ⟨a, h1, h2⟩ := r'.cell n c en
        rw [List.getElem?_append_left (by omega)] at h1
        refine ⟨a, h1, h2.shrink ?_⟩
        rw [hρ]
        rcases hc n hn with q | ⟨c', q1, q2⟩
        · rw [en] at q
          obtain ⟨a2, _, h4⟩ := r.cell n c q.symm
          rw [← hρ]; exact h4.scoped
        · rw [en] at q1; cases q1; exact q2
      exact o H' ρ xx rr v (hv.shrink (by rw [hρ]; exact hd))
    · simp only [if_neg h] at o; exact o
/-! ### a def's meaning -/
def bodyM (N : Nat) (b : EnvD → M (Flw × EnvD)) (ds : List D) : M D := do
  let p ← b (ds.map some ++ List.replicate (N - ds.length) none)
  match p.1 with
  | .rt d => pure d
  | .next => pure .non
  | _ => bad
noncomputable def defM (n N : Nat) (b : EnvD → M (Flw × EnvD)) (ds : List D) : M D := if ds.length = n then gcM (bodyM N b ds) else bad
/-- the promise of a def by its meaning -/
def spM (K : PySem.W.Frag) (mg : Str → Option Value) (n : Nat) (m : List D → M D) : Sp := fun vs H Q E => ∃ ρ ds ah, RelH K H ρ ah ∧ DVs K H ρ ds vs ∧ ds.length = n ∧ OutP mg K E ρ H (m ds ah) (fun d _ H' ρ' => ∀ v, DV K H' ρ' d v → Q v H')
/-- how a call with keywords is written: so many positional ones, the names, for each further parameter which keyword tells it -/
abbrev KPat := Nat × List Str × List Nat
def pick {α : Type} (π : List Nat) (ws : List α) : List α := π.filterMap fun i => ws[i]?
theorem pick_vals {zs : List V} {ws : List Value} (r : Vals zs ws) : ∀ π : List Nat, Vals (pick π zs) (pick π ws)
  | [] => .nil
  | i :: π => by
    have ih := pick_vals r π
    unfold pick at ih ⊢
    cases e : zs[i]? with
    | none =>
      have : ws[i]? = Option.none := by rw [List.getElem?_eq_none_iff] at e ⊢; rw [← r.length]; exact e
      rw [List.filterMap_cons_none e, List.filterMap_cons_none this]; exact ih
    | some x =>
      obtain ⟨u, hu, q⟩ := Vals.get r e
      rw [List.filterMap_cons_some e, List.filterMap_cons_some hu]; exact .cons q ih
theorem pick_dvs {K : PySem.W.Frag} {H : Hp} {ρ : List Addr} {ds : List D} {vs : List V} (h : DVs K H ρ ds vs) : ∀ π : List Nat, DVs K H ρ (pick π ds) (pick π vs)
  | [] => .nil
  | i :: π => by
    have ih := pick_dvs h π
    unfold pick at ih ⊢
    cases e : ds[i]? with
    | none =>
      have : vs[i]? = Option.none := by rw [List.getElem?_eq_none_iff] at e ⊢; rw [← h.length]; exact e
      rw [List.filterMap_cons_none e, List.filterMap_cons_none this]; exact ih
    | some x =>
      obtain ⟨u, hu, q⟩ := h.get e
      rw [List.filterMap_cons_some e, List.filterMap_cons_some hu]; exact .cons q ih
theorem kbn_of {K : PySem.W.Frag} {x qual : Str} {params : Arguments} {body : List Stmt} {scope : Scope} {f : Addr} {fd : FuncData} {ps : List Str} (F : FunD K x qual params body scope [] [] f fd) {n : Nat} {ks : List Str} {π : List Nat}
    (h : ∀ (kV doc pm : Value) (an : Option Addr) (cdv ct : Value) (us ws : List Value), us.length = n → ws.length = ks.length → bindArgs (PySem.W.fnOf x qual params body scope .none kV doc pm an cdv ct) ⟨us, ks.zip ws⟩ = pure (ps.zip (us ++ pick π ws))) :
    KBn K fd ps n ks (fun us ws => us ++ pick π ws) (fun vs zs => vs ++ pick π zs) := by
  obtain ⟨oc, od, dV, kV, doc, pm, an, cdv, ct, osl, rfl, lk, hcd, hD, hK⟩ := F.ex
  rcases hD with ⟨_, rfl⟩ | ⟨e, _⟩
  · exact ⟨fun s us ws _ l1 l2 => .of_eq (h kV doc pm an cdv ct us ws l1 l2), fun r rz => r.append (pick_vals rz π)⟩
  · exact absurd rfl e
structure DefOk (P : Program) (w : World) (K : PySem.W.Frag) (mg : Str → Option Value) (base : Heap) (k : Nat) (x : Str) (ps : List Str) (kp : List KPat) (m : List D → M D) : Prop where
  ex : ∃ f fd, FnOk P w K mg base (L2.CX P w) k f fd ps (spM K mg ps.length m) ∧ mg x = some (.ref f) ∧ PySem.W.keepIn K (.ref f) = true ∧ Binds K fd ps [] ∧ ∀ q ∈ kp, KBn K fd ps q.1 q.2.1 (fun us ws => us ++ pick q.2.2 ws) (fun vs zs => vs ++ pick q.2.2 zs)
theorem DefOk.mono {P : Program} {w : World} {K : PySem.W.Frag} {mg : Str → Option Value} {base : Heap} {j k : Nat} {x : Str} {ps : List Str} {kp : List KPat} {m : List D → M D} (h : DefOk P w K mg base j x ps kp m) (hk : j ≤ k) : DefOk P w K mg base k x ps kp m :=
  let ⟨f, fd, a, b, c, d⟩ := h.ex; ⟨f, fd, a.mono hk, b, c, d⟩
theorem start_rel {K : PySem.W.Frag} {H : Hp} {ρ : List Addr} {ds : List D} {vs : List V} (h : DVs K H ρ ds vs) {N : List Str} : EnvR K H ρ (ds.map some ++ List.replicate (N.length - ds.length) none) (L2.start N vs) := by
  unfold L2.start
  refine ⟨by simp [h.length], fun i d e => ?_⟩
  by_cases hi : i < ds.length
  · rw [List.getElem?_append_left (by simpa using hi), List.getElem?_map] at e
    cases q : ds[i]? with
    | none => rw [q] at e; cases e
    | some d' =>
      rw [q] at e; cases e
      obtain ⟨v, h1, h2⟩ := h.get q
      exact ⟨v, by rw [List.getElem?_append_left (by simpa using (List.getElem?_eq_some_iff.mp h1).1), List.getElem?_map, h1]; rfl, h2⟩
  · rw [List.getElem?_append_right (by simpa using hi), List.getElem?_replicate] at e
    split at e <;> cases e
theorem fnOk_of {P : Program} {w : World} {K : PySem.W.Frag} {mg : Str → Option Value} {base : Heap} {x qual : Str} {params : Arguments} {body : List Stmt} {scope : Scope} {f : Addr} {fd : FuncData} {N ps : List Str} {k : Nat} {b : EnvD → M (Flw × EnvD)}
    (F : FunD K x qual params body scope [] [] f fd) (S : FnScope N ps scope)
    (hs : ∀ (cdv : Value) (A : Around) (outer : List Env) (s : Shared) (H : Hp) (E : XK), Room k (A.deeper (envOfC qual scope s.heap.objs.size f cdv)) → FSs (cxOf (L2.CX P w) P w K mg base N qual scope f cdv A outer s H E) E body b) :
    FnOk P w K mg base (L2.CX P w) (k + 1) f fd ps (spM K mg ps.length (defM ps.length N.length b)) := by
  refine F.ok S (fun vs H Q E h => ?_) (fun cdv A outer s H vs Q E hr h => ?_)
  · obtain ⟨ρ, ds, ah, _, hv, hl, _⟩ := h
    rw [← hv.length]; exact hl
  · obtain ⟨ρ, ds, ah, r, hv, hl, o⟩ := h
    obtain ⟨t, h1, q1⟩ := hs cdv A outer s H E hr
    have o1 : OutP mg K E ρ H (defM ps.length N.length b ds ah) (fun d _ H' ρ' => ∀ v, DV K H' ρ' d v → Q v H') := o
    unfold defM at o1
    rw [if_pos hl] at o1
    have o2 := gc_of r o1
    refine ⟨t, h1, q1 _ H ρ _ ah _ (start_rel hv) r ((show OutP _ _ _ _ _ ((b (ds.map some ++ List.replicate (N.length - ds.length) none) >>= fun p => match p.1 with | .rt d => pure d | .next => pure .non | _ => bad) ah) _ from o2).bind.mono fun p ah1 H1 ρ1 x1 r1 o3 => ?_)⟩
    obtain ⟨fl, env1⟩ := p
    cases fl with
    | next => exact fun σ1 re1 => OutP.okI r1 (show OutP _ _ _ _ _ (Out.ok D.non ah1) _ from o3) _ .non
    | brk => exact (show False from o3).elim
    | cont => exact (show False from o3).elim
    | rt d => exact OutP.okI r1 (show OutP _ _ _ _ _ (Out.ok d ah1) _ from o3)
theorem defOk_of {P : Program} {w : World} {K : PySem.W.Frag} {mg : Str → Option Value} {base : Heap} {x qual : Str} {params : Arguments} {body : List Stmt} {scope : Scope} {f : Addr} {fd : FuncData} {N ps : List Str} {k : Nat} {b : EnvD → M (Flw × EnvD)}
    (F : FunD K x qual params body scope [] [] f fd) (S : FnScope N ps scope) (hg : mg x = some (.ref f)) (hb : Binds K fd ps []) {kp : List KPat} (hkw : ∀ q ∈ kp, KBn K fd ps q.1 q.2.1 (fun us ws => us ++ pick q.2.2 ws) (fun vs zs => vs ++ pick q.2.2 zs))
    (hs : ∀ (cdv : Value) (A : Around) (outer : List Env) (s : Shared) (H : Hp) (E : XK), Room k (A.deeper (envOfC qual scope s.heap.objs.size f cdv)) → FSs (cxOf (L2.CX P w) P w K mg base N qual scope f cdv A outer s H E) E body b) :
    DefOk P w K mg base (k + 1) x ps kp (defM ps.length N.length b) := by
  exact ⟨f, fd, fnOk_of F S hs, hg, F.kp, hb, hkw⟩
/-! ### calls of the program's own defs -/
def sCall (n : Nat) (m : List D → M D) (fa : EnvD → M (List D)) : EnvD → M D := fun env => do
  let ds ← fa env
  if ds.length = n then m ds else bad
section
variable {X : Cx} {E : XK}
/-- what is raised is heard -/
abbrev Hears (X : Cx) (E : XK) : Prop := Takes X (fun c d _ H => E c d H)
theorem fe_call {k : Nat} {x : Str} {ps : List Str} {kp : List KPat} {m : List D → M D} {e : Expr} {es : List Expr} {p pos : Pos} {fa : EnvD → M (List D)} (h : DefOk X.prog X.w X.K X.mg X.base k x ps kp m) (hr : Room k X.A) (hg : Gl X x) (tk : Hears X E) (hdb : (x == ("__debug__" : Str)) = false)
    (ha : FA X E (e :: es) fa) (hs : noStars (e :: es) = true) : FE X E (.Call (.Name x p) (e :: es) [] pos) (sCall ps.length m fa) := by
  obtain ⟨f, fd, F, hm, hk, hb, _⟩ := h.ex
  obtain ⟨u, h2, q2⟩ := ha
  simp only [noStars, Bool.and_eq_true] at hs
  refine .ofPE (pe_call F hr hg hm hk hb .nil (E := E) (passes_call tk fun _ _ _ _ z => z) h2 hdb (star_of hs.1) (stars_any hs.2)) fun σ H ρ env ah Q re r o => ?_
  refine q2 σ H ρ env ah _ re r (o.bind.mono fun ds ah1 H1 ρ1 x1 r1 o1 vs hv => ?_)
  obtain ⟨hl, o1⟩ := ifB o1
  exact ⟨ρ1, ds, ah1, r1, by simpa using hv, hl, o1⟩
theorem fe_call0 {k : Nat} {x : Str} {kp : List KPat} {m : List D → M D} {p pos : Pos} (h : DefOk X.prog X.w X.K X.mg X.base k x [] kp m) (hr : Room k X.A) (hg : Gl X x) (tk : Hears X E) (hdb : (x == ("__debug__" : Str)) = false) :
    FE X E (.Call (.Name x p) [] [] pos) (sCall 0 m sNil) := by
  obtain ⟨f, fd, F, hm, hk, hb, _⟩ := h.ex
  refine .ofPE (pe_call0 F hr hg hm hk hb .nil (E := E) (passes_call tk fun _ _ _ _ z => z) hdb) fun σ H ρ env ah Q re r o => ?_
  have o' : OutP X.mg X.K E ρ H ((sNil env >>= fun ds => if ds.length = 0 then m ds else bad) ah) _ := o
  have o1 := OutP.okI r (show OutP _ _ _ _ _ (Out.ok [] ah) _ from o'.bind)
  obtain ⟨hl, o1⟩ := ifB o1
  exact ⟨ρ, [], ah, r, .nil, rfl, o1⟩

/-- the keywords' values -/
def FK (X : Cx) (E : XK) (kws : List Keyword) (f : EnvD → M (List D)) : Prop := ∃ t : TA, PK X kws t ∧ ∀ σ H ρ env ah Q, EnvR X.K H ρ env σ → RelH X.K H ρ ah →
  OutP X.mg X.K E ρ H (f env ah) (fun ds _ H' ρ' => ∀ vs, DVs X.K H' ρ' ds vs → Q vs H') → t σ H Q
theorem fk_nil : FK X E [] sNil := ⟨_, pk_nil, fun σ H ρ env ah Q re r o => OutP.okI r o [] .nil⟩
theorem fk_cons {nm : Option Str} {e : Expr} {kpos : Pos} {kws : List Keyword} {f : EnvD → M D} {g : EnvD → M (List D)} (h : FE X E e f) (hs : FK X E kws g) : FK X E (⟨nm, e, kpos⟩ :: kws) (sCons f g) := by
  obtain ⟨t, h1, q1⟩ := h
  obtain ⟨u, h2, q2⟩ := hs
  refine ⟨_, pk_cons h1 h2, fun σ H ρ env ah Q re r o => ?_⟩
  refine q1 σ H ρ env ah _ re r (o.bind.mono fun d ah1 H1 ρ1 x1 r1 o1 v hv => ?_)
  refine q2 σ H1 ρ1 env ah1 _ (re.ext r x1) r1 (o1.bind.mono fun ds ah2 H2 ρ2 x2 r2 o2 vs hvs => ?_)
  exact OutP.okI r2 (show OutP _ _ _ _ _ (Out.ok (d :: ds) ah2) _ from o2) _ (.cons (hv.ext r1 x2) hvs)
def named : List Keyword → List Str → Bool
  | [], [] => true
  | k :: ks, x :: xs => (match k.arg with | some y => decide (y = x) | none => false) && named ks xs
  | _, _ => false
theorem named_all {env : Env} {pos : Pos} : ∀ {kws : List Keyword} {ks : List Str}, named kws ks = true → (backToKw pos (keywordEach kws env)).all (·.1.isSome) = true ∧ (backToKw pos (keywordEach kws env)).filterMap (·.1) = ks ∧ (backToKw pos (keywordEach kws env)).any (·.1.isNone) = false
  | [], [], _ => ⟨rfl, rfl, rfl⟩
  | [], _ :: _, h => by cases h
  | _ :: _, [], h => by cases h
  | ⟨arg, e, p⟩ :: ks, x :: xs, h => by
    unfold named at h
    rw [Bool.and_eq_true] at h
    obtain ⟨h1, h2⟩ := h
    cases arg with
    | none => cases h1
    | some y =>
      have h1 : y = x := by simpa using h1
      subst h1
      obtain ⟨a, b, c⟩ := named_all (env := env) (pos := pos) h2
      refine ⟨?_, ?_, ?_⟩
      · show (true && (backToKw pos (keywordEach ks env)).all (·.1.isSome)) = true
        rw [a]; rfl
      · show y :: (backToKw pos (keywordEach ks env)).filterMap (·.1) = y :: xs
        rw [b]
      · show (false || (backToKw pos (keywordEach ks env)).any (·.1.isNone)) = false
        rw [c]; rfl
/-- a call with keywords -/
def sCallK (n l : Nat) (m : List D → M D) (π : List Nat) (fa fk : EnvD → M (List D)) : EnvD → M D := fun env => do
  let ds ← fa env
  let es ← fk env
  if ds.length = n ∧ es.length = l ∧ (ds ++ pick π es).length = n + π.length then m (ds ++ pick π es) else bad
theorem fe_callK {k n : Nat} {x : Str} {ps ks : List Str} {π : List Nat} {kp : List KPat} {m : List D → M D} {e : Expr} {es : List Expr} {kws : List Keyword} {p pos : Pos} {fa fk : EnvD → M (List D)} (h : DefOk X.prog X.w X.K X.mg X.base k x ps kp m) (hq : (n, ks, π) ∈ kp) (hr : Room k X.A) (hg : Gl X x) (tk : Hears X E) (hdb : (x == ("__debug__" : Str)) = false)
    (ha : FA X E (e :: es) fa) (hk : FK X E kws fk) (hs : noStars (e :: es) = true) (hn : named kws ks = true) (lp : n + π.length = ps.length) : FE X E (.Call (.Name x p) (e :: es) kws pos) (sCallK n ks.length m π fa fk) := by
  obtain ⟨f, fd, F, hm, hkp, hb, hkb⟩ := h.ex
  obtain ⟨t, h1, q1⟩ := ha
  obtain ⟨u, h2, q2⟩ := hk
  obtain ⟨n1, n2, n3⟩ := named_all (env := X.env) (pos := pos) hn
  have kb := hkb _ hq
  have px := passes_call (E := E) tk fun _ _ _ _ z => z
  have run : ∀ (pins : List (Addr × Obj)) (s : Shared) (σ : L2.St) (H : Hp) (Q : VK) (us : List Value) (vs : List V), Inv X pins σ H s → Vals vs us → u σ H (fun zs H2 => vs.length = n ∧ zs.length = ks.length ∧ spM X.K X.mg ps.length m (vs ++ pick π zs) H2 Q E) →
      wpAny (model X.prog X.w) X.A (evalAll ((backToKw pos (keywordEach kws X.env)).map (·.2))) (fun ws s2 => X.K.In s2.heap ∧ wpAny (model X.prog X.w) X.A (call (.ref f) us (((backToKw pos (keywordEach kws X.env)).filterMap (·.1)).zip ws)) (EP X pins σ Q) X.xe s2) X.xe s := by
    intro pins s σ H Q us vs I r q
    refine thn (h2.run pos pins s σ H _ I q) fun ws s2 ⟨zs, H2, I2, rz, l1, l2, q3⟩ => ⟨I2.kIn, ?_⟩
    rw [n2]
    exact run_fnN F hr kb px I2 r rz l1 l2 q3
  have read : ∀ σ H ρ env ah Q, EnvR X.K H ρ env σ → RelH X.K H ρ ah → OutP X.mg X.K E ρ H (sCallK n ks.length m π fa fk env ah) (fun d _ H' ρ' => ∀ v, DV X.K H' ρ' d v → Q v H') →
      t σ H fun vs H1 => u σ H1 fun zs H2 => vs.length = n ∧ zs.length = ks.length ∧ spM X.K X.mg ps.length m (vs ++ pick π zs) H2 Q E := by
    intro σ H ρ env ah Q re r o
    refine q1 σ H ρ env ah _ re r (o.bind.mono fun ds ah1 H1 ρ1 x1 r1 o1 vs hv => ?_)
    refine q2 σ H1 ρ1 env ah1 _ (re.ext r x1) r1 (o1.bind.mono fun es ah2 H2 ρ2 x2 r2 o2 zs hz => ?_)
    obtain ⟨⟨l1, l2, l3⟩, o2⟩ := ifB o2
    have hv := hv.ext r1 x2
    exact ⟨by rw [← hv.length]; exact l1, by rw [← hz.length]; exact l2, ρ2, ds ++ pick π es, ah2, r2, hv.append (pick_dvs hz π), by rw [l3, lp], o2⟩
  refine .ofPE (t := fun σ H Q => t σ H fun vs H1 => u σ H1 fun zs H2 => vs.length = n ∧ zs.length = ks.length ∧ spM X.K X.mg ps.length m (vs ++ pick π zs) H2 Q E) ⟨fun pins s σ H Q I hh => ?_⟩ read
  refine wpAny_Call_Name_kw (ld_glob I hg hm ?_ hdb)
  have hs' := hs
  simp only [noStars, Bool.and_eq_true] at hs'
  refine PySem.W.callWith_KW (h₀ := X.base) I.ok.mod.kin hkp n1 (thn (h1.run pos pins s σ H _ I hh) fun us s1 ⟨vs, H1, I1, r, q⟩ => ?_) (by rw [stars_any hs, n3]; rfl) (star_of hs'.1)
  exact run pins s1 σ H1 Q us vs I1 r q
theorem fe_callK0 {k n : Nat} {x : Str} {ps ks : List Str} {π : List Nat} {kp : List KPat} {m : List D → M D} {kws : List Keyword} {p pos : Pos} {fk : EnvD → M (List D)} (h : DefOk X.prog X.w X.K X.mg X.base k x ps kp m) (hq : (n, ks, π) ∈ kp) (hr : Room k X.A) (hg : Gl X x) (tk : Hears X E) (hdb : (x == ("__debug__" : Str)) = false)
    (hk : FK X E kws fk) (hn : named kws ks = true) (lp : n + π.length = ps.length) : FE X E (.Call (.Name x p) [] kws pos) (sCallK n ks.length m π sNil fk) := by
  obtain ⟨f, fd, F, hm, hkp, hb, hkb⟩ := h.ex
  obtain ⟨u, h2, q2⟩ := hk
  obtain ⟨n1, n2, n3⟩ := named_all (env := X.env) (pos := pos) hn
  have kb := hkb _ hq
  have px := passes_call (E := E) tk fun _ _ _ _ z => z
  have run : ∀ (pins : List (Addr × Obj)) (s : Shared) (σ : L2.St) (H : Hp) (Q : VK) (us : List Value) (vs : List V), Inv X pins σ H s → Vals vs us → u σ H (fun zs H2 => vs.length = n ∧ zs.length = ks.length ∧ spM X.K X.mg ps.length m (vs ++ pick π zs) H2 Q E) →
      wpAny (model X.prog X.w) X.A (evalAll ((backToKw pos (keywordEach kws X.env)).map (·.2))) (fun ws s2 => X.K.In s2.heap ∧ wpAny (model X.prog X.w) X.A (call (.ref f) us (((backToKw pos (keywordEach kws X.env)).filterMap (·.1)).zip ws)) (EP X pins σ Q) X.xe s2) X.xe s := by
    intro pins s σ H Q us vs I r q
    refine thn (h2.run pos pins s σ H _ I q) fun ws s2 ⟨zs, H2, I2, rz, l1, l2, q3⟩ => ⟨I2.kIn, ?_⟩
    rw [n2]
    exact run_fnN F hr kb px I2 r rz l1 l2 q3
  have read : ∀ σ H ρ env ah Q, EnvR X.K H ρ env σ → RelH X.K H ρ ah → OutP X.mg X.K E ρ H (sCallK n ks.length m π sNil fk env ah) (fun d _ H' ρ' => ∀ v, DV X.K H' ρ' d v → Q v H') →
      u σ H fun zs H2 => ([] : List V).length = n ∧ zs.length = ks.length ∧ spM X.K X.mg ps.length m ([] ++ pick π zs) H2 Q E := by
    intro σ H ρ env ah Q re r o
    have o' : OutP X.mg X.K E ρ H ((sNil env >>= fun ds => fk env >>= fun es => if ds.length = n ∧ es.length = ks.length ∧ (ds ++ pick π es).length = n + π.length then m (ds ++ pick π es) else bad) ah) _ := o
    refine q2 σ H ρ env ah _ re r ((show OutP _ _ _ _ _ ((fk env >>= fun es => if ([] : List D).length = n ∧ es.length = ks.length ∧ ([] ++ pick π es).length = n + π.length then m ([] ++ pick π es) else bad) ah) _ from o').bind.mono fun es ah2 H2 ρ2 x2 r2 o2 zs hz => ?_)
    obtain ⟨⟨l1, l2, l3⟩, o2⟩ := ifB o2
    exact ⟨l1, by rw [← hz.length]; exact l2, ρ2, [] ++ pick π es, ah2, r2, by simpa using pick_dvs hz π, by rw [l3, lp], o2⟩
  refine .ofPE (t := fun σ H Q => u σ H fun zs H2 => ([] : List V).length = n ∧ zs.length = ks.length ∧ spM X.K X.mg ps.length m ([] ++ pick π zs) H2 Q E) ⟨fun pins s σ H Q I hh => ?_⟩ read
  refine wpAny_Call_Name_kw (ld_glob I hg hm ?_ hdb)
  refine PySem.W.callWith_KW0 (h₀ := X.base) I.ok.mod.kin hkp n1 ?_ (by rw [n3]; rfl)
  exact run pins s σ H Q [] [] I .nil hh
end
end Ev

set_option Elab.async false
set_option linter.all false
set_option maxRecDepth 100000
set_option maxHeartbeats 4000000
set_option autoImplicit false
namespace Ev
open PySem PySem.Spec PyProof.Rows L2
/-! ### small questions that a set asks of its members -/
section
variable {P : Program} {w : World} {A : Around} {E : Value → Shared → Prop}
mutual
theorem cls_key : ∀ (k : NestedKey) (v : Value) (n : Nat) (s : Shared) (Q : Bool → Shared → Prop), NestedIs s.heap k v → k.depth ≤ n → Q false s → wpAny (model P w) A (ofAClassStatement n v) Q E s
  | .none, _, n, s, Q, x, _, q => by cases x; cases n <;> exact wpAny_pure q
  | .num i, _, n, s, Q, x, _, q => by cases x <;> cases n <;> exact wpAny_pure q
  | .text y, _, n, s, Q, x, _, q => by cases x; cases n <;> exact wpAny_pure q
  | .tup ks, _, n, s, Q, x, hn, q => by
    cases x with
    | tup hg hc hd hk =>
      rename_i a o vs m
      simp only [NestedKey.depth] at hn
      cases n with
      | zero => omega
      | succ n =>
        unfold ofAClassStatement
        refine wpAny_bind (wpAny_typeOf (T := "tuple") ⟨_, hg, hc⟩ ?_)
        dsimp only
        have et : (("tuple" : String) == "tuple") = true := by decide
        simp only [et, if_true, Bool.not_true, Bool.false_eq_true, if_false]
        try refine wpAny_bind (wpAny_pure ?_)
        try simp only [Bool.not_true, Bool.false_eq_true, if_false]
        show wpAny _ _ (seqItems? (.ref a) >>= _) _ _ s
        refine wpAny_bind (wpAny_seqItems hg hd ?_)
        dsimp only
        refine wpAny_bind ?_
        show wpAny _ _ (forIn vs _ _) _ _ s
        rw [← Array.forIn_toList]
        refine wpAny_forIn_list _ (fun rest r s1 => r.1 = none ∧ s1 = s ∧ ∀ v ∈ rest, ∀ Q, Q false s → wpAny (model P w) A (ofAClassStatement n v) Q E s) _ ?_ ?_ _ _ ⟨rfl, rfl, cls_keys ks _ n s hk (by omega)⟩
        · rintro v rest r s1 ⟨hr, rfl, hall⟩
          refine wpAny_bind (hall v (.head _) _ ?_)
          simp only [Bool.false_eq_true, if_false]
          exact wpAny_pure ⟨rfl, rfl, fun u hu => hall u (.tail _ hu)⟩
        · rintro ⟨r1, r2⟩ s1 ⟨hr, rfl, _⟩
          dsimp only at hr
          subst hr
          exact wpAny_pure q
theorem cls_keys : ∀ (ks : List NestedKey) (vs : List Value) (n : Nat) (s : Shared), NestedAll s.heap ks vs → NestedKey.depthAll ks ≤ n → ∀ v ∈ vs, ∀ Q, Q false s → wpAny (model P w) A (ofAClassStatement n v) Q E s
  | [], _, n, s, x, _, v, hv, Q, q => by cases x; cases hv
  | k :: ks, _, n, s, x, hn, v, hv, Q, q => by
    cases x with
    | cons x1 x2 =>
      simp only [NestedKey.depthAll] at hn
      rcases List.mem_cons.mp hv with rfl | hv
      · exact cls_key k _ n s Q x1 (by omega) q
      · exact cls_keys ks _ n s x2 (by omega) v hv Q q
end
mutual
theorem byV_key : ∀ (k : NestedKey) (v : Value) (n : Nat) (s : Shared) (Q : Bool → Shared → Prop), NestedIs s.heap k v → (∀ b, Q b s) → wpAny (model P w) A (hashByValue n v) Q E s
  | .none, _, n, s, Q, x, q => by cases x; cases n <;> exact wpAny_pure (q _)
  | .num i, _, n, s, Q, x, q => by cases x <;> cases n <;> exact wpAny_pure (q _)
  | .text y, _, n, s, Q, x, q => by cases x; cases n <;> exact wpAny_pure (q _)
  | .tup ks, _, n, s, Q, x, q => by
    cases x with
    | tup hg hc hd hk =>
      rename_i a o vs m
      cases n with
      | zero => exact wpAny_pure (q _)
      | succ n =>
        unfold hashByValue
        refine wpAny_bind (wpAny_specialOf (T := "tuple") ⟨_, hg, hc⟩ F.slot_tuple_hash.lookup ?_)
        show wpAny _ _ (seqItems? (.ref a) >>= _) _ _ s
        refine wpAny_bind (wpAny_seqItems hg hd ?_)
        refine wpAny_bind ?_
        show wpAny _ _ (forIn vs _ _) _ _ s
        rw [← Array.forIn_toList]
        refine wpAny_forIn_list _ (fun rest r s1 => (r.1 = none ∨ ∃ b, r.1 = some b ∧ rest = []) ∧ s1 = s ∧ ∀ v ∈ rest, ∀ Q, (∀ b, Q b s) → wpAny (model P w) A (hashByValue n v) Q E s) _ ?_ ?_ _ _ ⟨.inl rfl, rfl, byV_keys ks _ n s hk⟩
        · rintro v rest r s1 ⟨hr, rfl, hall⟩
          refine wpAny_bind (hall v (.head _) _ fun b => ?_)
          cases b
          · simp only [Bool.not_false, if_true]
            exact wpAny_pure (wpAny_pure (q _))
          · simp only [Bool.not_true, Bool.false_eq_true, if_false]
            exact wpAny_pure ⟨.inl rfl, rfl, fun u hu => hall u (.tail _ hu)⟩
        · rintro ⟨r1, r2⟩ s1 ⟨hr, rfl, _⟩
          dsimp only at hr
          rcases hr with hr | ⟨b, hr, _⟩
          · subst hr
            exact wpAny_pure (q _)
          · subst hr
            exact wpAny_pure (q _)
theorem byV_keys : ∀ (ks : List NestedKey) (vs : List Value) (n : Nat) (s : Shared), NestedAll s.heap ks vs → ∀ v ∈ vs, ∀ Q, (∀ b, Q b s) → wpAny (model P w) A (hashByValue n v) Q E s
  | [], _, n, s, x, v, hv, Q, q => by cases x; cases hv
  | k :: ks, _, n, s, x, v, hv, Q, q => by
    cases x with
    | cons x1 x2 =>
      rcases List.mem_cons.mp hv with rfl | hv
      · exact byV_key k _ n s Q x1 q
      · exact byV_keys ks _ n s x2 v hv Q q
end
theorem eqB_key {s : Shared} {x y : NestedKey} {u v : Value} {Q : Bool → Shared → Prop} (hx : NestedIs s.heap x u) (hy : NestedIs s.heap y v) (dx : x.depth ≤ 8) (hu : A.units + 8 < cLine) (q : Q (decide (x = y)) s) : wpAny (model P w) A (eqBool u v) Q E s :=
  eqAt_key x y A s u v hx hy (by omega) _ _ _ _ (by rw [← NestedKey.decide_eq]; exact q)
/-- a search among such tuples shows nothing -/
theorem seen_key {s : Shared} {k : NestedKey} {b : Addr} {Q : Bool → Shared → Prop} (hk : NestedIs s.heap k (.ref b)) (hd : k.depth ≤ 8) {ys : List Value} (hy : ∀ y ∈ ys, ∃ k' c, y = Value.ref c ∧ NestedIs s.heap k' y ∧ k'.depth ≤ 8) (q : Q false s) :
    wpAny (model P w) A (searchCouldBeSeen (.ref b) ys) Q E s := by
  unfold searchCouldBeSeen
  refine wpAny_bind ?_
  refine wpAny_forIn_list _ (fun rest r s1 => r.1 = none ∧ s1 = s ∧ ∀ y ∈ rest, ∃ k' c, y = Value.ref c ∧ NestedIs s1.heap k' y ∧ k'.depth ≤ 8) _ ?_ ?_ _ _ ⟨rfl, rfl, hy⟩
  · rintro v rest r s1 ⟨hr, rfl, hall⟩
    obtain ⟨k', c, rfl, hc, hd'⟩ := hall v (.head _)
    have more : ∀ y ∈ rest, ∃ k' c, y = Value.ref c ∧ NestedIs s1.heap k' y ∧ k'.depth ≤ 8 := fun u hu => hall u (.tail _ hu)
    dsimp only
    by_cases hv : (b == c || (carriedByValue (.ref b) && carriedByValue (.ref c))) = true
    · exact wp_if_pos hv (wpAny_pure ⟨rfl, rfl, more⟩)
    · refine wp_if_neg hv ?_
      refine wpAny_bind (quiet_key k _ 8 _ hk hd A E _ ?_)
      simp only [Bool.not_true, Bool.false_eq_true, if_false]
      refine wpAny_bind (quiet_key k' _ 8 _ hc hd' A E _ ?_)
      simp only [Bool.not_true, Bool.false_eq_true, if_false]
      refine wpAny_bind (cls_key k _ 8 _ _ hk hd ?_)
      simp only [Bool.false_eq_true, if_false]
      refine wpAny_bind (cls_key k' _ 8 _ _ hc hd' ?_)
      simp only [Bool.false_eq_true, if_false]
      exact wpAny_pure ⟨rfl, rfl, more⟩
  · rintro ⟨r1, r2⟩ s1 ⟨hr, rfl, _⟩
    dsimp only at hr
    subst hr
    exact wpAny_pure q
end

/-! ### a set of keys -/
abbrev Row := Value × NestedKey
def rowsN (w : World) (L : List Row) : List (Int × Value) := L.map fun p => (p.2.hash w, p.1)
def nkK : Key → NestedKey
  | .inl i => .num i
  | .inr x => .text x
/-- x may stand with the others: a number or a text; a tuple -/
def ItemOk (m : Bool) (x : Value) (k : NestedKey) : Prop := (m = true → ∃ kk : Key, keyIs kk x = true ∧ k = nkK kk) ∧ (m = false → (∃ b, x = .ref b) ∧ k.depth ≤ 8)
structure SetN (w : World) (h : Heap) (a : Addr) (m : Bool) (L : List Row) (es : Array (Int × Value)) (ep : Nat) (t : SetTable) : Prop where
  ob : ∃ o, h.get? a = some o ∧ o.ExactSet ∧ o.data = .set es ep t
  rows : es.toList = rowsN w L
  nd : (L.map (·.2)).Nodup
  is : ∀ p ∈ L, NestedIs h p.2 p.1
  ok : ∀ p ∈ L, ItemOk m p.1 p.2
  led : w.params.followText "set-order" = true ∨ t.led = true
  fits : t.fits es.size = true
  ris : Ris t.place.toList
  size : L.length < scanBound
  few : m = false → L.length < 64
  room : m = false → L.length * 5 < t.mask * 3
  tab : m = false → TabOk t (L.map fun p => p.2.hash w)
section
variable {P : Program} {w : World} {A : Around} {E : Value → Shared → Prop} {s : Shared} {a : Addr} {m : Bool} {L : List Row} {es : Array (Int × Value)} {ep : Nat} {t : SetTable}
theorem rows_size (h : es.toList = rowsN w L) : es.size = L.length := by
  rw [← Array.length_toList, h]; simp [rowsN]
theorem SetN.sz (R : SetN w s.heap a m L es ep t) : es.size = L.length := rows_size R.rows
theorem SetN.entry (R : SetN w s.heap a m L es ep t) {i : Nat} {p : Row} (h : L[i]? = some p) : es[i]? = some (p.2.hash w, p.1) := by
  rw [← Array.getElem?_toList, R.rows]
  simp [rowsN, h]
theorem SetN.gave (R : SetN w s.heap a false L es ep t) : ¬ t.gaveWay = true := by
  have := mask_odd (R.tab rfl).mok
  unfold SetTable.gaveWay
  rw [this]
  decide
/-- the c-th look of a search for the hash H -/
def look (t : SetTable) (H : Int) (c : Nat) : SetTable.Probe := nth t.mask (runAt t.mask (SetTable.bits H % (t.mask + 1)) (SetTable.bits H)) c
theorem look_j (t : SetTable) (H : Int) (c : Nat) : (look t H c).j = way t.mask H c := rfl
theorem look_add (t : SetTable) (H : Int) (c q : Nat) : nth t.mask (look t H c) q = look t H (c + q) := (nth_add t.mask c _ q).symm
theorem dummy_nth (m : Nat) : ∀ (n : Nat) (p : SetTable.Probe), p.dummy = none → (nth m p n).dummy = none
  | 0, _, h => h
  | n + 1, p, h => dummy_nth m n (adv m p) (by unfold adv; split <;> exact h)
theorem look_dummy (t : SetTable) (H : Int) (c : Nat) : (look t H c).dummy = none := dummy_nth t.mask c _ rfl
/-- the search, from the c-th look on; K: the first free one -/
theorem searchN (R : SetN w s.heap a false L es ep t) {x : Addr} {k : NestedKey} (hx : NestedIs s.heap k (.ref x)) (hxd : k.depth ≤ 8) (hu : A.units + 8 < cLine) {K : Nat} (hKt : K < 10 * SetTable.turns t.mask)
    (free : way t.mask (k.hash w) K ∉ t.place.toList) (full : ∀ c, c < K → way t.mask (k.hash w) c ∈ t.place.toList) {Q : SetFound → Shared → Prop}
    (qin : k ∈ L.map (·.2) → Q (.there none) s) (qout : k ∉ L.map (·.2) → Q (.free (way t.mask (k.hash w) K) false) s) :
    ∀ (f c : Nat) (stand : Option SetTable.Probe), stand.getD (t.probeStart (k.hash w)) = look t (k.hash w) c → c ≤ K → K - c < f →
      (∀ (i : Nat) (p : Row), L[i]? = some p → p.2 = k → ∃ e, c ≤ e ∧ e < K ∧ t.place.toList[i]? = some (way t.mask (k.hash w) e)) →
      wpAny (model P w) A (setSearchFrom a (.ref x) (k.hash w) true f stand) Q E s := by
  intro f
  induction f with
  | zero => intro c stand _ _ z; exact absurd z (Nat.not_lt_zero _)
  | succ f ih =>
    intro c stand st cK cf hit
    have T := R.tab rfl
    obtain ⟨ob, ho, hex, hd⟩ := R.ob
    rw [setSearchFrom_succ]
    refine wpAny_bind (wpAny_setState_of ho hd R.fits ?_)
    dsimp only
    refine wp_if_neg R.gave ?_
    try refine wpAny_bind (wpAny_pure ?_)
    have lj : ∀ q, (nth t.mask (look t (k.hash w) c) q).j = way t.mask (k.hash w) (c + q) := fun q => by rw [look_add]; rfl
    have hat : ∀ (i : Nat) (p : Row), L[i]? = some p → (fun i => (es[i]?.map (·.1)).getD 0) i = p.2.hash w := fun i p e => by
      show (es[i]?.map (·.1)).getD 0 = _
      rw [R.entry e]; rfl
    have sp := go_spec t T.ris T.dm (fun i => (es[i]?.map (·.1)).getD 0) (k.hash w) (10 * SetTable.turns t.mask) (K - c) (look t (k.hash w) c) (look_dummy _ _ _) (by omega)
      (fun q hq => by rw [lj]; exact full (c + q) (by omega)) (by rw [lj, Nat.add_sub_cancel' cK]; exact free)
    rcases sp with ⟨q, i, hq, hi, hh, hno, hpr⟩ | ⟨hno, hpr⟩
    · have pr : t.probe (fun i => (es[i]?.map (·.1)).getD 0) (k.hash w) (stand.getD (t.probeStart (k.hash w))) = some (.candidate (way t.mask (k.hash w) (c + q)) i (look t (k.hash w) (c + (q + 1)))) := by
        rw [st, ← lj, ← look_add]; exact hpr
      rw [pr]
      dsimp only
      rw [lj] at hi
      have il : i < L.length := by
        have h1 : i < t.place.toList.length := (List.getElem?_eq_some_iff.mp hi).1
        have h2 := T.sz
        rw [List.length_map] at h2
        rw [Array.length_toList] at h1
        omega
      obtain ⟨p, hp⟩ : ∃ p, L[i]? = some p := ⟨_, List.getElem?_eq_getElem il⟩
      have pm : p ∈ L := List.mem_of_getElem? hp
      obtain ⟨⟨b, pb⟩, pd⟩ := (R.ok p pm).2 rfl
      have main : wpAny (model P w) A (searchRest a (.ref x) (k.hash w) true f es t (way t.mask (k.hash w) (c + q)) i (look t (k.hash w) (c + (q + 1)))) Q E s := by
        unfold searchRest
        rw [R.entry hp]
        dsimp only
        refine wpAny_bind (wpAny_holding (eqB_key (R.is p pm) hx pd hu ?_))
        refine wpAny_bind (wpAny_setState_of ho hd R.fits ?_)
        dsimp only
        by_cases same : p.2 = k
        · exact wp_if_pos (by simp [same]) (wpAny_pure (qin (List.mem_map.mpr ⟨p, pm, same⟩)))
        · refine wp_if_neg (by simp [same]) ?_
          try refine wpAny_bind (wpAny_pure ?_)
          rw [sameMem]
          dsimp only
          have sl : t.slot (way t.mask (k.hash w) (c + q)) = .live i := slot_live T.ris hi
          simp only [if_true, sl, R.entry hp, pb]
          refine wpAny_bind (wpAny_isSame_ref_self (wpAny_bind (wpAny_pure ?_)))
          simp only [if_true]
          refine wp_if_neg (by simp [same]) ?_
          refine ih (c + (q + 1)) _ rfl (by omega) (by omega) fun i0 p0 h0 k0 => ?_
          obtain ⟨e, e1, e2, e3⟩ := hit i0 p0 h0 k0
          refine ⟨e, ?_, e2, e3⟩
          rcases Nat.lt_trichotomy e (c + q) with z | z | z
          · exact absurd ((hat i0 p0 h0).trans (by rw [k0])) (hno (e - c) i0 (by omega) (by rw [lj, Nat.add_sub_cancel' e1]; exact e3))
          · rw [z] at e3
            have s0 := slot_live T.ris e3
            rw [sl] at s0
            injection s0 with s0
            rw [← s0, hp] at h0
            cases h0
            exact absurd k0 same
          · omega
      by_cases hl : t.led = true
      · refine wp_if_neg (by simp [hl]) ?_
        try refine wpAny_bind (wpAny_pure ?_)
        exact main
      · refine wp_if_pos (by simp [hl]) (wpAny_bind (seen_key hx hxd (fun y hy => ?_) (wp_if_neg (by decide) ?_)))
        · obtain ⟨e, he, rfl⟩ := List.mem_map.mp hy
          have m1 : e ∈ es.toList := by
            have : e ∈ es ∧ e.1 = k.hash w := by simpa using he
            simpa using this.1
          rw [R.rows] at m1
          obtain ⟨p2, hp2, rfl⟩ := List.mem_map.mp m1
          obtain ⟨⟨b2, e2⟩, d2⟩ := (R.ok p2 hp2).2 rfl
          exact ⟨p2.2, b2, e2, R.is p2 hp2, d2⟩
        · try refine wpAny_bind (wpAny_pure ?_)
          exact main
    · have pr : t.probe (fun i => (es[i]?.map (·.1)).getD 0) (k.hash w) (stand.getD (t.probeStart (k.hash w))) = some (.empty (way t.mask (k.hash w) K) none) := by
        have e2 := lj (K - c)
        rw [Nat.add_sub_cancel' cK] at e2
        rw [st, ← e2]
        exact hpr
      rw [pr]
      dsimp only
      refine wpAny_pure (qout fun hm => ?_)
      obtain ⟨p0, h0, k0⟩ := List.mem_map.mp hm
      obtain ⟨i0, hi0, e0⟩ := List.getElem_of_mem h0
      have h00 : L[i0]? = some p0 := by rw [List.getElem?_eq_getElem hi0, e0]
      obtain ⟨e, e1, e2, e3⟩ := hit i0 p0 h00 k0
      exact hno (e - c) i0 (by omega) (by rw [lj, Nat.add_sub_cancel' e1]; exact e3) ((hat i0 p0 h00).trans (by rw [k0]))
theorem searchN_at (R : SetN w s.heap a false L es ep t) {x : Addr} {k : NestedKey} (hx : NestedIs s.heap k (.ref x)) (hxd : k.depth ≤ 8) (hu : A.units + 8 < cLine) {Q : SetFound → Shared → Prop}
    (qin : k ∈ L.map (·.2) → Q (.there none) s)
    (qout : ∀ K, k ∉ L.map (·.2) → way t.mask (k.hash w) K ∉ t.place.toList → (∀ c, c < K → way t.mask (k.hash w) c ∈ t.place.toList) → Q (.free (way t.mask (k.hash w) K) false) s) :
    wpAny (model P w) A (setSearch a (.ref x) (k.hash w) true) Q E s := by
  have T := R.tab rfl
  have rm := R.room rfl
  obtain ⟨K, k1, k2, k3⟩ := T.first (by rw [List.length_map]; omega) (k.hash w)
  have small : K < 100000 := by
    have : 10 * SetTable.turns t.mask ≤ 1420 := by
      unfold SetTable.turns
      rcases T.mok with z | z | z <;> omega
    omega
  unfold setSearch
  refine searchN R hx hxd hu k1 k2 k3 qin (fun no => qout K no k2 k3) 100000 0 none rfl (Nat.zero_le _) (by omega) fun i p hp hk => ?_
  have hi : (L.map fun p => p.2.hash w)[i]? = some (k.hash w) := by rw [List.getElem?_map, hp, ← hk]; rfl
  have il : i < t.place.toList.length := by
    have h1 : i < L.length := (List.getElem?_eq_some_iff.mp hp).1
    have h2 := T.sz
    rw [List.length_map] at h2
    rw [Array.length_toList]
    omega
  have hj := List.getElem?_eq_getElem il
  obtain ⟨e, e1, e2⟩ := T.before k2 hi hj
  exact ⟨e, Nat.zero_le _, e1, by rw [hj, e2]⟩
end
end Ev

set_option Elab.async false
set_option linter.all false
set_option maxRecDepth 100000
set_option maxHeartbeats 4000000
set_option autoImplicit false
namespace Ev
open PySem PySem.Spec PyProof.Rows L2
section
variable {P : Program} {w : World} {A : Around} {E : Value → Shared → Prop} {s : Shared} {a : Addr} {m : Bool} {L : List Row} {es : Array (Int × Value)} {ep : Nat} {t : SetTable}
/-- a key in the heap isn't the set -/
theorem key_same {h h' : Heap} {o : Obj} {k : NestedKey} {v : Value} (hk : NestedIs h k v) (ho : h.get? a = some o) (hd : o.data = .set es ep t) (sb : Heap.SameBut a h h') : NestedIs h' k v :=
  NestedIs.at (fun b ob vs n hb hc => (sb.2 b (by rintro rfl; rw [ho] at hb; cases hb; rw [hd] at hc; cases hc)).trans hb) k v hk
theorem rowsN_ins (L : List Row) (p : Nat) (x : Value) (k : NestedKey) : rowsN w (L.take p ++ (x, k) :: L.drop p) = (rowsN w L).take p ++ (k.hash w, x) :: (rowsN w L).drop p := by
  simp [rowsN, List.map_take, List.map_drop]
theorem range_some (L : List Row) : (List.range L.length).filterMap (fun i => L[i]?) = L := by
  have : ∀ n, n ≤ L.length → (List.range n).filterMap (fun i => L[i]?) = L.take n := by
    intro n
    induction n with
    | zero => intro _; rfl
    | succ n ih =>
      intro hn
      rw [List.range_succ, List.filterMap_append, ih (by omega), List.take_succ, List.getElem?_eq_getElem (show n < L.length by omega)]
      simp [List.filterMap, List.getElem?_eq_getElem (show n < L.length by omega)]
  rw [this _ (Nat.le_refl _), List.take_length]
theorem order_keep (hr : es.toList = rowsN w L) {order : Array Nat} (hp : order.toList.Perm (List.range L.length)) :
    ∃ L2, (order.filterMap (es[·]?)).toList = rowsN w L2 ∧ L2.Perm L ∧ (L2.map fun p => p.2.hash w) = order.toList.map fun i => (es.map (·.1)).getD i 0 := by
  have at1 : ∀ i (h : i < L.length), es[i]? = some ((L[i]).2.hash w, (L[i]).1) := fun i h => by
    rw [← Array.getElem?_toList, hr]; simp [rowsN, h]
  have go : ∀ l : List Nat, (∀ i ∈ l, i < L.length) → l.filterMap (fun i => es[i]?) = rowsN w (l.filterMap fun i => L[i]?) ∧ ((l.filterMap fun i => L[i]?).map fun p => p.2.hash w) = l.map fun i => (es.map (·.1)).getD i 0 := by
    intro l
    induction l with
    | nil => intro _; exact ⟨rfl, rfl⟩
    | cons i l ih =>
      intro hl
      have hi := hl i (.head _)
      obtain ⟨e1, e2⟩ := ih fun j hj => hl j (.tail _ hj)
      rw [List.filterMap_cons_some (at1 i hi), List.filterMap_cons_some (List.getElem?_eq_getElem hi), e1, List.map_cons, List.map_cons, e2]
      refine ⟨rfl, ?_⟩
      have : (es.map (·.1))[i]? = some ((L[i]).2.hash w) := by rw [Array.getElem?_map, at1 i hi]; rfl
      simp [Array.getD_eq_getD_getElem?, this]
  obtain ⟨e1, e2⟩ := go order.toList fun i hi => List.mem_range.mp (hp.mem_iff.mp hi)
  refine ⟨_, by simpa using e1, ?_, e2⟩
  have := hp.filterMap fun i => L[i]?
  rwa [range_some] at this
/-- a set whose rows are L, laid anew at a -/
theorem SetN.lay {h : Heap} {o : Obj} {L2 : List Row} {es2 : Array (Int × Value)} {t2 : SetTable} (ho : h.get? a = some o) (hex : o.ExactSet) (hd : o.data = .set es ep t) (rows : es2.toList = rowsN w L2) (nd : (L2.map (·.2)).Nodup)
    (is : ∀ p ∈ L2, NestedIs h p.2 p.1) (ok : ∀ p ∈ L2, ItemOk m p.1 p.2) (led : w.params.followText "set-order" = true ∨ t2.led = true) (fits : t2.fits es2.size = true) (ris : Ris t2.place.toList) (size : L2.length < scanBound)
    (few : m = false → L2.length < 64) (room : m = false → L2.length * 5 < t2.mask * 3) (tab : m = false → TabOk t2 (L2.map fun p => p.2.hash w)) :
    SetN w (h.update a (Obj.putSet es2 t2)) a m L2 es2 (ep + 1) t2 :=
  ⟨⟨_, store_at ho hd, ⟨hex.1, hex.2.1, hex.2.2⟩, rfl⟩, rows, nd, fun p hp => key_same (is p hp) ho hd (Heap.SameBut.update ..), ok, led, fits, ris, size, few, room, tab⟩
theorem fits_tab {t : SetTable} {hs : List Int} {n : Nat} (T : TabOk t hs) (hn : hs.length = n) (hl : n ≤ t.mask) : t.fits n = true := by
  have := T.sz
  unfold SetTable.fits SetTable.fill
  rw [T.dm, Bool.and_eq_true, beq_iff_eq, decide_eq_true_eq]
  show t.place.size = n ∧ t.place.size + 0 ≤ t.mask
  omega
/-- a larger table -/
theorem relayN {o : Obj} (ho : s.heap.get? a = some o) (hex : o.ExactSet) (hd : o.data = .set es ep t) (rows : es.toList = rowsN w L) (T0 : TabOk t (L.map fun p => p.2.hash w)) (hl : L.length ≤ t.mask) (nd : (L.map (·.2)).Nodup)
    (is : ∀ p ∈ L, NestedIs s.heap p.2 p.1) (ok : ∀ p ∈ L, ItemOk false p.1 p.2) (led : w.params.followText "set-order" = true ∨ t.led = true) (few : L.length < 64) {wanted M : Nat}
    (hw : SetTable.sizeAbove wanted - 1 = M) (hM : MaskOk M) (h128 : SetTable.sizeAbove wanted ≤ 128) (room : L.length * 5 < M * 3) {Q : Unit → Shared → Prop}
    (q : ∀ h' L2 es2 ep2 t2, Heap.SameBut a s.heap h' → SetN w h' a false L2 es2 ep2 t2 → L2.Perm L → Q () { s with heap := h' }) : wpAny (model P w) A (setRelay a wanted) Q E s := by
  have sz := rows_size rows
  obtain ⟨t2, order, e, hp, T, em, el, _, _⟩ := relaid_ok t (hs := es.map (·.1)) hw hM (by rw [Array.size_map, sz]; omega)
  rw [Array.size_map, sz] at hp
  obtain ⟨L2, r1, r2, r3⟩ := order_keep rows hp
  rw [← r3] at T
  have sz2 : (order.filterMap (es[·]?)).size = L.length := by rw [rows_size r1, r2.length_eq]
  rw [setRelay_eq]
  refine wpAny_bind (wpAny_setState_of ho hd (by rw [sz]; exact fits_tab T0 (by simp) hl) ?_)
  dsimp only
  refine wp_if_neg (by rw [sizeLine_eq]; omega) ?_
  try refine wpAny_bind (wpAny_pure ?_)
  rw [e]
  dsimp only
  refine wpAny_bind (wp_if_neg (by rw [sz2, sz]; simp) ?_)
  try refine wpAny_bind (wpAny_pure ?_)
  refine wpAny_pure ?_
  dsimp only
  refine wpAny_storeSet_of ho hd ?_ (by rw [sz2, sizeLine_eq]; omega)
  have l2 := r2.length_eq
  exact q _ L2 _ (ep + 1) t2 (Heap.SameBut.update ..) (.lay ho hex hd r1 ((r2.map (·.2)).nodup_iff.mpr nd) (fun p hp => is p (r2.mem_iff.mp hp)) (fun p hp => ok p (r2.mem_iff.mp hp)) (by rw [el]; exact led)
    (by rw [sz2]; exact fits_tab T (by simp [l2]) (by omega)) T.ris (by rw [l2]; unfold scanBound; omega) (fun _ => by omega) (fun _ => by rw [l2, em]; exact room) fun _ => T) r2
theorem plain_off_mask (t : SetTable) : ({ t with plain := false } : SetTable).mask = t.mask := rfl
theorem tab_off {t : SetTable} {hs : List Int} (T : TabOk t hs) : TabOk { t with plain := false } hs := ⟨T.ris, T.dm, T.sz, T.mok, T.bd, T.reach⟩
/-- one put in, behind the store -/
theorem addT_end {o : Obj} (R : SetN w s.heap a false L es ep t) (ho : s.heap.get? a = some o) (hex : o.ExactSet) (hd : o.data = .set es ep t) {x : Addr} {k : NestedKey} (hx : NestedIs s.heap k (.ref x)) (hxd : k.depth ≤ 8) (few : L.length + 1 < 64) (hm : k ∉ L.map (·.2)) {L1 : List Row} (pm : L1.Perm ((.ref x, k) :: L))
    {es1 : Array (Int × Value)} {t1 : SetTable} (rows : es1.toList = rowsN w L1) (T1 : TabOk t1 (L1.map fun p => p.2.hash w)) (em : t1.mask = t.mask) (el : t1.led = t.led) (ef : t1.fill = L.length + 1) {Q : Bool → Shared → Prop}
    (q : ∀ h' L' es' ep' t', Heap.SameBut a s.heap h' → SetN w h' a false L' es' ep' t' → L'.Perm ((.ref x, k) :: L) → Q true { s with heap := h' }) :
    wpAny (model P w) A (storeSet a es1 t1 >>= fun _ => if (!false && t1.tooFull) = true then (setRelay a (SetTable.grown (es.size + 1)) >>= fun _ => pure true) else pure true) Q E s := by
  have rm := R.room rfl
  have sz := R.sz
  have l1 : L1.length = L.length + 1 := pm.length_eq
  have s1 := rows_size rows
  have isH : ∀ p ∈ L1, NestedIs s.heap p.2 p.1 := fun p hp => by
    rcases List.mem_cons.mp (pm.mem_iff.mp hp) with rfl | hp
    · exact hx
    · exact R.is p hp
  have ok1 : ∀ p ∈ L1, ItemOk false p.1 p.2 := fun p hp => by
    rcases List.mem_cons.mp (pm.mem_iff.mp hp) with rfl | hp
    · exact And.intro (fun z => nomatch z) (fun _ => ⟨⟨x, rfl⟩, hxd⟩)
    · exact R.ok p hp
  have nd1 : (L1.map (·.2)).Nodup := (pm.map (·.2)).nodup_iff.mpr (List.nodup_cons.mpr ⟨hm, R.nd⟩)
  have led1 : w.params.followText "set-order" = true ∨ t1.led = true := by rw [el]; exact R.led
  have sb : Heap.SameBut a s.heap (s.heap.update a (Obj.putSet es1 t1)) := Heap.SameBut.update ..
  have full : t1.tooFull = true → (L.length + 1) * 5 ≥ t.mask * 3 := fun z => by
    unfold SetTable.tooFull at z
    rw [decide_eq_true_eq, ef, em] at z
    exact z
  have mk := (R.tab rfl).mok
  refine wpAny_bind (wpAny_storeSet_of ho hd ?_ (by rw [s1, l1, sizeLine_eq]; omega))
  by_cases hf : t1.tooFull = true
  · refine wp_if_pos (by rw [hf]; rfl) (wpAny_bind ?_)
    have hfu := full hf
    rw [sz]
    have go : ∀ M, SetTable.sizeAbove (SetTable.grown (L.length + 1)) - 1 = M → MaskOk M → SetTable.sizeAbove (SetTable.grown (L.length + 1)) ≤ 128 → (L.length + 1) * 5 < M * 3 →
        wpAny (model P w) A (setRelay a (SetTable.grown (L.length + 1))) (fun _ s' => wpAny (model P w) A (pure true) Q E s') E { s with heap := s.heap.update a (Obj.putSet es1 t1) } := fun M g1 g2 g3 g4 =>
      relayN (s := { s with heap := s.heap.update a (Obj.putSet es1 t1) }) (store_at ho hd) ⟨hex.1, hex.2.1, hex.2.2⟩ rfl rows T1 (by rw [em]; omega) nd1 (fun p hp => key_same (isH p hp) ho hd sb) ok1 led1 (by omega) g1 g2 g3 (by rw [l1]; exact g4)
        fun h2 L2 es2 ep2 t2 sb2 R2 pm2 => wpAny_pure (q h2 L2 es2 ep2 t2 (sb.trans sb2) R2 (pm2.trans pm))
    have two : (t.mask = 7 ∧ L.length = 4) ∨ (t.mask = 31 ∧ L.length = 18) := by
      rcases mk with z | z | z
      · exact .inl ⟨z, by omega⟩
      · exact .inr ⟨z, by omega⟩
      · omega
    rcases two with ⟨_, e⟩ | ⟨_, e⟩
    · exact go 31 (by rw [e, size_20]) (.inr (.inl rfl)) (by rw [e, size_20]; decide) (by omega)
    · exact go 127 (by rw [e, size_76]) (.inr (.inr rfl)) (by rw [e, size_76]; decide) (by omega)
  · refine wp_if_neg (by simp [hf]) ?_
    have nf : ¬ (L.length + 1) * 5 ≥ t.mask * 3 := fun z => hf (by unfold SetTable.tooFull; rw [decide_eq_true_eq, ef, em]; exact z)
    refine wpAny_pure (q _ L1 es1 (ep + 1) t1 sb (.lay ho hex hd rows nd1 isH ok1 led1 (by rw [s1]; exact fits_tab T1 (by simp) (by rw [em]; omega)) T1.ris (by rw [l1]; unfold scanBound; omega) (fun _ => by omega) (fun _ => by rw [l1, em]; omega) fun _ => T1) pm)
/-- a tuple is added -/
theorem addT (R : SetN w s.heap a false L es ep t) {x : Addr} {k : NestedKey} (hx : NestedIs s.heap k (.ref x)) (hxd : k.depth ≤ 8) (hu : A.units + 8 < cLine) (few : L.length + 1 < 64) {Q : Bool → Shared → Prop}
    (q : ∀ b h' L' es' ep' t', Heap.SameBut a s.heap h' → SetN w h' a false L' es' ep' t' → (k ∈ L.map (·.2) → L' = L) → (k ∉ L.map (·.2) → L'.Perm ((.ref x, k) :: L)) → Q b { s with heap := h' }) :
    wpAny (model P w) A (setAddHashed a (.ref x) (k.hash w)) Q E s := by
  obtain ⟨o, ho, hex, hd⟩ := R.ob
  unfold setAddHashed
  refine wpAny_holding ?_
  rw [show (100000 : Nat) = 99999 + 1 from rfl, setAddHashedIn_succ]
  refine wpAny_bind (wpAny_setState_of ho hd R.fits ?_)
  dsimp only
  refine wp_if_neg (by simp [byScan, Value.scannable]) ?_
  try refine wpAny_bind (wpAny_pure ?_)
  refine wpAny_bind (searchN_at R hx hxd hu (fun hm => ?_) fun K hm hK hb => ?_)
  · dsimp only
    exact wpAny_pure (q false s.heap L es ep t (Heap.SameBut.refl a s.heap) R (fun _ => rfl) fun z => absurd hm z)
  · dsimp only
    refine wpAny_bind (wpAny_setState_of ho hd R.fits ?_)
    dsimp only
    obtain ⟨q1, q2, q3, q4, q5, q6, q7, q8, q9⟩ := (R.tab rfl).put hK hb
    generalize t.put (way t.mask (k.hash w) K) = pt at q1 q3 q4 q5 q6 q7 q8 q9 ⊢
    obtain ⟨t1, p⟩ := pt
    dsimp only at q1 q3 q4 q5 q6 q7 q8 q9 ⊢
    rw [← q1] at q2 q3
    have pm : (L.take p ++ (.ref x, k) :: L.drop p).Perm ((.ref x, k) :: L) := put_perm L p _
    have rows : (SetTable.insertAt es p (k.hash w, Value.ref x)).toList = rowsN w (L.take p ++ (.ref x, k) :: L.drop p) := by
      rw [SetTable.toList_insertAt, rowsN_ins, R.rows]
    have hs : ((L.take p ++ (Value.ref x, k) :: L.drop p).map fun p => p.2.hash w) = (L.map fun p => p.2.hash w).take p ++ k.hash w :: (L.map fun p => p.2.hash w).drop p := by
      simp [List.map_take, List.map_drop]
    rw [← hs] at q3
    rw [List.length_map] at q9
    generalize SetTable.insertAt es p (k.hash w, Value.ref x) = es1 at rows ⊢
    generalize L.take p ++ (Value.ref x, k) :: L.drop p = L1 at pm rows q3
    have fin := fun b => q b
    by_cases pl : t1.plain = true
    · refine wp_if_pos pl (wpAny_bind (byV_key k _ 8 s _ hx fun b => ?_))
      cases b
      · simp only [Bool.false_eq_true, if_false]
        exact addT_end R ho hex hd hx hxd few hm pm rows (t1 := { t1 with plain := false }) (tab_off q3) q4 q5 q9 fun h' L' es' ep' t' sb R' pm' => q true h' L' es' ep' t' sb R' (fun z => absurd z hm) fun _ => pm'
      · simp only [if_true]
        exact addT_end R ho hex hd hx hxd few hm pm rows q3 q4 q5 q9 fun h' L' es' ep' t' sb R' pm' => q true h' L' es' ep' t' sb R' (fun z => absurd z hm) fun _ => pm'
    · refine wp_if_neg pl (wpAny_bind (wpAny_pure ?_))
      simp only [if_true]
      exact addT_end R ho hex hd hx hxd few hm pm rows q3 q4 q5 q9 fun h' L' es' ep' t' sb R' pm' => q true h' L' es' ep' t' sb R' (fun z => absurd z hm) fun _ => pm'
end
end Ev

set_option Elab.async false
set_option linter.all false
set_option maxRecDepth 100000
set_option maxHeartbeats 4000000
set_option autoImplicit false
namespace Ev
open PySem PySem.Spec PyProof.Rows L2
section
variable {P : Program} {w : World} {A : Around} {E : Value → Shared → Prop} {s : Shared} {a : Addr} {m : Bool} {L : List Row} {es : Array (Int × Value)} {ep : Nat} {t : SetTable}
theorem nkK_hash (kk : Key) : (nkK kk).hash w = keyH w kk := by cases kk <;> rfl
theorem nkK_inj {a b : Key} (h : nkK a = nkK b) : a = b := by
  cases a <;> cases b <;> first | (injection h with h; rw [h]) | cases h
theorem key_scannable {kk : Key} {x : Value} (h : keyIs kk x = true) : x.scannable = true := by
  rcases keyIs_shape h with ⟨i, t, rfl, rfl⟩ | ⟨z, t, rfl, rfl⟩ <;> rfl
theorem is_of_key {h : Heap} {kk : Key} {x : Value} (hk : keyIs kk x = true) : NestedIs h (nkK kk) x := by
  rcases keyIs_shape hk with ⟨i, t, rfl, rfl⟩ | ⟨z, t, rfl, rfl⟩
  · exact .int _ _
  · exact .text _ _
/-- rows of numbers and texts, as the library's elements -/
theorem rows_elems (hr : es.toList = rowsN w L) (ok : ∀ p ∈ L, ItemOk true p.1 p.2) : ElemsOf (mixKind P w) es.toList := by
  intro e he
  rw [hr] at he
  obtain ⟨p, hp, rfl⟩ := List.mem_map.mp he
  obtain ⟨kk, k1, k2⟩ := (ok p hp).1 rfl
  exact ⟨⟨kk, k1, by rw [k2]; exact nkK_hash kk⟩, key_scannable k1⟩
theorem rows_has (hr : es.toList = rowsN w L) (ok : ∀ p ∈ L, ItemOk true p.1 p.2) (kk : Key) : (∃ e ∈ es.toList, (mixKind P w).is kk e.2 = true) ↔ nkK kk ∈ L.map (·.2) := by
  rw [hr]
  constructor
  · rintro ⟨e, he, hk⟩
    obtain ⟨p, hp, rfl⟩ := List.mem_map.mp he
    obtain ⟨kk', k1, k2⟩ := (ok p hp).1 rfl
    have : kk = kk' := (mixKind P w).inj p.1 kk kk' hk k1
    exact List.mem_map.mpr ⟨p, hp, by rw [k2, this]⟩
  · intro h
    obtain ⟨p, hp, e⟩ := List.mem_map.mp h
    obtain ⟨kk', k1, k2⟩ := (ok p hp).1 rfl
    have : kk = kk' := nkK_inj (e.symm.trans k2)
    exact ⟨_, List.mem_map.mpr ⟨p, hp, rfl⟩, by rw [this]; exact k1⟩
/-- rows in another sequence -/
theorem rows_perm (hr : es.toList = rowsN w L) {es2 : Array (Int × Value)} (p : es2.toList.Perm es.toList) : ∃ L2, es2.toList = rowsN w L2 ∧ L2.Perm L := by
  rw [hr] at p
  have : ∀ (l2 l1 : List (Int × Value)), l2.Perm l1 → ∀ L, l1 = rowsN w L → ∃ L2, l2 = rowsN w L2 ∧ L2.Perm L := by
    intro l2 l1 p
    induction p with
    | nil => intro L e; cases L with | nil => exact ⟨[], rfl, .nil⟩ | cons _ _ => cases e
    | cons x _ ih =>
      intro L e
      cases L with
      | nil => cases e
      | cons q L =>
        simp only [rowsN, List.map_cons, List.cons.injEq] at e
        obtain ⟨L2, e2, p2⟩ := ih L e.2
        exact ⟨q :: L2, by simp only [rowsN, List.map_cons, ← e2, e.1]; rw [e2]; rfl, p2.cons q⟩
    | swap x y l =>
      intro L e
      cases L with
      | nil => cases e
      | cons q L =>
        cases L with
        | nil => simp [rowsN] at e
        | cons r L =>
          simp only [rowsN, List.map_cons, List.cons.injEq] at e
          exact ⟨r :: q :: L, by simp only [rowsN, List.map_cons, e.1, e.2.1, e.2.2], .swap q r L⟩
    | trans _ _ ih1 ih2 =>
      intro L e
      obtain ⟨L2, e2, p2⟩ := ih2 L e
      obtain ⟨L3, e3, p3⟩ := ih1 L2 e2
      exact ⟨L3, e3, p3.trans p2⟩
  exact this _ _ p L rfl
/-- stored, and laid larger where it got too full -/
theorem addS_end {g : Bool → Sem Unit} (hg : ∀ (b : Bool) (s1 : Shared) (Q' : Unit → Shared → Prop), Q' () s1 → wpAny (model P w) A (g b) Q' E s1)
    {o : Obj} (ho : s.heap.get? a = some o) (hex : o.ExactSet) (hd : o.data = .set es ep t) {es1 : Array (Int × Value)} {t2 : SetTable} {L1 : List Row} (rows : es1.toList = rowsN w L1) (nd : (L1.map (·.2)).Nodup)
    (is : ∀ p ∈ L1, NestedIs s.heap p.2 p.1) (ok : ∀ p ∈ L1, ItemOk true p.1 p.2) (size : L1.length < scanBound) (fits : t2.fits es1.size = true) (ris : Ris t2.place.toList) (led : w.params.followText "set-order" = true ∨ t2.led = true) {wasDummy : Bool} {R : Option Bool → Shared → Prop}
    (q : ∀ h' L' es' ep' t', Heap.SameBut a s.heap h' → SetN w h' a true L' es' ep' t' → L'.Perm L1 → R (some true) { s with heap := h' }) :
    wpAny (model P w) A (storeSet a es1 t2 >>= fun _ => if (!wasDummy && t2.tooFull) = true then (do
            g (relayAll t2 es1 (SetTable.grown es1.size)).2.2
            storeSet a (relayAll t2 es1 (SetTable.grown es1.size)).1 (relayAll t2 es1 (SetTable.grown es1.size)).2.1
            pure (some true)) else pure (some true)) R E s := by
  have s1 := rows_size rows
  have sb1 : Heap.SameBut a s.heap (s.heap.update a (Obj.putSet es1 t2)) := Heap.SameBut.update ..
  refine wpAny_bind (wpAny_storeSet_of ho hd ?_ (fits_of_scanBound (by rw [s1]; exact size)))
  by_cases hf : (!wasDummy && t2.tooFull) = true
  · refine wp_if_pos hf ?_
    have pm := relayAll_perm t2 es1 (SetTable.grown es1.size)
    have f3 := relayAll_fits t2 es1 (SetTable.grown es1.size)
    have r3 := relayAll_ris t2 es1 (SetTable.grown es1.size)
    have l3 := relayAll_led t2 es1 (SetTable.grown es1.size)
    generalize relayAll t2 es1 (SetTable.grown es1.size) = Z at pm f3 r3 l3 ⊢
    obtain ⟨es2, t3, gave⟩ := Z
    dsimp only at pm f3 r3 l3 ⊢
    obtain ⟨L2, rows2, pm2⟩ := rows_perm rows pm
    have s2 : es2.size = es1.size := by rw [rows_size rows2, s1, pm2.length_eq]
    refine wpAny_bind (hg _ _ _ ?_)
    have ho1 := store_at (es' := es1) (t' := t2) ho hd
    refine wpAny_bind (wpAny_storeSet_of ho1 rfl ?_ (fits_of_scanBound (by rw [s2, s1]; exact size)))
    refine wpAny_pure (q _ L2 es2 (ep + 1 + 1) t3 (sb1.trans (Heap.SameBut.update ..)) (.lay ho1 ⟨hex.1, hex.2.1, hex.2.2⟩ rfl rows2 ((pm2.map (·.2)).nodup_iff.mpr nd) (fun p hp => key_same (is p (pm2.mem_iff.mp hp)) ho hd sb1)
      (fun p hp => ok p (pm2.mem_iff.mp hp)) (by rw [l3]; exact led) f3 r3 (by rw [pm2.length_eq]; exact size) (fun z => nomatch z) (fun z => nomatch z) fun z => nomatch z) pm2)
  · refine wp_if_neg hf ?_
    exact wpAny_pure (q _ L1 es1 (ep + 1) t2 sb1 (.lay ho hex hd rows nd is ok led fits ris size (fun z => nomatch z) (fun z => nomatch z) fun z => nomatch z) (.refl _))
/-- a number or a text is added -/
theorem addS (R : SetN w s.heap a true L es ep t) {x : Value} {kk : Key} (hx : keyIs kk x = true) (size : L.length + 1 < scanBound) {Q : Bool → Shared → Prop}
    (q : ∀ b h' L' es' ep' t', Heap.SameBut a s.heap h' → SetN w h' a true L' es' ep' t' → (nkK kk ∈ L.map (·.2) → L' = L) → (nkK kk ∉ L.map (·.2) → L'.Perm ((x, nkK kk) :: L)) → Q b { s with heap := h' }) :
    wpAny (model P w) A (setAddHashed a x ((nkK kk).hash w)) Q E s := by
  obtain ⟨o, ho, hex, hd⟩ := R.ob
  rw [nkK_hash]
  have el : ElemsOf (mixKind P w) es.toList := rows_elems R.rows R.ok
  have sc := key_scannable hx
  have hz : es.size < scanBound := by rw [R.sz]; exact R.size
  unfold setAddHashed
  refine wpAny_holding ?_
  rw [show (100000 : Nat) = 99999 + 1 from rfl, setAddHashedIn_succ]
  refine wpAny_bind (wpAny_setState_of ho hd R.fits ?_)
  dsimp only
  refine wp_if_pos (byScan_of sc hz el) ?_
  unfold setAddByScan
  refine wpAny_bind (wpAny_bind (wpAny_rule ?_))
  refine wpAny_bind (wpAny_setScan_of (knd := mixKind P w) (k := kk) hx ho hd R.fits el ?_)
  cases hi : List.findIdx? (fun e => (mixKind P w).is kk e.2) es.toList with
  | some j =>
    dsimp only
    obtain ⟨j1, j2, _⟩ := List.findIdx?_eq_some_iff_getElem.mp hi
    have hm : nkK kk ∈ L.map (·.2) := (rows_has (P := P) R.rows R.ok kk).mp ⟨_, List.getElem_mem j1, j2⟩
    exact wpAny_pure (wpAny_pure (q false s.heap L es ep t (Heap.SameBut.refl a s.heap) R (fun _ => rfl) fun z => absurd hm z))
  | none =>
    dsimp only
    have hm : nkK kk ∉ L.map (·.2) := fun z => by
      obtain ⟨e, e1, e2⟩ := (rows_has (P := P) R.rows R.ok kk).mpr z
      have := List.findIdx?_eq_none_iff.mp hi e e1
      rw [e2] at this; cases this
    have gw : ∀ (b : Bool) {s1 : Shared} {Q' : Unit → Shared → Prop}, Q' () s1 → wpAny (model P w) A (match b with | true => rule "set.scan.the-table-gave-way" | false => pure ()) Q' E s1 :=
      fun b s1 Q' z => by cases b <;> first | exact wpAny_pure z | exact wpAny_rule z
    have pm := layNew_perm t es (keyH w kk) x
    have f1 := layNew_fits t es (keyH w kk) x
    have r1 := layNew_ris t es (keyH w kk) x R.ris
    have l1 := layNew_led t es (keyH w kk) x
    show wpAny _ _ (match layNew t es (keyH w kk) x with | (es, t, wasDummy, gave) => _) _ _ _
    generalize layNew t es (keyH w kk) x = Z at pm f1 r1 l1 ⊢
    obtain ⟨es1, t1, wasDummy, gave⟩ := Z
    dsimp only at pm f1 r1 l1 ⊢
    have rowsX : (es.push (keyH w kk, x)).toList = rowsN w (L ++ [(x, nkK kk)]) := by
      rw [Array.toList_push, R.rows]; simp [rowsN, nkK_hash]
    obtain ⟨L1, rows1, pm1⟩ := rows_perm rowsX pm
    have pc : L1.Perm ((x, nkK kk) :: L) := pm1.trans (List.perm_append_singleton _ _)
    have nd1 : (L1.map (·.2)).Nodup := (pc.map (·.2)).nodup_iff.mpr (List.nodup_cons.mpr ⟨hm, R.nd⟩)
    have is1 : ∀ p ∈ L1, NestedIs s.heap p.2 p.1 := fun p hp => by
      rcases List.mem_cons.mp (pc.mem_iff.mp hp) with rfl | hp
      · exact is_of_key hx
      · exact R.is p hp
    have ok1 : ∀ p ∈ L1, ItemOk true p.1 p.2 := fun p hp => by
      rcases List.mem_cons.mp (pc.mem_iff.mp hp) with rfl | hp
      · exact And.intro (fun _ => ⟨kk, hx, rfl⟩) (fun z => nomatch z)
      · exact R.ok p hp
    have size1 : L1.length < scanBound := by rw [pc.length_eq]; exact size
    have led1 : w.params.followText "set-order" = true ∨ t1.led = true := R.led.imp id fun z => by rw [l1]; exact z
    have fin : ∀ h' L' es' ep' t', Heap.SameBut a s.heap h' → SetN w h' a true L' es' ep' t' → L'.Perm L1 → Q true { s with heap := h' } := fun h' L' es' ep' t' sb R' pm' => q true h' L' es' ep' t' sb R' (fun z => absurd z hm) fun _ => pm'.trans pc
    refine wpAny_bind (gw _ ?_)
    split
    · refine wpAny_bind ?_
      rw [hashByValue_scannable 8 sc]
      refine wpAny_pure ?_
      refine addS_end ?_ ho hex hd rows1 nd1 is1 ok1 size1 ?_ ?_ ?_ fun h' L' es' ep' t' sb R' pm' => ?_
      · intro b s1 Q' z; cases b <;> first | exact wpAny_pure z | exact wpAny_rule z
      · split <;> first | exact f1 | exact SetTable.fits_plain_off f1
      · split <;> exact r1
      · split <;> exact led1
      · dsimp only; exact wpAny_pure (fin h' L' es' ep' t' sb R' pm')
    · refine wpAny_bind (wpAny_pure ?_)
      simp only [if_true]
      refine addS_end ?_ ho hex hd rows1 nd1 is1 ok1 size1 f1 r1 led1 fun h' L' es' ep' t' sb R' pm' => ?_
      · intro b s1 Q' z; cases b <;> first | exact wpAny_pure z | exact wpAny_rule z
      · dsimp only; exact wpAny_pure (fin h' L' es' ep' t' sb R' pm')
/-- one more -/
theorem addN (R : SetN w s.heap a m L es ep t) {x : Value} {k : NestedKey} (hx : NestedIs s.heap k x) (ok : ItemOk m x k) (hu : A.units + 8 < cLine) (few : L.length + 1 < 64) {Q : Bool → Shared → Prop}
    (q : ∀ b h' L' es' ep' t', Heap.SameBut a s.heap h' → SetN w h' a m L' es' ep' t' → (k ∈ L.map (·.2) → L' = L) → (k ∉ L.map (·.2) → L'.Perm ((x, k) :: L)) → Q b { s with heap := h' }) :
    wpAny (model P w) A (setAddHashed a x (k.hash w)) Q E s := by
  cases m with
  | true =>
    obtain ⟨kk, k1, rfl⟩ := ok.1 rfl
    exact addS R k1 (by unfold scanBound; omega) q
  | false =>
    obtain ⟨⟨b, rfl⟩, hd⟩ := ok.2 rfl
    exact addT R hx hd hu few q
end
end Ev

set_option Elab.async false
set_option linter.all false
set_option maxRecDepth 100000
set_option maxHeartbeats 4000000
set_option autoImplicit false
namespace Ev
open PySem PySem.Spec PyProof.Rows L2
def bareSet (w : World) : Obj := { cls := .type "set", dict := none, data := .set #[] 0 (.fresh 0 0 (!w.params.followText "set-order")) }
/-- what a set has got of the first i rows -/
structure GotN (ks : List Row) (i : Nat) (L : List Row) : Prop where
  sub : ∀ p ∈ L, p ∈ ks.take i
  all : ∀ p ∈ ks.take i, p.2 ∈ L.map (·.2)
  len : L.length ≤ i
theorem GotN.zero (ks : List Row) : GotN ks 0 [] := ⟨fun p z => (nomatch z), fun p z => (by simp at z), Nat.le_refl _⟩
theorem take_one {α : Type} {l : List α} {i : Nat} {x : α} (h : l[i]? = some x) : l.take (i + 1) = l.take i ++ [x] := by
  rw [List.take_succ, h]; rfl
theorem GotN.next {ks L L' : List Row} {i : Nat} {x : Row} (g : GotN ks i L) (h : ks[i]? = some x) (c1 : x.2 ∈ L.map (·.2) → L' = L) (c2 : x.2 ∉ L.map (·.2) → L'.Perm (x :: L)) : GotN ks (i + 1) L' := by
  by_cases hm : x.2 ∈ L.map (·.2)
  · rw [c1 hm]
    refine ⟨fun p hp => by rw [take_one h]; exact List.mem_append_left _ (g.sub p hp), fun p hp => ?_, Nat.le_succ_of_le g.len⟩
    rw [take_one h] at hp
    rcases List.mem_append.mp hp with z | z
    · exact g.all p z
    · rw [List.mem_singleton.mp z]; exact hm
  · have pm := c2 hm
    refine ⟨fun p hp => ?_, fun p hp => ?_, by rw [pm.length_eq]; exact Nat.succ_le_succ g.len⟩
    · rw [take_one h]
      rcases List.mem_cons.mp (pm.mem_iff.mp hp) with e | z
      · rw [e]; exact List.mem_append_right _ (.head _)
      · exact List.mem_append_left _ (g.sub p z)
    · rw [(pm.map (·.2)).mem_iff, List.map_cons]
      rw [take_one h] at hp
      rcases List.mem_append.mp hp with z | z
      · exact .tail _ (g.all p z)
      · rw [List.mem_singleton.mp z]; exact .head _
section
variable {P : Program} {w : World} {A : Around} {E : Value → Shared → Prop} {s : Shared}
theorem key_keep {h h' : Heap} (kp : ∀ b o, h.get? b = some o → h'.get? b = some o) {k : NestedKey} {v : Value} (x : NestedIs h k v) : NestedIs h' k v := NestedIs.at (fun a o vs n e _ => kp a o e) k v x
theorem SetN.keep {h h' : Heap} {a : Addr} {m : Bool} {L : List Row} {es : Array (Int × Value)} {ep : Nat} {t : SetTable} (R : SetN w h a m L es ep t) (ha : ∀ o, h.get? a = some o → h'.get? a = some o) (hk : ∀ p ∈ L, NestedIs h' p.2 p.1) : SetN w h' a m L es ep t :=
  ⟨let ⟨o, e, r⟩ := R.ob; ⟨o, ha o e, r⟩, R.rows, R.nd, hk, R.ok, R.led, R.fits, R.ris, R.size, R.few, R.room, R.tab⟩
theorem SetN.bare {h : Heap} {a : Addr} {m : Bool} (ho : h.get? a = some (bareSet w)) : SetN w h a m [] #[] 0 (.fresh 0 0 (!w.params.followText "set-order")) where
  ob := ⟨_, ho, ⟨rfl, rfl, rfl⟩, rfl⟩
  rows := rfl
  nd := .nil
  is := fun p z => nomatch z
  ok := fun p z => nomatch z
  led := by
    show _ ∨ (!w.params.followText "set-order") = true
    cases w.params.followText "set-order" <;> simp
  fits := rfl
  ris := .nil
  size := by show 0 < scanBound; decide
  few := fun _ => by show 0 < 64; decide
  room := fun _ => by show 0 * 5 < 7 * 3; decide
  tab := fun _ => ⟨.nil, rfl, rfl, .inl rfl, fun x z => (nomatch z), fun i h j z => (by simp at z)⟩
/-- set.update's loop over rows ks -/
theorem updateN {I : Addr} {fp wr : List Addr} {G : Array GenState → Array GenState → Prop} {n : Nat} {Pv : Nat → Value → Prop} {St : Nat → Shared → Prop} {R : Result → Shared → Prop} {m : Bool}
    (W : WalksS P w A.in1 I fp wr G n Pv St) (S : Addr) (out : S ∉ fp) (ks : List Row) (hn : n = ks.length) (few : ks.length < 64) (hval : ∀ i v, Pv i v → ∃ p, ks[i]? = some p ∧ v = p.1)
    (h0 : Heap) (is : ∀ p ∈ ks, NestedIs h0 p.2 p.1 ∧ p.2.depth ≤ 60) (ok : ∀ p ∈ ks, ItemOk m p.1 p.2) (noS : h0.get? S = none) (noW : ∀ b ∈ wr, h0.get? b = none) (hu : A.in1.units + 64 < cLine) :
    ∀ (d i : Nat) (s : Shared), n - i = d → i ≤ n → St i s → (∀ b o, h0.get? b = some o → s.heap.get? b = some o) → (∃ L es ep t, SetN w s.heap S m L es ep t ∧ GotN ks i L) →
      (∀ s' L es ep t, Moved (S :: wr) G s s' → SetN w s'.heap S m L es ep t → GotN ks n L → (∀ b o, h0.get? b = some o → s'.heap.get? b = some o) → R (.ok (.ret .none)) s') →
      codeAny (model P w) A (.builtin "set.update.loop" ⟨[.ref S, .ref I], []⟩) R s := by
  have outw : S ∉ wr := fun z => out (W.sub _ z)
  have wide : ∀ b ∈ wr, b ∈ S :: wr := fun b hb => .tail _ hb
  have moved : ∀ {s s' : Shared}, Moved wr G s s' → (∀ b o, h0.get? b = some o → s.heap.get? b = some o) → ∀ b o, h0.get? b = some o → s'.heap.get? b = some o := fun mv kp b o e =>
    mv.heap b o (fun hb => by rw [noW b hb] at e; cases e) (kp b o e)
  intro d
  induction d with
  | zero =>
    intro i s hd hi hst kp ⟨L, es, ep, t, hS, g⟩ fin
    obtain rfl : i = n := by omega
    refine codeAny_builtin F.entry_set_update_loop ?_
    rw [Around.under_plainId F.plain_set_update_loop _]
    show wpAny _ A.in1 (pyNext (.ref I) >>= _) _ _ s
    refine wpAny_bind (W.done s _ _ hst fun s' mv => ?_)
    show wpAny _ A.in1 (PySem.ret Value.none) _ _ s'
    have kp' := moved mv kp
    exact wpAny_pure (fin s' L es ep t (mv.mono wide) (hS.keep (fun o e => mv.heap S o outw e) fun p hp => key_keep kp' (is p (List.mem_of_mem_take (g.sub p hp))).1) g kp')
  | succ d ih =>
    intro i s hd hi hst kp ⟨L, es, ep, t, hS, g⟩ fin
    have lt : i < n := by omega
    refine codeAny_builtin F.entry_set_update_loop ?_
    rw [Around.under_plainId F.plain_set_update_loop _]
    show wpAny _ A.in1 (pyNext (.ref I) >>= _) _ _ s
    refine wpAny_bind (W.item i s _ _ lt hst fun v s' hP hst' mv => ?_)
    obtain ⟨p, hp, rfl⟩ := hval i v hP
    have kp' := moved mv kp
    have hS' : SetN w s'.heap S m L es ep t := hS.keep (fun o e => mv.heap S o outw e) fun q hq => key_keep kp' (is q (List.mem_of_mem_take (g.sub q hq))).1
    have pm : p ∈ ks := List.mem_of_getElem? hp
    have hx : NestedIs s'.heap p.2 p.1 := key_keep kp' (is p pm).1
    show wpAny _ A.in1 (holding [p.1] (setAdd S p.1) >>= _) _ _ s'
    refine wpAny_bind (wpAny_holding ?_)
    unfold setAdd
    refine wpAny_holding ?_
    refine wpAny_bind (pyHash_key p.2 p.1 _ s' _ hx (by have := (is p pm).2; omega) ?_)
    refine addN (s := { s' with toks := s'.toks + p.2.draws }) hS' hx (ok p pm) (by omega) (by have := g.len; omega) fun b h' L' es' ep' t' sb hS2 c1 c2 => ?_
    have kp2 : ∀ b o, h0.get? b = some o → h'.get? b = some o := fun b o e => (sb.2 b (fun z => by rw [z, noS] at e; cases e)).trans (kp' b o e)
    refine wpAny_pure ⟨plainId_quiet F.plain_set_update_loop _, ih (i + 1) _ (by omega) lt (W.frame _ s' _ _ hst' (Nat.le_add_right _ _) fun b hb o e => ?_) kp2 ⟨L', es', ep', t', hS2, g.next hp c1 c2⟩ fun s2 L2 es2 ep2 t2 mv2 R2 g2 kp3 => ?_⟩
    · rw [sb.2 b (fun z : b = S => out (by rw [← z]; exact hb))]; exact e
    · refine fin s2 L2 es2 ep2 t2 (Moved.trans W.gtrans ((mv.mono wide).then_heap (Nat.le_add_right _ _) fun b o hb e => ?_) mv2) R2 g2 kp3
      rw [sb.2 b (fun z : b = S => hb (by rw [z]; exact .head _))]; exact e

theorem call_setL {l : Addr} {items : Array Value} {m : Bool} (ks : List Row) {Q : Value → Shared → Prop} (hh : A.handled = none) (hl : s.heap.IsList l items) (hit : items.toList = ks.map (·.1))
    (is : ∀ p ∈ ks, NestedIs s.heap p.2 p.1 ∧ p.2.depth ≤ 60) (ok : ∀ p ∈ ks, ItemOk m p.1 p.2) (few : ks.length < 64) (hu : A.units + 70 < cLine)
    (q : ∀ (h' : Heap) (tk : Nat) L es ep t, SetN w h' s.heap.objs.size m L es ep t → GotN ks ks.length L → (∀ b o, s.heap.get? b = some o → h'.get? b = some o) → Q (.ref s.heap.objs.size) { s with heap := h', toks := tk }) :
    wpAny (model P w) A (call (.type "set") [.ref l]) Q E s := by
  have isz : items.size = ks.length := by rw [← Array.length_toList, hit, List.length_map]
  obtain ⟨c, tl, mro⟩ := F.called_set.mro
  have made := F.called_set.made
  have sub := F.called_set.sub
  refine wpAny_call (codeAny_of_tree ?_)
  show wpAny _ _ (callAny (.type "set") _) _ _ _
  refine wpAny_pure ⟨Code.quiet_builtin _ (by decide +kernel), codeAny_builtin F.entry_type_call ?_⟩
  rw [Around.under_plain (weight_type_call_type "set" [.ref l] []) rfl]
  have f1 := F.called_set.notType
  have f2 := F.called_set.canCreate
  have f3 := F.typeCall_set_1 (.ref l)
  repeat (any_goals (first | assumption | wp_step))

  refine codeAny_mono (code_set_led1 (.ref l) (E := E) (Q₁ := fun obj s1 => obj = .ref s.heap.objs.size ∧ s1 = { s with heap := s.heap.push (bareSet w) }) ⟨rfl, rfl⟩) fun r s1 hr => ?_
  cases r with
  | error e => exact hr
  | ok fl =>
    cases fl with
    | ret obj =>
      obtain ⟨rfl, rfl⟩ := hr
      have hS : (s.heap.push (bareSet w)).get? s.heap.objs.size = some (bareSet w) := Heap.get?_push_size _ rfl
      have hT : Shared.TypeIs { s with heap := s.heap.push (bareSet w) } (.ref s.heap.objs.size) "set" := ⟨_, hS, rfl⟩
      have i1 := F.called_set.init.lookup
      have i2 := F.called_set.init.bind (.ref s.heap.objs.size)
      repeat (any_goals (first | assumption | wp_step))

      refine codeAny_mono (codeAny_call_builtin (R := wants (fun r s2 => r = .none ∧ ∃ h' tk L es ep t, s2 = { s with heap := h', toks := tk } ∧ SetN w h' s.heap.objs.size m L es ep t ∧ GotN ks ks.length L ∧
          (∀ b o, s.heap.get? b = some o → h'.get? b = some o)) E) F.called_set.init.plain F.entry_set_init (check_set_init_1 hT ?_)) fun r2 s2 hr2 => ?_
      · obtain ⟨ol, hol, hcl, nl, hdl⟩ := hl
        obtain ⟨ocls, odict, odata, oslots⟩ := ol
        dsimp only at hcl hdl
        subst hcl; subst hdl
        have hol' : (s.heap.push (bareSet w)).get? l = some { cls := .type "list", dict := odict, data := .seq items nl, slots := oslots } := Heap.get?_push_of_some _ hol
        have d1 := F.sub_list_set
        have d2 := F.sub_list_frozenset
        have d3 : (Value.type "list" == Value.type "dict") = false := by decide
        have hl1 : (s.heap.push (bareSet w)).IsList l items := ⟨_, hol', rfl, nl, rfl⟩
        unfold Builtin.«set.__init__» noKeywords Builtin.Frozenset.updateFrom
        generalize hid : pyIter = PI
        wp_walk
        subst hid

        refine wpAny_pyIter_list hl1 (wpAny_bind (wpAny_runValue ?_))
        have lS : l < s.heap.objs.size := Heap.lt_size hol
        have calm : A.in1.in1.in1.handled = none := by simp [hh]
        have neI : l ≠ (s.heap.push (bareSet w)).objs.size := by
          rw [Heap.size_push]; exact Nat.ne_of_lt (Nat.lt_succ_of_lt lS)
        have out : s.heap.objs.size ∉ [(s.heap.push (bareSet w)).objs.size, l] := by
          rw [Heap.size_push]; simp only [List.mem_cons, List.not_mem_nil, or_false, not_or]
          exact ⟨Nat.ne_of_lt (Nat.lt_succ_self _), Nat.ne_of_gt lS⟩
        have hval : ∀ (i : Nat) (v : Value), items[i]? = some v → ∃ p, ks[i]? = some p ∧ v = p.1 := fun i v hv => by
          have z : items.toList[i]? = some v := by rw [Array.getElem?_toList]; exact hv
          rw [hit, List.getElem?_map] at z
          cases hq : ks[i]? with
          | none => rw [hq] at z; cases z
          | some p => rw [hq] at z; exact ⟨p, rfl, (Option.some.inj z).symm⟩
        have fresh : ∀ b, s.heap.objs.size ≤ b → s.heap.get? b = none := fun b hb => by
          cases z : s.heap.get? b with
          | none => rfl
          | some o => exact absurd (Nat.lt_of_lt_of_le (Heap.lt_size z) hb) (Nat.lt_irrefl _)
        refine updateN ((Walks.list calm _ l neI items).toS) s.heap.objs.size
          out ks isz few hval s.heap is ok (fresh _ (Nat.le_refl _)) (fun b hb => fresh b (by rw [List.mem_singleton.mp hb, Heap.size_push]; exact Nat.le_succ _)) (by simp only [Around.in1_units] at *; omega) (items.size - 0) 0 _ (by omega) (Nat.zero_le _)
          ⟨⟨_, Heap.get?_push_size _ rfl, rfl, rfl⟩, (hl1.push _)⟩ (fun b o e => Heap.get?_push_of_some _ (Heap.get?_push_of_some _ e)) ?bare ?fin
        case bare => exact ⟨[], #[], 0, _, SetN.bare (Heap.get?_push_of_some _ hS), GotN.zero ks⟩
        case fin =>
          intro s' L es ep t mv R' g' kp
          obtain ⟨h', g2, d', tk', os'⟩ := s'
          obtain rfl : g2 = s.gens := mv.gens
          obtain rfl : d' = s.drawn := mv.drawn
          obtain rfl : os' = s.os := mv.os
          show wpAny _ _ _ _ _ _
          refine wpAny_pure ?_
          show wpAny _ _ (PySem.ret Value.none) _ _ _
          rw [isz] at g'
          exact wpAny_pure ⟨rfl, h', tk', L, es, ep, t, rfl, R', g', kp⟩

      · cases r2 with
        | error e => exact hr2
        | ok fl2 =>
          cases fl2 with
          | ret r =>
            obtain ⟨rfl, h', tk, L, es, ep, t, rfl, R', g', kp⟩ := hr2
            repeat (any_goals (first | assumption | wp_step))
            exact q _ _ _ _ _ _ R' g' kp
          | _ => exact hr2.elim
    | _ => exact hr.elim

theorem call_setT {l : Addr} {items : Array Value} {m : Bool} (ks : List Row) {Q : Value → Shared → Prop} (hh : A.handled = none) (hl : s.heap.IsTuple l items) (hit : items.toList = ks.map (·.1))
    (is : ∀ p ∈ ks, NestedIs s.heap p.2 p.1 ∧ p.2.depth ≤ 60) (ok : ∀ p ∈ ks, ItemOk m p.1 p.2) (few : ks.length < 64) (hu : A.units + 70 < cLine)
    (q : ∀ (h' : Heap) (tk : Nat) L es ep t, SetN w h' s.heap.objs.size m L es ep t → GotN ks ks.length L → (∀ b o, s.heap.get? b = some o → h'.get? b = some o) → Q (.ref s.heap.objs.size) { s with heap := h', toks := tk }) :
    wpAny (model P w) A (call (.type "set") [.ref l]) Q E s := by
  have isz : items.size = ks.length := by rw [← Array.length_toList, hit, List.length_map]
  obtain ⟨c, tl, mro⟩ := F.called_set.mro
  have made := F.called_set.made
  have sub := F.called_set.sub
  refine wpAny_call (codeAny_of_tree ?_)
  show wpAny _ _ (callAny (.type "set") _) _ _ _
  refine wpAny_pure ⟨Code.quiet_builtin _ (by decide +kernel), codeAny_builtin F.entry_type_call ?_⟩
  rw [Around.under_plain (weight_type_call_type "set" [.ref l] []) rfl]
  have f1 := F.called_set.notType
  have f2 := F.called_set.canCreate
  have f3 := F.typeCall_set_1 (.ref l)
  repeat (any_goals (first | assumption | wp_step))

  refine codeAny_mono (code_set_led1 (.ref l) (E := E) (Q₁ := fun obj s1 => obj = .ref s.heap.objs.size ∧ s1 = { s with heap := s.heap.push (bareSet w) }) ⟨rfl, rfl⟩) fun r s1 hr => ?_
  cases r with
  | error e => exact hr
  | ok fl =>
    cases fl with
    | ret obj =>
      obtain ⟨rfl, rfl⟩ := hr
      have hS : (s.heap.push (bareSet w)).get? s.heap.objs.size = some (bareSet w) := Heap.get?_push_size _ rfl
      have hT : Shared.TypeIs { s with heap := s.heap.push (bareSet w) } (.ref s.heap.objs.size) "set" := ⟨_, hS, rfl⟩
      have i1 := F.called_set.init.lookup
      have i2 := F.called_set.init.bind (.ref s.heap.objs.size)
      repeat (any_goals (first | assumption | wp_step))

      refine codeAny_mono (codeAny_call_builtin (R := wants (fun r s2 => r = .none ∧ ∃ h' tk L es ep t, s2 = { s with heap := h', toks := tk } ∧ SetN w h' s.heap.objs.size m L es ep t ∧ GotN ks ks.length L ∧
          (∀ b o, s.heap.get? b = some o → h'.get? b = some o)) E) F.called_set.init.plain F.entry_set_init (check_set_init_1 hT ?_)) fun r2 s2 hr2 => ?_
      · obtain ⟨ol, hol, hcl, nl, hdl⟩ := hl
        obtain ⟨ocls, odict, odata, oslots⟩ := ol
        dsimp only at hcl hdl
        subst hcl; subst hdl
        have hol' : (s.heap.push (bareSet w)).get? l = some { cls := .type "tuple", dict := odict, data := .seq items nl, slots := oslots } := Heap.get?_push_of_some _ hol
        have d1 := F.sub_tuple_set
        have d2 := F.sub_tuple_frozenset
        have d3 : (Value.type "tuple" == Value.type "dict") = false := by decide
        have hl1 : (s.heap.push (bareSet w)).IsTuple l items := ⟨_, hol', rfl, nl, rfl⟩
        unfold Builtin.«set.__init__» noKeywords Builtin.Frozenset.updateFrom
        generalize hid : pyIter = PI
        wp_walk
        subst hid

        refine wpAny_pyIter_tuple hl1 (wpAny_bind (wpAny_runValue ?_))
        have lS : l < s.heap.objs.size := Heap.lt_size hol
        have calm : A.in1.in1.in1.handled = none := by simp [hh]
        have neI : l ≠ (s.heap.push (bareSet w)).objs.size := by
          rw [Heap.size_push]; exact Nat.ne_of_lt (Nat.lt_succ_of_lt lS)
        have out : s.heap.objs.size ∉ [(s.heap.push (bareSet w)).objs.size, l] := by
          rw [Heap.size_push]; simp only [List.mem_cons, List.not_mem_nil, or_false, not_or]
          exact ⟨Nat.ne_of_lt (Nat.lt_succ_self _), Nat.ne_of_gt lS⟩
        have hval : ∀ (i : Nat) (v : Value), items[i]? = some v → ∃ p, ks[i]? = some p ∧ v = p.1 := fun i v hv => by
          have z : items.toList[i]? = some v := by rw [Array.getElem?_toList]; exact hv
          rw [hit, List.getElem?_map] at z
          cases hq : ks[i]? with
          | none => rw [hq] at z; cases z
          | some p => rw [hq] at z; exact ⟨p, rfl, (Option.some.inj z).symm⟩
        have fresh : ∀ b, s.heap.objs.size ≤ b → s.heap.get? b = none := fun b hb => by
          cases z : s.heap.get? b with
          | none => rfl
          | some o => exact absurd (Nat.lt_of_lt_of_le (Heap.lt_size z) hb) (Nat.lt_irrefl _)
        refine updateN ((Walks.tuple calm _ l neI items).toS) s.heap.objs.size
          out ks isz few hval s.heap is ok (fresh _ (Nat.le_refl _)) (fun b hb => fresh b (by rw [List.mem_singleton.mp hb, Heap.size_push]; exact Nat.le_succ _)) (by simp only [Around.in1_units] at *; omega) (items.size - 0) 0 _ (by omega) (Nat.zero_le _)
          ⟨⟨_, Heap.get?_push_size _ rfl, rfl, rfl⟩, (hl1.push _)⟩ (fun b o e => Heap.get?_push_of_some _ (Heap.get?_push_of_some _ e)) ?bare ?fin
        case bare => exact ⟨[], #[], 0, _, SetN.bare (Heap.get?_push_of_some _ hS), GotN.zero ks⟩
        case fin =>
          intro s' L es ep t mv R' g' kp
          obtain ⟨h', g2, d', tk', os'⟩ := s'
          obtain rfl : g2 = s.gens := mv.gens
          obtain rfl : d' = s.drawn := mv.drawn
          obtain rfl : os' = s.os := mv.os
          show wpAny _ _ _ _ _ _
          refine wpAny_pure ?_
          show wpAny _ _ (PySem.ret Value.none) _ _ _
          rw [isz] at g'
          exact wpAny_pure ⟨rfl, h', tk', L, es, ep, t, rfl, R', g', kp⟩

      · cases r2 with
        | error e => exact hr2
        | ok fl2 =>
          cases fl2 with
          | ret r =>
            obtain ⟨rfl, h', tk, L, es, ep, t, rfl, R', g', kp⟩ := hr2
            repeat (any_goals (first | assumption | wp_step))
            exact q _ _ _ _ _ _ R' g' kp
          | _ => exact hr2.elim
    | _ => exact hr.elim
end
end Ev

set_option Elab.async false
set_option linter.all false
set_option maxRecDepth 100000
set_option maxHeartbeats 4000000
set_option autoImplicit false
namespace Ev
open PySem PySem.Spec PyProof.Rows L2
/-! ### sets over our values -/
mutual
/-- no truth value and no cell within -/
def D.safe : D → Bool
  | .tup ds => safes ds
  | .ref _ => false
  | .bl _ => false
  | _ => true
def safes : List D → Bool
  | [] => true
  | d :: ds => d.safe && safes ds
end
mutual
theorem safe_nk : ∀ (d : D), d.safe = true → ∃ k, d.nk = some k
  | .non, _ => ⟨_, rfl⟩
  | .bl _, h => by cases h
  | .int _, _ => ⟨_, rfl⟩
  | .str _, _ => ⟨_, rfl⟩
  | .ref _, h => by cases h
  | .tup ds, h => by
    obtain ⟨ks, e⟩ := safes_nk ds (by simpa [D.safe] using h)
    exact ⟨.tup ks, by unfold D.nk; rw [e]; rfl⟩
theorem safes_nk : ∀ (ds : List D), safes ds = true → ∃ ks, nks ds = some ks
  | [], _ => ⟨[], rfl⟩
  | d :: ds, h => by
    simp only [safes, Bool.and_eq_true] at h
    obtain ⟨k, e1⟩ := safe_nk d h.1
    obtain ⟨ks, e2⟩ := safes_nk ds h.2
    exact ⟨k :: ks, by unfold nks; rw [e1, e2]⟩
end
mutual
theorem nk_inj : ∀ (a b : D) (k : NestedKey), a.safe = true → b.safe = true → a.nk = some k → b.nk = some k → a = b
  | .non, b, k, h1, h2, e1, e2 => by
    cases e1
    cases b with
    | non => rfl
    | tup ds => unfold D.nk at e2; cases e : nks ds <;> rw [e] at e2 <;> cases e2
    | bl _ => cases h2
    | ref _ => cases h2
    | _ => cases e2
  | .bl _, _, _, h, _, _, _ => by cases h
  | .ref _, _, _, h, _, _, _ => by cases h
  | .int i, b, k, h1, h2, e1, e2 => by
    cases e1
    cases b with
    | int j => cases e2; rfl
    | tup ds => unfold D.nk at e2; cases e : nks ds <;> rw [e] at e2 <;> cases e2
    | bl _ => cases h2
    | ref _ => cases h2
    | _ => cases e2
  | .str i, b, k, h1, h2, e1, e2 => by
    cases e1
    cases b with
    | str j => cases e2; rfl
    | tup ds => unfold D.nk at e2; cases e : nks ds <;> rw [e] at e2 <;> cases e2
    | bl _ => cases h2
    | ref _ => cases h2
    | _ => cases e2
  | .tup xs, b, k, h1, h2, e1, e2 => by
    unfold D.nk at e1
    cases ex : nks xs with
    | none => rw [ex] at e1; cases e1
    | some ks =>
      rw [ex] at e1; cases e1
      cases b with
      | tup ys =>
        unfold D.nk at e2
        cases ey : nks ys with
        | none => rw [ey] at e2; cases e2
        | some ls =>
          rw [ey] at e2; cases e2
          rw [nks_inj xs ys ks (by simpa [D.safe] using h1) (by simpa [D.safe] using h2) ex ey]
      | bl _ => cases h2
      | ref _ => cases h2
      | _ => cases e2
theorem nks_inj : ∀ (as bs : List D) (ks : List NestedKey), safes as = true → safes bs = true → nks as = some ks → nks bs = some ks → as = bs
  | [], [], _, _, _, _, _ => rfl
  | [], b :: bs, ks, _, _, e1, e2 => by
    obtain ⟨k, r, rfl, _, _⟩ := nks_cons e2
    cases e1
  | a :: as, [], ks, _, _, e1, e2 => by
    obtain ⟨k, r, rfl, _, _⟩ := nks_cons e1
    cases e2
  | a :: as, b :: bs, ks, h1, h2, e1, e2 => by
    obtain ⟨k, r, rfl, e3, e4⟩ := nks_cons e1
    obtain ⟨k', r', e, e5, e6⟩ := nks_cons e2
    cases e
    simp only [safes, Bool.and_eq_true] at h1 h2
    rw [nk_inj a b k h1.1 h2.1 e3 e5, nks_inj as bs r h1.2 h2.2 e4 e6]
end
/-- may stand in a set of numbers and texts (m), of tuples -/
def okItem (m : Bool) (d : D) : Bool := d.safe && (match d with
  | .int _ => m
  | .str _ => m
  | .tup _ => !m && (match d.nk with | some k => decide (k.depth ≤ 8) | none => false)
  | _ => false)
open Classical in
noncomputable def ddup : List D → List D
  | [] => []
  | d :: ds => if d ∈ ds then ddup ds else d :: ddup ds
theorem mem_ddup {x : D} : ∀ {ds : List D}, x ∈ ddup ds ↔ x ∈ ds
  | [] => by simp [ddup]
  | d :: ds => by
    unfold ddup
    by_cases h : d ∈ ds
    · rw [if_pos h, mem_ddup (ds := ds), List.mem_cons]
      exact ⟨.inr, fun z => z.elim (fun e => e ▸ h) id⟩
    · rw [if_neg h, List.mem_cons, List.mem_cons, mem_ddup (ds := ds)]
theorem nodup_ddup : ∀ (ds : List D), (ddup ds).Nodup
  | [] => .nil
  | d :: ds => by
    unfold ddup
    by_cases h : d ∈ ds
    · rw [if_pos h]; exact nodup_ddup ds
    · rw [if_neg h]; exact List.nodup_cons.mpr ⟨fun z => h (mem_ddup.mp z), nodup_ddup ds⟩
theorem length_ddup : ∀ (ds : List D), (ddup ds).length ≤ ds.length
  | [] => Nat.le_refl _
  | d :: ds => by
    unfold ddup
    by_cases h : d ∈ ds
    · rw [if_pos h]; exact Nat.le_succ_of_le (length_ddup ds)
    · rw [if_neg h]; exact Nat.succ_le_succ (length_ddup ds)
/-- the row is this value -/
def RowIs (K : PySem.W.Frag) (H : Hp) (ρ : List Addr) (p : Row) (d : D) : Prop := (∃ v, RelV v p.1 ∧ DV K H ρ d v) ∧ d.nk = some p.2
def SetIs (K : PySem.W.Frag) (H : Hp) (ρ : List Addr) (L : List Row) (ds : List D) : Prop := ∃ es, es.Perm ds ∧ PySem.W.EachIs (RowIs K H ρ) L es
/-- the set at a, without its members' own objects -/
def SetN0 (w : World) (h : Heap) (a : Addr) (m : Bool) (L : List Row) : Prop := ∃ es ep t, (∃ o, h.get? a = some o ∧ o.ExactSet ∧ o.data = .set es ep t) ∧ es.toList = rowsN w L ∧ (L.map (·.2)).Nodup ∧ (∀ p ∈ L, ItemOk m p.1 p.2) ∧
  (w.params.followText "set-order" = true ∨ t.led = true) ∧ t.fits es.size = true ∧ Ris t.place.toList ∧ L.length < scanBound ∧ (m = false → L.length < 64) ∧ (m = false → L.length * 5 < t.mask * 3) ∧ (m = false → TabOk t (L.map fun p => p.2.hash w))
theorem SetN.to0 {w : World} {h : Heap} {a : Addr} {m : Bool} {L : List Row} {es : Array (Int × Value)} {ep : Nat} {t : SetTable} (R : SetN w h a m L es ep t) : SetN0 w h a m L :=
  ⟨es, ep, t, R.ob, R.rows, R.nd, R.ok, R.led, R.fits, R.ris, R.size, R.few, R.room, R.tab⟩
theorem SetN0.full {w : World} {h : Heap} {a : Addr} {m : Bool} {L : List Row} (R : SetN0 w h a m L) (is : ∀ p ∈ L, NestedIs h p.2 p.1) : ∃ es ep t, SetN w h a m L es ep t := by
  obtain ⟨es, ep, t, a1, a2, a3, a4, a5, a6, a7, a8, a9, b1, b2⟩ := R
  exact ⟨es, ep, t, a1, a2, a3, is, a4, a5, a6, a7, a8, a9, b1, b2⟩
def SetNO (w : World) (a : Addr) (m : Bool) (L : List Row) : HO := .ext fun h => SetN0 w h a m L
theorem setNO_new {P : Program} {w : World} {H : Hp} {h : Heap} {a : Addr} {m : Bool} {L : List Row} (R : SetN0 w h a m L) : ObjOk P w H h a (SetNO w a m L) := by
  have ⟨es, ep, t, ⟨o, ho, r⟩, q⟩ := R
  refine ⟨R, ⟨o, ho⟩, fun h1 h2 p k => ?_⟩
  have ⟨es', ep', t', ⟨o', ho', r'⟩, q'⟩ := (show SetN0 w h1 a m L from p)
  exact ⟨es', ep', t', ⟨o', k o' ho', r'⟩, q'⟩
section
variable {X : Cx} {E : XK} {pins : List (Addr × Obj)} {σ : L2.St} {H : Hp} {s : Shared} {ρ : List Addr}
theorem RowIs.key (I : Inv X pins σ H s) {p : Row} {d : D} (h : RowIs X.K H ρ p d) : NestedIs s.heap p.2 p.1 := by
  obtain ⟨⟨v, r, q⟩, e⟩ := h
  exact DV.key I d v p.1 p.2 q r e
theorem each_key (I : Inv X pins σ H s) {L : List Row} {es : List D} (h : PySem.W.EachIs (RowIs X.K H ρ) L es) : ∀ p ∈ L, NestedIs s.heap p.2 p.1 := fun p hp => by
  obtain ⟨d, _, q⟩ := h.left p hp
  exact q.key I
theorem okItem_safe {m : Bool} {d : D} (h : okItem m d = true) : d.safe = true := by
  unfold okItem at h
  simp only [Bool.and_eq_true] at h
  exact h.1
theorem row_of (I : Inv X pins σ H s) {m : Bool} {d : D} {v : V} {u : Value} (hd : DV X.K H ρ d v) (r : RelV v u) (ok : okItem m d = true) : ∃ k, RowIs X.K H ρ (u, k) d ∧ NestedIs s.heap k u ∧ k.depth ≤ 60 ∧ ItemOk m u k := by
  obtain ⟨k, e⟩ := safe_nk d (okItem_safe ok)
  refine ⟨k, ⟨⟨v, r, hd⟩, e⟩, DV.key I d v u k hd r e, ?_⟩
  unfold okItem at ok
  simp only [Bool.and_eq_true] at ok
  obtain ⟨_, ok⟩ := ok
  cases d with
  | int i =>
    cases e; cases hd
    obtain ⟨t, rfl⟩ := r
    exact ⟨Nat.zero_le _, fun _ => ⟨.inl i, keyIs_int i t, rfl⟩, fun z => by rw [z] at ok; cases ok⟩
  | str x =>
    cases e; cases hd
    obtain ⟨t, rfl⟩ := r
    exact ⟨Nat.zero_le _, fun _ => ⟨.inr x, keyIs_str x t, rfl⟩, fun z => by rw [z] at ok; cases ok⟩
  | tup ds =>
    obtain ⟨a, vs, rfl, h1, h2⟩ := hd.tup'
    cases r
    simp only [e, Bool.and_eq_true, Bool.not_eq_true', decide_eq_true_eq] at ok
    refine ⟨by omega, fun z => ?_, fun _ => ⟨⟨a, rfl⟩, ok.2⟩⟩
    rw [ok.1] at z; cases z
  | _ => cases ok
theorem rows_of (I : Inv X pins σ H s) {m : Bool} : ∀ {ds : List D} {vs : List V} {its : List Value}, DVs X.K H ρ ds vs → Vals vs its → (∀ d ∈ ds, okItem m d = true) →
    ∃ ks : List Row, its = ks.map (·.1) ∧ PySem.W.EachIs (RowIs X.K H ρ) ks ds ∧ (∀ p ∈ ks, NestedIs s.heap p.2 p.1 ∧ p.2.depth ≤ 60) ∧ ∀ p ∈ ks, ItemOk m p.1 p.2
  | _, _, _, .nil, .nil, _ => ⟨[], rfl, .nil, fun p z => (nomatch z), fun p z => (nomatch z)⟩
  | _, _, _, .cons h t, .cons (b := u) r rs, ok => by
    obtain ⟨k, k1, k2, k3, k4⟩ := row_of I h r (ok _ (.head _))
    obtain ⟨ks, rfl, e2, e3, e4⟩ := rows_of I t rs fun d hd => ok d (.tail _ hd)
    refine ⟨(u, k) :: ks, rfl, .cons k1 e2, fun p hp => ?_, fun p hp => ?_⟩
    · rcases List.mem_cons.mp hp with rfl | hp
      · exact ⟨k2, k3⟩
      · exact e3 p hp
    · rcases List.mem_cons.mp hp with rfl | hp
      · exact k4
      · exact e4 p hp
theorem each_choose {K : PySem.W.Frag} {ds : List D} : ∀ {L : List Row}, (∀ p ∈ L, ∃ d ∈ ds, RowIs K H ρ p d) → ∃ es, PySem.W.EachIs (RowIs K H ρ) L es ∧ ∀ d ∈ es, d ∈ ds
  | [], _ => ⟨[], .nil, fun d z => (nomatch z)⟩
  | p :: L, h => by
    obtain ⟨d, hd, q⟩ := h p (.head _)
    obtain ⟨es, e1, e2⟩ := each_choose (L := L) fun p hp => h p (.tail _ hp)
    refine ⟨d :: es, .cons q e1, fun x hx => ?_⟩
    rcases List.mem_cons.mp hx with rfl | hx
    · exact hd
    · exact e2 x hx
theorem each_nks {K : PySem.W.Frag} : ∀ {L : List Row} {es : List D}, PySem.W.EachIs (RowIs K H ρ) L es → es.map D.nk = L.map fun p => some p.2
  | _, _, .nil => rfl
  | _, _, .cons h t => by rw [List.map_cons, List.map_cons, each_nks t, h.2]
theorem each_right {α β : Type} {R : α → β → Prop} : ∀ {as : List α} {bs : List β}, PySem.W.EachIs R as bs → ∀ b ∈ bs, ∃ a ∈ as, R a b
  | _, _, .nil, _, z => nomatch z
  | _, _, .cons h t, b, hb => by
    rcases List.mem_cons.mp hb with rfl | hb
    · exact ⟨_, .head _, h⟩
    · obtain ⟨a, ha, q⟩ := each_right t b hb
      exact ⟨a, .tail _ ha, q⟩
/-- what a set got is the values, each once -/
theorem got_set {K : PySem.W.Frag} {m : Bool} {ks L : List Row} {ds : List D} (hk : PySem.W.EachIs (RowIs K H ρ) ks ds) (ok : ∀ d ∈ ds, okItem m d = true) (g : GotN ks ks.length L) (nd : (L.map (·.2)).Nodup) : SetIs K H ρ L (ddup ds) := by
  obtain ⟨es, e1, e2⟩ := each_choose (ds := ds) (L := L) fun p hp => by
    have : p ∈ ks := List.mem_of_mem_take (g.sub p hp)
    exact hk.left p this
  refine ⟨es, ?_, e1⟩
  have en := each_nks e1
  have nde : es.Nodup := by
    have : (es.map D.nk).Nodup := by
      rw [en]
      have : (L.map fun p => some p.2) = (L.map (·.2)).map some := by rw [List.map_map]; rfl
      rw [this]
      exact List.Pairwise.map _ (fun a b h z => h (Option.some.inj z)) nd
    exact List.Pairwise.of_map D.nk (fun a b h z => h (by rw [z])) this
  refine (List.perm_ext_iff_of_nodup nde (nodup_ddup ds)).mpr fun d => ?_
  rw [mem_ddup]
  refine ⟨e2 d, fun hd => ?_⟩
  obtain ⟨p, hp, q⟩ := each_right hk d hd
  have : p.2 ∈ L.map (·.2) := g.all p (by rw [List.take_length]; exact hp)
  obtain ⟨p', hp', e⟩ := List.mem_map.mp this
  obtain ⟨d', hd', q'⟩ := e1.left p' hp'
  have : d' = d := nk_inj d' d p.2 (okItem_safe (ok d' (e2 d' hd'))) (okItem_safe (ok d hd)) (by rw [q'.2, e]) q.2
  rw [← this]; exact hd'
/-- set(xs) -/
def rSetOf (K : PySem.W.Frag) (w : World) (m : Bool) : List V → Hp → VK → Prop := fun xs H Q => ∃ ρ p ds vs, xs = [.ref p] ∧ DVs K H ρ ds vs ∧ (SqL K H p vs ∨ SqT K H p vs) ∧ (∀ d ∈ ds, okItem m d = true) ∧ ds.length < 64 ∧
  ∀ a L, H a = none → SetIs K H ρ L (ddup ds) → Q (.ref a) (upd H a (SetNO w a m L))
theorem cr_setOf {m : Bool} (hc : X.calm = true) (hu : X.A.units + 70 < cLine) : CallR X (.type "set") (rSetOf X.K X.w m) := by
  rintro pins s σ H xs us Q I r ⟨ρ, p, ds, vs, rfl, hv, hs, ok, few, q⟩
  rw [Vals.ref1 r]
  have fresh : H s.heap.objs.size = none := I.hok.fresh (Nat.le_refl _)
  have fin : ∀ (ks : List Row), PySem.W.EachIs (RowIs X.K H ρ) ks ds → ∀ (h' : Heap) (tk : Nat) L es ep t, SetN X.w h' s.heap.objs.size m L es ep t → GotN ks ks.length L → (∀ b o, s.heap.get? b = some o → h'.get? b = some o) →
      EP X pins σ Q (.ref s.heap.objs.size) { s with heap := h', toks := tk } := fun ks ek h' tk L es ep t R g k =>
    ⟨.ref s.heap.objs.size, upd H s.heap.objs.size (SetNO X.w s.heap.objs.size m L), I.laid (t' := tk) k (Nat.le_refl _) (setNO_new R.to0), rfl, q _ L fresh (got_set ek ok g R.nd)⟩
  rcases hs with hs | hs
  · obtain ⟨its, rv, pl, hz⟩ := I.list hs
    obtain ⟨ks, e1, e2, e3, e4⟩ := rows_of I hv rv ok
    exact call_setL (P := X.prog) (w := X.w) ks (I.ok.hd hc) pl.isList (by simpa using e1) e3 e4 (by rw [e2.length]; exact few) (by omega) (fin ks e2)
  · obtain ⟨its, rv, pl, hz⟩ := I.tuple hs
    obtain ⟨ks, e1, e2, e3, e4⟩ := rows_of I hv rv ok
    exact call_setT (P := X.prog) (w := X.w) ks (I.ok.hd hc) pl (by simpa using e1) e3 e4 (by rw [e2.length]; exact few) (by omega) (fin ks e2)
end
end Ev

set_option Elab.async false
set_option linter.all false
set_option maxRecDepth 100000
set_option maxHeartbeats 4000000
set_option autoImplicit false
namespace Ev
open PySem PySem.Spec PyProof.Rows L2
section
variable {X : Cx} {E : XK} {pins : List (Addr × Obj)} {σ : L2.St} {H : Hp} {s : Shared} {ρ : List Addr}
/-- in another sequence -/
theorem each_perm {α β : Type} {R : α → β → Prop} {as as' : List α} (p : as'.Perm as) : ∀ {bs : List β}, PySem.W.EachIs R as bs → ∃ bs', bs'.Perm bs ∧ PySem.W.EachIs R as' bs' := by
  induction p with
  | nil => intro bs h; exact ⟨bs, .refl _, h⟩
  | cons x _ ih =>
    intro bs h
    cases h with
    | cons h t =>
      obtain ⟨bs', p', h'⟩ := ih t
      exact ⟨_ :: bs', p'.cons _, .cons h h'⟩
  | swap x y l =>
    intro bs h
    cases h with
    | cons h1 t =>
      cases t with
      | cons h2 t => exact ⟨_, .swap _ _ _, .cons h2 (.cons h1 t)⟩
  | trans _ _ ih1 ih2 =>
    intro bs h
    obtain ⟨b1, p1, h1⟩ := ih2 h
    obtain ⟨b2, p2, h2⟩ := ih1 h1
    exact ⟨b2, p2.trans p1, h2⟩
theorem each_fst {K : PySem.W.Frag} : ∀ {L : List Row} {es : List D}, PySem.W.EachIs (RowIs K H ρ) L es → PySem.W.EachIs (StandsFor K H ρ) (L.map (·.1)) es
  | _, _, .nil => .nil
  | _, _, .cons ⟨⟨v, r, q⟩, _⟩ t => .cons ⟨v, r, q⟩ (each_fst t)
theorem rows_snd {w : World} {L : List Row} {es : Array (Int × Value)} (h : es.toList = rowsN w L) : es.toList.map (·.2) = L.map (·.1) := by
  rw [h]; simp [rowsN, Function.comp_def]
/-- sorted(a set) -/
def rSortX (K : PySem.W.Frag) (w : World) (m : Bool) : List V → Hp → VK → Prop := fun xs H Q => ∃ ρ a L ds, xs = [.ref a] ∧ H a = some (SetNO w a m L) ∧ SetIs K H ρ L ds ∧ SortOk ds ∧
  ∀ ws p, DVs K H ρ (sortD ds) ws → H p = none → Q (.ref p) (upd H p (.lst ws))
theorem cr_sortX {m : Bool} (hc : X.calm = true) (hu : X.A.units + 64 < cLine) : CallR X (.builtin "sorted") (rSortX X.K X.w m) := by
  rintro pins s σ H xs us Q I r ⟨ρ, a, L, ds, rfl, ha, ⟨es0, pm0, ek⟩, ok, q⟩
  rw [Vals.ref1 r]
  have R0 : SetN0 X.w s.heap a m L := (I.hok a _ ha).1
  obtain ⟨es, ep, t, R⟩ := R0.full (each_key I ek)
  obtain ⟨o, ho, hex, hd⟩ := R.ob
  have okP : ∀ d, d ∈ es0 ↔ d ∈ ds := fun d => pm0.mem_iff
  refine Calls.call_function_entry kind_sorted plain_sorted entry_sorted (args_sorted1 _) ?_
  unfold Builtin.«sorted»
  refine wpAny_bind (m := checkCount "sorted" 1 1 _) (wpAny_pure ?_)
  refine wpAny_bind (collect_set (A := X.A.in1) (I.ok.hd hc) ⟨o, ho, hex.1, hd⟩ R.fits (by rw [R.sz]; exact R.size) R.ris R.led fun s1 vs k1 sz1 g1 o1 pm => ?_)
  rw [rows_snd R.rows] at pm
  obtain ⟨bs, pb, hb⟩ := each_perm pm (each_fst ek)
  have pds : bs.Perm ds := pb.trans pm0
  have hL : vs.length ≤ sizeLine := by
    have := R.size
    rw [pm.length_eq, List.length_map]
    exact fits_of_scanBound this
  refine wpAny_bind (wpAny_newList ?_ hL)
  have hn : (s1.heap.push (seqObj "list" vs.toArray 0)).get? s1.heap.objs.size = some (seqObj "list" vs.toArray 0) := Heap.get?_push_size _ rfl
  have old : ∀ b u, s.heap.get? b = some u → (PySem.W.sortingHeap (s1.heap.push (seqObj "list" vs.toArray 0)) s1.heap.objs.size vs).get? b = some u := fun b u e => by
    have e1 := k1 b u e
    exact PySem.W.sortingHeap_old (Nat.ne_of_lt (Heap.lt_size e1)) (Heap.get?_push_of_some _ e1)
  have reads : PySem.W.EachIs (fun v d => ∃ as, Reads (PySem.W.sortingHeap (s1.heap.push (seqObj "list" vs.toArray 0)) s1.heap.objs.size vs) v d.pd as) vs bs :=
    (PySem.W.each_mem hb).mono fun u d ⟨⟨v, r1, h1⟩, hm⟩ => by
      obtain ⟨as, rr⟩ := DV.reads I d v u h1 r1 (ok.pure d (pds.mem_iff.mp hm))
      exact ⟨as, PyProof.Rows.Reads.keeps old rr⟩
  have al : PySem.W.AllAlike (bs.map D.pd) := fun x hx y hy => by
    obtain ⟨d, hd, rfl⟩ := List.mem_map.mp hx
    obtain ⟨e, he, rfl⟩ := List.mem_map.mp hy
    exact ok.al d (pds.mem_iff.mp hd) e (pds.mem_iff.mp he)
  have sorts : PySem.W.SortsAt X.prog X.w X.A.in1.in1 { s1 with heap := PySem.W.sortingHeap (s1.heap.push (seqObj "list" vs.toArray 0)) s1.heap.objs.size vs } (PySem.W.dataKind (PySem.W.sortingHeap (s1.heap.push (seqObj "list" vs.toArray 0)) s1.heap.objs.size vs) (bs.map D.pd)) vs :=
    sortsAt_any (s := { s1 with heap := PySem.W.sortingHeap (s1.heap.push (seqObj "list" vs.toArray 0)) s1.heap.objs.size vs }) (PySem.W.each_map (R := fun v d => ∃ as, Reads (PySem.W.sortingHeap (s1.heap.push (seqObj "list" vs.toArray 0)) s1.heap.objs.size vs) v d as) D.pd reads) al
      (fun x hx => by obtain ⟨d, hd, rfl⟩ := List.mem_map.mp hx; have hd := pds.mem_iff.mp hd; exact pd_some (ok.pure d hd) (ok.some d hd))
      (fun x hx => by obtain ⟨d, hd, rfl⟩ := List.mem_map.mp hx; have := ok.depth d (pds.mem_iff.mp hd); simp only [Around.in1_units] at *; omega)
  have out := PySem.W.sortVals_data false hb reads al
  have e5 : bs.mergeSort (PySem.W.dataLe false D.pd) = sortD ds := sortD_congr pds (fun d hd e he => ok.al d (pds.mem_iff.mp hd) e (pds.mem_iff.mp he)) fun d hd => ok.pure d (pds.mem_iff.mp hd)
  rw [e5] at out
  have ol : (PySem.W.sortVals (PySem.W.dataKind (PySem.W.sortingHeap (s1.heap.push (seqObj "list" vs.toArray 0)) s1.heap.objs.size vs) (bs.map D.pd)) false vs vs).length = vs.length := PySem.W.sortVals_length false rfl
  generalize houts : PySem.W.sortVals (PySem.W.dataKind (PySem.W.sortingHeap (s1.heap.push (seqObj "list" vs.toArray 0)) s1.heap.objs.size vs) (bs.map D.pd)) false vs vs = outs at out ol
  obtain ⟨ws, hw, rw'⟩ := of_stands out
  obtain ⟨c, hat⟩ := sortedHeap_at (vs := vs) (out := outs.toArray) hn
  refine wpAny_bind (wpAny_holding (wpAny_call_entry slot_list_sort ⟨_, hn, rfl⟩ entry_list_sort (PySem.W.list_sort_vals (κ := PySem.W.dataKind (PySem.W.sortingHeap (s1.heap.push (seqObj "list" vs.toArray 0)) s1.heap.objs.size vs) (bs.map D.pd)) hn sorts hL ?_) (args_list_sort _)))
  rw [houts]
  refine ⟨.none, rfl, wpAny_pure ⟨_, rfl, ?_⟩⟩
  have kept : ∀ b u, s.heap.get? b = some u → (sortedHeap (s1.heap.push (seqObj "list" vs.toArray 0)) s1.heap.objs.size vs outs.toArray).get? b = some u := fun b u e => by
    have z := k1 b u e
    have lt := Heap.lt_size z
    rw [sortedHeap_old (Nat.ne_of_lt lt) (by rw [size_push']; exact Nat.lt_succ_of_lt lt)]
    exact Heap.get?_push_of_some _ z
  have fresh : H s1.heap.objs.size = none := I.hok.fresh sz1
  have short : ws.length ≤ sizeLine := by rw [rw'.length, ol]; exact hL
  have J : Inv X pins σ (upd H s1.heap.objs.size (.lst ws)) { s with heap := sortedHeap (s1.heap.push (seqObj "list" vs.toArray 0)) s1.heap.objs.size vs outs.toArray, gens := s1.gens, drawn := s1.drawn, toks := s1.toks } :=
    I.call (ch := []) (Un.laid kept sz1 fresh) (I.hok.laid kept sz1 ⟨short, outs, c, rw', hat⟩) (by rw [g1]; exact I.bare) (fun _ z => nomatch z)
  have e6 : ({ s1 with heap := sortedHeap (s1.heap.push (seqObj "list" vs.toArray 0)) s1.heap.objs.size vs outs.toArray } : Shared) = { s with heap := sortedHeap (s1.heap.push (seqObj "list" vs.toArray 0)) s1.heap.objs.size vs outs.toArray, gens := s1.gens, drawn := s1.drawn, toks := s1.toks } := by
    cases s; cases s1; cases o1; rfl
  show EP X pins σ Q (.ref s1.heap.objs.size) _
  rw [e6]
  exact ⟨.ref _, _, J, rfl, q ws _ hw fresh⟩
end
end Ev

set_option Elab.async false
set_option linter.all false
set_option maxRecDepth 100000
set_option maxHeartbeats 4000000
set_option autoImplicit false
namespace Ev
open PySem PySem.Spec PyProof.Rows L2
section
variable {P : Program} {w : World} {A : Around} {E : Value → Shared → Prop} {s : Shared} {a : Addr} {m : Bool} {L : List Row} {es : Array (Int × Value)} {ep : Nat} {t : SetTable}
theorem call_addN (R : SetN w s.heap a m L es ep t) {x : Value} {k : NestedKey} (hx : NestedIs s.heap k x) (hd : k.depth ≤ 60) (ok : ItemOk m x k) (hu : A.units + 70 < cLine) (few : L.length + 1 < 64) {Q : Value → Shared → Prop}
    (q : ∀ h' tk L' es' ep' t', Heap.SameBut a s.heap h' → SetN w h' a m L' es' ep' t' → (k ∈ L.map (·.2) → L' = L) → (k ∉ L.map (·.2) → L'.Perm ((x, k) :: L)) → Q .none { s with heap := h', toks := tk }) :
    wpAny (model P w) A (call (.builtin "set.add") [.ref a, x]) Q E s := by
  obtain ⟨o, ho, hex, _⟩ := R.ob
  refine wpAny_call_entry F.slot_set_add (show s.TypeIs (.ref a) "set" from ⟨o, ho, hex.1⟩) F.entry_set_add ?_ (F.args_set_add_2 _ _)
  unfold Builtin.«set.add» Builtin.Frozenset.oneOther Builtin.Frozenset.addrOf setAdd
  simp only [List.isEmpty_nil, bind_assoc]
  refine wpAny_bind (wpAny_pure ?_)
  try dsimp only
  refine wpAny_bind (wpAny_pure ?_)
  try dsimp only
  refine wpAny_bind (wpAny_holding (wpAny_bind (pyHash_key k x _ s _ hx (by simp only [Around.in1_units]; omega) ?_)))
  refine addN (s := { s with toks := s.toks + k.draws }) R hx ok (by simp only [Around.in1_units]; omega) few fun b h' L' es' ep' t' sb R' c1 c2 => ?_
  exact (show wpAny _ _ (PySem.ret Value.none) _ _ _ from wpAny_pure ⟨_, rfl, q h' _ L' es' ep' t' sb R' c1 c2⟩)
end
section
variable {X : Cx} {pins : List (Addr × Obj)} {σ : L2.St} {H : Hp} {s : Shared}
/-- what stands behind one more -/
def AddTo (K : PySem.W.Frag) (w : World) (D0 : Addr) (m : Bool) (y : V) (H : Hp) (Nx : Hp → Prop) : Prop := ∃ ρ d L es, H D0 = some (SetNO w D0 m L) ∧ DV K H ρ d y ∧ okItem m d = true ∧ PySem.W.EachIs (RowIs K H ρ) L es ∧ L.length + 1 < 64 ∧
  ∀ u k L', RowIs K H ρ (u, k) d → (k ∈ L.map (·.2) → L' = L) → (k ∉ L.map (·.2) → L'.Perm ((u, k) :: L)) → (L'.map (·.2)).Nodup → Nx (upd H D0 (SetNO w D0 m L'))
theorem add_ok {E : Value → Shared → Prop} {D0 : Addr} {m : Bool} {y : V} {u : Value} {Nx : Hp → Prop} {Q : Value → Shared → Prop} (I : Inv X pins σ H s) (hu : X.A.units + 70 < cLine) (r : RelV y u) (h : AddTo X.K X.w D0 m y H Nx)
    (q : ∀ s' H', Inv X pins σ H' s' → Nx H' → Q .none s') : wpAny (model X.prog X.w) X.A (call (.builtin "set.add") [.ref D0, u]) Q E s := by
  obtain ⟨ρ, d, L, es, hD, hd, ok, ek, few, nx⟩ := h
  have R0 : SetN0 X.w s.heap D0 m L := (I.hok D0 _ hD).1
  obtain ⟨e0, ep, t, R⟩ := R0.full (each_key I ek)
  obtain ⟨k, k1, k2, k3, k4⟩ := row_of I hd r ok
  refine call_addN R k2 k3 k4 hu few fun h' tk L' es' ep' t' sb R' c1 c2 => ?_
  have there : ∃ z, h'.get? D0 = some z := let ⟨z, hz, _⟩ := R'.ob; ⟨z, hz⟩
  exact q _ _ (I.write (e := D0) (t' := tk) (by rw [hD]; trivial) (.inl rfl) (fun b z hb hz => (sb.2 b hb).trans hz) there (setNO_new R'.to0)) (nx u k L' k1 c1 c2 R'.nd)
/-- {elt for target in iter if ..}: D0 the new set -/
def tSn (K : PySem.W.Frag) (w : World) (m : Bool) (wi : TI) (g : TG) (tt : TT) (te : TE) (vs : List Nat) : TE := fun σ H Q => wi σ H fun J H1 => ∀ D0, H1 D0 = none → ∃ W : Nat → Nat → Hp → Prop, (∃ n, W 0 n (upd H1 D0 (SetNO w D0 m []))) ∧ ∀ i n H, W i n H →
  (J.stop i H ∧ Q (.ref D0) H) ∨ (J.go i H ∧ ∃ Nx : Hp → Prop, (∀ H', Nx H' → ∃ n', n' < n ∧ W (i + 1) n' H') ∧ ∀ x H', J.yld i H x H' → g x (wipe σ vs) H' fun σ2 H2 => wipe σ2 vs = wipe σ vs ∧ tt σ2 H2 fun b H3 =>
    if b = true then te σ2 H3 fun y H4 => AddTo K w D0 m y H4 Nx else Nx H3)
theorem pe_sn {m : Bool} {elt tg iter : Expr} {ifs : List Expr} {scope : Scope} {own : List (PySem.Str × Nat)} {pos : Pos} {wi : TI} {g : TG} {tt : TT} {te : TE} (hc : X.calm = true) (hu : X.A.units + 70 < cLine) (hN : X.N.Nodup) (hi : PI X tg iter wi) (ok : BlkOk X.N X.env.scope scope own)
    (hg : ∀ (s : Shared) (H : Hp) (C : Addr) (cl : List (PySem.Str × Addr)) (fp : List Addr), PG (X.blk s H scope (compEnvC scope cl C X.env) fp) tg g)
    (ht : ∀ (s : Shared) (H : Hp) (C : Addr) (cl : List (PySem.Str × Addr)) (fp : List Addr), PTs (X.blk s H scope (compEnvC scope cl C X.env) fp) ifs tt)
    (he : ∀ (s : Shared) (H : Hp) (C : Addr) (cl : List (PySem.Str × Addr)) (fp : List Addr), PE (X.blk s H scope (compEnvC scope cl C X.env) fp) elt te) (hs : ∀ x, foldedSetIterable iter X.env x = pure x) :
    PE X (.SetComp elt [⟨tg, iter, ifs, 0⟩] scope pos) (tSn X.K X.w m wi g tt te (own.map (·.2))) := by
  refine ⟨fun pins s σ H Q I h => ?_⟩
  rw [PpSet.eval_SetComp]
  have frees : ∀ y ∈ scope.names, y.2 = .free → ∃ c, X.env.cells.lookup y.1 = some c := fun y hy e => (ok.free y hy e).elim (fun z => I.ok.has _ (.inl z)) fun z => I.ok.has _ (.inr z)
  refine wpAny_comprehension_free (use := none) rfl hs (closure_ok frees) ok.kind (fun y hy e => by rw [ok.uniq y hy, e]) (thn (hi.run pins s σ H _ I h) fun xv s1 hx => thn hx fun itv s2 h2 => ?_)
  obtain ⟨it, fp, tn, J, H2, e, I2, T, st2, f2, q⟩ := h2
  subst e
  refine PpSet.newSet_ok (newEnv_comp ?_)
  generalize hD : s2.heap.objs.size = D0
  have fresh : H2 D0 = none := I2.hok.fresh (Nat.le_of_eq hD)
  obtain ⟨W, ⟨n0, w0⟩, turn⟩ := q D0 fresh
  generalize eS : ({ s2 with heap := s2.heap.push { cls := .type "set", dict := none, data := .set #[] 0 (.fresh 0 0 (!X.w.params.followText "set-order")) } } : Shared) = s3
  have h3 : s3.heap = s2.heap.push (bareSet X.w) := by rw [← eS]; rfl
  have I3 : Inv X pins σ (upd H2 D0 (SetNO X.w D0 m [])) s3 := by
    rw [← eS]
    refine I2.laid (t' := s2.toks) (fun b o e => Heap.get?_push_of_some _ e) (Nat.le_of_eq hD) (setNO_new (SetN.bare (w := X.w) (m := m) ?_).to0)
    rw [← hD]
    exact Heap.get?_push_size _ rfl
  generalize hH3 : upd H2 D0 (SetNO X.w D0 m []) = H3 at I3 w0
  have f3 : ∀ b ∈ fp, FpOk X pins H3 b ∧ b < s3.heap.objs.size := fun b hb => by
    obtain ⟨o, e, _⟩ := T.obj _ _ st2 b hb
    have lt := Heap.lt_size e
    refine ⟨⟨?_, (f2 b hb).2⟩, by rw [h3, Heap.size_push]; exact Nat.lt_succ_of_lt lt⟩
    rw [← hH3, upd_ne (by rw [← hD]; exact Nat.ne_of_lt lt)]
    exact (f2 b hb).1
  have st3 : tn 0 s3.heap := T.keep _ _ _ st2 fun b _ o e => by rw [h3]; exact Heap.get?_push_of_some _ e
  have I4 := block_start I3 ok hN f3
  generalize hC : s3.heap.objs.size = C at I4 f3
  generalize hcl : cellsFrom (C + 1) scope.names (cloFrom X.env.cells scope.names []) = cl at I4
  show codeAny _ _ (.compStart (.SetComp elt [⟨tg, iter, ifs, 0⟩] scope pos) 0 (.ref it) (.ref D0) (compEnvC scope cl C X.env)) (compPost (model X.prog X.w) X.A X.xe none (EP X pins σ Q) (.ref D0) C) { s3 with heap := pushCells (s3.heap.push { cls := .type "dict", data := .dict #[] }) scope.names }
  have pg := hg s3 H3 C cl fp
  have pt := ht s3 H3 C cl fp
  have pe := he s3 H3 C cl fp
  generalize hce : compEnvC scope cl C X.env = ce at I4 pg pt pe ⊢
  have cL : ce.locals = C := by rw [← hce]; rfl
  generalize hs4 : ({ s3 with heap := pushCells (s3.heap.push { cls := .type "dict", data := .dict #[] }) scope.names } : Shared) = s4 at I4 ⊢
  have st4 : tn 0 s4.heap := T.keep _ _ _ st3 fun b _ o e => by rw [← hs4]; exact pushCells_keeps _ _ _ _ (Heap.get?_push_of_some _ e)
  have nf3 : ∀ b ∈ fp, H3 b = none := fun b hb => (f3 b hb).1.1
  have walks : ∀ {σ' : L2.St} {H' : Hp} {s' : Shared}, Inv (X.blk s3 H3 scope ce fp) [] σ' H' s' → (∀ b ∈ fp, H' b = none) → ∀ b ∈ fp, FpOk (X.blk s3 H3 scope ce fp) [] H' b := fun {σ' H' s'} J' hn b hb =>
    ⟨hn b hb, (J'.ok.exf b hb).1, J'.ok.exfs b hb, .inl hb, fun x c e => (J'.ok.exf b hb).2 x c e, fun p hp => absurd (show p ∈ ([] : List (Addr × Obj)) ++ [] from hp) (by simp)⟩
  have loop : codeAny (model X.prog X.w) X.A (.compLoop (.SetComp elt [⟨tg, iter, ifs, 0⟩] scope pos) 0 (.ref it) (.ref D0) ce) (compPost (model X.prog X.w) X.A X.xe none (EP X pins σ Q) (.ref D0) C) s4 := by
    refine PpSet.compLoopS_any (fun n s' => ∃ i H', Inv (X.blk s3 H3 scope ce fp) [] (wipe σ (own.map (·.2))) H' s' ∧ tn i s'.heap ∧ (∀ b ∈ fp, H' b = none) ∧ W i n H') ?_ n0 ⟨0, H3, I4, st4, nf3, w0⟩
    rintro n s5 ⟨i, H5, I5, st5, n5, w5⟩
    rcases turn i n H5 w5 with ⟨stop, qq⟩ | ⟨go, Nx, hNx, step⟩
    · refine thnF (T.done (X.blk s3 H3 scope ce fp) rfl rfl rfl hc i [] s5 _ H5 (fun _ _ => False) I5 (walks I5 n5) st5 stop) fun r s6 ⟨hr, I6⟩ => ?_
      subst hr
      have I7 : Inv X pins σ H5 s6 := I3.call' (ch := fp) I6.os I6.base I6.hok I6.bare fun b hb => ⟨(f3 b hb).1.2.2.2.1, (f3 b hb).1.2.1, (f3 b hb).1.2.2.2.2.1, (f3 b hb).1.2.2.2.2.2⟩
      have nC : H5 C = none := by rw [← cL]; exact I6.free
      obtain ⟨k, hk, _⟩ := I6.loc
      have hk : s6.heap.Ns ce.locals k := hk
      rw [cL] at hk
      obtain ⟨g0, g1, g2, g3, g4, g5⟩ : FpOk X pins H5 C := I3.fpOk (by rw [hC]; exact Nat.le_refl _) nC
      exact ⟨k, hk, fun h9 sb => ⟨.ref D0, H5, I7.turned (t' := s6.toks) (fun b o hb e => (sb.2 b hb).trans e) g0 g1 g3 g4 g5, rfl, qq⟩⟩
    · refine thnF (T.item (X.blk s3 H3 scope ce fp) rfl rfl rfl hc i [] s5 _ H5 (fun _ _ => False) I5 (walks I5 n5) st5 go) fun r s6 ⟨u, hr, h6⟩ => ?_
      subst hr
      refine thnF h6 fun _ s7 ⟨x, H7, I7, r7, y7, st7, n7⟩ => ?_
      refine thnF (pg.run _ s7 _ H7 x u _ (I7.pinned (walks I7 n7) (T.obj _ _ st7)) r7 (step x H7 y7)) fun _ s8 ⟨σ8, H8, I8, same, q8⟩ => ?_
      refine thnF (pt.run _ s8 σ8 H8 _ I8 q8) fun b s9 ⟨H9, I9, q9⟩ => ?_
      have fin : ∀ {s' : Shared} {H' : Hp}, Inv (X.blk s3 H3 scope ce fp) ([] ++ pinsAt fp s7.heap) σ8 H' s' → Nx H' → ∃ k, k < n ∧ ∃ i H', Inv (X.blk s3 H3 scope ce fp) [] (wipe σ (own.map (·.2))) H' s' ∧ tn i s'.heap ∧ (∀ b ∈ fp, H' b = none) ∧ W i k H' := fun {s' H'} J' nx => by
        obtain ⟨k, hk, w9⟩ := hNx H' nx
        have pinned : ∀ b ∈ fp, ∀ o, s7.heap.get? b = some o → s'.heap.get? b = some o ∧ H' b = none := fun b hb o e =>
          let z := J'.pin (b, o) (List.mem_append_right _ (List.mem_append_right _ (mem_pinsAt hb e)))
          ⟨z.1, z.2.1⟩
        have len : (wipe σ (own.map (·.2))).length = σ8.length := by rw [← same, wipe_length]
        refine ⟨k, hk, i + 1, H', (J'.unpinned (pins := [])).weak len (fun j v e => by rw [← same] at e; exact (wipe_some e).1), T.keep _ _ _ st7 fun b hb o e => (pinned b hb o e).1, fun b hb => ?_, w9⟩
        obtain ⟨o, e, _⟩ := T.obj _ _ st7 b hb
        exact (pinned b hb o e).2
      cases b with
      | false =>
        simp only [Bool.false_eq_true, if_false] at q9 ⊢
        exact fin I9 q9
      | true =>
        simp only [if_true] at q9 ⊢
        refine thnF (pe.run _ s9 σ8 H9 _ I9 q9) fun z s10 ⟨yv, H10, I10, r10, more⟩ => ?_
        exact add_ok (X := X.blk s3 H3 scope ce fp) I10 hu r10 more fun s11 H11 I11 nx => fin I11 nx
  exact PpSet.codeAny_compStart_set loop (T.self X.A 0 _ _ _ st4 loop)
end
end Ev

set_option Elab.async false
set_option linter.all false
set_option maxRecDepth 100000
set_option maxHeartbeats 4000000
set_option autoImplicit false
namespace Ev
open PySem PySem.Spec PyProof.Rows L2
theorem okM {α β : Type} {a : α} {ah ah1 : AH} {f : α → M β} : (Out.ok a ah : Out α) = .ok a ah := rfl
section
variable (X : Cx) (E : XK) (m : Bool)
/-- a new set -/
def FX (e : Expr) (f : EnvD → M (List D)) : Prop := ∃ t : TE, PE X e t ∧ ∀ σ H ρ env ah Q, EnvR X.K H ρ env σ → RelH X.K H ρ ah →
  OutP X.mg X.K E ρ H (f env ah) (fun ds _ H' ρ' => ∀ a L, H' a = some (SetNO X.w a m L) → a ∉ ρ' → H a = none → SetIs X.K H' ρ' L ds → ds.length < 64 → Q (.ref a) H') → t σ H Q
end
open Classical in
noncomputable def setL (m : Bool) (ds : List D) : M (List D) := if (∀ d ∈ ds, okItem m d = true) ∧ ds.length < 64 then ret (ddup ds) else bad
noncomputable def scGo (m : Bool) (g : D → EnvD → M EnvD) (t : EnvD → M Bool) (e : EnvD → M D) (gd : AH → Prop) (env : EnvD) : List D → M (List D)
  | [] => do
    guardM gd
    pure []
  | d :: ds => do
    guardM gd
    let env1 ← quiet (g d env)
    let b ← quiet (t env1)
    if b then do
      let y ← quiet (e env1)
      if okItem m y then do
        let ys ← scGo m g t e gd env ds
        pure (y :: ys)
      else bad
    else scGo m g t e gd env ds
noncomputable def sSc (m : Bool) (it : EnvD → M (List D × (AH → Prop))) (g : D → EnvD → M EnvD) (t : EnvD → M Bool) (e : EnvD → M D) (vs : List Nat) : EnvD → M (List D) := fun env => do
  let (ds, gd) ← it env
  if ds.length < 64 then do
    let ys ← scGo m g t e gd (wipeD env vs) ds
    pure (ddup ys)
  else bad
section
variable {X : Cx} {E : XK} {m : Bool} {K : PySem.W.Frag} {H H1 : Hp} {ρ ρ1 : List Addr} {ah : AH}
theorem RowIs.ext (r : RelH K H ρ ah) (x : Ext ρ H ρ1 H1) {p : Row} {d : D} (h : RowIs K H ρ p d) : RowIs K H1 ρ1 p d := ⟨let ⟨v, a, b⟩ := h.1; ⟨v, a, b.ext r x⟩, h.2⟩
theorem rows_ext (r : RelH K H ρ ah) (x : Ext ρ H ρ1 H1) {L : List Row} {es : List D} (h : PySem.W.EachIs (RowIs K H ρ) L es) : PySem.W.EachIs (RowIs K H1 ρ1) L es := h.mono fun _ _ q => q.ext r x
theorem SetIs.ext (r : RelH K H ρ ah) (x : Ext ρ H ρ1 H1) {L : List Row} {ds : List D} (h : SetIs K H ρ L ds) : SetIs K H1 ρ1 L ds := let ⟨es, a, b⟩ := h; ⟨es, a, rows_ext r x b⟩
theorem fx_set {x : Str} {e : Expr} {f : EnvD → M (List D × Option Nat)} {p pos : Pos} (hc : X.calm = true) (hu : X.A.units + 70 < cLine) (hx : x = "set") (hg : Gl X x) (hm : X.mg x = none) (hv : bootBuiltins x = some (.type "set"))
    (h : FL X E e f) (hs : noStar e = true) : FX X E m (.Call (.Name x p) [e] [] pos) (sCallN (setL m) f) := by
  obtain ⟨ta, h1, q1⟩ := h
  subst hx
  refine ⟨_, pe_callTy (cr_setOf (m := m) hc hu) hg hm hv (pa_cons h1 pa_nil (star_of hs)) (by decide) (by decide) (star_of hs) rfl, fun σ H ρ env ah Q re rh o => ?_⟩
  refine q1 σ H ρ env ah _ re rh (o.bind.mono fun d ah1 H1 ρ1 x1 r1 o1 a ha => ?_)
  obtain ⟨hz, vs, hv, src⟩ := ha
  have o1' : OutP X.mg X.K E ρ1 H1 (setL m d.1 ah1) _ := o1
  unfold setL at o1'
  by_cases c : (∀ y ∈ d.1, okItem m y = true) ∧ d.1.length < 64
  · rw [if_pos c] at o1'
    refine ⟨ρ1, a, d.1, vs, rfl, hv, ?_, c.1, c.2, fun b L hb hL => ?_⟩
    · cases e : d.2 with
      | none => rw [e] at src; exact src.elim .inr fun z => .inl z.1
      | some n => rw [e] at src; exact .inl src.2
    · exact o1' (upd H1 b (SetNO X.w b m L)) ρ1 (Ext.upd hb) (r1.upd hb) b L upd_same (r1.fresh hb) (x1.none r1 hb) (hL.ext r1 (Ext.upd hb)) (Nat.lt_of_le_of_lt (length_ddup _) c.2)
  · rw [if_neg c] at o1'
    exact o1'.elim
theorem fn_sortX {x : Str} {e : Expr} {f : EnvD → M (List D)} {p pos : Pos} (hc : X.calm = true) (hu : X.A.units + 64 < cLine) (hx : x = "sorted") (hg : Gl X x) (hm : X.mg x = none) (hv : bootBuiltins x = some (.builtin "sorted"))
    (h : FX X E m e f) (hs : noStar e = true) : FN X E (.Call (.Name x p) [e] [] pos) (sCallNW sortL f) := by
  obtain ⟨ta, h1, q1⟩ := h
  subst hx
  refine ⟨_, pe_callB (cr_sortX (m := m) hc hu) hg hm hv (pa_cons h1 pa_nil (star_of hs)) (by decide) (by decide) (star_of hs) rfl, fun σ H ρ env ah Q re rh o => ?_⟩
  refine q1 σ H ρ env ah _ re rh (o.bind.mono fun ds ah1 H1 ρ1 x1 r1 o1 a L ha hn h0 hL few => ?_)
  have o1' : OutP X.mg X.K E ρ1 H1 (sortL ds ah1) _ := o1
  unfold sortL at o1'
  by_cases c : SortOk ds
  · rw [if_pos c] at o1'
    refine ⟨ρ1, a, L, ds, rfl, ha, hL, c, fun ws q hw hq => ?_⟩
    have len : (sortD ds).length ≤ sizeLine := by
      rw [(sortD_perm ds).length_eq, sizeLine_eq]; omega
    exact o1' (upd H1 q (.lst ws)) ρ1 (Ext.upd hq) (r1.upd hq) q ws upd_same (r1.fresh hq) (x1.none r1 hq) (hw.ext r1 (Ext.upd hq)) len
  · rw [if_neg c] at o1'
    exact o1'.elim

theorem fe_lenX {x : Str} {e : Expr} {f : EnvD → M (List D)} {p pos : Pos} (hx : x = "len") (hg : Gl X x) (hm : X.mg x = none) (hv : bootBuiltins x = some (.builtin "len"))
    (h : FX X E m e f) (hs : noStar e = true) : FE X E (.Call (.Name x p) [e] [] pos) (sCallW (fun ds => ret (.int ds.length)) f) := by
  obtain ⟨ta, h1, q1⟩ := h
  subst hx
  have call : CallR X (.builtin "len") (fun xs H Q => ∃ a L, xs = [.ref a] ∧ H a = some (SetNO X.w a m L) ∧ L.length < 64 ∧ Q (.int L.length) H) := by
    rintro pins s σ H xs us Q I r ⟨a, L, rfl, ha, few, q⟩
    rw [Vals.ref1 r]
    obtain ⟨es, ep, t, ⟨o, ho, hex, hd⟩, rows, nd, ok, led, fits, ris, size, _⟩ := (show SetN0 X.w s.heap a m L from (I.hok a _ ha).1)
    have sz := rows_size rows
    refine call_len_set ho hex hd fits (by rw [sz]; omega) ?_
    rw [sz]
    exact ⟨.int L.length, H, (I.tok _).tok _, ⟨_, rfl⟩, q⟩
  refine ⟨_, pe_callB call hg hm hv (pa_cons h1 pa_nil (star_of hs)) (by decide) (by decide) (star_of hs) rfl, fun σ H ρ env ah Q re rh o => ?_⟩
  refine q1 σ H ρ env ah _ re rh (o.bind.mono fun ds ah1 H1 ρ1 x1 r1 o1 a L ha hn h0 hL few => ?_)
  obtain ⟨es, pe, ek⟩ := hL
  have el : L.length = ds.length := by rw [ek.length, pe.length_eq]
  exact ⟨a, L, rfl, ha, by omega, by rw [el]; exact OutP.okI r1 (show OutP _ _ _ _ _ (Out.ok (D.int ds.length) ah1) _ from o1) _ (.int _)⟩
/-- these, each once -/
def OnceIs (es ys : List D) : Prop := es.Nodup ∧ ∀ d, d ∈ es ↔ d ∈ ys
theorem OnceIs.perm {es ys : List D} (h : OnceIs es ys) : es.Perm (ddup ys) := (List.perm_ext_iff_of_nodup h.1 (nodup_ddup ys)).mpr fun d => by rw [mem_ddup]; exact h.2 d
theorem RelH.offS {D0 : Addr} {L LL : List Row} {w : World} (r : RelH K H ρ ah) (hD : H D0 = some (SetNO w D0 m L)) (hn : D0 ∉ ρ) :
    RelH K (L2.upd H D0 (SetNO w D0 m LL)) ρ ah ∧ (∀ a vs, SqT K H a vs → SqT K (L2.upd H D0 (SetNO w D0 m LL)) a vs) := by
  have e : H D0 = some (.ext fun h => SetN0 w h D0 m L) := hD
  have sq : ∀ a vs, SqT K H a vs → SqT K (L2.upd H D0 (SetNO w D0 m LL)) a vs := fun a vs q => by
    rcases q with (q | ⟨u, q⟩) | q
    · exact .inl (.inl (by rw [upd_ne (by rintro rfl; rw [e] at q; cases q)]; exact q))
    · exact .inl (.inr ⟨u, by rw [upd_ne (by rintro rfl; rw [e] at q; cases q)]; exact q⟩)
    · exact .inr q
  refine ⟨⟨r.len, r.nd, fun n c z => ?_⟩, sq⟩
  obtain ⟨a, h1, h2⟩ := r.cell n c z
  exact ⟨a, h1, h2.imp (fun _ _ q => q) sq fun o y => by rw [upd_ne (by rintro rfl; exact hn (List.mem_of_getElem? h1))]; exact y⟩
theorem RowIs.imp (sq : ∀ a vs, SqT K H a vs → SqT K H1 a vs) {p : Row} {d : D} (h : RowIs K H ρ p d) : RowIs K H1 ρ p d := ⟨let ⟨v, a, b⟩ := h.1; ⟨v, a, b.imp (fun _ _ q => q) sq⟩, h.2⟩
theorem sc_read {own : List (Str × Nat)} {it : EnvD → M (List D × (AH → Prop))} {is : List Nat} {g : D → EnvD → M EnvD} {t : EnvD → M Bool} {f : EnvD → M D} {wi : TI}
    (q1 : ∀ σ H ρ env ah R, EnvR X.K H ρ env σ → RelH X.K H ρ ah → OutP X.mg X.K E ρ H (it env ah) (fun p _ H' ρ' => ∀ J, Yields X.K J p.1 p.2 ρ' H' → R J H') → wi σ H R) (his : ∀ i ∈ is, i ∈ own.map (·.2)) :
    ∀ σ H ρ env ah Q, EnvR X.K H ρ env σ → RelH X.K H ρ ah → OutP X.mg X.K E ρ H (sSc m it g t f (own.map (·.2)) env ah) (fun ds _ H' ρ' => ∀ a L, H' a = some (SetNO X.w a m L) → a ∉ ρ' → H a = none → SetIs X.K H' ρ' L ds → ds.length < 64 → Q (.ref a) H') →
      tSn X.K X.w m wi (tG X.K X.mg E0 is g) (tT X.K X.mg E0 t) (tE X.K X.mg E0 f) (own.map (·.2)) σ H Q := by
  intro σ H ρ env ah Q re r o
  refine q1 σ H ρ env ah _ re r (o.bind.mono fun p ah1 H1 ρ1 x1 r1 o1 J hJ => ?_)
  obtain ⟨ds, gd⟩ := p
  obtain ⟨_, hy⟩ := hJ
  obtain ⟨few, o1⟩ := ifB (show OutP _ _ _ _ _ ((if ds.length < 64 then scGo m g t f gd (wipeD env (own.map (·.2))) ds >>= fun ys => pure (ddup ys) else bad) ah1) _ from o1)
  have o1 := o1.bindA
  intro D0 hD
  have reW := (re.ext r x1).wipe (own.map (·.2))
  have hD1 : D0 ∉ ρ1 := r1.fresh hD
  have fin : ∀ (ys : List D) {ah' : AH} {H' : Hp} {ρ' : List Addr}, OutP X.mg X.K E ρ1 H1 ((pure (ddup ys) : M (List D)) ah') (fun ds _ H' ρ' => ∀ a L, H' a = some (SetNO X.w a m L) → a ∉ ρ' → H a = none → SetIs X.K H' ρ' L ds → ds.length < 64 → Q (.ref a) H') →
      Ext ρ1 H1 ρ' H' → RelH X.K H' ρ' ah' → ∀ a L, H' a = some (SetNO X.w a m L) → a ∉ ρ' → H a = none → SetIs X.K H' ρ' L (ddup ys) → (ddup ys).length < 64 → Q (.ref a) H' := fun ys {ah' H' ρ'} z x' r' => (show OutP _ _ _ _ _ (Out.ok (ddup ys) ah') _ from z) H' ρ' x' r'
  refine ⟨fun i n H2 => n = ds.length - i ∧ i ≤ ds.length ∧ ∃ ρ2 ah2 L es ys, H2 D0 = some (SetNO X.w D0 m L) ∧ D0 ∉ ρ2 ∧ Ext ρ1 H1 ρ2 H2 ∧ RelH X.K H2 ρ2 ah2 ∧ PySem.W.EachIs (RowIs X.K H2 ρ2) L es ∧ OnceIs es ys ∧ (∀ y ∈ ys, okItem m y = true) ∧ L.length ≤ i ∧ ys.length ≤ i ∧
    OutP X.mg X.K E ρ1 H1 (scGo m g t f gd (wipeD env (own.map (·.2))) (ds.drop i) ah2) (fun rest _ H' ρ' => ∀ a L, H' a = some (SetNO X.w a m L) → a ∉ ρ' → H a = none → SetIs X.K H' ρ' L (ddup (ys ++ rest)) → (ddup (ys ++ rest)).length < 64 → Q (.ref a) H'),
    ⟨ds.length, by simp, Nat.zero_le _, ρ1, ah1, [], [], [], upd_same, hD1, Ext.upd hD, r1.upd hD, .nil, ⟨.nil, fun d => Iff.rfl⟩, fun y z => (nomatch z), Nat.le_refl _, Nat.le_refl _, by rw [List.drop_zero]; exact o1.mono fun ys ah' H' ρ' x' r' z => fin ys z x' r'⟩, ?_⟩
  rintro i n H2 ⟨rfl, hi, ρ2, ah2, L, es, ys, eD, nD, x2, r2, hL, once, oks, lL, lY, o2⟩
  by_cases hlt : i < ds.length
  · right
    rw [List.drop_eq_getElem_cons hlt] at o2
    have o2 : OutP X.mg X.K E ρ1 H1 ((guardM gd >>= fun _ => quiet (g ds[i] (wipeD env (own.map (·.2)))) >>= fun env1 => quiet (t env1) >>= fun b => if b then (quiet (f env1) >>= fun y => if okItem m y then (scGo m g t f gd (wipeD env (own.map (·.2))) (ds.drop (i + 1)) >>= fun ys => pure (y :: ys)) else bad) else scGo m g t f gd (wipeD env (own.map (·.2))) (ds.drop (i + 1))) ah2) _ := o2
    obtain ⟨hgd, o3⟩ := guard_of o2.bindA
    have o5 := o3 H2 ρ2 x2 r2
    obtain ⟨hgo, _⟩ := hy i H2 ρ2 ah2 x2 r2 hgd
    obtain ⟨go, yld⟩ := hgo ds[i] (List.getElem?_eq_getElem hlt)
    refine ⟨go, fun H' => ∃ ρ3 ah3 L' es' ys', H' D0 = some (SetNO X.w D0 m L') ∧ D0 ∉ ρ3 ∧ Ext ρ1 H1 ρ3 H' ∧ RelH X.K H' ρ3 ah3 ∧ PySem.W.EachIs (RowIs X.K H' ρ3) L' es' ∧ OnceIs es' ys' ∧ (∀ y ∈ ys', okItem m y = true) ∧ L'.length ≤ i + 1 ∧ ys'.length ≤ i + 1 ∧
      OutP X.mg X.K E ρ1 H1 (scGo m g t f gd (wipeD env (own.map (·.2))) (ds.drop (i + 1)) ah3) (fun rest _ H' ρ' => ∀ a L, H' a = some (SetNO X.w a m L) → a ∉ ρ' → H a = none → SetIs X.K H' ρ' L (ddup (ys' ++ rest)) → (ddup (ys' ++ rest)).length < 64 → Q (.ref a) H'),
      fun H' nx => ⟨ds.length - (i + 1), by omega, rfl, hlt, nx⟩, fun x H3 hyld => ?_⟩
    obtain ⟨x3, r3, hx⟩ := yld x H3 hyld
    have x13 : Ext ρ1 H1 ρ2 H3 := x2.trans x3
    have eD3 := x3.keep _ _ eD nD
    refine ⟨ρ2, ds[i], wipeD env (own.map (·.2)), ah2, (reW.ext r1 x13), r3, hx, ?_⟩
    refine (quiet_of (o5.bindA.ext x13)).mono fun env1 ah4 H4 ρ4 x4 r4 o6 σ4 re4 ag => ?_
    have out : ∀ {ρa ρb : List Addr} {Ha Hb : Hp}, Ext ρa Ha ρb Hb → Ha D0 = some (SetNO X.w D0 m L) → D0 ∉ ρa → D0 ∉ ρb := fun xx e n q => by
      have z := xx.new D0 q n
      rw [e] at z; cases z
    have n4 : D0 ∉ ρ4 := out x4 eD3 nD
    have eD4 := x4.keep _ _ eD3 nD
    have agr : Agree (own.map (·.2)) (wipe σ (own.map (·.2))) σ4 := ⟨ag.1, fun j hj => ag.2 j fun z => hj (his j z)⟩
    refine ⟨by rw [wipe_agree agr, wipe_wipe], ?_⟩
    have x14 := x13.trans x4
    refine ⟨ρ4, env1, ah4, re4, r4, (quiet_of (o6.bindA.ext x14)).mono fun b ah5 H5 ρ5 x5 r5 o7 => ?_⟩
    have n5 : D0 ∉ ρ5 := out x5 eD4 n4
    have eD5 := x5.keep _ _ eD4 n4
    have x15 := x14.trans x5
    have L5 := rows_ext r4 x5 (rows_ext r3 x4 (rows_ext r2 x3 hL))
    cases b with
    | false =>
      rw [if_neg Bool.false_ne_true] at o7
      exact L2.iteF ⟨ρ5, ah5, L, es, ys, eD5, n5, x15, r5, L5, once, oks, by omega, by omega, o7⟩
    | true =>
      rw [if_pos rfl] at o7
      refine L2.iteT ⟨ρ5, env1, ah5, re4.ext r4 x5, r5, (quiet_of (o7.bindA.ext x15)).mono fun y ah6 H6 ρ6 x6 r6 o8 v hv => ?_⟩
      obtain ⟨oky, o8⟩ := ifB o8
      have n6 : D0 ∉ ρ6 := out x6 eD5 n5
      have eD6 := x6.keep _ _ eD5 n5
      have L6 := rows_ext r5 x6 L5
      refine ⟨ρ6, y, L, es, eD6, hv, oky, L6, by omega, fun u k L' hrow c1 c2 nd => ?_⟩
      obtain ⟨r7, sq⟩ := r6.offS (LL := L') eD6 n6
      have key : ∃ es', PySem.W.EachIs (RowIs X.K H6 ρ6) L' es' ∧ OnceIs es' (ys ++ [y]) ∧ L'.length ≤ i + 1 := by
        by_cases hk : k ∈ L.map (·.2)
        · rw [c1 hk]
          refine ⟨es, L6, ⟨once.1, fun d => ?_⟩, by omega⟩
          rw [List.mem_append, List.mem_singleton, once.2 d]
          refine ⟨.inl, fun z => z.elim id fun z => ?_⟩
          subst z
          obtain ⟨p, hp, e⟩ := List.mem_map.mp hk
          obtain ⟨d', hd', q'⟩ := L6.left p hp
          have hd2 := (once.2 d').mp hd'
          have : d' = d := nk_inj d' d k (okItem_safe (oks d' hd2)) (okItem_safe oky) (by rw [q'.2, e]) hrow.2
          rw [← this]; exact hd2
        · have pm := c2 hk
          obtain ⟨es', pe, ek⟩ := each_perm pm (PySem.W.EachIs.cons hrow L6)
          have ny : y ∉ es := fun z => by
            obtain ⟨p, hp, q'⟩ := each_right L6 y z
            have : some p.2 = some k := q'.2.symm.trans hrow.2
            exact hk (List.mem_map.mpr ⟨p, hp, Option.some.inj this⟩)
          refine ⟨es', ek, ⟨pe.nodup_iff.mpr (List.nodup_cons.mpr ⟨ny, once.1⟩), fun d => ?_⟩, by rw [pm.length_eq, List.length_cons]; omega⟩
          rw [pe.mem_iff, List.mem_cons, List.mem_append, List.mem_singleton, once.2 d]
          exact Or.comm
      obtain ⟨es', ek, on, ll⟩ := key
      refine ⟨ρ6, ah6, L', es', ys ++ [y], upd_same, n6, x15.off x6 hD n6, r7, ek.mono fun _ _ q => q.imp sq, on, fun z hz => ?_, ll, by simp; omega, ?_⟩
      · rcases List.mem_append.mp hz with hz | hz
        · exact oks z hz
        · rw [List.mem_singleton.mp hz]; exact oky
      · refine o8.bindA.mono fun rest ah8 H8 ρ8 x8 r8 o9 a L9 ha hna h0 hs hl => ?_
        have q9 := (show OutP _ _ _ _ _ (Out.ok (y :: rest) ah8) _ from o9) H8 ρ8 x8 r8 a L9 ha hna h0
        rw [List.append_assoc, List.singleton_append] at hs hl
        exact q9 hs hl
  · left
    obtain rfl : i = ds.length := by omega
    rw [List.drop_length] at o2
    have o2 : OutP X.mg X.K E ρ1 H1 ((guardM gd >>= fun _ => pure []) ah2) _ := o2
    obtain ⟨hgd, o3⟩ := guard_of o2.bindA
    obtain ⟨_, stop⟩ := hy ds.length H2 ρ2 ah2 x2 r2 hgd
    have q := (show OutP _ _ _ _ _ (Out.ok [] ah2) _ from o3 H2 ρ2 x2 r2) H2 ρ2 x2 r2 D0 L eD nD (x1.none r1 hD)
    rw [List.append_nil] at q
    exact ⟨stop (Nat.le_refl _), q ⟨es, once.perm, hL⟩ (by have := length_ddup ys; omega)⟩
theorem fx_sc {elt tg iter : Expr} {ifs : List Expr} {scope : Scope} {own : List (Str × Nat)} {pos : Pos} {it : EnvD → M (List D × (AH → Prop))} {is : List Nat} {g : D → EnvD → M EnvD} {t : EnvD → M Bool} {f : EnvD → M D}
    (hc : X.calm = true) (hu : X.A.units + 70 < cLine) (hN : X.N.Nodup) (hi : FI X E tg iter it) (ok : BlkOk X.N X.env.scope scope own) (his : ∀ i ∈ is, i ∈ own.map (·.2))
    (hg : ∀ (s : Shared) (H : Hp) (C : Addr) (cl : List (Str × Addr)) (fp : List Addr), FG (X.blk s H scope (compEnvC scope cl C X.env) fp) E0 tg is g)
    (ht : ∀ (s : Shared) (H : Hp) (C : Addr) (cl : List (Str × Addr)) (fp : List Addr), PTs (X.blk s H scope (compEnvC scope cl C X.env) fp) ifs (tT X.K X.mg E0 t))
    (he : ∀ (s : Shared) (H : Hp) (C : Addr) (cl : List (Str × Addr)) (fp : List Addr), FE (X.blk s H scope (compEnvC scope cl C X.env) fp) E0 elt f) (hs : noSet iter = true) :
    FX X E m (.SetComp elt [⟨tg, iter, ifs, 0⟩] scope pos) (sSc m it g t f (own.map (·.2))) := by
  obtain ⟨wi, h1, q1⟩ := hi
  exact ⟨_, pe_sn (m := m) (g := tG X.K X.mg E0 is g) (tt := tT X.K X.mg E0 t) (te := tE X.K X.mg E0 f) hc hu hN h1 ok (fun s H C cl fp => (hg s H C cl fp).pg) ht (fun s H C cl fp => (he s H C cl fp).pe) (noFold_of hs), sc_read q1 his⟩
end
end Ev

set_option Elab.async false
set_option linter.all false
set_option maxRecDepth 100000
set_option maxHeartbeats 4000000
set_option autoImplicit false
namespace Ev
open PySem PySem.Spec PyProof.Rows L2
/-! ### a def's body, in short -/
inductive BinO where
  | add | sub | mul | mod | fdiv | pow | shl | shr | band
inductive CmpO where
  | eq | ne | lt | le | gt | ge | isin | notin | is | isnt
inductive B1 where
  | len | abs | int | str | all | any | sum | min | max
inductive BW where
  | all | any | sum | min | max
inductive BL where
  | len | tup
inductive Mt where
  | append | pop | popAt | extend
mutual
inductive C where
  | var (i : Nat) | non | bl (b : Bool) | int (i : Int) | str (x : Str) | glob (j : Nat)
  | tup (cs : Cs) | new (n : Nw)
  | bin (o : BinO) (a b : C) | cmp (o : CmpO) (a b : C) | chain (o o' : CmpO) (a b c : C)
  | not (a : C) | one (a : C) | and (a r : C) | or (a r : C) | ifx (t a b : C) | neg (a : C)
  | idx (a b : C) | slice (a : C) (lo hi : CO)
  | call1 (f : B1) (a : C) | callL (f : BL) (s : Sq) | callW (f : BW) (n : Nw) | isi (T : String) (a : C)
  | call (j : Nat) (cs : Cs) | callK (j n l : Nat) (π : List Nat) (cs ks : Cs) | back (a : C) | lenX (x : Sx) | mth (m : Mt) (o : C) (cs : Cs)
inductive CO where
  | none | some (a : C)
inductive Cs where
  | nil | cons (a : C) (r : Cs)
inductive Nw where
  | disp (cs : Cs) | lc (it : It2) (p : P) (t : CO) (e : C) (own : List (Str × Nat)) | lst (s : Sq) | sort (n : Nw) | sortV (a : C) | sortX (x : Sx)
inductive Sx where
  | of (m : Bool) (s : Sq) | sc (m : Bool) (it : It2) (p : P) (t : CO) (e : C) (own : List (Str × Nat))
inductive Sq where
  | nw (n : Nw) | vl (a : C)
inductive It2 where
  | vl (a : C) | nw (n : Nw) | range1 (a : C) | range2 (a b : C) | zip (a b : C)
inductive P where
  | var (i : Nat) | tup (ps : Ps)
inductive Ps where
  | nil | cons (p : P) (r : Ps)
end
def Sx.mode : Sx → Bool
  | .of m _ => m
  | .sc m _ _ _ _ _ => m
def Cs.len : Cs → Nat
  | .nil => 0
  | .cons _ r => r.len + 1
def Ps.len : Ps → Nat
  | .nil => 0
  | .cons _ r => r.len + 1
mutual
def P.slots : P → List Nat
  | .var i => [i]
  | .tup ps => ps.slots
def Ps.slots : Ps → List Nat
  | .nil => []
  | .cons p r => p.slots ++ r.slots
end
mutual
inductive S where
  | pass | doc | brk | cont | expr (a : C) | ret (a : C) | retN | ifs (t : C) (a b : Ss)
  | set (i : Nat) (a : C) | asg (p : P) (a : C) | par (i j : Nat) (a b : C) | setIx (o i a : C)
  | aug (i : Nat) (a : C) | augIx (o i a : C) | for (p : P) (it : It2) (b : Ss) | while (t : C) (b : Ss)
inductive Ss where
  | nil | cons (s : S) (r : Ss)
end
/-! ### what it does -/
def BinO.g : BinO → D → D → M D
  | .add => addD | .sub => subD | .mul => mulD | .mod => modD | .fdiv => fdivD | .pow => powD | .shl => shlD | .shr => shrD | .band => andD
def CmpO.g : CmpO → D → D → M D
  | .eq => eqD | .ne => neD | .lt => ltD | .le => leD | .gt => gtD | .ge => geD | .isin => inD false | .notin => inD true | .is => isND false | .isnt => isND true
def B1.g : B1 → D → M D
  | .len => lenD | .abs => absD | .int => intD | .str => strD | .all => listVal allL | .any => listVal anyL | .sum => listVal sumL | .min => listVal minL | .max => listVal maxL
def BW.g : BW → List D → M D
  | .all => allL | .any => anyL | .sum => sumL | .min => minL | .max => maxL
def BL.g : BL → List D → M D
  | .len => lenL | .tup => tupL
def Mt.g : Mt → Nat → List D → M D
  | .append => appendD | .pop => popD | .popAt => popAtD | .extend => extendD
section
variable (Γ : Nat → List D → M D) (κ : Nat → D)
mutual
def semP : P → D → EnvD → M EnvD
  | .var i => gVar i
  | .tup ps => gTupD ps.len (semPs ps)
def semPs : Ps → List D → EnvD → M EnvD
  | .nil => gsNil
  | .cons p r => gsCons (semP p) (semPs r)
end
mutual
noncomputable def semC : C → EnvD → M D
  | .var i => sVar i
  | .non => sC .non
  | .bl b => sC (.bl b)
  | .int i => sC (.int i)
  | .str x => sC (.str x)
  | .glob j => sC (κ j)
  | .tup cs => sTup (semCs cs)
  | .new n => sNew (semN n)
  | .bin o a b => sOp o.g (semC a) (semC b)
  | .cmp o a b => sOp o.g (semC a) (semC b)
  | .chain o o' a b c => sChain o.g o'.g (semC a) (semC b) (semC c)
  | .not a => sNotV (semC a)
  | .one a => semC a
  | .and a r => sAndV (semC a) (semC r)
  | .or a r => sOrV (semC a) (semC r)
  | .ifx t a b => sIf (semT t) (semC a) (semC b)
  | .neg a => sCall1 negD (semC a)
  | .idx a b => sOp idxD (semC a) (semC b)
  | .slice a lo hi => sSlice (semC a) (semO lo) (semO hi)
  | .call1 f a => sCall1 f.g (semC a)
  | .callL f s => sCallL f.g (semL s)
  | .callW f n => sCallW f.g (semN n)
  | .isi T a => sCall1 (isiD T) (semC a)
  | .call j cs => sCallW (Γ j) (semCs cs)
  | .callK j n l π cs ks => sCallK n l (Γ j) π (semCs cs) (semCs ks)
  | .back a => sCall1 backD (semC a)
  | .lenX x => sCallW (fun ds => ret (.int ds.length)) (semX x)
  | .mth m o cs => sMth m.g (semC o) (semCs cs)
noncomputable def semT : C → EnvD → M Bool
  | .cmp o a b => asBool (sOp o.g (semC a) (semC b))
  | .chain o o' a b c => asBool (sChain o.g o'.g (semC a) (semC b) (semC c))
  | .not a => sNotT (semT a)
  | .one a => semT a
  | .and a r => sAndT (semT a) (semT r)
  | .or a r => sOrT (semT a) (semT r)
  | .var i => sTru (sVar i)
  | .non => sTru (sC .non)
  | .bl b => sTru (sC (.bl b))
  | .int i => sTru (sC (.int i))
  | .str x => sTru (sC (.str x))
  | .glob j => sTru (sC (κ j))
  | .tup cs => sTru (sTup (semCs cs))
  | .new n => sTru (sNew (semN n))
  | .bin o a b => sTru (sOp o.g (semC a) (semC b))
  | .ifx _ _ _ => fun _ => bad
  | .neg a => sTru (sCall1 negD (semC a))
  | .idx a b => sTru (sOp idxD (semC a) (semC b))
  | .slice a lo hi => sTru (sSlice (semC a) (semO lo) (semO hi))
  | .call1 f a => sTru (sCall1 f.g (semC a))
  | .callL f s => sTru (sCallL f.g (semL s))
  | .callW f n => sTru (sCallW f.g (semN n))
  | .isi T a => sTru (sCall1 (isiD T) (semC a))
  | .call j cs => sTru (sCallW (Γ j) (semCs cs))
  | .callK j n l π cs ks => sTru (sCallK n l (Γ j) π (semCs cs) (semCs ks))
  | .back a => sTru (sCall1 backD (semC a))
  | .lenX x => sTru (sCallW (fun ds => ret (.int ds.length)) (semX x))
  | .mth m o cs => sTru (sMth m.g (semC o) (semCs cs))
noncomputable def semO : CO → EnvD → M (Option Int)
  | .none => sNoPart
  | .some a => sPart (semC a)
noncomputable def semCs : Cs → EnvD → M (List D)
  | .nil => sNil
  | .cons a r => sCons (semC a) (semCs r)
noncomputable def semN : Nw → EnvD → M (List D)
  | .disp cs => sDisp (semCs cs)
  | .lc it p t e own => sLc (semI it) (semP p) (semTO t) (semC e) (own.map (·.2))
  | .lst s => sCallN lstL (semL s)
  | .sort n => sCallNW sortL (semN n)
  | .sortV a => listValN sortL (semC a)
  | .sortX x => sCallNW sortL (semX x)
noncomputable def semX : Sx → EnvD → M (List D)
  | .of m s => sCallN (setL m) (semL s)
  | .sc m it p t e own => sSc m (semI it) (semP p) (semTO t) (semC e) (own.map (·.2))
noncomputable def semTO : CO → EnvD → M Bool
  | .none => fun _ => ret true
  | .some a => semT a
noncomputable def semL : Sq → EnvD → M (List D × Option Nat)
  | .nw n => sSeqN (semN n)
  | .vl a => sSeqV (semC a)
noncomputable def semI : It2 → EnvD → M (List D × (AH → Prop))
  | .vl a => sWalk (semC a)
  | .nw n => sWalkN (semN n)
  | .range1 a => sRange1 (semC a)
  | .range2 a b => sRange2 (semC a) (semC b)
  | .zip a b => sZip (semC a) (semC b)
end
mutual
noncomputable def semS : S → EnvD → M (Flw × EnvD)
  | .pass => sPass
  | .doc => sPass
  | .brk => sBrk
  | .cont => sCont
  | .expr a => sExpr (semC Γ κ a)
  | .ret a => sRet (semC Γ κ a)
  | .retN => sRetN
  | .ifs t a b => sIfS (semT Γ κ t) (semSs a) (semSs b)
  | .set i a => sAsg (semC Γ κ a) (gVar i)
  | .asg p a => sAsg (semC Γ κ a) (semP p)
  | .par i j a b => sPar i j (sCons (semC Γ κ a) (sCons (semC Γ κ b) sNil))
  | .setIx o i a => sAsg (semC Γ κ a) (gIx (semC Γ κ o) (semC Γ κ i))
  | .aug i a => sAug i iaddD (semC Γ κ a)
  | .augIx o i a => sAugIx (semC Γ κ o) (semC Γ κ i) (semC Γ κ a)
  | .for p it b => sFor (semI Γ κ it) (semP p) (semSs b)
  | .while t b => sWhile (semT Γ κ t) (semSs b)
noncomputable def semSs : Ss → EnvD → M (Flw × EnvD)
  | .nil => ssNil
  | .cons s r => ssCons (semS s) (semSs r)
end
end
end Ev

set_option Elab.async false
set_option linter.all false
set_option maxRecDepth 100000
set_option maxHeartbeats 4000000
set_option autoImplicit false
namespace Ev
open PySem PySem.Spec PyProof.Rows L2
/-! ### the look: is this text that body -/
structure Ctx where
  N : List Str
  sc : Scope
  fn : Str → Bool
  defs : List (Str × List Str × List KPat)
  consts : List Str
  bl : List Str
def BinO.op : BinO → Operator
  | .add => .Add | .sub => .Sub | .mul => .Mult | .mod => .Mod | .fdiv => .FloorDiv | .pow => .Pow | .shl => .LShift | .shr => .RShift | .band => .BitAnd
def CmpO.op : CmpO → CmpOp
  | .eq => .Eq | .ne => .NotEq | .lt => .Lt | .le => .LtE | .gt => .Gt | .ge => .GtE | .isin => .In | .notin => .NotIn | .is => .Is | .isnt => .IsNot
def B1.nm : B1 → Str
  | .len => "len" | .abs => "abs" | .int => "int" | .str => "str" | .all => "all" | .any => "any" | .sum => "sum" | .min => "min" | .max => "max"
def BW.nm : BW → Str
  | .all => "all" | .any => "any" | .sum => "sum" | .min => "min" | .max => "max"
def BL.nm : BL → Str
  | .len => "len" | .tup => "tuple"
def Mt.nm : Mt → Str
  | .append => "append" | .pop => "pop" | .popAt => "pop" | .extend => "extend"
def Mt.args : Mt → Bool
  | .pop => false
  | _ => true
def okArgs (m : Mt) : List Expr → Bool
  | [] => !m.args
  | _ :: _ => m.args
def visC (c : Ctx) (x : Str) : Bool := match c.sc.names.lookup x with
  | some .local => true
  | some .cell => true
  | some .free => true
  | _ => false
def locC (c : Ctx) (x : Str) : Bool := match c.sc.names.lookup x with
  | some .local => true
  | some .cell => c.fn x
  | _ => false
def glC (c : Ctx) (x : Str) : Bool := match c.sc.names.lookup x with
  | some .globalImplicit => true
  | _ => false
def okNm (x : Str) : Bool := !(x == ("__debug__" : Str)) && !(x == ("__classdict__" : Str)) && !(x == ("__name__" : Str))
/-- a built-in -/
def bltC (c : Ctx) (x : Str) : Bool := glC c x && c.bl.contains x
def blkCtx (c : Ctx) (scope : Scope) : Ctx := { c with sc := relS scope c.sc, fn := fun x => match scope.names.lookup x with | some .cell => true | _ => false }
/-- the built-in classes of isinstance -/
def tyNames : List (Str × String) := [("str", "str"), ("int", "int"), ("bool", "bool"), ("tuple", "tuple"), ("list", "list"), ("dict", "dict"), ("set", "set")]
/-- x, y = constants: a written tuple, unpacked -/
def folded2 : Expr → Expr → Bool
  | .Tuple .., .Tuple vs _ _ => vs.all (foldedForSure 8)
  | _, _ => false
def tupTup : Expr → Expr → Bool
  | .Tuple .., .Tuple .. => true
  | .List .., .Tuple .. => true
  | _, _ => false
mutual
def chkP (c : Ctx) : P → Expr → Bool
  | .var i, e0 => match e0 with
    | .Name x _ => decide (c.N[i]? = some x) && locC c x
    | _ => false
  | .tup ps, e0 => match e0 with
    | .Tuple es _ _ => chkPs c ps es
    | _ => false
def chkPs (c : Ctx) : Ps → List Expr → Bool
  | .nil, e0 => match e0 with
    | [] => true
    | _ => false
  | .cons p r, e0 => match e0 with
    | e :: es => chkP c p e && chkPs c r es
    | _ => false
end
mutual
def chkC (c : Ctx) : C → Expr → Bool
  | .var i, e0 => match e0 with
    | .Name x _ => decide (c.N[i]? = some x) && visC c x && okNm x
    | _ => false
  | .non, e0 => match e0 with
    | .Constant .none _ _ => true
    | _ => false
  | .bl b, e0 => match e0 with
    | .Constant (.bool b') _ _ => b == b'
    | _ => false
  | .int i, e0 => match e0 with
    | .Constant (.int i') _ _ => i == i'
    | _ => false
  | .str x, e0 => match e0 with
    | .Constant (.str x') _ _ => x == x'
    | _ => false
  | .glob j, e0 => match e0 with
    | .Name x _ => decide (c.consts[j]? = some x) && glC c x && okNm x
    | _ => false
  | .tup cs, e0 => match e0 with
    | .Tuple es _ _ => chkCs c cs es && noStars es
    | _ => false
  | .new n, e => chkN c n e
  | .bin o a b, e0 => match e0 with
    | .BinOp l op r _ => decide (op = o.op) && chkC c a l && chkC c b r
    | _ => false
  | .cmp o a b, e0 => match e0 with
    | .Compare l [op] [r] _ => decide (op = o.op) && chkC c a l && chkC c b r && noSet r
    | _ => false
  | .chain o o' a b d, e0 => match e0 with
    | .Compare l [op, op'] [r, r'] _ => decide (op = o.op) && decide (op' = o'.op) && chkC c a l && chkC c b r && chkC c d r' && noSet r'
    | _ => false
  | .not a, e0 => match e0 with
    | .UnaryOp .Not x _ => chkC c a x
    | _ => false
  | .one a, e0 => match e0 with
    | .BoolOp _ [e] _ => chkC c a e
    | _ => false
  | .and a r, e0 => match e0 with
    | .BoolOp .And (e :: e2 :: es) p => chkC c a e && chkC c r (.BoolOp .And (e2 :: es) p)
    | _ => false
  | .or a r, e0 => match e0 with
    | .BoolOp .Or (e :: e2 :: es) p => chkC c a e && chkC c r (.BoolOp .Or (e2 :: es) p)
    | _ => false
  | .ifx t a b, e0 => match e0 with
    | .IfExp x y z _ => chkT c t x && chkC c a y && chkC c b z
    | _ => false
  | .neg a, e0 => match e0 with
    | .UnaryOp .USub x _ => chkC c a x
    | _ => false
  | .idx a b, e0 => match e0 with
    | .Subscript l r _ => chkC c a l && chkC c b r && noSlice r
    | _ => false
  | .slice a lo hi, e0 => match e0 with
    | .Subscript l (.Slice lo' hi' none _) _ => chkC c a l && chkO c lo lo' && chkO c hi hi'
    | _ => false
  | .call1 f a, e0 => match e0 with
    | .Call (.Name x _) [e] [] _ => decide (x = f.nm) && bltC c x && chkC c a e && noStar e
    | _ => false
  | .callL f s, e0 => match e0 with
    | .Call (.Name x _) [e] [] _ => decide (x = f.nm) && bltC c x && chkL c s e && noStar e
    | _ => false
  | .callW f n, e0 => match e0 with
    | .Call (.Name x _) [e] [] _ => decide (x = f.nm) && bltC c x && chkN c n e && noStar e
    | _ => false
  | .isi T a, e0 => match e0 with
    | .Call (.Name x _) [e, .Name y _] [] _ => decide (x = ("isinstance" : Str)) && bltC c x && bltC c y && tyNames.contains (y, T) && chkC c a e && noStar e
    | _ => false
  | .call j cs, e0 => match e0 with
    | .Call (.Name x _) es [] _ => (match c.defs[j]? with
      | some (y, ps, _) => decide (x = y) && decide (ps.length = cs.len)
      | none => false) && glC c x && okNm x && chkCs c cs es && noStars es
    | _ => false
  | .callK j n l π cs ks, e0 => match e0 with
    | .Call (.Name x _) es kws _ => (match c.defs[j]? with
      | some (y, ps, kp) => decide (x = y) && decide (n + π.length = ps.length) && kp.any (fun q => decide (q.1 = n) && decide (q.2.2 = π) && decide (q.2.1.length = l) && named kws q.2.1)
      | none => false) && glC c x && okNm x && chkCs c cs es && noStars es && chkKs c ks kws
    | _ => false
  | .back a, e0 => match e0 with
    | .Subscript e (.Slice none none (some (.UnaryOp .USub (.Constant (.int i) _ _) _)) _) _ => chkC c a e && decide (i = 1)
    | _ => false
  | .lenX s, e0 => match e0 with
    | .Call (.Name x _) [e] [] _ => decide (x = ("len" : Str)) && bltC c x && chkX c s e && noStar e
    | _ => false
  | .mth m o cs, e0 => match e0 with
    | .Call (.Attribute oe nm ap) es [] cp => decide (nm = m.nm) && chkC c o oe && chkCs c cs es && noSuper oe && (ap.endLine == cp.line) && noStars es && decide (es.length < 28) && okArgs m es
    | _ => false
def chkT (c : Ctx) : C → Expr → Bool
  | .cmp o a b, e0 => match e0 with
    | .Compare l [op] [r] _ => decide (op = o.op) && chkC c a l && chkC c b r && noSet r
    | _ => false
  | .chain o o' a b d, e0 => match e0 with
    | .Compare l [op, op'] [r, r'] _ => decide (op = o.op) && decide (op' = o'.op) && chkC c a l && chkC c b r && chkC c d r' && noSet r'
    | _ => false
  | .not a, e0 => match e0 with
    | .UnaryOp .Not x _ => chkT c a x
    | _ => false
  | .one a, e0 => match e0 with
    | .BoolOp _ [e] _ => chkT c a e
    | _ => false
  | .and a r, e0 => match e0 with
    | .BoolOp .And (e :: e2 :: es) p => chkT c a e && chkT c r (.BoolOp .And (e2 :: es) p)
    | _ => false
  | .or a r, e0 => match e0 with
    | .BoolOp .Or (e :: e2 :: es) p => chkT c a e && chkT c r (.BoolOp .Or (e2 :: es) p)
    | _ => false
  | .var i, e0 => match e0 with
    | .Name x _ => decide (c.N[i]? = some x) && visC c x && okNm x
    | _ => false
  | .idx a b, e0 => match e0 with
    | .Subscript l r _ => chkC c a l && chkC c b r && noSlice r
    | _ => false
  | .slice a lo hi, e0 => match e0 with
    | .Subscript l (.Slice lo' hi' none _) _ => chkC c a l && chkO c lo lo' && chkO c hi hi'
    | _ => false
  | .call1 f a, e0 => match e0 with
    | .Call (.Name x _) [e] [] _ => decide (x = f.nm) && bltC c x && chkC c a e && noStar e
    | _ => false
  | .callL f s, e0 => match e0 with
    | .Call (.Name x _) [e] [] _ => decide (x = f.nm) && bltC c x && chkL c s e && noStar e
    | _ => false
  | .callW f n, e0 => match e0 with
    | .Call (.Name x _) [e] [] _ => decide (x = f.nm) && bltC c x && chkN c n e && noStar e
    | _ => false
  | .isi T a, e0 => match e0 with
    | .Call (.Name x _) [e, .Name y _] [] _ => decide (x = ("isinstance" : Str)) && bltC c x && bltC c y && tyNames.contains (y, T) && chkC c a e && noStar e
    | _ => false
  | .call j cs, e0 => match e0 with
    | .Call (.Name x _) es [] _ => (match c.defs[j]? with
      | some (y, ps, _) => decide (x = y) && decide (ps.length = cs.len)
      | none => false) && glC c x && okNm x && chkCs c cs es && noStars es
    | _ => false
  | .new n, e => chkN c n e && plainTest e
  | .glob j, e0 => match e0 with
    | .Name x _ => decide (c.consts[j]? = some x) && glC c x && okNm x
    | _ => false
  | .tup cs, e0 => match e0 with
    | .Tuple es _ _ => chkCs c cs es && noStars es
    | _ => false
  | .bin o a b, e0 => match e0 with
    | .BinOp l op r _ => decide (op = o.op) && chkC c a l && chkC c b r
    | _ => false
  | _, _ => false
def chkO (c : Ctx) : CO → Option Expr → Bool
  | .none, e0 => match e0 with
    | none => true
    | _ => false
  | .some a, e0 => match e0 with
    | some e => chkC c a e
    | _ => false
def chkCs (c : Ctx) : Cs → List Expr → Bool
  | .nil, e0 => match e0 with
    | [] => true
    | _ => false
  | .cons a r, e0 => match e0 with
    | e :: es => chkC c a e && chkCs c r es
    | _ => false
def chkKs (c : Ctx) : Cs → List Keyword → Bool
  | .nil, e0 => match e0 with
    | [] => true
    | _ => false
  | .cons a r, e0 => match e0 with
    | ⟨_, e, _⟩ :: es => chkC c a e && chkKs c r es
    | _ => false
def chkX (c : Ctx) : Sx → Expr → Bool
  | .of m s, e0 => match e0 with
    | .Call (.Name x _) [e] [] _ => decide (x = ("set" : Str)) && bltC c x && chkL c s e && noStar e
    | _ => false
  | .sc m it p t e own, e0 => match e0 with
    | .SetComp elt [⟨tg, iter, ifs, 0⟩] scope _ => chkI c it tg iter && blkC c.N c.sc scope own && (p.slots.all fun i => (own.map (·.2)).contains i) && chkP (blkCtx c scope) p tg && chkTO (blkCtx c scope) t ifs && chkC (blkCtx c scope) e elt && noSet iter
    | _ => false
def chkN (c : Ctx) : Nw → Expr → Bool
  | .disp cs, e0 => match e0 with
    | .List es _ => chkCs c cs es && noStars es
    | _ => false
  | .lc it p t e own, e0 => match e0 with
    | .ListComp elt [⟨tg, iter, ifs, 0⟩] scope _ => chkI c it tg iter && blkC c.N c.sc scope own && (p.slots.all fun i => (own.map (·.2)).contains i) && chkP (blkCtx c scope) p tg && chkTO (blkCtx c scope) t ifs && chkC (blkCtx c scope) e elt && noSet iter
    | _ => false
  | .lst s, e0 => match e0 with
    | .Call (.Name x _) [e] [] _ => decide (x = ("list" : Str)) && bltC c x && chkL c s e && noStar e
    | _ => false
  | .sort n, e0 => match e0 with
    | .Call (.Name x _) [e] [] _ => decide (x = ("sorted" : Str)) && bltC c x && chkN c n e && noStar e
    | _ => false
  | .sortX s, e0 => match e0 with
    | .Call (.Name x _) [e] [] _ => decide (x = ("sorted" : Str)) && bltC c x && chkX c s e && noStar e
    | _ => false
  | .sortV a, e0 => match e0 with
    | .Call (.Name x _) [e] [] _ => decide (x = ("sorted" : Str)) && bltC c x && chkC c a e && noStar e
    | _ => false
def chkTO (c : Ctx) : CO → List Expr → Bool
  | .none, e0 => match e0 with
    | [] => true
    | _ => false
  | .some a, e0 => match e0 with
    | [e] => chkT c a e
    | _ => false
def chkL (c : Ctx) : Sq → Expr → Bool
  | .nw n, e => chkN c n e
  | .vl a, e => chkC c a e
def chkI (c : Ctx) : It2 → Expr → Expr → Bool
  | .vl a, _, e => chkC c a e
  | .nw n, _, e => chkN c n e
  | .range1 a, _, e0 => match e0 with
    | .Call (.Name x _) [e] [] _ => decide (x = ("range" : Str)) && bltC c x && chkC c a e && noStar e
    | _ => false
  | .range2 a b, _, e0 => match e0 with
    | .Call (.Name x _) [e, e'] [] _ => decide (x = ("range" : Str)) && bltC c x && chkC c a e && chkC c b e' && noStar e && noStar e'
    | _ => false
  | .zip a b, t0, e0 => match t0, e0 with
    | .Tuple .., .Call (.Name x _) [e, e'] [] _ => decide (x = ("zip" : Str)) && bltC c x && chkC c a e && chkC c b e' && noStar e && noStar e'
    | _, _ => false
end
/-- the text of an assignment to a name -/
def swB (c : Ctx) (x : Str) (py : Pos) (sline : Nat) (sc : Scope) (lpos : Pos) : Bool :=
  decide (c.sc.names.lookup x = some .local) && (py.line == lpos.line) && !(sc.names.any fun p => p.1 == x && (p.2 == .local || p.2 == .cell))
def plainAsg (c : Ctx) (x : Str) (py : Pos) (sline : Nat) : Expr → Bool
  | .ListComp _ _ sc lp => !swB c x py sline sc lp
  | .SetComp .. => false
  | .DictComp .. => false
  | _ => true
def swapAsg (c : Ctx) (x : Str) (py : Pos) (sline : Nat) : Nw → Expr → Bool
  | .lc .., .ListComp _ _ sc lp => swB c x py sline sc lp
  | _, _ => false
mutual
def chkS (c : Ctx) : S → Stmt → Bool
  | .pass, e0 => match e0 with
    | .Pass _ => true
    | _ => false
  | .doc, e0 => match e0 with
    | .Expr (.Constant (.str _) _ _) _ => true
    | _ => false
  | .brk, e0 => match e0 with
    | .Break _ => true
    | _ => false
  | .cont, e0 => match e0 with
    | .Continue _ => true
    | _ => false
  | .expr a, e0 => match e0 with
    | .Expr e _ => chkC c a e && noComp e
    | _ => false
  | .ret a, e0 => match e0 with
    | .Return (some e) _ => chkC c a e
    | _ => false
  | .retN, e0 => match e0 with
    | .Return none _ => true
    | _ => false
  | .ifs t a b, e0 => match e0 with
    | .If x y z _ => chkT c t x && chkSs c a y && chkSs c b z
    | _ => false
  | .set i a, e0 => match e0 with
    | .Assign [.Name x py] e pos => decide (c.N[i]? = some x) && locC c x && chkC c a e && (plainAsg c x py pos.line e || (match a with | .new n => swapAsg c x py pos.line n e | _ => false))
    | _ => false
  | .asg p a, e0 => match e0 with
    | .Assign [tg] e pos => chkP c p tg && chkC c a e && noComp e && (!tupTup tg e || folded2 tg e) && noStar tg
    | _ => false
  | .par i j a b, e0 => match e0 with
    | .Assign [.Tuple [.Name x px, .Name y py] _ _] (.Tuple [e, e'] _ _) _ => decide (c.N[i]? = some x) && decide (c.N[j]? = some y) && decide (i ≠ j) && decide (c.sc.names.lookup x = some .local) && decide (c.sc.names.lookup y = some .local) &&
      chkC c a e && chkC c b e' && noStar e && noStar e' && (px.line == py.line) && decide (x ≠ y) && !([e, e'].all (foldedForSure 8)) && !([e, e'].all (constantsAlone 8))
    | _ => false
  | .setIx o i a, e0 => match e0 with
    | .Assign [.Subscript oe ie _] e _ => chkC c o oe && chkC c i ie && chkC c a e && noComp e && noSlice ie
    | _ => false
  | .aug i a, e0 => match e0 with
    | .AugAssign (.Name x _) .Add e _ => decide (c.N[i]? = some x) && locC c x && chkC c a e
    | _ => false
  | .augIx o i a, e0 => match e0 with
    | .AugAssign (.Subscript oe ie _) .Add e _ => chkC c o oe && chkC c i ie && chkC c a e && noSlice ie
    | _ => false
  | .for p it b, e0 => match e0 with
    | .For tg iter body [] _ => chkP c p tg && chkI c it tg iter && chkSs c b body && noSet iter
    | _ => false
  | .while t b, e0 => match e0 with
    | .While e body [] _ => chkT c t e && chkSs c b body
    | _ => false
def chkSs (c : Ctx) : Ss → List Stmt → Bool
  | .nil, e0 => match e0 with
    | [] => true
    | _ => false
  | .cons s r, e0 => match e0 with
    | st :: sts => chkS c s st && chkSs c r sts
    | _ => false
end
/-! ### where it stands -/
structure CtxOk (c : Ctx) (Γ : Nat → List D → M D) (κ : Nat → D) (k : Nat) (X : Cx) (E : XK) : Prop where
  N : X.N = c.N
  nd : c.N.Nodup
  sc : X.env.scope = c.sc
  kind : c.sc.kind = .function
  fn : ∀ x, c.fn x = true → X.fn x = true
  calm : X.calm = true
  room : Room k X.A
  defs : ∀ (j : Nat) x ps kp, c.defs[j]? = some (x, ps, kp) → DefOk X.prog X.w X.K X.mg X.base k x ps kp (Γ j)
  consts : ∀ (j : Nat) x, c.consts[j]? = some x → ∃ u v, X.mg x = some u ∧ RelV v u ∧ ∀ H ρ, DV X.K H ρ (κ j) v
  blt : ∀ x ∈ c.bl, X.mg x = none
  hears : Hears X E
section
variable {c : Ctx} {Γ : Nat → List D → M D} {κ : Nat → D} {k : Nat} {X : Cx} {E : XK}
theorem hears0 {X : Cx} : Hears X E0 := takes0
theorem CtxOk.blk (h : CtxOk c Γ κ k X E) {scope : Scope} {own : List (Str × Nat)} (hb : blkC c.N c.sc scope own = true) (s : Shared) (H : Hp) (C : Addr) (cl : List (Str × Addr)) (fp : List Addr) : CtxOk (blkCtx c scope) Γ κ k (X.blk s H scope (compEnvC scope cl C X.env) fp) E0 where
  N := h.N
  nd := h.nd
  sc := by show relS scope X.env.scope = relS scope c.sc; rw [h.sc]
  kind := (blkOk_by hb).kind
  fn := fun x hx => by
    show (scope.names.lookup x == some .cell) = true
    unfold blkCtx at hx
    dsimp only at hx
    split at hx
    · rename_i e; rw [e]; rfl
    · cases hx
  calm := h.calm
  room := h.room
  defs := h.defs
  consts := h.consts
  blt := h.blt
  hears := hears0
theorem visC_of {x : Str} (h : visC c x = true) : Vis c.sc x := by
  unfold visC at h
  split at h
  · exact .inl (by assumption)
  · exact .inr (.inl (by assumption))
  · exact .inr (.inr (by assumption))
  · cases h
theorem locC_of {x : Str} (h : locC c x = true) : Loc c.sc x ∧ (c.fn x = true ∨ c.sc.names.lookup x = some .local) := by
  unfold locC at h
  split at h
  · rename_i e; exact ⟨.inl e, .inr e⟩
  · rename_i e; exact ⟨.inr e, .inl h⟩
  · cases h
theorem glC_of {x : Str} (h : glC c x = true) : c.sc.names.lookup x = some .globalImplicit := by
  unfold glC at h
  split at h
  · assumption
  · cases h
theorem okNm_of {x : Str} (h : okNm x = true) : (x == ("__debug__" : Str)) = false ∧ (x == ("__classdict__" : Str)) = false ∧ x ≠ "__name__" := by
  unfold okNm at h
  simp only [Bool.and_eq_true, Bool.not_eq_true'] at h
  exact ⟨h.1.1, h.1.2, fun e => by rw [e] at h; exact absurd h.2 (by decide)⟩
end
end Ev

set_option Elab.async false
set_option linter.all false
set_option maxRecDepth 100000
set_option maxHeartbeats 4000000
set_option autoImplicit false
namespace Ev
open PySem PySem.Spec PyProof.Rows L2
theorem bt_len : bootBuiltins "len" = some (.builtin "len") := by decide +kernel
theorem bt_abs : bootBuiltins "abs" = some (.builtin "abs") := by decide +kernel
theorem bt_int : bootBuiltins "int" = some (.type "int") := by decide +kernel
theorem bt_str : bootBuiltins "str" = some (.type "str") := by decide +kernel
theorem bt_bool : bootBuiltins "bool" = some (.type "bool") := by decide +kernel
theorem bt_tuple : bootBuiltins "tuple" = some (.type "tuple") := by decide +kernel
theorem bt_list : bootBuiltins "list" = some (.type "list") := by decide +kernel
theorem bt_dict : bootBuiltins "dict" = some (.type "dict") := by decide +kernel
theorem bt_set : bootBuiltins "set" = some (.type "set") := by decide +kernel
theorem bt_all : bootBuiltins "all" = some (.builtin "all") := by decide +kernel
theorem bt_any : bootBuiltins "any" = some (.builtin "any") := by decide +kernel
theorem bt_sum : bootBuiltins "sum" = some (.builtin "sum") := by decide +kernel
theorem bt_min : bootBuiltins "min" = some (.builtin "min") := by decide +kernel
theorem bt_max : bootBuiltins "max" = some (.builtin "max") := by decide +kernel
theorem bt_sorted : bootBuiltins "sorted" = some (.builtin "sorted") := by decide +kernel
section
variable {c : Ctx} {Γ : Nat → List D → M D} {κ : Nat → D} {k : Nat} {X : Cx} {E : XK}
theorem CtxOk.u64 (h : CtxOk c Γ κ k X E) : X.A.units + 64 < cLine := h.room.units
theorem CtxOk.u65 (h : CtxOk c Γ κ k X E) : X.A.units + 65 < cLine := by have := h.room.un; omega
theorem CtxOk.u70 (h : CtxOk c Γ κ k X E) : X.A.units + 70 < cLine := by have := h.room.un; omega
theorem CtxOk.vis (h : CtxOk c Γ κ k X E) {x : Str} (hv : visC c x = true) : Vis X.env.scope x := by rw [h.sc]; exact visC_of hv
theorem CtxOk.loc (h : CtxOk c Γ κ k X E) {x : Str} (hv : locC c x = true) : Loc X.env.scope x ∧ (X.fn x = true ∨ X.env.scope.names.lookup x = some .local) := by
  rw [h.sc]
  exact ⟨(locC_of hv).1, (locC_of hv).2.imp (h.fn x) id⟩
theorem CtxOk.gl (h : CtxOk c Γ κ k X E) {x : Str} (hv : glC c x = true) : Gl X x := by
  show X.env.scope.names.lookup x = some .globalImplicit
  rw [h.sc]; exact glC_of hv
theorem CtxOk.nx (h : CtxOk c Γ κ k X E) {i : Nat} {x : Str} (hv : c.N[i]? = some x) : X.N[i]? = some x := by rw [h.N]; exact hv
theorem CtxOk.ndx (h : CtxOk c Γ κ k X E) : X.N.Nodup := by rw [h.N]; exact h.nd
theorem CtxOk.bltn (h : CtxOk c Γ κ k X E) {x : Str} (hv : bltC c x = true) : Gl X x ∧ X.mg x = none := by
  unfold bltC at hv
  simp only [Bool.and_eq_true] at hv
  exact ⟨h.gl hv.1, h.blt x (List.contains_iff_mem.mp hv.2)⟩
theorem okVar (h : CtxOk c Γ κ k X E) {i : Nat} {x : Str} {pos : Pos} (h1 : c.N[i]? = some x) (h2 : visC c x = true) (h3 : okNm x = true) : FE X E (.Name x pos) (sVar i) :=
  fe_var (pe_var (h.nx h1) (h.vis h2) (okNm_of h3).1 (okNm_of h3).2.1)
theorem okGlob (h : CtxOk c Γ κ k X E) {j : Nat} {x : Str} {pos : Pos} (h1 : c.consts[j]? = some x) (h2 : glC c x = true) (h3 : okNm x = true) : FE X E (.Name x pos) (sC (κ j)) := by
  obtain ⟨u, v, hm, r, hd⟩ := h.consts j x h1
  exact fe_glob (pe_glob (h.gl h2) hm r (okNm_of h3).1) hd
theorem binOk (h : CtxOk c Γ κ k X E) (o : BinO) : ∃ r, OpR X (binaryOp o.op) r ∧ OpD X E r o.g := by
  cases o with
  | add => exact ⟨_, op_add3, od_add⟩
  | sub => exact ⟨_, op_sub1, od_int⟩
  | mul => exact ⟨_, op_mulW, od_int⟩
  | mod => exact ⟨_, op_mod, od_int⟩
  | fdiv => exact ⟨_, op_fdivW, od_int⟩
  | pow => exact ⟨_, op_pow1, od_int⟩
  | shl => exact ⟨_, op_shl, od_int⟩
  | shr => exact ⟨_, op_shr, od_int⟩
  | band => exact ⟨_, op_and1, od_int⟩
theorem cmpOk (h : CtxOk c Γ κ k X E) (o : CmpO) : ∃ r, OpR X (compareOp o.op) r ∧ OpD X E r o.g := by
  cases o with
  | eq => exact ⟨_, op_eqK h.u64, od_eq⟩
  | ne => exact ⟨_, op_neK h.u64, od_ne⟩
  | lt => exact ⟨_, op_lt2, od_ord⟩
  | le => exact ⟨_, op_le2, od_ord⟩
  | gt => exact ⟨_, op_gt2, od_ord⟩
  | ge => exact ⟨_, op_ge2, od_ord⟩
  | isin => exact ⟨_, op_inK h.u65, od_in⟩
  | notin => exact ⟨_, op_notInK h.u65, od_in⟩
  | is => exact ⟨_, op_is1, od_is⟩
  | isnt => exact ⟨_, op_isnt1, od_is⟩
theorem okCall1 (h : CtxOk c Γ κ k X E) (f : B1) {p pos : Pos} {e : Expr} {g : EnvD → M D} (hb : bltC c f.nm = true) (he : FE X E e g) (hs : noStar e = true) : FE X E (.Call (.Name f.nm p) [e] [] pos) (sCall1 f.g g) := by
  obtain ⟨hg, hm⟩ := h.bltn hb
  cases f with
  | len => exact fe_callB call_len cd_len hg hm bt_len (by decide) (by decide) he hs
  | abs => exact fe_callB call_abs cd_abs hg hm bt_abs (by decide) (by decide) he hs
  | int => exact fe_callT call_int1 cd_int hg hm bt_int (by decide) (by decide) he hs
  | str => exact fe_callT call_str_int cd_str hg hm bt_str (by decide) (by decide) he hs
  | all => exact fe_callB (cr_all h.calm) (cd_listVal cw_all) hg hm bt_all (by decide) (by decide) he hs
  | any => exact fe_callB (cr_any h.calm) (cd_listVal cw_any) hg hm bt_any (by decide) (by decide) he hs
  | sum => exact fe_callB (cr_sum h.calm) (cd_listVal cw_sum) hg hm bt_sum (by decide) (by decide) he hs
  | min => exact fe_callB (cr_min h.calm) (cd_listVal cw_min) hg hm bt_min (by decide) (by decide) he hs
  | max => exact fe_callB (cr_max h.calm) (cd_listVal cw_max) hg hm bt_max (by decide) (by decide) he hs
theorem okCallW (h : CtxOk c Γ κ k X E) (f : BW) {p pos : Pos} {e : Expr} {g : EnvD → M (List D)} (hb : bltC c f.nm = true) (he : FN X E e g) (hs : noStar e = true) : FE X E (.Call (.Name f.nm p) [e] [] pos) (sCallW f.g g) := by
  obtain ⟨hg, hm⟩ := h.bltn hb
  cases f with
  | all => exact fe_callBW (cr_all h.calm) cw_all hg hm bt_all (by decide) (by decide) he hs
  | any => exact fe_callBW (cr_any h.calm) cw_any hg hm bt_any (by decide) (by decide) he hs
  | sum => exact fe_callBW (cr_sum h.calm) cw_sum hg hm bt_sum (by decide) (by decide) he hs
  | min => exact fe_callBW (cr_min h.calm) cw_min hg hm bt_min (by decide) (by decide) he hs
  | max => exact fe_callBW (cr_max h.calm) cw_max hg hm bt_max (by decide) (by decide) he hs
theorem okCallL (h : CtxOk c Γ κ k X E) (f : BL) {p pos : Pos} {e : Expr} {g : EnvD → M (List D × Option Nat)} (hb : bltC c f.nm = true) (he : FL X E e g) (hs : noStar e = true) : FE X E (.Call (.Name f.nm p) [e] [] pos) (sCallL f.g g) := by
  obtain ⟨hg, hm⟩ := h.bltn hb
  cases f with
  | len => exact fe_callBL call_len cl_len hg hm bt_len (by decide) (by decide) he hs
  | tup => exact fe_callTL call_tuple_of cl_tup hg hm bt_tuple (by decide) (by decide) he hs
theorem okIsi (h : CtxOk c Γ κ k X E) {T : String} {y : Str} {p q pos : Pos} {e : Expr} {g : EnvD → M D} (hb : bltC c "isinstance" = true) (hy : bltC c y = true) (ht : tyNames.contains (y, T) = true) (he : FE X E e g) (hs : noStar e = true) :
    FE X E (.Call (.Name "isinstance" p) [e, .Name y q] [] pos) (sCall1 (isiD T) g) := by
  obtain ⟨hg, hm⟩ := h.bltn hb
  obtain ⟨hg2, hm2⟩ := h.bltn hy
  have : (y, T) ∈ tyNames := List.contains_iff_mem.mp ht
  simp only [tyNames, List.mem_cons, List.not_mem_nil, or_false, Prod.mk.injEq] at this
  rcases this with ⟨rfl, rfl⟩ | ⟨rfl, rfl⟩ | ⟨rfl, rfl⟩ | ⟨rfl, rfl⟩ | ⟨rfl, rfl⟩ | ⟨rfl, rfl⟩ | ⟨rfl, rfl⟩
  · exact fe_isi hg hm rfl hg2 hm2 bt_str (by decide) (by decide) he hs
  · exact fe_isi hg hm rfl hg2 hm2 bt_int (by decide) (by decide) he hs
  · exact fe_isi hg hm rfl hg2 hm2 bt_bool (by decide) (by decide) he hs
  · exact fe_isi hg hm rfl hg2 hm2 bt_tuple (by decide) (by decide) he hs
  · exact fe_isi hg hm rfl hg2 hm2 bt_list (by decide) (by decide) he hs
  · exact fe_isi hg hm rfl hg2 hm2 bt_dict (by decide) (by decide) he hs
  · exact fe_isi hg hm rfl hg2 hm2 bt_set (by decide) (by decide) he hs
theorem sNil_len {env : EnvD} {ah ah' : AH} {ds : List D} (h : sNil env ah = .ok ds ah') : ds.length = 0 := by
  cases h; rfl
theorem sCons_len {f : EnvD → M D} {g : EnvD → M (List D)} {n : Nat} (hg : ∀ {env ah ah' ds}, g env ah = .ok ds ah' → ds.length = n) {env : EnvD} {ah ah' : AH} {ds : List D} (h : sCons f g env ah = .ok ds ah') : ds.length = n + 1 := by
  have h : (f env >>= fun d => g env >>= fun r => pure (d :: r)) ah = .ok ds ah' := h
  rw [bind_eq] at h
  cases e : f env ah with
  | ok d ah1 =>
    rw [e] at h
    have h : (g env >>= fun r => pure (d :: r)) ah1 = .ok ds ah' := h
    rw [bind_eq] at h
    cases e2 : g env ah1 with
    | ok r ah2 => rw [e2] at h; cases h; simp [hg e2]
    | exc x a => rw [e2] at h; cases h
    | bad => rw [e2] at h; cases h
  | exc x a => rw [e] at h; cases h
  | bad => rw [e] at h; cases h
theorem semCs_len : ∀ (cs : Cs) {env : EnvD} {ah ah' : AH} {ds : List D}, semCs Γ κ cs env ah = .ok ds ah' → ds.length = cs.len
  | .nil, _, _, _, _, h => by simp only [semCs] at h; exact sNil_len h
  | .cons a r, _, _, _, _, h => by simp only [semCs] at h; exact sCons_len (fun {_ _ _ _} => semCs_len r) h
theorem callW_eq {n : Nat} {m : List D → M D} {fa : EnvD → M (List D)} (hl : ∀ {env ah ah' ds}, fa env ah = .ok ds ah' → ds.length = n) : sCall n m fa = sCallW m fa := by
  funext env ah
  show (fa env >>= fun ds => if ds.length = n then m ds else bad) ah = (fa env >>= fun ds => m ds) ah
  rw [bind_eq, bind_eq]
  cases e : fa env ah with
  | ok ds ah1 => show (if ds.length = n then m ds else bad) ah1 = m ds ah1; rw [if_pos (hl e)]
  | exc x a => rfl
  | bad => rfl
theorem okCallD (h : CtxOk c Γ κ k X E) {j : Nat} {x : Str} {ps : List Str} {kp : List KPat} {cs : Cs} {es : List Expr} {p pos : Pos} (hj : c.defs[j]? = some (x, ps, kp)) (hl : ps.length = cs.len) (hg : glC c x = true) (hn : okNm x = true) (hc : chkCs c cs es = true) (ha : FA X E es (semCs Γ κ cs)) (hs : noStars es = true) :
    FE X E (.Call (.Name x p) es [] pos) (sCallW (Γ j) (semCs Γ κ cs)) := by
  rw [← callW_eq (n := ps.length) (fun {_ _ _ _} e => (semCs_len cs e).trans hl.symm)]
  cases es with
  | cons e es => exact fe_call (h.defs j x ps kp hj) h.room (h.gl hg) h.hears (okNm_of hn).1 ha hs
  | nil =>
    cases cs with
    | nil =>
      cases ps with
      | nil => simp only [semCs]; exact fe_call0 (h.defs j x [] kp hj) h.room (h.gl hg) h.hears (okNm_of hn).1
      | cons _ _ => cases hl
    | cons a r =>
      simp [chkCs] at hc

theorem okCallKw (h : CtxOk c Γ κ k X E) {j n l : Nat} {π : List Nat} {x : Str} {ps : List Str} {kp : List KPat} {cs ks : Cs} {es : List Expr} {kws : List Keyword} {p pos : Pos} (hj : c.defs[j]? = some (x, ps, kp)) (hl : n + π.length = ps.length)
    (hq : kp.any (fun q => decide (q.1 = n) && decide (q.2.2 = π) && decide (q.2.1.length = l) && named kws q.2.1) = true) (hg : glC c x = true) (hn : okNm x = true) (hc : chkCs c cs es = true) (ha : FA X E es (semCs Γ κ cs)) (hs : noStars es = true) (hk : FK X E kws (semCs Γ κ ks)) :
    FE X E (.Call (.Name x p) es kws pos) (sCallK n l (Γ j) π (semCs Γ κ cs) (semCs Γ κ ks)) := by
  obtain ⟨⟨n', names, π'⟩, hm, q⟩ := List.any_eq_true.mp hq
  simp only [Bool.and_eq_true, decide_eq_true_eq] at q
  obtain ⟨⟨⟨rfl, rfl⟩, rfl⟩, q⟩ := q
  cases es with
  | cons e es => exact fe_callK (h.defs j x ps kp hj) hm h.room (h.gl hg) h.hears (okNm_of hn).1 ha hk hs q hl
  | nil =>
    cases cs with
    | nil => simp only [semCs]; exact fe_callK0 (h.defs j x ps kp hj) hm h.room (h.gl hg) h.hears (okNm_of hn).1 hk q hl
    | cons a r => simp [chkCs] at hc
theorem okBM (h : CtxOk c Γ κ k X E) (m : Mt) {o : Expr} {es : List Expr} {apos cpos : Pos} {cs : Cs} {fo : EnvD → M D} (ho : FE X E o fo) (hc : chkCs c cs es = true) (ha : FA X E es (semCs Γ κ cs)) (hb : noSuper o = true) (hl : (apos.endLine == cpos.line) = true) (hs : noStars es = true) (hf : es.length < 28)
    (hm : okArgs m es = true) : FE X E (.Call (.Attribute o m.nm apos) es [] cpos) (sMth m.g fo (semCs Γ κ cs)) := by
  have hfew : ∀ {e : Expr} {es : List Expr}, noStars (e :: es) = true → (e :: es).length < 28 → ((backTo cpos (starEach (e :: es) X.env)).all (fun x => !x.1) && (backToKw cpos (keywordEach [] X.env)).all (fun x => x.1.isSome)
      && decide ((e :: es).length + ([] : List Keyword).length + (if ([] : List Keyword).isEmpty then 0 else 1) < 30)) = true := by
    intro e es hs hf
    have h1 := stars_any (env := X.env) (pos := cpos) hs
    have h2 : (backTo cpos (starEach (e :: es) X.env)).all (fun x => !x.1) = true := by
      rw [List.all_eq_not_any_not]
      simp only [Bool.not_not]
      rw [h1]; rfl
    rw [h2]
    show (true && (true && decide ((e :: es).length + 0 + 0 < 30))) = true
    simp only [Bool.true_and, decide_eq_true_eq]; omega
  cases es with
  | nil =>
    cases cs with
    | cons a r => simp [chkCs] at hc
    | nil =>
      simp only [semCs]
      cases m with
      | pop => exact fe_mth0 PySem.F.slot_list_pop PySem.F.type_list_pop mt_pop md_pop ho hb hl
      | _ => cases hm
  | cons e es =>
    cases m with
    | pop => cases hm
    | append => exact fe_mth PySem.F.slot_list_append PySem.F.type_list_append mt_append md_append ho ha hb hl hs (hfew hs hf)
    | popAt => exact fe_mth PySem.F.slot_list_pop PySem.F.type_list_pop mt_popAt md_popAt ho ha hb hl hs (hfew hs hf)
    | extend => exact fe_mth PySem.F.slot_list_extend PySem.F.type_list_extend mt_extend md_extend ho ha hb hl hs (hfew hs hf)
theorem sw_lc {elt : Expr} {gs : List Comprehension} {scope : Scope} {pos py : Pos} {y : Str} {l : Nat} {env : Env} (hk : env.scope.kind = .function) :
    swapsWith (.ListComp elt gs scope pos) (some (.Name y py)) l env = pure (decide (env.scope.names.lookup y = some .local) && (py.line == pos.line) && !(scope.names.any fun p => p.1 == y && (p.2 == .local || p.2 == .cell))) := by
  have hb : env.blockKind = .function := by unfold Env.blockKind; rw [hk]; rfl
  unfold swapsWith
  simp only [hb, Expr.pos]
  show pure _ = pure _
  congr 1
  have e : (env.kindOf y == some NameKind.local) = decide (env.scope.names.lookup y = some .local) := by
    show (env.scope.names.lookup y == some NameKind.local) = _
    cases env.scope.names.lookup y with
    | none => rfl
    | some q => cases q <;> rfl
  rw [e]
  rfl
theorem plain_sw (h : CtxOk c Γ κ k X E) {x : Str} {py : Pos} {l : Nat} {e : Expr} (hp : plainAsg c x py l e = true) : swapsWith e (some (.Name x py)) l X.env = pure false := by
  cases e with
  | ListComp elt gs scope pos =>
    rw [sw_lc (by rw [h.sc]; exact h.kind)]
    simp only [plainAsg, swB, Bool.not_eq_true'] at hp
    rw [h.sc, hp]
  | SetComp => cases hp
  | DictComp => cases hp
  | _ => rfl
end
end Ev

set_option Elab.async false
set_option linter.all false
set_option maxRecDepth 100000
set_option maxHeartbeats 8000000
set_option autoImplicit false
namespace Ev
open PySem PySem.Spec PyProof.Rows L2
theorem asgE_name {x : Str} {p : Pos} {es : List Expr} {env : Env} : assignEach (.Name x p :: es) env = (false, assign (.Name x p) env) :: assignEach es env := rfl
theorem asgE_tup {ts : List Expr} {k : Nat} {p : Pos} {es : List Expr} {env : Env} : assignEach (.Tuple ts k p :: es) env = (false, assign (.Tuple ts k p) env) :: assignEach es env := rfl
section
variable {Γ : Nat → List D → M D} {κ : Nat → D} {k : Nat}
theorem chkP_e {c : Ctx} {X : Cx} {p : P} {e : Expr} (h : chkP c p e = true) (es : List Expr) : assignEach (e :: es) X.env = (false, assign e X.env) :: assignEach es X.env := by
  cases p with
  | var i =>
    simp only [chkP] at h
    split at h
    · rfl
    · cases h
  | tup ps =>
    simp only [chkP] at h
    split at h
    · rfl
    · cases h
theorem chkPs_e {c : Ctx} {X : Cx} : ∀ {ps : Ps} {es : List Expr}, chkPs c ps es = true → (assignEach es X.env).length = ps.len ∧ (assignEach es X.env).findIdx? (·.1) = none
  | .nil, es, h => by
    simp only [chkPs] at h
    split at h
    · exact ⟨rfl, rfl⟩
    · cases h
  | .cons p r, es, h => by
    simp only [chkPs] at h
    split at h
    · simp only [Bool.and_eq_true] at h
      obtain ⟨a, b⟩ := chkPs_e (X := X) h.2
      rw [chkP_e h.1]
      refine ⟨by simp [a, Ps.len], ?_⟩
      rw [List.findIdx?_cons]
      simp only [b]
      rfl
    · cases h
mutual
theorem okP : ∀ (p : P) {c : Ctx} {X : Cx} {E : XK} {e : Expr}, CtxOk c Γ κ k X E → chkP c p e = true → FG X E e p.slots (semP p)
  | .var i, c, X, E, e, h, hc => by
    simp only [chkP] at hc
    split at hc
    · simp only [Bool.and_eq_true, decide_eq_true_eq] at hc
      exact fg_name (pg_name h.ndx (h.nx hc.1) (h.loc hc.2).1 (h.loc hc.2).2)
    · cases hc
  | .tup ps, c, X, E, e, h, hc => by
    simp only [chkP] at hc
    split at hc
    · exact fg_tup h.calm (okPs ps h hc) (chkPs_e hc).1 (chkPs_e hc).2
    · cases hc
theorem okPs : ∀ (ps : Ps) {c : Ctx} {X : Cx} {E : XK} {es : List Expr}, CtxOk c Γ κ k X E → chkPs c ps es = true → FGs X E es ps.slots (semPs ps)
  | .nil, c, X, E, es, h, hc => by
    simp only [chkPs] at hc
    split at hc
    · exact fgs_nil
    · cases hc
  | .cons p r, c, X, E, es, h, hc => by
    simp only [chkPs] at hc
    split at hc
    · simp only [Bool.and_eq_true] at hc
      exact fgs_cons (okP p h hc.1) (okPs r h hc.2) (by rw [chkP_e hc.1]; rfl)
    · cases hc
end
theorem pts_tru {X : Cx} : PTs X [] (tT X.K X.mg E0 fun _ => ret true) := ⟨fun pins s σ H Q I ⟨ρ, env, ah, re, rh, o⟩ => pts_nil.run pins s σ H Q I (OutP.okI rh o)⟩
def isBo : Expr → Bool
  | .BoolOp .. => true
  | _ => false
theorem bo_plain {e : Expr} (h : isBo e = true) : plainTest e = false := by
  cases e <;> first | rfl | cases h
mutual
theorem okC : ∀ (a : C) {c : Ctx} {X : Cx} {E : XK} {e : Expr}, CtxOk c Γ κ k X E → chkC c a e = true → FE X E e (semC Γ κ a)
  | .var i, c, X, E, e, h, hc => by
    simp only [chkC] at hc
    split at hc
    · simp only [Bool.and_eq_true, decide_eq_true_eq] at hc
      exact okVar h hc.1.1 hc.1.2 hc.2
    · cases hc
  | .non, c, X, E, e, h, hc => by
    simp only [chkC] at hc
    split at hc
    · exact fe_non
    · cases hc
  | .bl b, c, X, E, e, h, hc => by
    simp only [chkC] at hc
    split at hc
    · rw [beq_iff_eq] at hc; subst hc; exact fe_bl
    · cases hc
  | .int i, c, X, E, e, h, hc => by
    simp only [chkC] at hc
    split at hc
    · rw [beq_iff_eq] at hc; subst hc; exact fe_int
    · cases hc
  | .str x, c, X, E, e, h, hc => by
    simp only [chkC] at hc
    split at hc
    · rw [beq_iff_eq] at hc; subst hc; exact fe_str
    · cases hc
  | .glob j, c, X, E, e, h, hc => by
    simp only [chkC] at hc
    split at hc
    · simp only [Bool.and_eq_true, decide_eq_true_eq] at hc
      exact okGlob h hc.1.1 hc.1.2 hc.2
    · cases hc
  | .tup cs, c, X, E, e, h, hc => by
    simp only [chkC] at hc
    split at hc
    · simp only [Bool.and_eq_true] at hc
      exact fe_tup (okCs cs h hc.1 hc.2)
    · cases hc
  | .new n, c, X, E, e, h, hc => by
    simp only [chkC] at hc
    exact fe_new (okN n h hc)
  | .bin o a b, c, X, E, e, h, hc => by
    simp only [chkC] at hc
    split at hc
    · simp only [Bool.and_eq_true, decide_eq_true_eq] at hc
      obtain ⟨⟨rfl, h1⟩, h2⟩ := hc
      obtain ⟨r, ho, hd⟩ := binOk h o
      exact fe_bin ho hd (okC a h h1) (okC b h h2)
    · cases hc
  | .cmp o a b, c, X, E, e, h, hc => by
    simp only [chkC] at hc
    split at hc
    · simp only [Bool.and_eq_true, decide_eq_true_eq] at hc
      obtain ⟨⟨⟨rfl, h1⟩, h2⟩, h3⟩ := hc
      obtain ⟨r, ho, hd⟩ := cmpOk h o
      exact fe_cmp ho hd (okC a h h1) (okC b h h2) (noMark_of h3 _)
    · cases hc
  | .chain o o' a b d, c, X, E, e, h, hc => by
    simp only [chkC] at hc
    split at hc
    · simp only [Bool.and_eq_true, decide_eq_true_eq] at hc
      obtain ⟨⟨⟨⟨⟨rfl, rfl⟩, h1⟩, h2⟩, h3⟩, h4⟩ := hc
      obtain ⟨r, ho, hd⟩ := cmpOk h o
      obtain ⟨r', ho', hd'⟩ := cmpOk h o'
      exact fe_chain ho ho' hd hd' (okC a h h1) (okC b h h2) (okC d h h3) (noMark_of h4 _)
    · cases hc
  | .not a, c, X, E, e, h, hc => by
    simp only [chkC] at hc
    split at hc
    · exact fe_not (okC a h hc)
    · cases hc
  | .one a, c, X, E, e, h, hc => by
    simp only [chkC] at hc
    split at hc
    · exact fe_one (okC a h hc)
    · cases hc
  | .and a r, c, X, E, e, h, hc => by
    simp only [chkC] at hc
    split at hc
    · simp only [Bool.and_eq_true] at hc
      exact fe_and (okC a h hc.1) (okC r h hc.2)
    · cases hc
  | .or a r, c, X, E, e, h, hc => by
    simp only [chkC] at hc
    split at hc
    · simp only [Bool.and_eq_true] at hc
      exact fe_or (okC a h hc.1) (okC r h hc.2)
    · cases hc
  | .ifx t a b, c, X, E, e, h, hc => by
    simp only [chkC] at hc
    split at hc
    · simp only [Bool.and_eq_true] at hc
      exact fe_if (okT t h hc.1.1) (okC a h hc.1.2) (okC b h hc.2)
    · cases hc
  | .neg a, c, X, E, e, h, hc => by
    simp only [chkC] at hc
    split at hc
    · exact fe_neg (okC a h hc)
    · cases hc
  | .idx a b, c, X, E, e, h, hc => by
    simp only [chkC] at hc
    split at hc
    · simp only [Bool.and_eq_true] at hc
      exact fe_ix (okC a h hc.1.1) (okC b h hc.1.2) hc.2
    · cases hc
  | .slice a lo hi, c, X, E, e, h, hc => by
    simp only [chkC] at hc
    split at hc
    · simp only [Bool.and_eq_true] at hc
      exact fe_slice (okC a h hc.1.1) (okO lo h hc.1.2) (okO hi h hc.2)
    · cases hc
  | .call1 f a, c, X, E, e, h, hc => by
    simp only [chkC] at hc
    split at hc
    · simp only [Bool.and_eq_true, decide_eq_true_eq] at hc
      obtain ⟨⟨⟨rfl, h1⟩, h2⟩, h3⟩ := hc
      exact okCall1 h f h1 (okC a h h2) h3
    · cases hc
  | .callL f s, c, X, E, e, h, hc => by
    simp only [chkC] at hc
    split at hc
    · simp only [Bool.and_eq_true, decide_eq_true_eq] at hc
      obtain ⟨⟨⟨rfl, h1⟩, h2⟩, h3⟩ := hc
      exact okCallL h f h1 (okL s h h2) h3
    · cases hc
  | .callW f n, c, X, E, e, h, hc => by
    simp only [chkC] at hc
    split at hc
    · simp only [Bool.and_eq_true, decide_eq_true_eq] at hc
      obtain ⟨⟨⟨rfl, h1⟩, h2⟩, h3⟩ := hc
      exact okCallW h f h1 (okN n h h2) h3
    · cases hc
  | .isi T a, c, X, E, e, h, hc => by
    simp only [chkC] at hc
    split at hc
    · simp only [Bool.and_eq_true, decide_eq_true_eq] at hc
      obtain ⟨⟨⟨⟨⟨rfl, h1⟩, h2⟩, h3⟩, h4⟩, h5⟩ := hc
      exact okIsi h h1 h2 h3 (okC a h h4) h5
    · cases hc
  | .call j cs, c, X, E, e, h, hc => by
    simp only [chkC] at hc
    split at hc
    · simp only [Bool.and_eq_true] at hc
      obtain ⟨⟨⟨⟨h1, h2⟩, h3⟩, h4⟩, h5⟩ := hc
      split at h1
      · rename_i hj
        simp only [Bool.and_eq_true, decide_eq_true_eq] at h1
        obtain ⟨rfl, hl⟩ := h1
        exact okCallD h hj hl h2 h3 h4 (okCs cs h h4 h5) h5
      · cases h1
    · cases hc
  | .callK j n l π cs ks, c, X, E, e, h, hc => by
    simp only [chkC] at hc
    split at hc
    · simp only [Bool.and_eq_true] at hc
      obtain ⟨⟨⟨⟨⟨h1, h2⟩, h3⟩, h4⟩, h5⟩, h6⟩ := hc
      split at h1
      · rename_i hj
        simp only [Bool.and_eq_true, decide_eq_true_eq] at h1
        obtain ⟨⟨rfl, hl⟩, hq⟩ := h1
        exact okCallKw h hj hl hq h2 h3 h4 (okCs cs h h4 h5) h5 (okKs ks h h6)
      · cases h1
    · cases hc
  | .back a, c, X, E, e, h, hc => by
    simp only [chkC] at hc
    split at hc
    · simp only [Bool.and_eq_true, decide_eq_true_eq] at hc
      obtain ⟨h1, rfl⟩ := hc
      exact fe_back (okC a h h1)
    · cases hc
  | .lenX s, c, X, E, e, h, hc => by
    simp only [chkC] at hc
    split at hc
    · simp only [Bool.and_eq_true, decide_eq_true_eq] at hc
      obtain ⟨⟨⟨rfl, h1⟩, h2⟩, h3⟩ := hc
      exact fe_lenX rfl (h.bltn h1).1 (h.bltn h1).2 bt_len (okX s h h2) h3
    · cases hc
  | .mth m o cs, c, X, E, e, h, hc => by
    simp only [chkC] at hc
    split at hc
    · simp only [Bool.and_eq_true, decide_eq_true_eq] at hc
      obtain ⟨⟨⟨⟨⟨⟨⟨rfl, h1⟩, h2⟩, h3⟩, h4⟩, h5⟩, h6⟩, h7⟩ := hc
      exact okBM h m (okC o h h1) h2 (okCs cs h h2 h5) h3 h4 h5 h6 h7
    · cases hc
theorem okT : ∀ (a : C) {c : Ctx} {X : Cx} {E : XK} {e : Expr}, CtxOk c Γ κ k X E → chkT c a e = true → FT X E e (semT Γ κ a)
  | .var i, c, X, E, e, h, hc => by
    simp only [chkT] at hc
    split at hc
    · simp only [Bool.and_eq_true, decide_eq_true_eq] at hc
      exact ft_tru (okVar h hc.1.1 hc.1.2 hc.2) rfl
    · cases hc
  | .non, c, X, E, e, h, hc => by simp [chkT] at hc
  | .bl b, c, X, E, e, h, hc => by simp [chkT] at hc
  | .int i, c, X, E, e, h, hc => by simp [chkT] at hc
  | .str x, c, X, E, e, h, hc => by simp [chkT] at hc
  | .ifx t a b, c, X, E, e, h, hc => by simp [chkT] at hc
  | .neg a, c, X, E, e, h, hc => by simp [chkT] at hc
  | .mth m o cs, c, X, E, e, h, hc => by simp [chkT] at hc
  | .callK .., c, X, E, e, h, hc => by simp [chkT] at hc
  | .back a, c, X, E, e, h, hc => by simp [chkT] at hc
  | .lenX s, c, X, E, e, h, hc => by simp [chkT] at hc
  | .glob j, c, X, E, e, h, hc => by
    simp only [chkT] at hc
    split at hc
    · simp only [Bool.and_eq_true, decide_eq_true_eq] at hc
      exact ft_tru (okGlob h hc.1.1 hc.1.2 hc.2) rfl
    · cases hc
  | .tup cs, c, X, E, e, h, hc => by
    simp only [chkT] at hc
    split at hc
    · simp only [Bool.and_eq_true] at hc
      exact ft_tru (fe_tup (okCs cs h hc.1 hc.2)) rfl
    · cases hc
  | .new n, c, X, E, e, h, hc => by
    simp only [chkT, Bool.and_eq_true] at hc
    exact ft_tru (fe_new (okN n h hc.1)) hc.2
  | .bin o a b, c, X, E, e, h, hc => by
    simp only [chkT] at hc
    split at hc
    · simp only [Bool.and_eq_true, decide_eq_true_eq] at hc
      obtain ⟨⟨rfl, h1⟩, h2⟩ := hc
      obtain ⟨r, ho, hd⟩ := binOk h o
      exact ft_tru (fe_bin ho hd (okC a h h1) (okC b h h2)) rfl
    · cases hc
  | .cmp o a b, c, X, E, e, h, hc => by
    simp only [chkT] at hc
    split at hc
    · simp only [Bool.and_eq_true, decide_eq_true_eq] at hc
      obtain ⟨⟨⟨rfl, h1⟩, h2⟩, h3⟩ := hc
      obtain ⟨r, ho, hd⟩ := cmpOk h o
      exact ft_cmp ho hd (okC a h h1) (okC b h h2) (noMark_of h3 _)
    · cases hc
  | .chain o o' a b d, c, X, E, e, h, hc => by
    simp only [chkT] at hc
    split at hc
    · simp only [Bool.and_eq_true, decide_eq_true_eq] at hc
      obtain ⟨⟨⟨⟨⟨rfl, rfl⟩, h1⟩, h2⟩, h3⟩, h4⟩ := hc
      obtain ⟨r, ho, hd⟩ := cmpOk h o
      obtain ⟨r', ho', hd'⟩ := cmpOk h o'
      exact ft_chain ho ho' hd hd' (okC a h h1) (okC b h h2) (okC d h h3) (noMark_of h4 _)
    · cases hc
  | .not a, c, X, E, e, h, hc => by
    simp only [chkT] at hc
    split at hc
    · exact ft_not (okT a h hc)
    · cases hc
  | .one a, c, X, E, e, h, hc => by
    simp only [chkT] at hc
    split at hc
    · rename_i op _ _
      cases op with
      | And => exact (fw_and1 (okT a h hc)).ft
      | Or => exact (fw_or1 (okT a h hc)).ft
    · cases hc
  | .and a r, c, X, E, e, h, hc => by
    simp only [chkT] at hc
    split at hc
    · simp only [Bool.and_eq_true] at hc
      exact (fw_and (okT a h hc.1) (okW r h hc.2 rfl)).ft
    · cases hc
  | .or a r, c, X, E, e, h, hc => by
    simp only [chkT] at hc
    split at hc
    · simp only [Bool.and_eq_true] at hc
      exact (fw_or (okT a h hc.1) (okW r h hc.2 rfl)).ft
    · cases hc
  | .idx a b, c, X, E, e, h, hc => by
    simp only [chkT] at hc
    split at hc
    · simp only [Bool.and_eq_true] at hc
      exact ft_tru (fe_ix (okC a h hc.1.1) (okC b h hc.1.2) hc.2) rfl
    · cases hc
  | .slice a lo hi, c, X, E, e, h, hc => by
    simp only [chkT] at hc
    split at hc
    · simp only [Bool.and_eq_true] at hc
      exact ft_tru (fe_slice (okC a h hc.1.1) (okO lo h hc.1.2) (okO hi h hc.2)) rfl
    · cases hc
  | .call1 f a, c, X, E, e, h, hc => by
    simp only [chkT] at hc
    split at hc
    · simp only [Bool.and_eq_true, decide_eq_true_eq] at hc
      obtain ⟨⟨⟨rfl, h1⟩, h2⟩, h3⟩ := hc
      exact ft_tru (okCall1 h f h1 (okC a h h2) h3) rfl
    · cases hc
  | .callL f s, c, X, E, e, h, hc => by
    simp only [chkT] at hc
    split at hc
    · simp only [Bool.and_eq_true, decide_eq_true_eq] at hc
      obtain ⟨⟨⟨rfl, h1⟩, h2⟩, h3⟩ := hc
      exact ft_tru (okCallL h f h1 (okL s h h2) h3) rfl
    · cases hc
  | .callW f n, c, X, E, e, h, hc => by
    simp only [chkT] at hc
    split at hc
    · simp only [Bool.and_eq_true, decide_eq_true_eq] at hc
      obtain ⟨⟨⟨rfl, h1⟩, h2⟩, h3⟩ := hc
      exact ft_tru (okCallW h f h1 (okN n h h2) h3) rfl
    · cases hc
  | .isi T a, c, X, E, e, h, hc => by
    simp only [chkT] at hc
    split at hc
    · simp only [Bool.and_eq_true, decide_eq_true_eq] at hc
      obtain ⟨⟨⟨⟨⟨rfl, h1⟩, h2⟩, h3⟩, h4⟩, h5⟩ := hc
      exact ft_tru (okIsi h h1 h2 h3 (okC a h h4) h5) rfl
    · cases hc
  | .call j cs, c, X, E, e, h, hc => by
    simp only [chkT] at hc
    split at hc
    · simp only [Bool.and_eq_true] at hc
      obtain ⟨⟨⟨⟨h1, h2⟩, h3⟩, h4⟩, h5⟩ := hc
      split at h1
      · rename_i hj
        simp only [Bool.and_eq_true, decide_eq_true_eq] at h1
        obtain ⟨rfl, hl⟩ := h1
        exact ft_tru (okCallD h hj hl h2 h3 h4 (okCs cs h h4 h5) h5) rfl
      · cases h1
    · cases hc
theorem okW : ∀ (a : C) {c : Ctx} {X : Cx} {E : XK} {e : Expr}, CtxOk c Γ κ k X E → chkT c a e = true → isBo e = true → FW X E e (semT Γ κ a)
  | .var i, c, X, E, e, h, hc, hb => by simp only [chkT] at hc; split at hc <;> first | cases hb | cases hc
  | .non, c, X, E, e, h, hc, hb => by simp [chkT] at hc
  | .bl b, c, X, E, e, h, hc, hb => by simp [chkT] at hc
  | .int i, c, X, E, e, h, hc, hb => by simp [chkT] at hc
  | .str x, c, X, E, e, h, hc, hb => by simp [chkT] at hc
  | .ifx t a b, c, X, E, e, h, hc, hb => by simp [chkT] at hc
  | .neg a, c, X, E, e, h, hc, hb => by simp [chkT] at hc
  | .mth m o cs, c, X, E, e, h, hc, hb => by simp [chkT] at hc
  | .callK .., c, X, E, e, h, hc, hb => by simp [chkT] at hc
  | .back a, c, X, E, e, h, hc, hb => by simp [chkT] at hc
  | .lenX s, c, X, E, e, h, hc, hb => by simp [chkT] at hc
  | .glob j, c, X, E, e, h, hc, hb => by simp only [chkT] at hc; split at hc <;> first | cases hb | cases hc
  | .tup cs, c, X, E, e, h, hc, hb => by simp only [chkT] at hc; split at hc <;> first | cases hb | cases hc
  | .bin o a b, c, X, E, e, h, hc, hb => by simp only [chkT] at hc; split at hc <;> first | cases hb | cases hc
  | .cmp o a b, c, X, E, e, h, hc, hb => by simp only [chkT] at hc; split at hc <;> first | cases hb | cases hc
  | .chain o o' a b d, c, X, E, e, h, hc, hb => by simp only [chkT] at hc; split at hc <;> first | cases hb | cases hc
  | .not a, c, X, E, e, h, hc, hb => by simp only [chkT] at hc; split at hc <;> first | cases hb | cases hc
  | .idx a b, c, X, E, e, h, hc, hb => by simp only [chkT] at hc; split at hc <;> first | cases hb | cases hc
  | .slice a lo hi, c, X, E, e, h, hc, hb => by simp only [chkT] at hc; split at hc <;> first | cases hb | cases hc
  | .call1 f a, c, X, E, e, h, hc, hb => by simp only [chkT] at hc; split at hc <;> first | cases hb | cases hc
  | .callL f s, c, X, E, e, h, hc, hb => by simp only [chkT] at hc; split at hc <;> first | cases hb | cases hc
  | .callW f n, c, X, E, e, h, hc, hb => by simp only [chkT] at hc; split at hc <;> first | cases hb | cases hc
  | .isi T a, c, X, E, e, h, hc, hb => by simp only [chkT] at hc; split at hc <;> first | cases hb | cases hc
  | .call j cs, c, X, E, e, h, hc, hb => by simp only [chkT] at hc; split at hc <;> first | cases hb | cases hc
  | .new n, c, X, E, e, h, hc, hb => by
    simp only [chkT, Bool.and_eq_true] at hc
    rw [bo_plain hb] at hc; exact absurd hc.2 (by decide)
  | .one a, c, X, E, e, h, hc, hb => by
    simp only [chkT] at hc
    split at hc
    · rename_i op _ _
      cases op with
      | And => exact fw_and1 (okT a h hc)
      | Or => exact fw_or1 (okT a h hc)
    · cases hc
  | .and a r, c, X, E, e, h, hc, hb => by
    simp only [chkT] at hc
    split at hc
    · simp only [Bool.and_eq_true] at hc
      exact fw_and (okT a h hc.1) (okW r h hc.2 rfl)
    · cases hc
  | .or a r, c, X, E, e, h, hc, hb => by
    simp only [chkT] at hc
    split at hc
    · simp only [Bool.and_eq_true] at hc
      exact fw_or (okT a h hc.1) (okW r h hc.2 rfl)
    · cases hc
theorem okO : ∀ (a : CO) {c : Ctx} {X : Cx} {E : XK} {e : Option Expr}, CtxOk c Γ κ k X E → chkO c a e = true → FO X E e (semO Γ κ a)
  | .none, c, X, E, e, h, hc => by
    simp only [chkO] at hc
    split at hc
    · exact fo_none
    · cases hc
  | .some a, c, X, E, e, h, hc => by
    simp only [chkO] at hc
    split at hc
    · exact fo_some (okC a h hc)
    · cases hc
theorem okCs : ∀ (cs : Cs) {c : Ctx} {X : Cx} {E : XK} {es : List Expr}, CtxOk c Γ κ k X E → chkCs c cs es = true → noStars es = true → FA X E es (semCs Γ κ cs)
  | .nil, c, X, E, es, h, hc, hs => by
    simp only [chkCs] at hc
    split at hc
    · exact fa_nil
    · cases hc
  | .cons a r, c, X, E, es, h, hc, hs => by
    simp only [chkCs] at hc
    split at hc
    · simp only [Bool.and_eq_true] at hc
      simp only [noStars, Bool.and_eq_true] at hs
      exact fa_cons (okC a h hc.1) (okCs r h hc.2 hs.2) (star_of hs.1)
    · cases hc
theorem okKs : ∀ (cs : Cs) {c : Ctx} {X : Cx} {E : XK} {es : List Keyword}, CtxOk c Γ κ k X E → chkKs c cs es = true → FK X E es (semCs Γ κ cs)
  | .nil, c, X, E, es, h, hc => by
    simp only [chkKs] at hc
    split at hc
    · exact fk_nil
    · cases hc
  | .cons a r, c, X, E, es, h, hc => by
    simp only [chkKs] at hc
    split at hc
    · simp only [Bool.and_eq_true] at hc
      exact fk_cons (okC a h hc.1) (okKs r h hc.2)
    · cases hc
theorem okX : ∀ (s : Sx) {c : Ctx} {X : Cx} {E : XK} {e : Expr}, CtxOk c Γ κ k X E → chkX c s e = true → FX X E s.mode e (semX Γ κ s)
  | .of m s, c, X, E, e, h, hc => by
    simp only [chkX] at hc
    split at hc
    · simp only [Bool.and_eq_true, decide_eq_true_eq] at hc
      obtain ⟨⟨⟨rfl, h1⟩, h2⟩, h3⟩ := hc
      exact fx_set h.calm h.u70 rfl (h.bltn h1).1 (h.bltn h1).2 bt_set (okL s h h2) h3
    · cases hc
  | .sc m it p t e1 own, c, X, E, e, h, hc => by
    simp only [chkX] at hc
    split at hc
    · simp only [Bool.and_eq_true] at hc
      obtain ⟨⟨⟨⟨⟨⟨h1, h2⟩, h3⟩, h4⟩, h5⟩, h6⟩, h7⟩ := hc
      have hb := fun s H C cl fp => h.blk h2 s H C cl fp
      exact fx_sc h.calm h.u70 h.ndx (okI it h h1) (by rw [h.N, h.sc]; exact blkOk_by h2) (fun i hi => List.contains_iff_mem.mp (List.all_eq_true.mp h3 i hi)) (fun s H C cl fp => okP p (hb s H C cl fp) h4)
        (fun s H C cl fp => okTO t (hb s H C cl fp) h5) (fun s H C cl fp => okC e1 (hb s H C cl fp) h6) h7
    · cases hc
theorem okN : ∀ (n : Nw) {c : Ctx} {X : Cx} {E : XK} {e : Expr}, CtxOk c Γ κ k X E → chkN c n e = true → FN X E e (semN Γ κ n)
  | .disp cs, c, X, E, e, h, hc => by
    simp only [chkN] at hc
    split at hc
    · simp only [Bool.and_eq_true] at hc
      exact fn_disp (okCs cs h hc.1 hc.2)
    · cases hc
  | .lc it p t e1 own, c, X, E, e, h, hc => by
    simp only [chkN] at hc
    split at hc
    · simp only [Bool.and_eq_true] at hc
      obtain ⟨⟨⟨⟨⟨⟨h1, h2⟩, h3⟩, h4⟩, h5⟩, h6⟩, h7⟩ := hc
      have hb := fun s H C cl fp => h.blk h2 s H C cl fp
      exact fn_lc h.calm h.ndx (okI it h h1) (by rw [h.N, h.sc]; exact blkOk_by h2) (fun i hi => List.contains_iff_mem.mp (List.all_eq_true.mp h3 i hi)) (fun s H C cl fp => okP p (hb s H C cl fp) h4)
        (fun s H C cl fp => okTO t (hb s H C cl fp) h5) (fun s H C cl fp => okC e1 (hb s H C cl fp) h6) h7
    · cases hc
  | .lst s, c, X, E, e, h, hc => by
    simp only [chkN] at hc
    split at hc
    · simp only [Bool.and_eq_true, decide_eq_true_eq] at hc
      obtain ⟨⟨⟨rfl, h1⟩, h2⟩, h3⟩ := hc
      exact fn_callT call_list_of cn_list (h.bltn h1).1 (h.bltn h1).2 bt_list (by decide) (by decide) (okL s h h2) h3
    · cases hc
  | .sort n, c, X, E, e, h, hc => by
    simp only [chkN] at hc
    split at hc
    · simp only [Bool.and_eq_true, decide_eq_true_eq] at hc
      obtain ⟨⟨⟨rfl, h1⟩, h2⟩, h3⟩ := hc
      exact fn_callBW (cr_sortD h.u64) cn_sort (h.bltn h1).1 (h.bltn h1).2 bt_sorted (by decide) (by decide) (okN n h h2) h3
    · cases hc
  | .sortX s, c, X, E, e, h, hc => by
    simp only [chkN] at hc
    split at hc
    · simp only [Bool.and_eq_true, decide_eq_true_eq] at hc
      obtain ⟨⟨⟨rfl, h1⟩, h2⟩, h3⟩ := hc
      exact fn_sortX h.calm h.u64 rfl (h.bltn h1).1 (h.bltn h1).2 bt_sorted (okX s h h2) h3
    · cases hc
  | .sortV a, c, X, E, e, h, hc => by
    simp only [chkN] at hc
    split at hc
    · simp only [Bool.and_eq_true, decide_eq_true_eq] at hc
      obtain ⟨⟨⟨rfl, h1⟩, h2⟩, h3⟩ := hc
      exact fn_callBV (cr_sortD h.u64) cn_sort (h.bltn h1).1 (h.bltn h1).2 bt_sorted (by decide) (by decide) (okC a h h2) h3
    · cases hc
theorem okTO : ∀ (a : CO) {c : Ctx} {X : Cx} {es : List Expr}, CtxOk c Γ κ k X E0 → chkTO c a es = true → PTs X es (tT X.K X.mg E0 (semTO Γ κ a))
  | .none, c, X, e, h, hc => by
    simp only [chkTO] at hc
    split at hc
    · exact pts_tru
    · cases hc
  | .some a, c, X, e, h, hc => by
    simp only [chkTO] at hc
    split at hc
    · exact pts_one (okT a h hc).pt
    · cases hc
theorem okL : ∀ (s : Sq) {c : Ctx} {X : Cx} {E : XK} {e : Expr}, CtxOk c Γ κ k X E → chkL c s e = true → FL X E e (semL Γ κ s)
  | .nw n, c, X, E, e, h, hc => by
    simp only [chkL] at hc
    exact fl_new (okN n h hc)
  | .vl a, c, X, E, e, h, hc => by
    simp only [chkL] at hc
    exact fl_val (okC a h hc)
theorem okI : ∀ (s : It2) {c : Ctx} {X : Cx} {E : XK} {tg e : Expr}, CtxOk c Γ κ k X E → chkI c s tg e = true → FI X E tg e (semI Γ κ s)
  | .vl a, c, X, E, tg, e, h, hc => by
    simp only [chkI] at hc
    exact fi_val (okC a h hc)
  | .nw n, c, X, E, tg, e, h, hc => by
    simp only [chkI] at hc
    exact fi_new (okN n h hc)
  | .range1 a, c, X, E, tg, e, h, hc => by
    simp only [chkI] at hc
    split at hc
    · simp only [Bool.and_eq_true, decide_eq_true_eq] at hc
      obtain ⟨⟨⟨rfl, h1⟩, h2⟩, h3⟩ := hc
      exact fi_range1 rfl (h.bltn h1).1 (h.bltn h1).2 (okC a h h2) h3
    · cases hc
  | .range2 a b, c, X, E, tg, e, h, hc => by
    simp only [chkI] at hc
    split at hc
    · simp only [Bool.and_eq_true, decide_eq_true_eq] at hc
      obtain ⟨⟨⟨⟨⟨rfl, h1⟩, h2⟩, h3⟩, h4⟩, h5⟩ := hc
      exact fi_range2 rfl (h.bltn h1).1 (h.bltn h1).2 (okC a h h2) (okC b h h3) h4 h5
    · cases hc
  | .zip a b, c, X, E, tg, e, h, hc => by
    simp only [chkI] at hc
    split at hc
    · simp only [Bool.and_eq_true, decide_eq_true_eq] at hc
      obtain ⟨⟨⟨⟨⟨rfl, h1⟩, h2⟩, h3⟩, h4⟩, h5⟩ := hc
      exact fi_zip rfl (h.bltn h1).1 (h.bltn h1).2 (okC a h h2) (okC b h h3) h4 h5
    · cases hc
end
end
end Ev

set_option Elab.async false
set_option linter.all false
set_option maxRecDepth 100000
set_option maxHeartbeats 8000000
set_option autoImplicit false
namespace Ev
open PySem PySem.Spec PyProof.Rows L2
section
variable {Γ : Nat → List D → M D} {κ : Nat → D} {k : Nat}
theorem sole_sw {tg e : Expr} {l : Nat} {env : Env} (h : noComp e = true) : swapsWithSole [tg] e l env = pure false := noSwap_of h
theorem stores_none {tg e : Expr} {env : Env} (h : (!tupTup tg e) = true) : swappedStores [tg] e env = pure none := by
  cases tg <;> cases e <;> first | rfl | cases h
theorem stores_folded {tg e : Expr} {env : Env} (h : folded2 tg e = true) : swappedStores [tg] e env = pure none := by
  cases tg with
  | Tuple ts k p =>
    cases e with
    | Tuple vs k2 p2 =>
      have h : vs.all (foldedForSure 8) = true := h
      unfold swappedStores
      simp only [h, if_true]
      repeat' split
      all_goals first | rfl | (simp only [pure_bind]; rfl) | skip
    | _ => cases h
  | _ => cases e <;> cases h
theorem sole_asg {tg : Expr} {env : Env} (h : noStar tg = true) : (assignEach [tg] env).map (·.2) = [assign tg env] := by
  cases tg <;> first | rfl | cases h
theorem setIx_asg {o i : Expr} {pos : Pos} {env : Env} (h : noSlice i = true) (v : Value) : assign (.Subscript o i pos) env v = (do
      let ov ← holding [v] (eval o env)
      let iv ← holding [v, ov] (eval i env)
      standAt pos
      holding [v, ov, iv] (setItem ov iv v)
      release [v, ov, iv] []) := by
  cases i <;> first | rfl | cases h
theorem augIx_st {i : Expr} (h : noSlice i = true) (ov iv new : Value) : augStore i ov iv new = (do holding [new, ov, iv] (setItem ov iv new); release [new, ov, iv] []; pure .next) := by
  cases i <;> first | rfl | cases h
theorem par_st {x y : Str} {px py pt pt2 : Pos} {kt k2 : Nat} {a b : Expr} {env : Env} (hk : env.scope.kind = .function) (hx : env.scope.names.lookup x = some .local) (hy : env.scope.names.lookup y = some .local) (ha : noStar a = true) (hb : noStar b = true) (hl : (px.line == py.line) = true) (hn : x ≠ y)
    (h1 : ([a, b].all (foldedForSure 8)) = false) (h2 : ([a, b].all (constantsAlone 8)) = false) : swappedStores [.Tuple [.Name x px, .Name y py] kt pt] (.Tuple [a, b] k2 pt2) env = pure (some [x, y]) := by
  have hb' : env.blockKind = .function := by unfold Env.blockKind; rw [hk]; rfl
  have kx : env.kindOf x = some .local := hx
  have ky : env.kindOf y = some .local := hy
  have hs : ([a, b].any fun | .Starred .. => true | _ => false) = false := by
    have q : ∀ (a b : Expr), noStar a = true → noStar b = true → ([a, b].any fun | .Starred .. => true | _ => false) = false := by
      intro a b ha hb
      cases a with
      | Starred => cases ha
      | _ => cases b with
        | Starred => cases hb
        | _ => rfl
    exact q a b ha hb
  have e1 : (([Expr.Name x px, Expr.Name y py] : List Expr).filterMap fun
    | .Name id pos => if env.kindOf id == some .local && pos.line == px.line then some id else none
    | _ => none) = [x, y] := by
    have : (py.line == px.line) = true := by rw [beq_iff_eq] at hl ⊢; exact hl.symm
    simp [List.filterMap, kx, ky, this]
  have e2 : ([x, y] : List Str).eraseDups.length = 2 := by
    have : (y == x) = false := beq_eq_false_iff_ne.mpr fun e => hn e.symm
    simp [List.eraseDups_cons, this]
  unfold swappedStores
  show (do
    if !(([Expr.Name x px, Expr.Name y py]).length == 2 || ([Expr.Name x px, Expr.Name y py]).length == 3) || [a, b].length != ([Expr.Name x px, Expr.Name y py]).length || env.blockKind != .function then return none
    if [a, b].any fun | .Starred .. => true | _ => false then return none
    let names := ([Expr.Name x px, Expr.Name y py]).filterMap fun
      | .Name id pos => if env.kindOf id == some .local && pos.line == px.line then some id else none
      | _ => none
    if names.length != ([Expr.Name x px, Expr.Name y py]).length || names.eraseDups.length != names.length then return none
    if [a, b].all (foldedForSure 8) then return none
    if [a, b].all (constantsAlone 8) then unsupported "assign.tuple-of-constant-expressions:order-of-the-stores"
    return some names : Sem (Option (List Str))) = _
  rw [hs, h1, h2, hb']
  simp only [e1, e2]
  rfl
mutual
theorem okS : ∀ (s : S) {c : Ctx} {X : Cx} {E : XK} {st : Stmt}, CtxOk c Γ κ k X E → PassesOwn (model X.prog X.w) X.A X.env X.xe → chkS c s st = true → FS X E st (semS Γ κ s)
  | .pass, c, X, E, e, h, hp, hc => by
    simp only [chkS] at hc
    split at hc
    · exact fs_pass
    · cases hc
  | .doc, c, X, E, e, h, hp, hc => by
    simp only [chkS] at hc
    split at hc
    · exact fs_doc
    · cases hc
  | .brk, c, X, E, e, h, hp, hc => by
    simp only [chkS] at hc
    split at hc
    · exact fs_brk
    · cases hc
  | .cont, c, X, E, e, h, hp, hc => by
    simp only [chkS] at hc
    split at hc
    · exact fs_cont
    · cases hc
  | .expr a, c, X, E, e, h, hp, hc => by
    simp only [chkS] at hc
    split at hc
    · simp only [Bool.and_eq_true] at hc
      exact fs_expr (okC a h hc.1) hc.2
    · cases hc
  | .ret a, c, X, E, e, h, hp, hc => by
    simp only [chkS] at hc
    split at hc
    · exact fs_ret (okC a h hc)
    · cases hc
  | .retN, c, X, E, e, h, hp, hc => by
    simp only [chkS] at hc
    split at hc
    · exact fs_retN
    · cases hc
  | .ifs t a b, c, X, E, e, h, hp, hc => by
    simp only [chkS] at hc
    split at hc
    · simp only [Bool.and_eq_true] at hc
      exact fs_if (okT t h hc.1.1) (okSs a h hp hc.1.2) (okSs b h hp hc.2)
    · cases hc
  | .set i a, c, X, E, e, h, hp, hc => by
    simp only [chkS] at hc
    split at hc
    · rename_i x py e pos
      simp only [Bool.and_eq_true, decide_eq_true_eq, Bool.or_eq_true] at hc
      obtain ⟨⟨⟨h1, h2⟩, h3⟩, h4⟩ := hc
      rcases h4 with h4 | h4
      · exact fs_set h.ndx (h.nx h1) (h.loc h2).1 (okC a h h3) (plain_sw h h4) (h.loc h2).2
      · split at h4
        · rename_i n
          simp only [chkC] at h3
          cases n with
          | lc it p t e1 own =>
            simp only [chkN] at h3
            split at h3
            · simp only [Bool.and_eq_true] at h3
              obtain ⟨⟨⟨⟨⟨⟨g1, g2⟩, g3⟩, g4⟩, g5⟩, g6⟩, g7⟩ := h3
              have hb := fun s H C cl fp => h.blk g2 s H C cl fp
              have h4' := h4
              simp only [swapAsg, swB, Bool.and_eq_true, decide_eq_true_eq] at h4'
              refine fs_setLc h.calm h.ndx (h.nx h1) (by rw [h.sc]; exact h4'.1.1) ?_ (okI it h g1) (by rw [h.N, h.sc]; exact blkOk_by g2) (fun i hi => List.contains_iff_mem.mp (List.all_eq_true.mp g3 i hi)) (fun s H C cl fp => okP p (hb s H C cl fp) g4)
                (fun s H C cl fp => okTO t (hb s H C cl fp) g5) (fun s H C cl fp => okC e1 (hb s H C cl fp) g6) g7
              rw [sw_lc (by rw [h.sc]; exact h.kind)]
              simp only [swapAsg, swB] at h4
              rw [h.sc, h4]
            · cases h3
          | _ => simp [swapAsg] at h4
        · cases h4
    · cases hc
  | .asg p a, c, X, E, e, h, hp, hc => by
    simp only [chkS] at hc
    split at hc
    · simp only [Bool.and_eq_true] at hc
      obtain ⟨⟨⟨⟨h1, h2⟩, h3⟩, h4⟩, h5⟩ := hc
      rw [Bool.or_eq_true] at h4
      exact fs_asg (okC a h h2) (okP p h h1) (sole_sw h3) (h4.elim stores_none stores_folded) (sole_asg h5)
    · cases hc
  | .par i j a b, c, X, E, e, h, hp, hc => by
    simp only [chkS] at hc
    split at hc
    · simp only [Bool.and_eq_true, decide_eq_true_eq, Bool.not_eq_true'] at hc
      obtain ⟨⟨⟨⟨⟨⟨⟨⟨⟨⟨⟨⟨h1, h2⟩, h3⟩, h4⟩, h5⟩, h6⟩, h7⟩, h8⟩, h9⟩, h10⟩, h11⟩, h12⟩, h13⟩ := hc
      have hx := h4
      have hy := h5
      rw [← h.sc] at hx hy
      exact fs_par h.calm h.ndx (h.nx h1) (h.nx h2) h3 hx hy (fa_cons (okC a h h6) (fa_cons (okC b h h7) fa_nil (star_of h9)) (star_of h8)) (par_st (by rw [h.sc]; exact h.kind) hx hy h8 h9 h10 h11 h12 h13)
    · cases hc
  | .setIx o i a, c, X, E, e, h, hp, hc => by
    simp only [chkS] at hc
    split at hc
    · simp only [Bool.and_eq_true] at hc
      obtain ⟨⟨⟨⟨h1, h2⟩, h3⟩, h4⟩, h5⟩ := hc
      exact fs_asg (okC a h h3) (fg_ix (okC o h h1) (okC i h h2) (setIx_asg h5)) (sole_sw h4) rfl rfl
    · cases hc
  | .aug i a, c, X, E, e, h, hp, hc => by
    simp only [chkS] at hc
    split at hc
    · simp only [Bool.and_eq_true, decide_eq_true_eq] at hc
      exact fs_aug h.ndx (h.nx hc.1.1) (h.loc hc.1.2).1 (okC a h hc.2) (h.loc hc.1.2).2
    · cases hc
  | .augIx o i a, c, X, E, e, h, hp, hc => by
    simp only [chkS] at hc
    split at hc
    · simp only [Bool.and_eq_true] at hc
      obtain ⟨⟨⟨h1, h2⟩, h3⟩, h4⟩ := hc
      exact fs_augIx (okC o h h1) (okC i h h2) (okC a h h3) (augIx_st h4)
    · cases hc
  | .for p it b, c, X, E, e, h, hp, hc => by
    simp only [chkS] at hc
    split at hc
    · simp only [Bool.and_eq_true] at hc
      obtain ⟨⟨⟨h1, h2⟩, h3⟩, h4⟩ := hc
      exact fs_for hp h.calm (okI it h h2) (okP p h h1) (okSs b h hp h3) h4
    · cases hc
  | .while t b, c, X, E, e, h, hp, hc => by
    simp only [chkS] at hc
    split at hc
    · simp only [Bool.and_eq_true] at hc
      exact fs_while hp (okT t h hc.1) (okSs b h hp hc.2)
    · cases hc
theorem okSs : ∀ (s : Ss) {c : Ctx} {X : Cx} {E : XK} {st : List Stmt}, CtxOk c Γ κ k X E → PassesOwn (model X.prog X.w) X.A X.env X.xe → chkSs c s st = true → FSs X E st (semSs Γ κ s)
  | .nil, c, X, E, e, h, hp, hc => by
    simp only [chkSs] at hc
    split at hc
    · exact fss_nil
    · cases hc
  | .cons s r, c, X, E, e, h, hp, hc => by
    simp only [chkSs] at hc
    split at hc
    · simp only [Bool.and_eq_true] at hc
      exact fss_cons (okS s h hp hc.1) (okSs r h hp hc.2)
    · cases hc
end
end
end Ev

set_option Elab.async false
set_option linter.all false
set_option maxRecDepth 100000
set_option maxHeartbeats 4000000
set_option autoImplicit false
namespace Ev
open PySem PySem.Spec PyProof.Rows L2
/-! ### the defs of a text, by levels of calls -/
noncomputable def G (tab : List (Nat × Nat × Ss)) (κ : Nat → D) : Nat → Nat → List D → M D
  | 0, _ => fun _ => bad
  | k + 1, j => match tab[j]? with
    | some (n, N, b) => defM n N (semSs (G tab κ k) κ b)
    | none => fun _ => bad
section
variable {P : Program} {w : World} {K : PySem.W.Frag} {mg : Str → Option Value} {base : Heap}
/-- a def stands there -/
structure DefIs (K : PySem.W.Frag) (mg : Str → Option Value) (defs : List (Str × List Str × List KPat)) (consts bl : List Str) (tab : List (Nat × Nat × Ss)) (j : Nat) (x : Str) (ps : List Str) (kp : List KPat) : Prop where
  ex : ∃ (f : Addr) (fd : FuncData) (qual : Str) (params : Arguments) (body : List Stmt) (scope : Scope) (N : List Str) (b : Ss), FunD K x qual params body scope [] [] f fd ∧ FnScope N ps scope ∧ mg x = some (.ref f) ∧
    (∀ (kV doc pm : Value) (an : Option Addr) (cdv ct : Value) (us : List Value), us.length = ps.length → bindArgs (PySem.W.fnOf x qual params body scope .none kV doc pm an cdv ct) ⟨us, []⟩ = pure (ps.zip us)) ∧
    (∀ q ∈ kp, ∀ (kV doc pm : Value) (an : Option Addr) (cdv ct : Value) (us ws : List Value), us.length = q.1 → ws.length = q.2.1.length → bindArgs (PySem.W.fnOf x qual params body scope .none kV doc pm an cdv ct) ⟨us, q.2.1.zip ws⟩ = pure (ps.zip (us ++ pick q.2.2 ws))) ∧
    tab[j]? = some (ps.length, N.length, b) ∧ chkSs { N := N, sc := scope, fn := fun _ => true, defs := defs, consts := consts, bl := bl } b body = true
theorem one_body {defs : List (Str × List Str × List KPat)} {consts bl : List Str} {Γ : Nat → List D → M D} {κ : Nat → D} {k : Nat} {f : Addr} {qual : Str} {body : List Stmt} {scope : Scope} {N ps : List Str} {b : Ss} (ih : ∀ (j : Nat) x ps kp, defs[j]? = some (x, ps, kp) → DefOk P w K mg base k x ps kp (Γ j))
    (hc : ∀ (j : Nat) x, consts[j]? = some x → ∃ u v, mg x = some u ∧ RelV v u ∧ ∀ H ρ, DV K H ρ (κ j) v) (hb : ∀ x ∈ bl, mg x = none) (S : FnScope N ps scope) (hk : chkSs { N := N, sc := scope, fn := fun _ => true, defs := defs, consts := consts, bl := bl } b body = true) :
    ∀ (cdv : Value) (A : Around) (outer : List Env) (s : Shared) (H : Hp) (E : XK), Room k (A.deeper (envOfC qual scope s.heap.objs.size f cdv)) → FSs (cxOf (L2.CX P w) P w K mg base N qual scope f cdv A outer s H E) E body (semSs Γ κ b) := fun cdv A outer s H E hr => by
  have ok : CtxOk { N := N, sc := scope, fn := fun _ => true, defs := defs, consts := consts, bl := bl } Γ κ k (cxOf (L2.CX P w) P w K mg base N qual scope f cdv A outer s H E) E :=
    { N := rfl, nd := S.nd, sc := rfl, kind := S.kind, fn := fun _ _ => rfl, calm := rfl, room := hr, defs := ih, consts := hc, blt := hb, hears := takes_of rfl rfl rfl rfl }
  exact okSs b ok (passes_of rfl) hk
theorem levels {defs : List (Str × List Str × List KPat)} {consts bl : List Str} {tab : List (Nat × Nat × Ss)} {κ : Nat → D} (hd : ∀ (j : Nat) x ps kp, defs[j]? = some (x, ps, kp) → DefIs K mg defs consts bl tab j x ps kp)
    (hc : ∀ (j : Nat) x, consts[j]? = some x → ∃ u v, mg x = some u ∧ RelV v u ∧ ∀ H ρ, DV K H ρ (κ j) v) (hb : ∀ x ∈ bl, mg x = none) :
    ∀ (k j : Nat) x ps kp, defs[j]? = some (x, ps, kp) → DefOk P w K mg base k x ps kp (G tab κ k j) := by
  intro k
  induction k with
  | zero =>
    intro j x ps kp e
    obtain ⟨f, fd, qual, params, body, scope, N, b, F, S, hm, bi, kb, ht, hk⟩ := (hd j x ps kp e).ex
    have no : ∀ vs H Q E, spM K mg ps.length (G tab κ 0 j) vs H Q E → False := fun vs H Q E ⟨ρ, ds, ah, _, _, _, o⟩ => o
    exact ⟨f, fd, ⟨fun vs H Q E h => (no vs H Q E h).elim, fun A outer s H args us vs Q E hr e0 hb r h => (no vs H Q E h).elim⟩, hm, F.kp, FunD.bindsN F bi, fun q hq => kbn_of F (kb q hq)⟩
  | succ k ih =>
    intro j x ps kp e
    obtain ⟨f, fd, qual, params, body, scope, N, b, F, S, hm, bi, kb, ht, hk⟩ := (hd j x ps kp e).ex
    have eg : G tab κ (k + 1) j = defM ps.length N.length (semSs (G tab κ k) κ b) := by
      show (match tab[j]? with | some (n, N, b) => defM n N (semSs (G tab κ k) κ b) | none => fun _ => bad) = _
      rw [ht]
    rw [eg]
    exact defOk_of F S hm (FunD.bindsN F bi) (fun q hq => kbn_of F (kb q hq)) (one_body ih hc hb S hk)
/-! ### the script stands apart from the written part -/
def less (K : PySem.W.Frag) (a : Addr) : PySem.W.Frag := K.filter fun p => !(p.1 == a)
theorem less_ne (K : PySem.W.Frag) {a b : Addr} (h : b ≠ a) : (less K a).lookup b = K.lookup b := by
  induction K with
  | nil => rfl
  | cons p K ih =>
    obtain ⟨c, o⟩ := p
    unfold less at ih ⊢
    by_cases hc : c = a
    · have e1 : (!(c == a)) = false := by simp [hc]
      have e2 : (b == c) = false := by rw [hc]; exact beq_eq_false_iff_ne.mpr h
      rw [List.filter_cons_of_neg (by simp [hc]), List.lookup_cons, e2]; exact ih
    · rw [List.filter_cons_of_pos (by simp [hc]), List.lookup_cons, List.lookup_cons]
      cases b == c
      · exact ih
      · rfl
theorem less_self (K : PySem.W.Frag) (a : Addr) : (less K a).lookup a = none := by
  induction K with
  | nil => rfl
  | cons p K ih =>
    obtain ⟨c, o⟩ := p
    unfold less at ih ⊢
    by_cases hc : c = a
    · rw [List.filter_cons_of_neg (by simp [hc])]; exact ih
    · have e2 : (a == c) = false := beq_eq_false_iff_ne.mpr fun e => hc e.symm
      rw [List.filter_cons_of_pos (by simp [hc]), List.lookup_cons, e2]; exact ih
theorem less_in {h : Heap} (X : K.In h) (a : Addr) : (less K a).In h := fun b o e => by
  by_cases hb : b = a
  · subst hb; rw [less_self] at e; cases e
  · rw [less_ne K hb] at e; exact X b o e
theorem FunD.less {a : Addr} {vs : Array Value} {n : Nat} {ol : Obj} {x qual : Str} {params : Arguments} {body : List Stmt} {scope : Scope} {f : Addr} {fd : FuncData} (F : FunD K x qual params body scope [] [] f fd) (ha : K.lookup a = none ∨ (K.lookup a = some ol ∧ ol.data = .seq vs n)) :
    FunD (less K a) x qual params body scope [] [] f fd := by
  obtain ⟨⟨oc, od, dV, kV, doc, pm, an, cdv, ct, osl, rfl, lk, hcd, hD, hK⟩, kp⟩ := F
  have other : ∀ {b : Addr} {o : Obj}, K.lookup b = some o → (∀ vs n, o.data ≠ .seq vs n) → (Ev.less K a).lookup b = some o := fun {b o} e hne => by
    by_cases hb : b = a
    · subst hb
      rcases ha with z | ⟨z, zd⟩
      · rw [z] at e; cases e
      · rw [z] at e; cases e; exact absurd zd (hne _ _)
    · rw [less_ne K hb]; exact e
  have lk' := other lk fun vs n z => (nomatch z)
  refine ⟨⟨oc, od, dV, kV, doc, pm, an, cdv, ct, osl, rfl, lk', ?_, ?_, ?_⟩, ?_⟩
  · unfold PySem.W.codeIn at hcd ⊢
    cases cdv with
    | ref c =>
      dsimp only at hcd ⊢
      split at hcd
      · rename_i o1 e1
        rw [other e1 fun vs n z => (nomatch z)]
        exact hcd
      · cases hcd
    | _ => cases hcd
  · rcases hD with ⟨e, h2⟩ | ⟨e, _⟩
    · exact .inl ⟨rfl, h2⟩
    · exact absurd rfl e
  · exact .inl rfl
  · unfold PySem.W.keepIn
    dsimp only
    rw [lk']
theorem DefIs.less {a : Addr} {vs : Array Value} {n : Nat} {ol : Obj} {defs : List (Str × List Str × List KPat)} {consts bl : List Str} {tab : List (Nat × Nat × Ss)} {j : Nat} {x : Str} {ps : List Str} {kp : List KPat} (h : DefIs K mg defs consts bl tab j x ps kp) (ha : K.lookup a = none ∨ (K.lookup a = some ol ∧ ol.data = .seq vs n)) :
    DefIs (less K a) mg defs consts bl tab j x ps kp := by
  obtain ⟨f, fd, qual, params, body, scope, N, b, F, r⟩ := h.ex
  exact ⟨f, fd, qual, params, body, scope, N, b, FunD.less F ha, r⟩
end
/-- the state in which a law begins: the script's cell -/
def scr (ns : List Int) : AH := [.ro (ns.map D.int)]
theorem scr_dvs {K : PySem.W.Frag} {H : Hp} {ρ : List Addr} : ∀ ns : List Int, DVs K H ρ (ns.map D.int) (ns.map V.int)
  | [] => .nil
  | n :: ns => .cons (.int n) (scr_dvs ns)
/-- THE END: a law over such defs -/
theorem law_end {l : PySem.W.OpenLaw} {q : Program} {loose : List Str} {XP : (Str → Option Value) → Heap → Prop} {YP : World → Heap → Prop} {d : DefRec} {defs : List (Str × List Str × List KPat)} {consts bl : List Str} {tab : List (Nat × Nat × Ss)} {κ : Nat → D} {j : Nat} {x : Str} {kp : List KPat}
    (hn : l.most = some 63) (hdf : d.params.defaults = []) (hname : d.name = x) (hj : defs[j]? = some (x, [("script" : Str)], kp))
    (F : ∀ (w : World) (mg : Str → Option Value) (h : Heap), YP w h → h.Ns mainGlobals mg → ∃ K : PySem.W.Frag, K.In h ∧ (∀ (j : Nat) x ps kp, defs[j]? = some (x, ps, kp) → DefIs K mg defs consts bl tab j x ps kp) ∧
      (∀ (K' : PySem.W.Frag) (j : Nat) x, consts[j]? = some x → ∃ u v, mg x = some u ∧ RelV v u ∧ ∀ H ρ, DV K' H ρ (κ j) v) ∧ ∀ x ∈ bl, mg x = none)
    (T : ∀ ns : List Int, ns.length ≤ 63 → ∃ ah, G tab κ 40 j [.ref 0] (scr ns) = .ok (.bl true) ah) : PySem.W.WalkO q loose XP YP l.row.toRowW d [] (fun f vs => PySem.call f vs) := by
  refine Att.attach_call hn hdf fun w s₀ s₁ mg mb fa o pm cd doc a vs ns Gr Y ho hd hcd hmg hobj hints hlen hg => ?_
  obtain ⟨K, KX, ok, hc, hb⟩ := F w mg _ Y Gr.T.g
  have ha : K.lookup a = none ∨ (K.lookup a = some { cls := .type "list", data := .seq vs.toArray } ∧ ({ cls := .type "list", data := .seq vs.toArray } : Obj).data = .seq vs.toArray 0) := by
    cases e : K.lookup a with
    | none => exact .inl rfl
    | some o' =>
      have := KX a o' e
      rw [hobj] at this; cases this
      exact .inr ⟨rfl, rfl⟩
  have ok' := fun j x ps kp e => (ok j x ps kp e).less ha
  have lev := fun base => levels (P := l.prog) (w := w) (base := base) (κ := κ) ok' (hc _) hb 39
  obtain ⟨f, fd, qual, params, body, scope, N, b, FF, S, hm, bi, _, htab, hchk⟩ := (ok' j x [("script" : Str)] kp hj).ex
  have hmg' : mg x = some (.ref fa) := by rw [← hname]; exact hmg
  have ef : f = fa := by rw [hm] at hmg'; cases hmg'; rfl
  subst ef
  have bind : ∀ (s : Shared) (u : Value), BindsTo s fd ⟨[u], []⟩ [("script", u)] := fun s u => FunD.bindsA FF bi s [u] rfl
  refine law_call (K := less K a) (CX := L2.CX l.prog w) (k := 40) (fd := fd) (sp := spM (less K a) mg 1 (G tab κ 40 j)) (less_in KX a) Gr.T.g Gr.T.b Gr.T.builtins Gr.T.nolimit hg hobj hints (Nat.le_trans hlen (by decide)) ⟨rfl, by decide, by decide⟩ (fun base X N' => ?_) bind (fun H hO hS => ?_) fun H e s' z => ?_
  · have eg : G tab κ 40 j = defM 1 N.length (semSs (G tab κ 39) κ b) := by
      show (match tab[j]? with | some (n, N, b) => defM n N (semSs (G tab κ 39) κ b) | none => fun _ => bad) = _
      rw [htab]; rfl
    rw [eg]
    exact fnOk_of (ps := [("script" : Str)]) FF S (one_body (lev base) (hc _) hb S hchk)
  · obtain ⟨ob, hf⟩ : ∃ ob, H a = some (.frz ob (.lst (ns.map V.int))) := by
      rcases hS with (z | ⟨ob, z⟩) | ⟨o', its, n, z, _⟩
      · rcases hO a with y | ⟨ob, xs, y⟩
        · rw [z] at y; cases y
        · rw [z] at y; cases y
      · exact ⟨ob, z⟩
      · rw [less_self] at z; cases z
    obtain ⟨ah, e⟩ := T ns hlen
    refine ⟨[a], [.ref 0], scr ns, ⟨rfl, by simp, fun n c ec => ?_⟩, .cons (.ref rfl) .nil, rfl, ?_⟩
    · match n, ec with
      | 0, ec => cases ec; exact ⟨a, rfl, by rw [List.length_map]; exact Nat.le_trans hlen (by decide), ob, ns.map V.int, hf, scr_dvs ns⟩
      | n + 1, ec => simp [scr] at ec
    · rw [e]
      intro H' ρ' x' r' v hv
      cases hv; rfl
  · obtain ⟨_, _, _, _, _, _, _, _, _, _, _, _, z⟩ := z
    exact z
end Ev

set_option Elab.async false
set_option linter.all false
set_option maxRecDepth 100000
set_option maxHeartbeats 1000000
set_option autoImplicit false
namespace Ev
open PySem L2
/-! ### runs: what a meaning gives -/
def Run {α : Type} (m : M α) (ah : AH) (P : α → AH → Prop) : Prop := match m ah with
  | .ok a ah' => P a ah'
  | _ => False
section
variable {α β : Type} {ah : AH} {P Q : α → AH → Prop}
theorem Run.mono {m : M α} (h : Run m ah P) (q : ∀ a ah', P a ah' → Q a ah') : Run m ah Q := by
  unfold Run at h ⊢
  cases e : m ah with
  | ok a b => rw [e] at h; exact q _ _ h
  | exc x b => rw [e] at h; exact h
  | bad => rw [e] at h; exact h
theorem Run.out {m : M α} (h : Run m ah P) : ∃ a ah', m ah = .ok a ah' ∧ P a ah' := by
  unfold Run at h
  cases e : m ah with
  | ok a b => rw [e] at h; exact ⟨a, b, rfl, h⟩
  | exc x b => rw [e] at h; exact h.elim
  | bad => rw [e] at h; exact h.elim
theorem Run.of {m : M α} {a : α} {ah' : AH} (e : m ah = .ok a ah') (h : P a ah') : Run m ah P := by
  unfold Run; rw [e]; exact h
theorem run_ret {a : α} : Run (ret a) ah P ↔ P a ah := Iff.rfl
theorem run_pure {a : α} : Run (pure a) ah P ↔ P a ah := Iff.rfl
theorem run_bad : Run (bad : M α) ah P ↔ False := Iff.rfl
theorem run_bind {m : M β} {k : β → M α} : Run (m >>= k) ah P ↔ Run m ah fun b ah' => Run (k b) ah' P := by
  unfold Run
  rw [bind_eq]
  cases m ah <;> rfl
theorem run_ite {c : Prop} [Decidable c] {m n : M α} : Run (if c then m else n) ah P ↔ if c then Run m ah P else Run n ah P := by
  by_cases h : c
  · rw [if_pos h, if_pos h]
  · rw [if_neg h, if_neg h]
theorem run_some {a : α} : Run (opt (some a)) ah P ↔ P a ah := Iff.rfl
theorem run_none : Run (opt (none : Option α)) ah P ↔ False := Iff.rfl
theorem run_quiet {m : M α} : Run (quiet m) ah P ↔ Run m ah P := by
  unfold Run quiet
  cases m ah <;> rfl
theorem run_guard {p : AH → Prop} {Q : Unit → AH → Prop} : Run (guardM p) ah Q ↔ p ah ∧ Q () ah := by
  unfold Run guardM
  by_cases h : p ah
  · simp [h]
  · simp [h]
theorem run_alloc {c : Cell} {P : D → AH → Prop} : Run (alloc c) ah P ↔ P (.ref ah.length) (ah ++ [c]) := Iff.rfl
theorem run_rd {n : Nat} {ds : List D} {P : List D → AH → Prop} (h : ah[n]? = some (.lst ds)) : Run (rdLst n) ah P ↔ P ds ah := by
  unfold Run rdLst; rw [h]
theorem run_wr {n : Nat} {ds : List D} {P : Unit → AH → Prop} : Run (wrLst n ds) ah P ↔ P () (ah.set n (.lst ds)) := Iff.rfl
theorem run_itT {ds : List D} {P : List D × Option Nat → AH → Prop} : Run (itemsM (.tup ds)) ah P ↔ P (ds, none) ah := Iff.rfl
theorem run_itL {n : Nat} {ds : List D} {P : List D × Option Nat → AH → Prop} (h : ah[n]? = some (.lst ds)) : Run (itemsM (.ref n)) ah P ↔ P (ds, some n) ah := by
  unfold Run itemsM; dsimp only; rw [h]
theorem run_itR {n : Nat} {ds : List D} {P : List D × Option Nat → AH → Prop} (h : ah[n]? = some (.ro ds)) : Run (itemsM (.ref n)) ah P ↔ P (ds, some n) ah := by
  unfold Run itemsM; dsimp only; rw [h]
end
/-! ### loops -/
theorem whileN_more {t : EnvD → M Bool} {b : EnvD → M (Flw × EnvD)} : ∀ (n : Nat) (env : EnvD) (ah : AH), whileN t b n env ah ≠ .bad → whileN t b (n + 1) env ah = whileN t b n env ah
  | 0, env, ah, h => absurd rfl h
  | n + 1, env, ah, h => by
    have e : ∀ n, whileN t b (n + 1) env ah = (t env >>= fun c => if c then b env >>= fun p => (match p.1 with | .next => whileN t b n p.2 | .cont => whileN t b n p.2 | .brk => pure (.next, p.2) | .rt d => pure (.rt d, p.2)) else pure (.next, env)) ah := fun n => rfl
    rw [e n] at h ⊢
    rw [e (n + 1)]
    rw [bind_eq] at h ⊢
    rw [bind_eq]
    cases ec : t env ah with
    | bad => rfl
    | exc x a => rfl
    | ok c a1 =>
      rw [ec] at h
      cases c with
      | false => rfl
      | true =>
        dsimp only at h ⊢
        simp only [if_true] at h ⊢
        rw [bind_eq] at h ⊢
        rw [bind_eq]
        cases eb : b env a1 with
        | bad => rfl
        | exc x a => rfl
        | ok p a2 =>
          rw [eb] at h
          obtain ⟨fl, env2⟩ := p
          cases fl with
          | next => exact whileN_more n env2 a2 h
          | cont => exact whileN_more n env2 a2 h
          | brk => rfl
          | rt d => rfl
theorem whileN_le {t : EnvD → M Bool} {b : EnvD → M (Flw × EnvD)} {env : EnvD} {ah : AH} {n : Nat} (h : whileN t b n env ah ≠ .bad) : ∀ k, whileN t b (n + k) env ah = whileN t b n env ah
  | 0 => rfl
  | k + 1 => by
    have ih := whileN_le h k
    rw [← Nat.add_assoc, whileN_more (n + k) env ah (by rw [ih]; exact h), ih]
theorem run_while {t : EnvD → M Bool} {b : EnvD → M (Flw × EnvD)} {env : EnvD} {ah : AH} {P : Flw × EnvD → AH → Prop} (n : Nat) (h : Run (whileN t b n env) ah P) : Run (sWhile t b env) ah P := by
  obtain ⟨a, ah', e, p⟩ := h.out
  have nb : whileN t b n env ah ≠ .bad := by rw [e]; exact fun z => nomatch z
  have ex : ∃ n, whileN t b n env ah ≠ .bad := ⟨n, nb⟩
  refine .of (a := a) (ah' := ah') ?_ p
  unfold sWhile
  rw [dif_pos ex]
  have c := ex.choose_spec
  rcases Nat.le_total n ex.choose with l | l
  · obtain ⟨k, ek⟩ := Nat.exists_eq_add_of_le l
    rw [ek, whileN_le nb k, e]
  · obtain ⟨k, ek⟩ := Nat.exists_eq_add_of_le l
    rw [← whileN_le c k, ← ek, e]
/-- a while by an invariant and a measure -/
theorem while_inv {t : EnvD → M Bool} {b : EnvD → M (Flw × EnvD)} {P : Flw × EnvD → AH → Prop} (I : Nat → EnvD → AH → Prop)
    (turn : ∀ n env ah, I n env ah → Run (t env) ah fun c ah1 => if c then Run (b env) ah1 (fun p ah2 => match p.1 with | .next => ∃ n', n' < n ∧ I n' p.2 ah2 | .cont => ∃ n', n' < n ∧ I n' p.2 ah2 | .brk => P (.next, p.2) ah2 | .rt d => P (.rt d, p.2) ah2) else P (.next, env) ah1) :
    ∀ n env ah, I n env ah → Run (sWhile t b env) ah P := by
  intro n env ah h
  refine run_while (n + 1) ?_
  induction n using Nat.strongRecOn generalizing env ah with
  | ind n ih =>
    show Run (t env >>= fun c => if c then b env >>= fun p => (match p.1 with | .next => whileN t b n p.2 | .cont => whileN t b n p.2 | .brk => pure (.next, p.2) | .rt d => pure (.rt d, p.2)) else pure (.next, env)) ah P
    rw [run_bind]
    refine (turn n env ah h).mono fun c ah1 hc => ?_
    cases c with
    | false => exact hc
    | true =>
      simp only [if_true] at hc ⊢
      rw [run_bind]
      refine hc.mono fun p ah2 hp => ?_
      obtain ⟨fl, env2⟩ := p
      have down : (∃ n', n' < n ∧ I n' env2 ah2) → Run (whileN t b n env2) ah2 P := fun ⟨n', l, hi⟩ => by
        obtain ⟨k, ek⟩ := Nat.exists_eq_add_of_le (show n' + 1 ≤ n from l)
        obtain ⟨a, a', e, p⟩ := (ih n' l env2 ah2 hi).out
        refine .of (a := a) (ah' := a') ?_ p
        rw [ek, whileN_le (by rw [e]; exact fun z => nomatch z), e]
      cases fl with
      | next => exact down hp
      | cont => exact down hp
      | brk => exact hp
      | rt d => exact hp
/-- a for by an invariant: done is what is passed -/
theorem for_inv {g : D → EnvD → M EnvD} {b : EnvD → M (Flw × EnvD)} {gd : AH → Prop} {P : Flw × EnvD → AH → Prop} {ds : List D} (I : List D → List D → EnvD → AH → Prop)
    (turn : ∀ done d rest env ah, ds = done ++ d :: rest → I done (d :: rest) env ah → gd ah ∧ Run (g d env) ah fun env1 ah1 => Run (b env1) ah1 fun p ah2 => match p.1 with | .next => I (done ++ [d]) rest p.2 ah2 | .cont => I (done ++ [d]) rest p.2 ah2 | .brk => P (.next, p.2) ah2 | .rt r => P (.rt r, p.2) ah2)
    (fin : ∀ env ah, I ds [] env ah → gd ah ∧ P (.next, env) ah) {env : EnvD} {ah : AH} (h : I [] ds env ah) : Run (forGo g b gd ds env) ah P := by
  have go : ∀ (rest done : List D) (env : EnvD) (ah : AH), ds = done ++ rest → I done rest env ah → Run (forGo g b gd rest env) ah P := by
    intro rest
    induction rest with
    | nil =>
      intro done env ah e h
      rw [List.append_nil] at e
      subst e
      obtain ⟨h1, h2⟩ := fin env ah h
      show Run (guardM gd >>= fun _ => pure (Flw.next, env)) ah P
      rw [run_bind, run_guard]
      exact ⟨h1, h2⟩
    | cons d rest ih =>
      intro done env ah e h
      obtain ⟨h1, h2⟩ := turn done d rest env ah e h
      show Run (guardM gd >>= fun _ => g d env >>= fun env1 => b env1 >>= fun p => match p.1 with | .next => forGo g b gd rest p.2 | .cont => forGo g b gd rest p.2 | .brk => pure (.next, p.2) | .rt d => pure (.rt d, p.2)) ah P
      rw [run_bind, run_guard]
      refine ⟨h1, ?_⟩
      rw [run_bind]
      refine h2.mono fun env1 ah1 h3 => ?_
      rw [run_bind]
      refine h3.mono fun p ah2 h4 => ?_
      obtain ⟨fl, env2⟩ := p
      have e' : ds = (done ++ [d]) ++ rest := by rw [e]; simp
      cases fl with
      | next => exact ih _ _ _ e' h4
      | cont => exact ih _ _ _ e' h4
      | brk => exact h4
      | rt r => exact h4
  exact go ds [] env ah rfl h
theorem run_for {it : EnvD → M (List D × (AH → Prop))} {g : D → EnvD → M EnvD} {b : EnvD → M (Flw × EnvD)} {env : EnvD} {ah : AH} {P : Flw × EnvD → AH → Prop} : Run (sFor it g b env) ah P ↔ Run (it env) ah fun p ah' => Run (forGo g b p.2 p.1 env) ah' P := by
  unfold sFor; rw [run_bind]
/-- a list comprehension by an invariant over what it has made -/
theorem lc_inv {g : D → EnvD → M EnvD} {t : EnvD → M Bool} {e : EnvD → M D} {gd : AH → Prop} {env : EnvD} {ds : List D} {P : List D → AH → Prop} (I : List D → List D → AH → Prop)
    (turn : ∀ done d rest acc ah, ds = done ++ d :: rest → I done acc ah → gd ah ∧ Run (g d env) ah fun env1 ah1 => Run (t env1) ah1 fun b ah2 => if b then Run (e env1) ah2 (fun y ah3 => I (done ++ [d]) (acc ++ [y]) ah3) else I (done ++ [d]) acc ah2)
    (fin : ∀ acc ah, I ds acc ah → gd ah ∧ P acc ah) {ah : AH} (h : I [] [] ah) : Run (lcGo g t e gd env ds) ah P := by
  have go : ∀ (rest done acc : List D) (ah : AH) (R : List D → AH → Prop), ds = done ++ rest → I done acc ah → (∀ ys ah, I ds (acc ++ ys) ah → gd ah → R ys ah) → Run (lcGo g t e gd env rest) ah R := by
    intro rest
    induction rest with
    | nil =>
      intro done acc ah R e' h hR
      rw [List.append_nil] at e'
      subst e'
      show Run (guardM gd >>= fun _ => pure []) ah R
      rw [run_bind, run_guard]
      exact ⟨(fin acc ah h).1, hR [] ah (by rw [List.append_nil]; exact h) (fin acc ah h).1⟩
    | cons d rest ih =>
      intro done acc ah R e' h hR
      obtain ⟨h1, h2⟩ := turn done d rest acc ah e' h
      show Run (guardM gd >>= fun _ => quiet (g d env) >>= fun env1 => quiet (t env1) >>= fun b => if b then (quiet (e env1) >>= fun y => lcGo g t e gd env rest >>= fun ys => pure (y :: ys)) else lcGo g t e gd env rest) ah R
      rw [run_bind, run_guard]
      refine ⟨h1, ?_⟩
      rw [run_bind, run_quiet]
      refine h2.mono fun env1 ah1 h3 => ?_
      rw [run_bind, run_quiet]
      refine h3.mono fun b ah2 h4 => ?_
      have e2 : ds = (done ++ [d]) ++ rest := by rw [e']; simp
      cases b with
      | false => exact ih _ _ _ _ e2 h4 hR
      | true =>
        simp only [if_true] at h4 ⊢
        rw [run_bind, run_quiet]
        refine h4.mono fun y ah3 h5 => ?_
        rw [run_bind]
        refine ih _ _ _ _ e2 h5 fun ys ah4 h6 hg => ?_
        rw [run_pure]
        exact hR (y :: ys) ah4 (by rw [List.append_assoc] at h6; exact h6) hg
  exact go ds [] [] ah P rfl h fun ys ah' h' _ => by rw [List.nil_append] at h'; exact (fin ys ah' h').2
theorem run_lc {it : EnvD → M (List D × (AH → Prop))} {g : D → EnvD → M EnvD} {t : EnvD → M Bool} {e : EnvD → M D} {vs : List Nat} {env : EnvD} {ah : AH} {P : List D → AH → Prop} : Run (sLc it g t e vs env) ah P ↔ Run (it env) ah fun p ah' => Run (lcGo g t e p.2 (wipeD env vs) p.1) ah' P := by
  unfold sLc; rw [run_bind]
/-- a comprehension that leaves the state: a filter and a map -/
theorem lc_pure {g : D → EnvD → M EnvD} {t : EnvD → M Bool} {e : EnvD → M D} {gd : AH → Prop} {env : EnvD} {ds : List D} {P : List D → AH → Prop} {ah : AH} (p : D → Bool) (f : D → D) (hg : gd ah)
    (turn : ∀ d ∈ ds, Run (g d env) ah fun env1 ah1 => ah1 = ah ∧ Run (t env1) ah fun b ah2 => ah2 = ah ∧ b = p d ∧ (p d = true → Run (e env1) ah fun y ah3 => ah3 = ah ∧ y = f d)) (h : P ((ds.filter p).map f) ah) : Run (lcGo g t e gd env ds) ah P := by
  refine lc_inv (fun done acc ah' => ah' = ah ∧ acc = (done.filter p).map f) (fun done d rest acc ah' e' ⟨h1, h2⟩ => ?_) (fun acc ah' ⟨h1, h2⟩ => by subst h1 h2; exact ⟨hg, h⟩) ⟨rfl, rfl⟩
  subst h1
  refine ⟨hg, (turn d (by rw [e']; simp)).mono fun env1 ah1 ⟨h3, h4⟩ => ?_⟩
  subst h3
  refine h4.mono fun b ah2 ⟨h5, h6, h7⟩ => ?_
  subst h5 h6
  cases hp : p d with
  | true =>
    rw [if_pos rfl]
    refine (h7 hp).mono fun y ah3 ⟨h8, h9⟩ => ⟨h8, ?_⟩
    rw [h2, h9, List.filter_append, List.map_append]
    simp [hp]
  | false =>
    rw [if_neg Bool.false_ne_true]
    refine ⟨rfl, ?_⟩
    rw [h2, List.filter_append, List.map_append]
    simp [hp]
/-! ### calls -/
mutual
theorem pure_under {n : Nat} : ∀ {d : D}, d.pure = true → d.under n = true
  | .non, _ => rfl
  | .bl _, _ => rfl
  | .int _, _ => rfl
  | .str _, _ => rfl
  | .ref _, h => by cases h
  | .tup ds, h => by
    have h : pures ds = true := by simpa [D.pure] using h
    show unders n ds = true
    exact pures_under h
theorem pures_under {n : Nat} : ∀ {ds : List D}, pures ds = true → unders n ds = true
  | [], _ => rfl
  | d :: ds, h => by
    simp only [pures, Bool.and_eq_true] at h
    show (d.under n && unders n ds) = true
    rw [pure_under h.1, pures_under h.2]; rfl
end

theorem run_def {n N : Nat} {b : EnvD → M (Flw × EnvD)} {ds : List D} {ah : AH} {P : D → AH → Prop} (hn : ds.length = n)
    (h : Run (b (ds.map some ++ List.replicate (N - ds.length) none)) ah fun p ah' => ∃ d, (p.1 = .rt d ∨ (p.1 = .next ∧ d = .non)) ∧ ((d.under ah.length = true ∧ ah.length ≤ ah'.length ∧ Closed ah ah') → P d (ah'.take ah.length)) ∧ (¬ (d.under ah.length = true ∧ ah.length ≤ ah'.length ∧ Closed ah ah') → P d ah')) : Run (defM n N b ds) ah P := by
  unfold defM
  rw [if_pos hn]
  obtain ⟨p, ah', e, d, h1, h2, h3⟩ := h.out
  have eb : bodyM N b ds ah = .ok d ah' := by
    show (b (ds.map some ++ List.replicate (N - ds.length) none) >>= fun p => match p.1 with | .rt d => pure d | .next => pure .non | _ => bad) ah = _
    rw [bind_eq, e]
    obtain ⟨fl, env⟩ := p
    rcases h1 with z | ⟨z, rfl⟩
    · cases z; rfl
    · cases z; rfl
  unfold Run gcM
  rw [eb]
  dsimp only
  by_cases c : d.under ah.length = true ∧ ah.length ≤ ah'.length ∧ Closed ah ah'
  · rw [if_pos c]; exact h2 c
  · rw [if_neg c]; exact h3 c
/-- a def that leaves the state as it was -/
theorem def_still {n N : Nat} {b : EnvD → M (Flw × EnvD)} {ds : List D} {ah : AH} {P : D → AH → Prop} (hn : ds.length = n)
    (h : Run (b (ds.map some ++ List.replicate (N - ds.length) none)) ah fun p ah' => ∃ d, (p.1 = .rt d ∨ (p.1 = .next ∧ d = .non)) ∧ d.pure = true ∧ (∃ t, ah' = ah ++ t) ∧ P d ah) : Run (defM n N b ds) ah P := by
  refine run_def hn (h.mono fun p ah' ⟨d, h1, h2, ⟨t, h3⟩, h4⟩ => ⟨d, h1, fun _ => ?_, fun no => absurd ?_ no⟩)
  · rw [h3, List.take_left]; exact h4
  · refine ⟨pure_under h2, by rw [h3]; simp, fun i hi => .inl ?_⟩
    rw [h3, List.getElem?_append_left hi]
end Ev

set_option Elab.async false
set_option linter.all false
set_option maxRecDepth 100000
set_option maxHeartbeats 1000000
set_option autoImplicit false
namespace Ev
open PySem L2
section
variable {Γ : Nat → List D → M D} {κ : Nat → D} {env : EnvD} {ah : AH}
section
variable {P : Flw × EnvD → AH → Prop}
theorem xs_nil : Run (semSs Γ κ .nil env) ah P ↔ P (.next, env) ah := by simp only [semSs]; exact Iff.rfl
theorem xs_cons {s : S} {r : Ss} : Run (semSs Γ κ (.cons s r) env) ah P ↔ Run (semS Γ κ s env) ah fun p ah' => match p.1 with | .next => Run (semSs Γ κ r p.2) ah' P | _ => P p ah' := by
  simp only [semSs]
  show Run (semS Γ κ s env >>= fun p => match p.1 with | .next => semSs Γ κ r p.2 | _ => pure p) ah P ↔ _
  rw [run_bind]
  refine ⟨fun h => h.mono fun p ah' z => ?_, fun h => h.mono fun p ah' z => ?_⟩ <;> (obtain ⟨fl, e⟩ := p; cases fl <;> exact z)
theorem x_pass : Run (semS Γ κ .pass env) ah P ↔ P (.next, env) ah := by simp only [semS]; exact Iff.rfl
theorem x_doc : Run (semS Γ κ .doc env) ah P ↔ P (.next, env) ah := by simp only [semS]; exact Iff.rfl
theorem x_brk : Run (semS Γ κ .brk env) ah P ↔ P (.brk, env) ah := by simp only [semS]; exact Iff.rfl
theorem x_cont : Run (semS Γ κ .cont env) ah P ↔ P (.cont, env) ah := by simp only [semS]; exact Iff.rfl
theorem x_expr {a : C} : Run (semS Γ κ (.expr a) env) ah P ↔ Run (semC Γ κ a env) ah fun _ ah' => P (.next, env) ah' := by simp only [semS, sExpr, run_bind, run_pure]
theorem x_ret {a : C} : Run (semS Γ κ (.ret a) env) ah P ↔ Run (semC Γ κ a env) ah fun d ah' => P (.rt d, env) ah' := by simp only [semS, sRet, run_bind, run_pure]
theorem x_retN : Run (semS Γ κ .retN env) ah P ↔ P (.rt .non, env) ah := by simp only [semS]; exact Iff.rfl
theorem x_ifs {t : C} {a b : Ss} : Run (semS Γ κ (.ifs t a b) env) ah P ↔ Run (semT Γ κ t env) ah fun c ah' => if c = true then Run (semSs Γ κ a env) ah' P else Run (semSs Γ κ b env) ah' P := by simp only [semS, sIfS, run_bind, run_ite]
theorem x_set {i : Nat} {a : C} : Run (semS Γ κ (.set i a) env) ah P ↔ Run (semC Γ κ a env) ah fun d ah' => P (.next, env.set i (some d)) ah' := by simp only [semS, sAsg, gVar, run_bind, run_pure, run_ret]
theorem x_asg {p : Ev.P} {a : C} : Run (semS Γ κ (.asg p a) env) ah P ↔ Run (semC Γ κ a env) ah fun d ah' => Run (semP p d env) ah' fun env' ah2 => P (.next, env') ah2 := by simp only [semS, sAsg, run_bind, run_pure]
theorem x_setIx {o i a : C} : Run (semS Γ κ (.setIx o i a) env) ah P ↔ Run (semC Γ κ a env) ah fun d ah1 => Run (semC Γ κ o env) ah1 fun x ah2 => Run (semC Γ κ i env) ah2 fun y ah3 => Run (setIxD x y d) ah3 fun _ ah4 => P (.next, env) ah4 := by simp only [semS, sAsg, gIx, run_bind, run_pure]
theorem x_aug {i : Nat} {a : C} : Run (semS Γ κ (.aug i a) env) ah P ↔ Run (opt (env[i]?.join)) ah fun x ah1 => Run (semC Γ κ a env) ah1 fun y ah2 => Run (iaddD x y) ah2 fun z ah3 => P (.next, env.set i (some z)) ah3 := by simp only [semS, sAug, run_bind, run_pure]
theorem x_augIx {o i a : C} : Run (semS Γ κ (.augIx o i a) env) ah P ↔ Run (semC Γ κ o env) ah fun x ah1 => Run (semC Γ κ i env) ah1 fun y ah2 => Run (lixD x y) ah2 fun u ah3 => Run (semC Γ κ a env) ah3 fun v ah4 => Run (iaddD u v) ah4 fun z ah5 => Run (setIxD x y z) ah5 fun _ ah6 => P (.next, env) ah6 := by simp only [semS, sAugIx, run_bind, run_pure]
theorem x_for {p : Ev.P} {it : It2} {b : Ss} : Run (semS Γ κ (.for p it b) env) ah P ↔ Run (semI Γ κ it env) ah fun q ah' => Run (forGo (semP p) (semSs Γ κ b) q.2 q.1 env) ah' P := by simp only [semS, run_for]
theorem x_while {t : C} {b : Ss} : Run (semS Γ κ (.while t b) env) ah P ↔ Run (sWhile (semT Γ κ t) (semSs Γ κ b) env) ah P := by simp only [semS]
theorem x_par {i j : Nat} {a b : C} : Run (semS Γ κ (.par i j a b) env) ah P ↔ Run (semC Γ κ a env) ah fun x ah1 => Run (semC Γ κ b env) ah1 fun y ah2 => P (.next, (env.set i (some x)).set j (some y)) ah2 := by simp only [semS, sPar, sCons, sNil, run_bind, run_pure, run_ret]
end
section
variable {P : D → AH → Prop}
theorem c_var {i : Nat} : Run (semC Γ κ (.var i) env) ah P ↔ Run (opt (env[i]?.join)) ah P := by simp only [semC, sVar]
theorem c_non : Run (semC Γ κ .non env) ah P ↔ P .non ah := by simp only [semC]; exact Iff.rfl
theorem c_bl {b : Bool} : Run (semC Γ κ (.bl b) env) ah P ↔ P (.bl b) ah := by simp only [semC]; exact Iff.rfl
theorem c_int {i : Int} : Run (semC Γ κ (.int i) env) ah P ↔ P (.int i) ah := by simp only [semC]; exact Iff.rfl
theorem c_str {x : Str} : Run (semC Γ κ (.str x) env) ah P ↔ P (.str x) ah := by simp only [semC]; exact Iff.rfl
theorem c_tup {cs : Cs} : Run (semC Γ κ (.tup cs) env) ah P ↔ Run (semCs Γ κ cs env) ah fun ds ah' => if ds.length ≤ sizeLine then P (.tup ds) ah' else False := by simp only [semC, sTup, run_bind, run_ite, run_pure, run_bad]
theorem c_new {n : Nw} : Run (semC Γ κ (.new n) env) ah P ↔ Run (semN Γ κ n env) ah fun ds ah' => P (.ref ah'.length) (ah' ++ [.lst ds]) := by simp only [semC, sNew, run_bind, run_alloc]
theorem c_bin {o : BinO} {a b : C} : Run (semC Γ κ (.bin o a b) env) ah P ↔ Run (semC Γ κ a env) ah fun x ah1 => Run (semC Γ κ b env) ah1 fun y ah2 => Run (o.g x y) ah2 P := by simp only [semC, sOp, run_bind]
theorem c_cmp {o : CmpO} {a b : C} : Run (semC Γ κ (.cmp o a b) env) ah P ↔ Run (semC Γ κ a env) ah fun x ah1 => Run (semC Γ κ b env) ah1 fun y ah2 => Run (o.g x y) ah2 P := by simp only [semC, sOp, run_bind]
theorem c_not {a : C} : Run (semC Γ κ (.not a) env) ah P ↔ Run (semC Γ κ a env) ah fun d ah1 => Run (truM d) ah1 fun b ah2 => P (.bl (!b)) ah2 := by simp only [semC, sNotV, run_bind, run_pure]
theorem c_one {a : C} : Run (semC Γ κ (.one a) env) ah P ↔ Run (semC Γ κ a env) ah P := by simp only [semC]
theorem c_and {a r : C} : Run (semC Γ κ (.and a r) env) ah P ↔ Run (semC Γ κ a env) ah fun d ah1 => Run (truM d) ah1 fun b ah2 => if b = true then Run (semC Γ κ r env) ah2 P else P d ah2 := by simp only [semC, sAndV, run_bind, run_ite, run_pure]
theorem c_or {a r : C} : Run (semC Γ κ (.or a r) env) ah P ↔ Run (semC Γ κ a env) ah fun d ah1 => Run (truM d) ah1 fun b ah2 => if b = true then P d ah2 else Run (semC Γ κ r env) ah2 P := by simp only [semC, sOrV, run_bind, run_ite, run_pure]
theorem c_ifx {t a b : C} : Run (semC Γ κ (.ifx t a b) env) ah P ↔ Run (semT Γ κ t env) ah fun c ah1 => if c = true then Run (semC Γ κ a env) ah1 P else Run (semC Γ κ b env) ah1 P := by simp only [semC, sIf, run_bind, run_ite]
theorem c_neg {a : C} : Run (semC Γ κ (.neg a) env) ah P ↔ Run (semC Γ κ a env) ah fun x ah1 => Run (negD x) ah1 P := by simp only [semC, sCall1, run_bind]
theorem c_idx {a b : C} : Run (semC Γ κ (.idx a b) env) ah P ↔ Run (semC Γ κ a env) ah fun x ah1 => Run (semC Γ κ b env) ah1 fun y ah2 => Run (idxD x y) ah2 P := by simp only [semC, sOp, run_bind]
theorem c_slice {a : C} {lo hi : CO} : Run (semC Γ κ (.slice a lo hi) env) ah P ↔ Run (semC Γ κ a env) ah fun x ah1 => Run (semO Γ κ lo env) ah1 fun l ah2 => Run (semO Γ κ hi env) ah2 fun h ah3 => Run (sliceD x l h) ah3 P := by simp only [semC, sSlice, run_bind]
theorem c_call1 {f : B1} {a : C} : Run (semC Γ κ (.call1 f a) env) ah P ↔ Run (semC Γ κ a env) ah fun x ah1 => Run (f.g x) ah1 P := by simp only [semC, sCall1, run_bind]
theorem c_callL {f : BL} {s : Sq} : Run (semC Γ κ (.callL f s) env) ah P ↔ Run (semL Γ κ s env) ah fun x ah1 => Run (f.g x.1) ah1 P := by simp only [semC, sCallL, run_bind]
theorem c_callW {f : BW} {n : Nw} : Run (semC Γ κ (.callW f n) env) ah P ↔ Run (semN Γ κ n env) ah fun x ah1 => Run (f.g x) ah1 P := by simp only [semC, sCallW, run_bind]
theorem c_isi {T : String} {a : C} : Run (semC Γ κ (.isi T a) env) ah P ↔ Run (semC Γ κ a env) ah fun x ah1 => Run (isiD T x) ah1 P := by simp only [semC, sCall1, run_bind]
theorem c_call {j : Nat} {cs : Cs} : Run (semC Γ κ (.call j cs) env) ah P ↔ Run (semCs Γ κ cs env) ah fun ds ah1 => Run (Γ j ds) ah1 P := by simp only [semC, sCallW, run_bind]
theorem c_callK {j n l : Nat} {π : List Nat} {cs ks : Cs} : Run (semC Γ κ (.callK j n l π cs ks) env) ah P ↔ Run (semCs Γ κ cs env) ah fun ds ah1 => Run (semCs Γ κ ks env) ah1 fun es ah2 => if ds.length = n ∧ es.length = l ∧ (ds ++ pick π es).length = n + π.length then Run (Γ j (ds ++ pick π es)) ah2 P else False := by simp only [semC, sCallK, run_bind, run_ite, run_bad]
theorem c_back {a : C} : Run (semC Γ κ (.back a) env) ah P ↔ Run (semC Γ κ a env) ah fun x ah1 => Run (backD x) ah1 P := by simp only [semC, sCall1, run_bind]
theorem c_lenX {x : Sx} : Run (semC Γ κ (.lenX x) env) ah P ↔ Run (semX Γ κ x env) ah fun ds ah1 => P (.int ds.length) ah1 := by simp only [semC, sCallW, run_bind, run_ret]
theorem c_mth {m : Mt} {o : C} {cs : Cs} {n : Nat} : Run (semC Γ κ (.mth m o cs) env) ah P ↔ Run (semC Γ κ o env) ah fun x ah1 => Run (match x with | .ref n => rdLst n >>= fun _ => semCs Γ κ cs env >>= fun ds => m.g n ds | _ => bad) ah1 P := by
  simp only [semC, sMth, run_bind]
  all_goals (refine ⟨fun h => h.mono fun x ah1 z => ?_, fun h => h.mono fun x ah1 z => ?_⟩ <;> (cases x <;> exact z))
end
section
variable {P : Bool → AH → Prop}
theorem t_cmp {o : CmpO} {a b : C} : Run (semT Γ κ (.cmp o a b) env) ah P ↔ Run (semC Γ κ a env) ah fun x ah1 => Run (semC Γ κ b env) ah1 fun y ah2 => Run (o.g x y) ah2 fun d ah3 => match d with | .bl b => P b ah3 | _ => False := by
  simp only [semT, asBool, sOp, run_bind]
  all_goals (refine ⟨fun h => h.mono fun x ah1 z => z.mono fun y ah2 z => z.mono fun d ah3 z => ?_, fun h => h.mono fun x ah1 z => z.mono fun y ah2 z => z.mono fun d ah3 z => ?_⟩ <;> (cases d <;> exact z))
theorem t_not {a : C} : Run (semT Γ κ (.not a) env) ah P ↔ Run (semT Γ κ a env) ah fun b ah1 => P (!b) ah1 := by simp only [semT, sNotT, run_bind, run_pure]
theorem t_one {a : C} : Run (semT Γ κ (.one a) env) ah P ↔ Run (semT Γ κ a env) ah P := by simp only [semT]
theorem t_and {a r : C} : Run (semT Γ κ (.and a r) env) ah P ↔ Run (semT Γ κ a env) ah fun b ah1 => if b = true then Run (semT Γ κ r env) ah1 P else P false ah1 := by simp only [semT, sAndT, run_bind, run_ite, run_pure]
theorem t_or {a r : C} : Run (semT Γ κ (.or a r) env) ah P ↔ Run (semT Γ κ a env) ah fun b ah1 => if b = true then P true ah1 else Run (semT Γ κ r env) ah1 P := by simp only [semT, sOrT, run_bind, run_ite, run_pure]
theorem t_var {i : Nat} : Run (semT Γ κ (.var i) env) ah P ↔ Run (opt (env[i]?.join)) ah fun d ah1 => Run (truM d) ah1 P := by simp only [semT, sTru, sVar, run_bind]
theorem t_new {n : Nw} : Run (semT Γ κ (.new n) env) ah P ↔ Run (semC Γ κ (.new n) env) ah fun d ah1 => Run (truM d) ah1 P := by simp only [semT, semC, sTru, run_bind]
theorem t_call {j : Nat} {cs : Cs} : Run (semT Γ κ (.call j cs) env) ah P ↔ Run (semC Γ κ (.call j cs) env) ah fun d ah1 => Run (truM d) ah1 P := by simp only [semT, semC, sTru, run_bind]
theorem t_isi {T : String} {a : C} : Run (semT Γ κ (.isi T a) env) ah P ↔ Run (semC Γ κ (.isi T a) env) ah fun d ah1 => Run (truM d) ah1 P := by simp only [semT, semC, sTru, run_bind]
theorem t_idx {a b : C} : Run (semT Γ κ (.idx a b) env) ah P ↔ Run (semC Γ κ (.idx a b) env) ah fun d ah1 => Run (truM d) ah1 P := by simp only [semT, semC, sTru, run_bind]
theorem t_call1 {f : B1} {a : C} : Run (semT Γ κ (.call1 f a) env) ah P ↔ Run (semC Γ κ (.call1 f a) env) ah fun d ah1 => Run (truM d) ah1 P := by simp only [semT, semC, sTru, run_bind]
end
section
theorem cs_nil {P : List D → AH → Prop} : Run (semCs Γ κ .nil env) ah P ↔ P [] ah := by simp only [semCs]; exact Iff.rfl
theorem cs_cons {a : C} {r : Cs} {P : List D → AH → Prop} : Run (semCs Γ κ (.cons a r) env) ah P ↔ Run (semC Γ κ a env) ah fun d ah1 => Run (semCs Γ κ r env) ah1 fun ds ah2 => P (d :: ds) ah2 := by simp only [semCs, sCons, run_bind, run_pure]
theorem o_none {P : Option Int → AH → Prop} : Run (semO Γ κ .none env) ah P ↔ P none ah := by simp only [semO]; exact Iff.rfl
theorem o_some {a : C} {P : Option Int → AH → Prop} : Run (semO Γ κ (.some a) env) ah P ↔ Run (semC Γ κ a env) ah fun d ah1 => match d with | .int i => P (some i) ah1 | _ => False := by
  simp only [semO, sPart, run_bind]
  all_goals (refine ⟨fun h => h.mono fun x ah1 z => ?_, fun h => h.mono fun x ah1 z => ?_⟩ <;> (cases x <;> exact z))
theorem n_disp {cs : Cs} {P : List D → AH → Prop} : Run (semN Γ κ (.disp cs) env) ah P ↔ Run (semCs Γ κ cs env) ah fun ds ah' => if ds.length ≤ sizeLine then P ds ah' else False := by simp only [semN, sDisp, run_bind, run_ite, run_pure, run_bad]
theorem n_lc {it : It2} {p : Ev.P} {t : CO} {e : C} {own : List (Str × Nat)} {P : List D → AH → Prop} : Run (semN Γ κ (.lc it p t e own) env) ah P ↔ Run (semI Γ κ it env) ah fun q ah' => Run (lcGo (semP p) (semTO Γ κ t) (semC Γ κ e) q.2 (wipeD env (own.map (·.2))) q.1) ah' P := by simp only [semN, run_lc]
theorem n_lst {s : Sq} {P : List D → AH → Prop} : Run (semN Γ κ (.lst s) env) ah P ↔ Run (semL Γ κ s env) ah fun x ah1 => P x.1 ah1 := by simp only [semN, sCallN, lstL, run_bind, run_ret]
theorem n_sort {n : Nw} {P : List D → AH → Prop} : Run (semN Γ κ (.sort n) env) ah P ↔ Run (semN Γ κ n env) ah fun ds ah1 => Run (sortL ds) ah1 P := by simp only [semN, sCallNW, run_bind]
theorem n_sortX {n : Sx} {P : List D → AH → Prop} : Run (semN Γ κ (.sortX n) env) ah P ↔ Run (semX Γ κ n env) ah fun ds ah1 => Run (sortL ds) ah1 P := by simp only [semN, sCallNW, run_bind]
theorem n_sortV {a : C} {P : List D → AH → Prop} : Run (semN Γ κ (.sortV a) env) ah P ↔ Run (semC Γ κ a env) ah fun x ah1 => Run (match x with | .ref n => itemsM (.ref n) >>= fun p => sortL p.1 | _ => bad) ah1 P := by
  simp only [semN, listValN, run_bind]
  all_goals (refine ⟨fun h => h.mono fun x ah1 z => ?_, fun h => h.mono fun x ah1 z => ?_⟩ <;> (cases x <;> exact z))
theorem to_none {P : Bool → AH → Prop} : Run (semTO Γ κ .none env) ah P ↔ P true ah := by simp only [semTO]; exact Iff.rfl
theorem to_some {a : C} {P : Bool → AH → Prop} : Run (semTO Γ κ (.some a) env) ah P ↔ Run (semT Γ κ a env) ah P := by simp only [semTO]
theorem l_nw {n : Nw} {P : List D × Option Nat → AH → Prop} : Run (semL Γ κ (.nw n) env) ah P ↔ Run (semN Γ κ n env) ah fun ds ah1 => P (ds, none) ah1 := by simp only [semL, sSeqN, run_bind, run_pure]
theorem l_vl {a : C} {P : List D × Option Nat → AH → Prop} : Run (semL Γ κ (.vl a) env) ah P ↔ Run (semC Γ κ a env) ah fun d ah1 => Run (itemsM d) ah1 P := by simp only [semL, sSeqV, run_bind]
theorem sx_of {m : Bool} {s : Sq} {P : List D → AH → Prop} : Run (semX Γ κ (.of m s) env) ah P ↔ Run (semL Γ κ s env) ah fun x ah1 => Run (setL m x.1) ah1 P := by simp only [semX, sCallN, run_bind]
theorem i_vl {a : C} {P : List D × (AH → Prop) → AH → Prop} : Run (semI Γ κ (.vl a) env) ah P ↔ Run (semC Γ κ a env) ah fun d ah1 => Run (walkM d) ah1 P := by simp only [semI, sWalk, run_bind]
theorem i_nw {n : Nw} {P : List D × (AH → Prop) → AH → Prop} : Run (semI Γ κ (.nw n) env) ah P ↔ Run (semN Γ κ n env) ah fun ds ah1 => P (ds, fun _ => True) ah1 := by simp only [semI, sWalkN, run_bind, run_pure]
theorem i_range1 {a : C} {P : List D × (AH → Prop) → AH → Prop} : Run (semI Γ κ (.range1 a) env) ah P ↔ Run (semC Γ κ a env) ah fun d ah1 => match d with | .int j => if j ≤ sizeLine ∧ -(2 ^ 62) ≤ j then P (rangeD 0 j.toNat, fun _ => True) ah1 else False | _ => False := by
  simp only [semI, sRange1, run_bind]
  refine ⟨fun h => h.mono fun x ah1 z => ?_, fun h => h.mono fun x ah1 z => ?_⟩
  · cases x with
    | int j => dsimp only at z ⊢; rw [run_ite] at z; exact z
    | _ => exact z
  · cases x with
    | int j => dsimp only at z ⊢; rw [run_ite]; exact z
    | _ => exact z
theorem i_zip {a b : C} {P : List D × (AH → Prop) → AH → Prop} : Run (semI Γ κ (.zip a b) env) ah P ↔ Run (semC Γ κ a env) ah fun x ah1 => Run (semC Γ κ b env) ah1 fun y ah2 => Run (zipM x y) ah2 P := by simp only [semI, sZip, run_bind]
theorem p_var {i : Nat} {d : D} {P : EnvD → AH → Prop} : Run (semP (.var i) d env) ah P ↔ P (env.set i (some d)) ah := by simp only [semP, gVar, run_ret]
theorem p_tup {ps : Ps} {ds : List D} {P : EnvD → AH → Prop} : Run (semP (.tup ps) (.tup ds) env) ah P ↔ if ds.length = ps.len then Run (semPs ps ds env) ah P else False := by simp only [semP, gTupD, run_ite, run_bad]
theorem ps_nil {P : EnvD → AH → Prop} : Run (semPs .nil [] env) ah P ↔ P env ah := by simp only [semPs, gsNil, run_ret]
theorem ps_cons {p : Ev.P} {r : Ps} {d : D} {ds : List D} {P : EnvD → AH → Prop} : Run (semPs (.cons p r) (d :: ds) env) ah P ↔ Run (semP p d env) ah fun env' ah' => Run (semPs r ds env') ah' P := by simp only [semPs, gsCons, run_bind]
end
/-! values -/
section
variable {P : D → AH → Prop}
theorem g_idxT {ds : List D} {i : Int} : Run (idxD (.tup ds) (.int i)) ah P ↔ Run (opt (atI ds i)) ah P := Iff.rfl
theorem g_idxL {n : Nat} {ds : List D} {i : Int} (h : ah[n]? = some (.lst ds)) : Run (idxD (.ref n) (.int i)) ah P ↔ Run (opt (atI ds i)) ah P := by
  show Run (itemsM (.ref n) >>= fun p => opt (atI p.1 i)) ah P ↔ _
  rw [run_bind, run_itL h]
theorem g_setIx {p : Nat} {ds : List D} {k : Int} {d : D} {P : Unit → AH → Prop} (h : ah[p]? = some (.lst ds)) : Run (setIxD (.ref p) (.int k) d) ah P ↔ match ixN ds.length k with | some j => P () (ah.set p (.lst (ds.set j d))) | none => False := by
  show Run (rdLst p >>= fun ds => match ixN ds.length k with | some j => wrLst p (ds.set j d) | none => bad) ah P ↔ _
  rw [run_bind, run_rd h]
  cases ixN ds.length k <;> rfl
theorem g_lix {p : Nat} {ds : List D} {k : Int} (h : ah[p]? = some (.lst ds)) : Run (lixD (.ref p) (.int k)) ah P ↔ Run (opt (atI ds k)) ah P := by
  show Run (rdLst p >>= fun ds => opt (atI ds k)) ah P ↔ _
  rw [run_bind, run_rd h]
theorem g_iadd {i j : Int} : Run (iaddD (.int i) (.int j)) ah P ↔ P (.int (i + j)) ah := Iff.rfl
theorem g_add {i j : Int} : Run (addD (.int i) (.int j)) ah P ↔ P (.int (i + j)) ah := Iff.rfl
theorem g_addT {xs ys : List D} : Run (addD (.tup xs) (.tup ys)) ah P ↔ if xs.length + ys.length ≤ sizeLine then P (.tup (xs ++ ys)) ah else False := by show Run (if _ then _ else _) ah P ↔ _; rw [run_ite]; rfl
theorem g_addS {xs ys : Str} : Run (addD (.str xs) (.str ys)) ah P ↔ if xs.length + ys.length ≤ sizeLine then P (.str (xs ++ ys)) ah else False := by show Run (if _ then _ else _) ah P ↔ _; rw [run_ite]; rfl
theorem g_sub {i j : Int} : Run (subD (.int i) (.int j)) ah P ↔ P (.int (i - j)) ah := by show Run (if True then ret (D.int (i - j)) else bad) ah P ↔ _; rw [if_pos trivial]; rfl
theorem g_mul {i j : Int} : Run (mulD (.int i) (.int j)) ah P ↔ if CMulW i j then P (.int (i * j)) ah else False := by show Run (if _ then _ else _) ah P ↔ _; rw [run_ite]; rfl
theorem g_mod {i j : Int} : Run (modD (.int i) (.int j)) ah P ↔ if 0 < j then P (.int (i % j)) ah else False := by show Run (if _ then _ else _) ah P ↔ _; rw [run_ite]; rfl
theorem g_fdiv {i j : Int} : Run (fdivD (.int i) (.int j)) ah P ↔ if CDivW i j then P (.int (i / j)) ah else False := by show Run (if _ then _ else _) ah P ↔ _; rw [run_ite]; rfl
theorem g_gt {i j : Int} : Run (gtD (.int i) (.int j)) ah P ↔ P (.bl (decide (j < i))) ah := Iff.rfl
theorem g_ge {i j : Int} : Run (geD (.int i) (.int j)) ah P ↔ P (.bl (decide (j ≤ i))) ah := Iff.rfl
theorem g_lt {i j : Int} : Run (ltD (.int i) (.int j)) ah P ↔ P (.bl (decide (i < j))) ah := Iff.rfl
theorem g_le {i j : Int} : Run (leD (.int i) (.int j)) ah P ↔ P (.bl (decide (i ≤ j))) ah := Iff.rfl
theorem g_int {i : Int} : Run (intD (.int i)) ah P ↔ P (.int i) ah := Iff.rfl
theorem g_abs {i : Int} : Run (absD (.int i)) ah P ↔ P (.int (if i < 0 then -i else i)) ah := Iff.rfl
theorem g_lenT {ds : List D} : Run (lenD (.tup ds)) ah P ↔ P (.int ds.length) ah := Iff.rfl
theorem g_lenR {n : Nat} {ds : List D} (h : ah[n]? = some (.lst ds)) : Run (lenD (.ref n)) ah P ↔ P (.int ds.length) ah := by
  show Run (itemsM (.ref n) >>= fun p => ret (.int p.1.length)) ah P ↔ _
  rw [run_bind, run_itL h]; rfl
theorem g_eqI {i j : Int} : Run (eqD (.int i) (.int j)) ah P ↔ P (.bl (decide (i = j))) ah := by
  show Run (if min 0 0 ≤ 60 then ret (.bl (NestedKey.beq (.num i) (.num j))) else bad) ah P ↔ _
  rw [if_pos (by decide), ← NestedKey.decide_eq]
  simp only [NestedKey.num.injEq]; rfl
end
end
end Ev

set_option Elab.async false
set_option linter.all false
set_option maxRecDepth 100000
set_option maxHeartbeats 1000000
set_option autoImplicit false
namespace Ev
open PySem L2
/-! ### the pool -/
structure PoolOk (p q : Nat) (ah : AH) : Prop where
  ex : ∃ (zs : List Int) (a b c : Int), ah[p]? = some (.lst [.ref q, .int a, .int b, .int c]) ∧ ah[q]? = some (.lst (zs.map .int)) ∧ p ≠ q ∧ (∀ i ∈ zs, 0 ≤ i) ∧ 0 ≤ a ∧ 0 ≤ b ∧ 0 ≤ c ∧ c < 2305843009213693951
def drawB (A B C M2 S : Int) : Ss := (.cons (.ifs (.cmp .gt (.idx (.var 0) (.int 2)) (.int 0)) (.cons (.set 4 (.bin .mod (.call1 .int (.idx (.var 0) (.int 2))) (.var 1))) (.cons (.setIx (.var 0) (.int 2) (.bin .fdiv (.idx (.var 0) (.int 2)) (.var 1))) (.cons (.ret (.var 4)) .nil))) .nil) (.cons (.set 2 (.idx (.var 0) (.int 1))) (.cons (.ifs (.cmp .lt (.idx (.var 0) (.int 1)) (.call1 .len (.idx (.var 0) (.int 0)))) (.cons (.set 2 (.bin .mod (.call1 .int (.idx (.idx (.var 0) (.int 0)) (.idx (.var 0) (.int 1)))) (.bin .pow (.bin .pow (.int 10) (.int 60)) (.int 5)))) .nil) .nil) (.cons (.augIx (.var 0) (.int 1) (.int 1)) (.cons (.ifs (.cmp .ge (.var 2) (.bin .pow (.int 10) (.int 18))) (.cons (.setIx (.var 0) (.int 2) (.bin .fdiv (.var 2) (.var 1))) (.cons (.ret (.bin .mod (.call1 .int (.var 2)) (.var 1))) .nil)) .nil) (.cons (.setIx (.var 0) (.int 3) (.bin .mod (.call1 .int (.bin .add (.bin .add (.bin .mul (.idx (.var 0) (.int 3)) (.int A)) (.bin .mul (.var 2) (.int B))) (.int C))) (.int 2305843009213693951))) (.cons (.set 3 (.bin .mod (.call1 .int (.bin .mul (.idx (.var 0) (.int 3)) (.idx (.var 0) (.int 3)))) (.int M2))) (.cons (.ret (.bin .mod (.bin .fdiv (.var 3) (.int S)) (.var 1))) .nil))))))))
/-- a number below n is drawn: nothing but the pool changes -/
def DrawOk (m : List D → M D) : Prop := ∀ (p q : Nat) (ah : AH) (n : Int), PoolOk p q ah → 0 < n → n < 2 ^ 30 → Run (m [.ref p, .int n]) ah fun d ah' => ∃ r : Int, d = .int r ∧ 0 ≤ r ∧ r < n ∧ ah'.length = ah.length ∧ (∀ i, i ≠ p → ah'[i]? = ah[i]?) ∧ PoolOk p q ah'
theorem at4_0 {α : Type} {a b c d : α} : atI [a, b, c, d] 0 = some a := rfl
theorem at4_1 {α : Type} {a b c d : α} : atI [a, b, c, d] 1 = some b := rfl
theorem at4_2 {α : Type} {a b c d : α} : atI [a, b, c, d] 2 = some c := rfl
theorem at4_3 {α : Type} {a b c d : α} : atI [a, b, c, d] 3 = some d := rfl
theorem pow60 {ah : AH} {P : D → AH → Prop} : Run (powD (.int 10) (.int 60)) ah P ↔ P (.int (10 ^ 60)) ah := by
  show Run (if (0 : Int) ≤ 60 ∧ (Builtin.Int.intBits 10 : Int) * 60 ≤ 134217728 then ret (D.int (10 ^ 60)) else bad) ah P ↔ _
  rw [if_pos (by decide +kernel)]; rfl
theorem pow300 {ah : AH} {P : D → AH → Prop} : Run (powD (.int (10 ^ 60)) (.int 5)) ah P ↔ P (.int ((10 ^ 60) ^ 5)) ah := by
  show Run (if (0 : Int) ≤ 5 ∧ (Builtin.Int.intBits (10 ^ 60) : Int) * 5 ≤ 134217728 then ret (D.int ((10 ^ 60) ^ 5)) else bad) ah P ↔ _
  rw [if_pos (by decide +kernel)]; rfl
theorem pow18 {ah : AH} {P : D → AH → Prop} : Run (powD (.int 10) (.int 18)) ah P ↔ P (.int (10 ^ 18)) ah := by
  show Run (if (0 : Int) ≤ 18 ∧ (Builtin.Int.intBits 10 : Int) * 18 ≤ 134217728 then ret (D.int (10 ^ 18)) else bad) ah P ↔ _
  rw [if_pos (by decide +kernel)]; rfl
theorem log_lt {x : Int} {k : Nat} (h0 : 0 ≤ x) (h : x < 2 ^ k) (hk : 0 < k) : x.natAbs.log2 < k := by
  by_cases hx : x.natAbs = 0
  · rw [hx]; simpa using hk
  · rw [Nat.log2_lt hx]
    have : ((x.natAbs : Nat) : Int) < 2 ^ k := by rw [Int.natAbs_of_nonneg h0]; exact h
    exact_mod_cast this
theorem atI_ints {zs : List Int} {a : Int} (h0 : 0 ≤ a) (h1 : a < zs.length) : ∃ z ∈ zs, atI (zs.map D.int) a = some (.int z) := by
  have hl : a.toNat < zs.length := by omega
  refine ⟨zs[a.toNat], List.getElem_mem hl, ?_⟩
  unfold atI ixN
  rw [if_pos h0, if_pos (by rw [List.length_map]; exact h1)]
  simp [hl]
theorem draw_ok {Γ : Nat → List D → M D} {κ : Nat → D} {A B C M2 S : Int} (hA : 0 ≤ A) (hB : 0 ≤ B) (hC : 0 ≤ C) (hM : 0 < M2) (hS : 0 < S) (hA2 : A < 2 ^ 60) (hB2 : B < 2 ^ 60) (hS2 : S < 2 ^ 60) : DrawOk (defM 2 5 (semSs Γ κ (drawB A B C M2 S))) := by
  intro p q ah n ⟨zs, a, b, c, h1, h2, h3, h4, h5, h6, h7, h8⟩ hn hn2
  have lp : p < ah.length := (List.getElem?_eq_some_iff.mp h1).1
  have lq : q < ah.length := (List.getElem?_eq_some_iff.mp h2).1
  have cd : CDivW 0 n := ⟨hn, Nat.lt_trans (log_lt (Int.le_of_lt hn) hn2 (by decide)) (by decide)⟩
  have cdS : CDivW 0 S := ⟨hS, Nat.lt_trans (log_lt (Int.le_of_lt hS) hS2 (by decide)) (by decide)⟩
  have cdn : ∀ x : Int, CDivW x n := fun _ => cd
  have cds : ∀ x : Int, CDivW x S := fun _ => cdS
  have main : Run (semSs Γ κ (drawB A B C M2 S) [some (.ref p), some (.int n), none, none, none]) ah fun r ah' => ∃ (v a' b' c' : Int), r.1 = .rt (.int v) ∧ 0 ≤ v ∧ v < n ∧ ah' = ah.set p (.lst [.ref q, .int a', .int b', .int c']) ∧ 0 ≤ a' ∧ 0 ≤ b' ∧ 0 ≤ c' ∧ c' < 2305843009213693951 := by
    unfold drawB
    have sp : ∀ X : List D, (ah.set p (.lst X))[p]? = some (.lst X) := fun X => List.getElem?_set_self lp
    have g1 : ∀ (X : List D) (i : Int) (P : D → AH → Prop), Run (idxD (.ref p) (.int i)) (ah.set p (.lst X)) P ↔ Run (opt (atI X i)) (ah.set p (.lst X)) P := fun X i P => g_idxL (sp X)
    have s1 : ∀ (X : List D) (k : Int) (d : D) (P : Unit → AH → Prop), Run (setIxD (.ref p) (.int k) d) (ah.set p (.lst X)) P ↔ match ixN X.length k with | some j => P () ((ah.set p (.lst X)).set p (.lst (X.set j d))) | none => False := fun X k d P => g_setIx (sp X)
    have ix1 : ixN 4 1 = some 1 := rfl
    have ix2 : ixN 4 2 = some 2 := rfl
    have ix3 : ixN 4 3 = some 3 := rfl
    simp only [↓xs_cons, ↓xs_nil, ↓x_ifs, ↓x_set, ↓x_setIx, ↓x_ret, ↓x_augIx, ↓t_cmp, ↓c_var, ↓c_int, ↓c_idx, ↓c_bin, ↓c_call1, List.getElem?_cons_zero, List.getElem?_cons_succ, List.set_cons_zero, List.set_cons_succ, Option.join_some, ↓run_some, BinO.g, CmpO.g, B1.g, ↓g_idxL h1, ↓g_idxL h2, ↓g_lix h1, ↓g_lenR h2, at4_0, at4_1, at4_2, at4_3, ↓g_gt, ↓g_lt, ↓g_ge, ↓g_int, ↓g_mod, ↓g_fdiv, ↓g_iadd, ↓g_add, ↓g_mul, ↓g_setIx h1, ↓g1, ↓s1, List.length_cons, List.length_nil, ix1, ix2, ix3, List.set_set, ↓pow60, ↓pow300, ↓pow18, hn, if_true, cdn, cds, decide_eq_true_eq, List.length_map, hM]
    have small : ∀ x y : Int, 0 ≤ x → x < 2 ^ 64 → 0 ≤ y → y < 2 ^ 64 → CMulW x y := fun x y a1 a2 a3 a4 => by
      have e1 := log_lt a1 a2 (by decide)
      have e2 := log_lt a3 a4 (by decide)
      show x.natAbs.log2 + y.natAbs.log2 < 1000000
      omega
    have mdn : ∀ x : Int, 0 ≤ x % n ∧ x % n < n := fun x => ⟨Int.emod_nonneg _ (by omega), Int.emod_lt_of_pos _ hn⟩
    have mdM : ∀ x : Int, 0 ≤ x % 2305843009213693951 ∧ x % 2305843009213693951 < 2305843009213693951 := fun x => ⟨Int.emod_nonneg _ (by decide), Int.emod_lt_of_pos _ (by decide)⟩
    have dvn : ∀ x : Int, 0 ≤ x → 0 ≤ x / n := fun x hx => Int.ediv_nonneg hx (Int.le_of_lt hn)
    have e18 : (10 : Int) ^ 18 = 1000000000000000000 := by decide
    have last : ∀ x a1 : Int, 0 ≤ x → x < 10 ^ 18 → 0 ≤ a1 → (if CMulW c A then if CMulW x B then if (0 : Int) < 2305843009213693951 then if CMulW ((c * A + x * B + C) % 2305843009213693951) ((c * A + x * B + C) % 2305843009213693951) then
        ∃ v a' b' c' : Int, Flw.rt (D.int ((c * A + x * B + C) % 2305843009213693951 * ((c * A + x * B + C) % 2305843009213693951) % M2 / S % n)) = Flw.rt (D.int v) ∧ 0 ≤ v ∧ v < n ∧
          List.set ah p (Cell.lst [D.ref q, D.int a1, D.int b, D.int ((c * A + x * B + C) % 2305843009213693951)]) = List.set ah p (Cell.lst [D.ref q, D.int a', D.int b', D.int c']) ∧ 0 ≤ a' ∧ 0 ≤ b' ∧ 0 ≤ c' ∧ c' < 2305843009213693951
        else False else False else False else False) := fun x a1 x0 x1 h0 => by
      rw [e18] at x1
      rw [if_pos (small c A h7 (by omega) hA (by omega)), if_pos (small x B x0 (by omega) hB (by omega)), if_pos (by decide), if_pos (small _ _ (mdM _).1 (by have := (mdM (c * A + x * B + C)).2; omega) (mdM _).1 (by have := (mdM (c * A + x * B + C)).2; omega))]
      exact ⟨_, a1, b, _, rfl, (mdn _).1, (mdn _).2, rfl, h0, h6, (mdM _).1, (mdM _).2⟩
    by_cases hb : 0 < b
    · rw [if_pos hb]
      exact ⟨_, a, b / n, c, rfl, (mdn _).1, (mdn _).2, rfl, h5, dvn _ h6, h7, h8⟩
    · rw [if_neg hb]
      by_cases ha : a < zs.length
      · rw [if_pos ha]
        obtain ⟨z, hz, ez⟩ := atI_ints h5 ha
        have hz0 := h4 z hz
        have p300 : (0 : Int) < (10 ^ 60) ^ 5 := by decide +kernel
        rw [ez]
        simp only [↓run_some, ↓g_int, ↓g_mod, p300, if_true, ↓g_lix h1, at4_1, ↓g_iadd, ↓g_setIx h1, List.length_cons, List.length_nil, ix1, List.set_cons_zero, List.set_cons_succ, ↓g_ge, decide_eq_true_eq, ↓g_fdiv, cdn, ↓s1, ↓g1, ix2, ix3, List.set_set, at4_3, ↓g_mul, ↓g_add, hM, hn, cds]
        have z1 : 0 ≤ z % (10 ^ 60) ^ 5 := Int.emod_nonneg _ (by omega)
        by_cases hc : 10 ^ 18 ≤ z % (10 ^ 60) ^ 5
        · rw [if_pos hc]
          exact ⟨_, a + 1, _, c, rfl, (mdn _).1, (mdn _).2, rfl, by omega, dvn _ z1, h7, h8⟩
        · rw [if_neg hc]
          exact last _ _ z1 (by omega) (by omega)
      · rw [if_neg ha]
        by_cases hc : 10 ^ 18 ≤ a
        · rw [if_pos hc]
          exact ⟨_, a + 1, _, c, rfl, (mdn _).1, (mdn _).2, rfl, by omega, dvn _ h5, h7, h8⟩
        · rw [if_neg hc]
          exact last _ _ h5 (by omega) (by omega)
  refine run_def rfl (main.mono fun r ah' ⟨v, a', b', c', e1, v0, v1, e2, a0, b0, c0, c1⟩ => ⟨.int v, .inl e1, fun _ => ?_, fun no => absurd ?_ no⟩)
  · have len : ah'.length = ah.length := by rw [e2, List.length_set]
    rw [← len, List.take_length]
    refine ⟨v, rfl, v0, v1, rfl, fun i hi => by rw [e2, List.getElem?_set_ne (Ne.symm hi)], ⟨zs, a', b', c', ?_, ?_, h3, h4, a0, b0, c0, c1⟩⟩
    · rw [e2, List.getElem?_set_self lp]
    · rw [e2, List.getElem?_set_ne h3]; exact h2
  · refine ⟨rfl, by rw [e2, List.length_set]; exact Nat.le_refl _, fun i hi => ?_⟩
    by_cases hp : i = p
    · right
      subst hp
      refine ⟨_, by rw [e2, List.getElem?_set_self lp], ?_⟩
      simp [Cell.under, unders, D.under, lq]
    · left
      rw [e2, List.getElem?_set_ne (Ne.symm hp)]
end Ev

set_option Elab.async false
set_option linter.all false
set_option maxRecDepth 100000
set_option maxHeartbeats 1000000
set_option autoImplicit false
namespace Ev
open PySem L2
/-! ### shapes -/
inductive Sh where
  | str | int | seq (s : Sh) | two (a b : Sh)
def Sh.dep : Sh → Nat
  | .str => 0
  | .int => 0
  | .seq s => s.dep + 1
  | .two a b => max a.dep b.dep + 1
def Has : Sh → D → Prop
  | .str, d => ∃ x, d = .str x
  | .int, d => ∃ i, d = .int i
  | .seq s, d => ∃ ds, d = .tup ds ∧ ds.length < 64 ∧ ∀ e ∈ ds, Has s e
  | .two a b, d => ∃ x y, d = .tup [x, y] ∧ Has a x ∧ Has b y
theorem safes_of {ds : List D} (h : ∀ d ∈ ds, d.safe = true) : safes ds = true := by
  induction ds with
  | nil => rfl
  | cons d ds ih => simp only [safes, Bool.and_eq_true]; exact ⟨h d (.head _), ih fun e he => h e (.tail _ he)⟩
theorem pures_of {ds : List D} (h : ∀ d ∈ ds, d.pure = true) : pures ds = true := by
  induction ds with
  | nil => rfl
  | cons d ds ih => simp only [pures, Bool.and_eq_true]; exact ⟨h d (.head _), ih fun e he => h e (.tail _ he)⟩
theorem Has.safe : ∀ {s : Sh} {d : D}, Has s d → d.safe = true
  | .str, _, ⟨_, e⟩ => by rw [e]; rfl
  | .int, _, ⟨_, e⟩ => by rw [e]; rfl
  | .seq s, _, ⟨ds, e, _, h⟩ => by rw [e]; show safes ds = true; exact safes_of fun d hd => (h d hd).safe
  | .two a b, _, ⟨x, y, e, h1, h2⟩ => by rw [e]; show (x.safe && (y.safe && true)) = true; rw [h1.safe, h2.safe]; rfl
mutual
theorem safe_pure : ∀ {d : D}, d.safe = true → d.pure = true
  | .non, _ => rfl
  | .bl _, h => by cases h
  | .int _, _ => rfl
  | .str _, _ => rfl
  | .ref _, h => by cases h
  | .tup ds, h => by show pures ds = true; exact safes_pures (show safes ds = true from h)
theorem safes_pures : ∀ {ds : List D}, safes ds = true → pures ds = true
  | [], _ => rfl
  | d :: ds, h => by
    simp only [safes, Bool.and_eq_true] at h
    simp only [pures, Bool.and_eq_true]
    exact ⟨safe_pure h.1, safes_pures h.2⟩
end
theorem Has.pure {s : Sh} {d : D} (h : Has s d) : d.pure = true := safe_pure h.safe
theorem Has.some {s : Sh} {d : D} (h : Has s d) : d ≠ .non := by
  cases s with
  | str => obtain ⟨x, rfl⟩ := h; exact fun z => nomatch z
  | int => obtain ⟨x, rfl⟩ := h; exact fun z => nomatch z
  | seq s => obtain ⟨x, rfl, _⟩ := h; exact fun z => nomatch z
  | two a b => obtain ⟨x, y, rfl, _⟩ := h; exact fun z => nomatch z
theorem Has.alike : ∀ {s : Sh} {d e : D}, Has s d → Has s e → PySem.W.alike d.pd e.pd = true
  | .str, _, _, ⟨_, h1⟩, ⟨_, h2⟩ => by rw [h1, h2]; rfl
  | .int, _, _, ⟨_, h1⟩, ⟨_, h2⟩ => by rw [h1, h2]; rfl
  | .seq s, _, _, ⟨xs, h1, _, k1⟩, ⟨ys, h2, _, k2⟩ => by
    rw [h1, h2]
    have : ∀ xs ys : List D, (∀ x ∈ xs, Has s x) → (∀ y ∈ ys, Has s y) → PySem.W.alikeAll (pds xs) (pds ys) = true := by
      intro xs
      induction xs with
      | nil => intro ys _ _; simp [pds, PySem.W.alikeAll]
      | cons x xs ih =>
        intro ys hx hy
        cases ys with
        | nil => simp [pds, PySem.W.alikeAll]
        | cons y ys =>
          simp only [pds, PySem.W.alikeAll, Bool.and_eq_true]
          exact ⟨(hx x (.head _)).alike (hy y (.head _)), ih ys (fun z hz => hx z (.tail _ hz)) fun z hz => hy z (.tail _ hz)⟩
    simpa [D.pd, PySem.W.alike] using this xs ys k1 k2
  | .two a b, _, _, ⟨x, y, h1, k1, k2⟩, ⟨x', y', h2, l1, l2⟩ => by
    rw [h1, h2]
    simp only [D.pd, pds, PySem.W.alike, PySem.W.alikeAll, Bool.and_eq_true, k1.alike l1, k2.alike l2, true_and]
theorem pd_dep : ∀ {s : Sh} {d : D}, Has s d → d.pd.depth ≤ s.dep
  | .str, _, ⟨_, h⟩ => by rw [h]; exact Nat.zero_le _
  | .int, _, ⟨_, h⟩ => by rw [h]; exact Nat.zero_le _
  | .seq s, _, ⟨xs, h, _, k⟩ => by
    rw [h]
    have : ∀ xs : List D, (∀ x ∈ xs, Has s x) → PyData.depthAll (pds xs) ≤ s.dep := by
      intro xs
      induction xs with
      | nil => intro _; simp [pds, PyData.depthAll]
      | cons x xs ih =>
        intro hx
        have h1 := pd_dep (hx x (.head _))
        have h2 := ih fun z hz => hx z (.tail _ hz)
        simp only [pds, PyData.depthAll]
        omega
    have := this xs k
    simp only [D.pd, PyData.depth, Sh.dep]
    omega
  | .two a b, _, ⟨x, y, h, k1, k2⟩ => by
    rw [h]
    have h1 := pd_dep k1
    have h2 := pd_dep k2
    simp only [D.pd, pds, PyData.depth, PyData.depthAll, Sh.dep]
    omega
theorem nk_dep : ∀ {s : Sh} {d : D} {k : NestedKey}, Has s d → d.nk = Option.some k → k.depth ≤ s.dep
  | .str, _, k, ⟨_, h⟩, e => by rw [h] at e; cases e; exact Nat.zero_le _
  | .int, _, k, ⟨_, h⟩, e => by rw [h] at e; cases e; exact Nat.zero_le _
  | .seq s, _, k, ⟨xs, h, _, kk⟩, e => by
    rw [h] at e
    unfold D.nk at e
    cases ex : nks xs with
    | none => rw [ex] at e; cases e
    | some ks =>
      rw [ex] at e; cases e
      have : ∀ (xs : List D) (ks : List NestedKey), (∀ x ∈ xs, Has s x) → nks xs = Option.some ks → NestedKey.depthAll ks ≤ s.dep := by
        intro xs
        induction xs with
        | nil => intro ks _ e; cases e; simp [NestedKey.depthAll]
        | cons x xs ih =>
          intro ks hx e
          obtain ⟨k, r, rfl, e1, e2⟩ := nks_cons e
          have h1 := nk_dep (hx x (.head _)) e1
          have h2 := ih r (fun z hz => hx z (.tail _ hz)) e2
          simp only [NestedKey.depthAll]; omega
      have := this xs ks kk ex
      simp only [NestedKey.depth, Sh.dep]; omega
  | .two a b, _, k, ⟨x, y, h, k1, k2⟩, e => by
    rw [h] at e
    unfold D.nk at e
    cases ex : nks [x, y] with
    | none => rw [ex] at e; cases e
    | some ks =>
      rw [ex] at e; cases e
      obtain ⟨p, r, rfl, e1, e2⟩ := nks_cons ex
      obtain ⟨p2, r2, rfl, e3, e4⟩ := nks_cons e2
      cases e4
      have h1 := nk_dep k1 e1
      have h2 := nk_dep k2 e3
      simp only [NestedKey.depth, NestedKey.depthAll, Sh.dep]; omega
theorem sortOk_of {s : Sh} {ds : List D} (h : ∀ d ∈ ds, Has s d) (hs : s.dep ≤ 40) : SortOk ds :=
  ⟨fun d hd => (h d hd).pure, fun x hx y hy => by
    obtain ⟨d, hd, rfl⟩ := List.mem_map.mp hx
    obtain ⟨e, he, rfl⟩ := List.mem_map.mp hy
    exact (h d hd).alike (h e he), fun d hd => (h d hd).some, fun d hd => Nat.le_trans (pd_dep (h d hd)) hs⟩
theorem run_sort {s : Sh} {ds : List D} {ah : AH} {P : List D → AH → Prop} (h : ∀ d ∈ ds, Has s d) (hs : s.dep ≤ 40) : Run (sortL ds) ah P ↔ P (sortD ds) ah := by
  unfold sortL; rw [if_pos (sortOk_of h hs)]; exact Iff.rfl
theorem okItem_tup {s : Sh} {d : D} (h : Has s d) (ht : ∃ ds, d = .tup ds) (hs : s.dep ≤ 8) : okItem false d = true := by
  obtain ⟨ds, rfl⟩ := ht
  obtain ⟨k, e⟩ := safe_nk _ h.safe
  unfold okItem
  rw [h.safe]
  simp only [e, Bool.true_and, Bool.not_false, decide_eq_true_eq]
  exact Nat.le_trans (nk_dep h e) hs
theorem run_set {s : Sh} {ds : List D} {ah : AH} {P : List D → AH → Prop} (h : ∀ d ∈ ds, Has s d ∧ ∃ es, d = .tup es) (hs : s.dep ≤ 8) (hl : ds.length < 64) : Run (setL false ds) ah P ↔ P (ddup ds) ah := by
  unfold setL; rw [if_pos ⟨fun d hd => okItem_tup (h d hd).1 (h d hd).2 hs, hl⟩]; exact Iff.rfl
theorem mem_sortD {ds : List D} {d : D} : d ∈ sortD ds ↔ d ∈ ds := (sortD_perm ds).mem_iff
theorem length_sortD {ds : List D} : (sortD ds).length = ds.length := (sortD_perm ds).length_eq
/-! ### == and in -/
theorem beq_safe {a b : D} {j k : NestedKey} (ha : a.safe = true) (hb : b.safe = true) (ea : a.nk = Option.some j) (eb : b.nk = Option.some k) : NestedKey.beq j k = true ↔ a = b := by
  rw [← NestedKey.decide_eq, decide_eq_true_eq]
  constructor
  · intro e; subst e; exact nk_inj a b j ha hb ea eb
  · intro e; subst e; rw [ea] at eb; exact Option.some.inj eb
open Classical in
theorem run_eq {a b : D} {s t : Sh} {ah : AH} {P : D → AH → Prop} (ha : Has s a) (hb : Has t b) (hs : s.dep ≤ 60) : Run (eqD a b) ah P ↔ P (.bl (decide (a = b))) ah := by
  obtain ⟨j, ea⟩ := safe_nk a ha.safe
  obtain ⟨k, eb⟩ := safe_nk b hb.safe
  have hd := nk_dep ha ea
  unfold eqD
  rw [ea, eb]
  dsimp only
  rw [if_pos (by omega)]
  have : NestedKey.beq j k = decide (a = b) := by
    rw [Bool.eq_iff_iff, decide_eq_true_eq]; exact beq_safe ha.safe hb.safe ea eb
  rw [this]; exact Iff.rfl
open Classical in
theorem run_ne {a b : D} {s t : Sh} {ah : AH} {P : D → AH → Prop} (ha : Has s a) (hb : Has t b) (hs : s.dep ≤ 60) : Run (neD a b) ah P ↔ P (.bl (!decide (a = b))) ah := by
  obtain ⟨j, ea⟩ := safe_nk a ha.safe
  obtain ⟨k, eb⟩ := safe_nk b hb.safe
  have hd := nk_dep ha ea
  unfold neD
  rw [ea, eb]
  dsimp only
  rw [if_pos (by omega)]
  have : NestedKey.beq j k = decide (a = b) := by
    rw [Bool.eq_iff_iff, decide_eq_true_eq]; exact beq_safe ha.safe hb.safe ea eb
  rw [this]; exact Iff.rfl
open Classical in
theorem inKeys_of {a : D} {k : NestedKey} (ha : a.safe = true) (ea : a.nk = Option.some k) : ∀ {ds : List D} {ks : List NestedKey}, (∀ d ∈ ds, d.safe = true) → nks ds = Option.some ks → inKeys k ks = decide (a ∈ ds)
  | [], _, _, e => by cases e; simp [inKeys]
  | d :: ds, _, h, e => by
    obtain ⟨j, r, rfl, e1, e2⟩ := nks_cons e
    have ih := inKeys_of ha ea (fun x hx => h x (.tail _ hx)) e2
    unfold inKeys at ih ⊢
    rw [List.any_cons, ih, Bool.eq_iff_iff, Bool.or_eq_true, beq_safe (h d (.head _)) ha e1 ea, decide_eq_true_eq, decide_eq_true_eq, List.mem_cons]
    exact ⟨fun z => z.imp Eq.symm id, fun z => z.imp Eq.symm id⟩
open Classical in
theorem run_in {neg : Bool} {a : D} {s t : Sh} {ds : List D} {ah : AH} {P : D → AH → Prop} (ha : Has s a) (hb : ∀ d ∈ ds, Has t d) (hs : s.dep ≤ 60) : Run (inD neg a (.tup ds)) ah P ↔ P (.bl (neg != decide (a ∈ ds))) ah := by
  obtain ⟨k, ea⟩ := safe_nk a ha.safe
  obtain ⟨ks, eb⟩ := safes_nk ds (safes_of fun d hd => (hb d hd).safe)
  have hd := nk_dep ha ea
  have e : inD neg a (.tup ds) = (itemsM (.tup ds) >>= fun p => match a.nk, nks p.1 with | Option.some k, Option.some ks => if k.depth ≤ 60 then ret (.bl (neg != inKeys k ks)) else bad | _, _ => bad) := by cases a <;> rfl
  rw [e, run_bind, run_itT]
  simp only [ea, eb]
  rw [if_pos (by omega), inKeys_of ha.safe ea (fun d hd => (hb d hd).safe) eb]
  exact Iff.rfl

/-! ### sizes -/
mutual
def D.size : D → Nat
  | .tup ds => sizes ds + 1
  | _ => 1
def sizes : List D → Nat
  | [] => 0
  | d :: ds => d.size + sizes ds
end
def Sh.sz : Sh → Nat
  | .str => 1
  | .int => 1
  | .seq s => 64 * s.sz + 1
  | .two a b => a.sz + b.sz + 1
theorem size_pos (d : D) : 1 ≤ d.size := by cases d <;> simp [D.size]
theorem sizes_le {n : Nat} : ∀ {ds : List D}, (∀ d ∈ ds, d.size ≤ n) → sizes ds ≤ ds.length * n
  | [], _ => by simp [sizes]
  | d :: ds, h => by
    have h1 := h d (.head _)
    have h2 := sizes_le fun e he => h e (.tail _ he)
    simp only [sizes, List.length_cons, Nat.succ_mul]; omega
theorem length_sizes : ∀ (ds : List D), ds.length ≤ sizes ds
  | [] => Nat.le_refl _
  | d :: ds => by
    have := length_sizes ds
    have := size_pos d
    simp only [sizes, List.length_cons]; omega
theorem Has.sz : ∀ {s : Sh} {d : D}, Has s d → d.size ≤ s.sz
  | .str, _, ⟨_, h⟩ => by rw [h]; exact Nat.le_refl _
  | .int, _, ⟨_, h⟩ => by rw [h]; exact Nat.le_refl _
  | .seq s, _, ⟨ds, h, hl, k⟩ => by
    rw [h]
    have h1 := sizes_le (n := s.sz) fun e he => (k e he).sz
    have h2 : ds.length * s.sz ≤ 64 * s.sz := Nat.mul_le_mul_right _ (Nat.le_of_lt hl)
    simp only [D.size, Sh.sz]; omega
  | .two a b, _, ⟨x, y, h, k1, k2⟩ => by
    rw [h]
    have h1 := k1.sz
    have h2 := k2.sz
    simp only [D.size, sizes, Sh.sz]; omega
end Ev

set_option Elab.async false
set_option linter.all false
set_option maxRecDepth 100000
set_option maxHeartbeats 2000000
set_option autoImplicit false
namespace Ev
open PySem L2
/-! ### _law_same -/
def sameW : Ss := (.cons (.asg (.tup (.cons (.var 3) (.cons (.var 4) .nil))) (.mth .pop (.var 2) .nil)) (.cons (.ifs (.cmp .is (.var 4) .non) (.cons (.ifs (.cmp .isnt (.var 3) .non) (.cons (.ret (.bl false)) .nil) .nil) .nil) (.cons (.ifs (.isi "bool" (.var 4)) (.cons (.ifs (.or (.not (.isi "bool" (.var 3))) (.one (.cmp .ne (.var 3) (.var 4)))) (.cons (.ret (.bl false)) .nil) .nil) .nil) (.cons (.ifs (.isi "int" (.var 4)) (.cons (.ifs (.or (.isi "bool" (.var 3)) (.or (.not (.isi "int" (.var 3))) (.one (.cmp .ne (.var 3) (.var 4))))) (.cons (.ret (.bl false)) .nil) .nil) .nil) (.cons (.ifs (.isi "str" (.var 4)) (.cons (.ifs (.or (.not (.isi "str" (.var 3))) (.one (.cmp .ne (.var 3) (.var 4)))) (.cons (.ret (.bl false)) .nil) .nil) .nil) (.cons (.ifs (.isi "tuple" (.var 4)) (.cons (.ifs (.or (.not (.isi "tuple" (.var 3))) (.one (.cmp .ne (.call1 .len (.var 3)) (.call1 .len (.var 4))))) (.cons (.ret (.bl false)) .nil) .nil) (.cons (.expr (.mth .extend (.var 2) (.cons (.new (.lc (.range1 (.call1 .len (.var 4))) (.var 5) .none (.tup (.cons (.idx (.var 3) (.var 5)) (.cons (.idx (.var 4) (.var 5)) .nil))) [("at", 5)])) .nil))) .nil)) (.cons (.ifs (.or (.not (.isi "list" (.var 3))) (.one (.cmp .ne (.call1 .len (.var 3)) (.call1 .len (.var 4))))) (.cons (.ret (.bl false)) .nil) .nil) (.cons (.expr (.mth .extend (.var 2) (.cons (.new (.lc (.range1 (.call1 .len (.var 4))) (.var 5) .none (.tup (.cons (.idx (.var 3) (.var 5)) (.cons (.idx (.var 4) (.var 5)) .nil))) [("at", 5)])) .nil))) .nil))) .nil)) .nil)) .nil)) .nil)) .nil))
def sameB : Ss := (.cons (.set 2 (.new (.disp (.cons (.tup (.cons (.var 0) (.cons (.var 1) .nil))) .nil)))) (.cons (.while (.var 2) sameW) (.cons (.ret (.bl true)) .nil)))
def SameOk (m : List D → M D) : Prop := ∀ (d : D) (ah : AH), d.pure = true → d.size ≤ 2 ^ 20 → Run (m [d, d]) ah fun r ah' => r = .bl true ∧ ah' = ah
theorem k1 : kitB "bool" "bool" = some true := by decide +kernel
theorem k2 : kitB "int" "bool" = some false := by decide +kernel
theorem k3 : kitB "int" "int" = some true := by decide +kernel
theorem k4 : kitB "str" "bool" = some false := by decide +kernel
theorem k5 : kitB "str" "int" = some false := by decide +kernel
theorem k6 : kitB "str" "str" = some true := by decide +kernel
theorem k7 : kitB "tuple" "bool" = some false := by decide +kernel
theorem k8 : kitB "tuple" "int" = some false := by decide +kernel
theorem k9 : kitB "tuple" "str" = some false := by decide +kernel
theorem k10 : kitB "tuple" "tuple" = some true := by decide +kernel
section
variable {ah : AH} {P : D → AH → Prop}
theorem isi_bl {b : Bool} {T : String} {r : Bool} (h : kitB "bool" T = some r) : Run (isiD T (.bl b)) ah P ↔ P (.bl r) ah := by
  show Run (match kitB "bool" T with | some b => ret (D.bl b) | none => bad) ah P ↔ _
  rw [h]; exact Iff.rfl
theorem isi_int {b : Int} {T : String} {r : Bool} (h : kitB "int" T = some r) : Run (isiD T (.int b)) ah P ↔ P (.bl r) ah := by
  show Run (match kitB "int" T with | some b => ret (D.bl b) | none => bad) ah P ↔ _
  rw [h]; exact Iff.rfl
theorem isi_str {b : Str} {T : String} {r : Bool} (h : kitB "str" T = some r) : Run (isiD T (.str b)) ah P ↔ P (.bl r) ah := by
  show Run (match kitB "str" T with | some b => ret (D.bl b) | none => bad) ah P ↔ _
  rw [h]; exact Iff.rfl
theorem isi_tup {b : List D} {T : String} {r : Bool} (h : kitB "tuple" T = some r) : Run (isiD T (.tup b)) ah P ↔ P (.bl r) ah := by
  show Run (match kitB "tuple" T with | some b => ret (D.bl b) | none => bad) ah P ↔ _
  rw [h]; exact Iff.rfl
theorem is_none {neg : Bool} {x : D} : Run (isND neg x .non) ah P ↔ P (.bl (neg != x.isNone)) ah := Iff.rfl
theorem ne_bl {b : Bool} : Run (neD (.bl b) (.bl b)) ah P ↔ P (.bl false) ah := by
  show Run (if min 0 0 ≤ 60 then ret (.bl (!NestedKey.beq (.num _) (.num _))) else bad) ah P ↔ _
  rw [if_pos (by decide), NestedKey.beq_self]; exact Iff.rfl
theorem ne_int {b : Int} : Run (neD (.int b) (.int b)) ah P ↔ P (.bl false) ah := by
  show Run (if min 0 0 ≤ 60 then ret (.bl (!NestedKey.beq (.num _) (.num _))) else bad) ah P ↔ _
  rw [if_pos (by decide), NestedKey.beq_self]; exact Iff.rfl
theorem ne_str {b : Str} : Run (neD (.str b) (.str b)) ah P ↔ P (.bl false) ah := by
  show Run (if min 0 0 ≤ 60 then ret (.bl (!NestedKey.beq (.text _) (.text _))) else bad) ah P ↔ _
  rw [if_pos (by decide), NestedKey.beq_self]; exact Iff.rfl
theorem tru_bl {b : Bool} {P : Bool → AH → Prop} : Run (truM (.bl b)) ah P ↔ P b ah := Iff.rfl
theorem tru_int {b : Int} {P : Bool → AH → Prop} : Run (truM (.int b)) ah P ↔ P (b != 0) ah := Iff.rfl
theorem tru_ref {n : Nat} {ds : List D} {P : Bool → AH → Prop} (h : ah[n]? = some (.lst ds)) : Run (truM (.ref n)) ah P ↔ P (!ds.isEmpty) ah := by
  show Run (itemsM (.ref n) >>= fun p => ret (!p.1.isEmpty)) ah P ↔ _
  rw [run_bind, run_itL h]; exact Iff.rfl
end
theorem atI_nat {α : Type} {xs : List α} {i : Nat} (h : i < xs.length) : atI xs (i : Int) = some xs[i] := by
  unfold atI ixN
  rw [if_pos (by omega), if_pos (by omega)]
  simp [h]
theorem range_atI {xs : List D} (f : D → D) : (rangeD 0 ((xs.length : Int)).toNat).map (fun d => match d with | .int i => (match atI xs i with | some x => f x | none => .non) | _ => .non) = xs.map f := by
  unfold rangeD
  rw [List.map_map]
  refine List.ext_getElem? fun i => ?_
  by_cases hi : i < xs.length
  · have e : ((xs.length : Int)).toNat = xs.length := Int.toNat_natCast _
    rw [List.getElem?_map, List.getElem?_range (by omega), List.getElem?_map, List.getElem?_eq_getElem hi]
    simp only [Option.map_some, Function.comp_apply]
    have : (0 : Int) + (i : Nat) = (i : Int) := by omega
    rw [this, atI_nat hi]
  · have e : ((xs.length : Int)).toNat = xs.length := Int.toNat_natCast _
    rw [List.getElem?_eq_none (by simp; omega), List.getElem?_eq_none (by simp; omega)]
theorem mem_rangeD {d : D} {n : Nat} (h : d ∈ rangeD 0 n) : ∃ i : Nat, i < n ∧ d = .int (i : Int) := by
  unfold rangeD at h
  obtain ⟨i, hi, rfl⟩ := List.mem_map.mp h
  exact ⟨i, List.mem_range.mp hi, by rw [Int.zero_add]⟩
section
variable {Γ : Nat → List D → M D} {κ : Nat → D}
/-- one turn -/
theorem same_turn {told due e3 e4 e5 x : D} {xs : List D} {u : Nat} {ah : AH} {o3 o4 o5 : Option D} (hu : ah[u]? = some (.lst (xs.map (fun x => D.tup [x, x]) ++ [.tup [x, x]]))) (hp : x.pure = true) (hz : x.size + sizes xs ≤ 2 ^ 20) {P : Flw × EnvD → AH → Prop}
    (h : ∀ ys o3 o4 o5 ah', (∀ y ∈ ys, y.pure = true) → sizes ys < x.size → (∀ i, i ≠ u → i < ah.length → ah'[i]? = ah[i]?) → ah.length ≤ ah'.length → ah'[u]? = some (.lst ((xs ++ ys).map fun x => D.tup [x, x])) → P (.next, [some told, some due, some (.ref u), o3, o4, o5]) ah') :
    Run (semSs Γ κ sameW [some told, some due, some (.ref u), o3, o4, o5]) ah P := by
  have lu : u < ah.length := (List.getElem?_eq_some_iff.mp hu).1
  have su : ∀ X : List D, (ah.set u (.lst X))[u]? = some (.lst X) := fun X => List.getElem?_set_self lu
  have pop : ∀ {P : D → AH → Prop}, Run (rdLst u >>= fun _ => semCs Γ κ .nil [some told, some due, some (.ref u), o3, o4, o5] >>= fun ds => popD u ds) ah P ↔ P (.tup [x, x]) (ah.set u (.lst (xs.map fun x => D.tup [x, x]))) := by
    intro P
    rw [run_bind, run_rd hu, run_bind, cs_nil]
    show Run (rdLst u >>= fun xs => match xs[xs.length - 1]? with | some d => (wrLst u xs.dropLast >>= fun _ => pure d) | none => bad) ah P ↔ _
    rw [run_bind, run_rd hu]
    have e1 : (xs.map (fun x => D.tup [x, x]) ++ [D.tup [x, x]])[(xs.map (fun x => D.tup [x, x]) ++ [D.tup [x, x]]).length - 1]? = some (.tup [x, x]) := by simp
    rw [e1]
    dsimp only
    rw [run_bind, run_wr, run_pure, List.dropLast_concat]
  have fin : ∀ o5, P (.next, [some told, some due, some (.ref u), some x, some x, o5]) (ah.set u (.lst (xs.map fun x => D.tup [x, x]))) := fun o5 =>
    h [] _ _ _ _ (fun y z => (nomatch z)) (by have := size_pos x; simp only [sizes]; omega) (fun i hi _ => List.getElem?_set_ne (Ne.symm hi)) (by rw [List.length_set]; exact Nat.le_refl _) (by rw [List.append_nil]; exact su _)
  unfold sameW
  simp only [↓xs_cons, ↓x_asg, ↓c_mth (n := 0), ↓c_var, List.getElem?_cons_zero, List.getElem?_cons_succ, Option.join_some, ↓run_some, Mt.g, ↓pop, ↓p_tup, List.length_cons, List.length_nil, Ps.len, if_true, ↓ps_cons, ↓ps_nil, ↓p_var, List.set_cons_zero, List.set_cons_succ, ↓x_ifs, ↓t_cmp, CmpO.g, ↓c_non, ↓is_none]
  cases x with
  | non =>
    simp only [D.isNone, Bool.false_bne, if_true, ↓x_ifs, ↓t_cmp, ↓c_var, List.getElem?_cons_zero, List.getElem?_cons_succ, Option.join_some, ↓run_some, CmpO.g, ↓c_non, ↓is_none, ↓xs_cons, ↓xs_nil, Bool.true_bne, Bool.not_true, Bool.false_eq_true, if_false]
    exact fin _
  | bl b =>
    simp only [D.isNone, Bool.false_bne, Bool.false_eq_true, if_false, ↓x_ifs, ↓t_isi, ↓c_isi, ↓t_or, ↓t_one, ↓t_not, ↓t_cmp, ↓c_var, List.getElem?_cons_zero, List.getElem?_cons_succ, Option.join_some, ↓run_some, CmpO.g, ↓xs_cons, ↓xs_nil, ↓isi_bl k1, ↓tru_bl, if_true, Bool.not_true, ↓ne_bl]
    exact fin _
  | int b =>
    simp only [D.isNone, Bool.false_bne, Bool.false_eq_true, if_false, ↓x_ifs, ↓t_isi, ↓c_isi, ↓t_or, ↓t_one, ↓t_not, ↓t_cmp, ↓c_var, List.getElem?_cons_zero, List.getElem?_cons_succ, Option.join_some, ↓run_some, CmpO.g, ↓xs_cons, ↓xs_nil, ↓isi_int k2, ↓isi_int k3, ↓tru_bl, if_true, Bool.not_true, ↓ne_int]
    exact fin _
  | str b =>
    simp only [D.isNone, Bool.false_bne, Bool.false_eq_true, if_false, ↓x_ifs, ↓t_isi, ↓c_isi, ↓t_or, ↓t_one, ↓t_not, ↓t_cmp, ↓c_var, List.getElem?_cons_zero, List.getElem?_cons_succ, Option.join_some, ↓run_some, CmpO.g, ↓xs_cons, ↓xs_nil, ↓isi_str k4, ↓isi_str k5, ↓isi_str k6, ↓tru_bl, if_true, Bool.not_true, ↓ne_str]
    exact fin _
  | ref n => cases hp
  | tup ds =>
    simp only [D.isNone, Bool.false_bne, Bool.false_eq_true, if_false, ↓x_ifs, ↓t_isi, ↓c_isi, ↓t_or, ↓t_one, ↓t_not, ↓t_cmp, ↓c_var, List.getElem?_cons_zero, List.getElem?_cons_succ, Option.join_some, ↓run_some, CmpO.g, ↓xs_cons, ↓xs_nil, ↓isi_tup k7, ↓isi_tup k8, ↓isi_tup k9, ↓isi_tup k10, ↓tru_bl, if_true, Bool.not_true, ↓c_call1, B1.g, ↓g_lenT, ↓ne_int, ↓x_expr]
    have hsz : (D.tup ds).size = sizes ds + 1 := rfl
    have l1 := length_sizes ds
    have l2 := length_sizes xs
    generalize hA : ah.set u (.lst (xs.map fun x => D.tup [x, x])) = ah1
    have u1 : ah1[u]? = some (.lst (xs.map fun x => D.tup [x, x])) := by rw [← hA]; exact su _
    have len1 : ah1.length = ah.length := by rw [← hA, List.length_set]
    rw [c_mth (n := 0), c_var]
    simp only [List.getElem?_cons_zero, List.getElem?_cons_succ, Option.join_some, run_some]
    rw [run_bind, run_rd u1, run_bind, cs_cons, c_new, n_lc, i_range1, c_call1, c_var]
    simp only [List.getElem?_cons_zero, List.getElem?_cons_succ, Option.join_some, run_some, B1.g, g_lenT]
    rw [if_pos (by rw [sizeLine_eq]; omega)]
    refine lc_pure (fun _ => true) (fun d => match d with | .int i => (match atI ds i with | some x => .tup [x, x] | none => .non) | _ => .non) trivial (fun d hd => ?_) ?_
    · obtain ⟨i, hi, rfl⟩ := mem_rangeD hd
      have hi : i < ds.length := by omega
      rw [p_var]
      refine ⟨rfl, ?_⟩
      rw [to_none]
      refine ⟨rfl, rfl, fun _ => ?_⟩
      simp only [List.map_cons, List.map_nil, wipeD, List.set_cons_succ, List.set_cons_zero, ↓c_tup, ↓cs_cons, ↓cs_nil, ↓c_idx, ↓c_var, List.getElem?_cons_zero, List.getElem?_cons_succ, Option.join_some, ↓run_some, ↓g_idxT, atI_nat hi, List.length_cons, List.length_nil]
      rw [if_pos (by rw [sizeLine_eq]; omega)]
      exact ⟨trivial, trivial⟩
    · rw [List.filter_eq_self.mpr (fun _ _ => rfl), range_atI (fun x => D.tup [x, x])]
      rw [cs_nil]
      refine (show Run ((rdLst u >>= fun xs => rdLst ah1.length >>= fun ys => if xs.length + ys.length ≤ sizeLine then (wrLst u (xs ++ ys) >>= fun _ => pure D.non) else bad) : M D) (ah1 ++ [.lst (ds.map fun x => D.tup [x, x])]) _ from ?_)
      have u2 : (ah1 ++ [.lst (ds.map fun x => D.tup [x, x])])[u]? = some (.lst (xs.map fun x => D.tup [x, x])) := by rw [List.getElem?_append_left (by omega)]; exact u1
      have n2 : (ah1 ++ [Cell.lst (ds.map fun x => D.tup [x, x])])[ah1.length]? = some (.lst (ds.map fun x => D.tup [x, x])) := by simp
      rw [run_bind, run_rd u2, run_bind, run_rd n2, run_ite, if_pos (by rw [sizeLine_eq, List.length_map, List.length_map]; omega), run_bind, run_wr, run_pure]
      refine h ds _ _ _ _ (fun y hy => ?_) (by omega) (fun i hi hl => ?_) (by simp; omega) ?_
      · have : pures ds = true := hp
        have go : ∀ ds : List D, pures ds = true → ∀ y ∈ ds, y.pure = true := by
          intro ds
          induction ds with
          | nil => intro _ y hy; cases hy
          | cons d ds ih =>
            intro h y hy
            simp only [pures, Bool.and_eq_true] at h
            rcases List.mem_cons.mp hy with rfl | hy
            · exact h.1
            · exact ih h.2 y hy
        exact go ds this y hy
      · rw [List.getElem?_set_ne (Ne.symm hi), List.getElem?_append_left (by omega), ← hA, List.getElem?_set_ne (Ne.symm hi)]
      · rw [List.getElem?_set_self (by simp; omega), List.map_append]
theorem same_ok : SameOk (defM 2 6 (semSs Γ κ sameB)) := by
  intro d ah hp hz
  refine run_def rfl ?_
  show Run (semSs Γ κ sameB [some d, some d, none, none, none, none]) ah _
  have main : Run (semSs Γ κ sameB [some d, some d, none, none, none, none]) ah fun r ah' => r.1 = .rt (.bl true) ∧ ah.length ≤ ah'.length ∧ ∀ i, i < ah.length → ah'[i]? = ah[i]? := by
    unfold sameB
    simp only [↓xs_cons, ↓xs_nil, ↓x_set, ↓c_new, ↓n_disp, ↓cs_cons, ↓cs_nil, ↓c_tup, ↓c_var, List.getElem?_cons_zero, List.getElem?_cons_succ, Option.join_some, ↓run_some, List.length_cons, List.length_nil, List.set_cons_succ, List.set_cons_zero, ↓x_while, ↓x_ret, ↓c_bl]
    rw [if_pos (by rw [sizeLine_eq]; omega), if_pos (by rw [sizeLine_eq]; omega)]
    refine while_inv (fun n env ah' => ∃ xs o3 o4 o5, env = [some d, some d, some (.ref ah.length), o3, o4, o5] ∧ ah'[ah.length]? = some (.lst (xs.map fun x => D.tup [x, x])) ∧ (∀ x ∈ xs, x.pure = true) ∧ n = sizes xs ∧ sizes xs ≤ 2 ^ 20 ∧ ah.length ≤ ah'.length ∧ ∀ i, i < ah.length → ah'[i]? = ah[i]?) ?_ d.size _ _
      ⟨[d], none, none, none, rfl, by simp, fun x hx => by rw [List.mem_singleton.mp hx]; exact hp, by simp [sizes], by simpa [sizes] using hz, by simp, fun i hi => List.getElem?_append_left hi⟩
    rintro n env ah' ⟨xs, o3, o4, o5, rfl, hu, hps, rfl, hsz, hl, hk⟩
    rw [t_var]
    simp only [List.getElem?_cons_zero, List.getElem?_cons_succ, Option.join_some, run_some, tru_ref hu]
    rcases List.eq_nil_or_concat xs with rfl | ⟨ys, x, exs⟩
    · simp only [List.map_nil, List.isEmpty_nil, Bool.not_true, Bool.false_eq_true, if_false]
      exact ⟨trivial, hl, hk⟩
    · rw [List.concat_eq_append] at exs
      subst exs
      have ne : (!((ys ++ [x]).map fun x => D.tup [x, x]).isEmpty) = true := by simp
      rw [if_pos ne]
      rw [List.map_append] at hu
      have px : x.pure = true := hps x (by simp)
      have sz : sizes (ys ++ [x]) = x.size + sizes ys := by
        have : ∀ a b : List D, sizes (a ++ b) = sizes a + sizes b := by
          intro a
          induction a with
          | nil => intro b; simp [sizes]
          | cons c a ih => intro b; simp only [List.cons_append, sizes, ih]; omega
        rw [this]; simp only [sizes]; omega
      rw [sz] at hsz ⊢
      refine same_turn (told := d) (due := d) (e3 := d) (e4 := d) (e5 := d) hu px hsz fun zs p3 p4 p5 ah2 hz1 hz2 hz3 hz4 hz5 => ?_
      have szz : sizes (ys ++ zs) = sizes ys + sizes zs := by
        have : ∀ a b : List D, sizes (a ++ b) = sizes a + sizes b := by
          intro a
          induction a with
          | nil => intro b; simp [sizes]
          | cons c a ih => intro b; simp only [List.cons_append, sizes, ih]; omega
        exact this ys zs
      refine ⟨sizes (ys ++ zs), by omega, ys ++ zs, p3, p4, p5, rfl, hz5, fun y hy => ?_, rfl, by omega, by omega, fun i hi => ?_⟩
      · rcases List.mem_append.mp hy with hy | hy
        · exact hps y (by simp [hy])
        · exact hz1 y hy
      · rw [hz3 i (by omega) (by omega)]; exact hk i hi
  refine main.mono fun r ah' ⟨e, hl, hk⟩ => ⟨.bl true, .inl e, fun _ => ⟨rfl, ?_⟩, fun no => absurd ⟨rfl, hl, fun i hi => .inl (hk i hi)⟩ no⟩
  refine List.ext_getElem? fun i => ?_
  by_cases hi : i < ah.length
  · rw [List.getElem?_take_of_lt hi, hk i hi]
  · rw [List.getElem?_eq_none (by simp; omega), List.getElem?_eq_none (by omega)]
end
end Ev

set_option Elab.async false
set_option linter.all false
set_option maxRecDepth 100000
set_option maxHeartbeats 2000000
set_option autoImplicit false
namespace Ev
open PySem L2
/-! ### what a pool's use leaves -/
structure Grew (p q : Nat) (ah ah' : AH) : Prop where
  len : ah.length ≤ ah'.length
  keep : ∀ i, i < ah.length → i ≠ p → ah'[i]? = ah[i]?
  pool : PoolOk p q ah'
  pl : p < ah.length
  ql : q < ah.length
structure Drew (p q : Nat) (ah ah' : AH) : Prop where
  len : ah'.length = ah.length
  keep : ∀ i, i ≠ p → ah'[i]? = ah[i]?
  pool : PoolOk p q ah'
section
variable {p q : Nat} {ah ah1 ah2 : AH}
theorem PoolOk.pl (h : PoolOk p q ah) : p < ah.length := by
  obtain ⟨_, _, _, _, h, _⟩ := h
  exact (List.getElem?_eq_some_iff.mp h).1
theorem PoolOk.ql (h : PoolOk p q ah) : q < ah.length := by
  obtain ⟨_, _, _, _, _, h, _⟩ := h
  exact (List.getElem?_eq_some_iff.mp h).1
theorem PoolOk.of {p q : Nat} {ah ah' : AH} (h : PoolOk p q ah) (h1 : ah'[p]? = ah[p]?) (h2 : ah'[q]? = ah[q]?) : PoolOk p q ah' := by
  obtain ⟨zs, a, b, c, e1, e2, r⟩ := h
  exact ⟨zs, a, b, c, by rw [h1]; exact e1, by rw [h2]; exact e2, r⟩
theorem Grew.refl (h : PoolOk p q ah) : Grew p q ah ah := ⟨Nat.le_refl _, fun _ _ _ => rfl, h, h.pl, h.ql⟩
theorem Drew.grew (h0 : PoolOk p q ah) (h : Drew p q ah ah1) : Grew p q ah ah1 := ⟨by rw [h.len]; exact Nat.le_refl _, fun i _ n => h.keep i n, h.pool, h0.pl, h0.ql⟩
theorem Grew.trans (h : Grew p q ah ah1) (k : Grew p q ah1 ah2) : Grew p q ah ah2 := ⟨Nat.le_trans h.len k.len, fun i hi n => (k.keep i (Nat.lt_of_lt_of_le hi h.len) n).trans (h.keep i hi n), k.pool, h.pl, h.ql⟩
theorem Grew.drew (h : Grew p q ah ah1) (k : Drew p q ah1 ah2) : Grew p q ah ah2 := h.trans (k.grew h.pool)
theorem Grew.push (h : Grew p q ah ah1) (t : AH) : Grew p q ah (ah1 ++ t) := h.trans ⟨by simp, fun i hi _ => List.getElem?_append_left hi, h.pool.of (List.getElem?_append_left h.pool.pl) (List.getElem?_append_left h.pool.ql), h.pool.pl, h.pool.ql⟩
theorem Grew.set {u : Nat} {c : Cell} (h : Grew p q ah ah1) (hu : ah.length ≤ u) : Grew p q ah (ah1.set u c) := by
  have hp := h.pl
  have hq := h.ql
  refine ⟨by rw [List.length_set]; exact h.len, fun i hi n => ?_, h.pool.of (List.getElem?_set_ne (by omega)) (List.getElem?_set_ne (by omega)), hp, hq⟩
  rw [List.getElem?_set_ne (by omega)]; exact h.keep i hi n
theorem Grew.cell {i : Nat} {c : Cell} (h : Grew p q ah ah1) (e : ah[i]? = some c) (n : i ≠ p) : ah1[i]? = some c := by
  rw [h.keep i (List.getElem?_eq_some_iff.mp e).1 n]; exact e
theorem Drew.cell {i : Nat} {c : Cell} (h : Drew p q ah ah1) (e : ah[i]? = some c) (n : i ≠ p) : ah1[i]? = some c := by
  rw [h.keep i n]; exact e
/-- a def that uses the pool and gives back a plain value -/
theorem def_drew {n N : Nat} {b : EnvD → M (Flw × EnvD)} {ds : List D} {P : D → AH → Prop} (hn : ds.length = n)
    (h : Run (b (ds.map some ++ List.replicate (N - ds.length) none)) ah fun r ah' => ∃ d, (r.1 = .rt d ∨ (r.1 = .next ∧ d = .non)) ∧ d.pure = true ∧ Grew p q ah ah' ∧ ∀ ah2, Drew p q ah ah2 → P d ah2) : Run (defM n N b ds) ah P := by
  refine run_def hn (h.mono fun r ah' ⟨d, h1, h2, g, h3⟩ => ⟨d, h1, fun _ => h3 _ ⟨?_, fun i n => ?_, ?_⟩, fun no => absurd ⟨pure_under h2, g.len, fun i hi => ?_⟩ no⟩)
  · rw [List.length_take]; have := g.len; omega
  · by_cases hi : i < ah.length
    · rw [List.getElem?_take_of_lt hi]; exact g.keep i hi n
    · rw [List.getElem?_eq_none (by rw [List.length_take]; omega), List.getElem?_eq_none (by omega)]
  · exact g.pool.of (List.getElem?_take_of_lt g.pl) (List.getElem?_take_of_lt g.ql)
  · by_cases n : i = p
    · right
      subst n
      obtain ⟨zs, a, b, c, e1, _⟩ := g.pool
      refine ⟨_, e1, ?_⟩
      have := g.ql
      simp [Cell.under, unders, D.under, this]
    · left; exact g.keep i hi n
/-- a def that gives back what it has laid -/
theorem def_laid {n N : Nat} {b : EnvD → M (Flw × EnvD)} {ds : List D} {P : D → AH → Prop} (hn : ds.length = n)
    (h : Run (b (ds.map some ++ List.replicate (N - ds.length) none)) ah fun r ah' => ∃ d, (r.1 = .rt d ∨ (r.1 = .next ∧ d = .non)) ∧ d.under ah.length = false ∧ P d ah') : Run (defM n N b ds) ah P :=
  run_def hn (h.mono fun r ah' ⟨d, h1, h2, h3⟩ => ⟨d, h1, fun ⟨no, _⟩ => (by rw [h2] at no; cases no), fun _ => h3⟩)
theorem use_draw {m : List D → M D} {n : Int} {P : D → AH → Prop} (h : DrawOk m) (hp : PoolOk p q ah) (hn : 0 < n) (hn2 : n < 2 ^ 30) (k : ∀ r ah1, 0 ≤ r → r < n → Drew p q ah ah1 → P (.int r) ah1) : Run (m [.ref p, .int n]) ah P :=
  (h p q ah n hp hn hn2).mono fun d ah' ⟨r, e, h0, h1, h2, h3, h4⟩ => by rw [e]; exact k r ah' h0 h1 ⟨h2, h3, h4⟩
end
/-! ### list methods -/
section
variable {ah : AH} {P : D → AH → Prop} {n : Nat} {xs : List D}
theorem g_popAt {i : Int} (h : ah[n]? = some (.lst xs)) (h0 : 0 ≤ i) (h1 : i < xs.length) (h2 : xs.length < 2 ^ 60) (lt : i.toNat < xs.length) : Run (popAtD n [.int i]) ah P ↔ P xs[i.toNat] (ah.set n (.lst (xs.eraseIdx i.toNat))) := by
  show Run (if -(2 ^ 63) ≤ i ∧ i < 2 ^ 63 then (rdLst n >>= fun xs => match seqIndex? i xs.length with | some k => (match xs[k]? with | some d => (wrLst n (xs.eraseIdx k) >>= fun _ => pure d) | none => bad) | none => bad) else bad) ah P ↔ _
  have e : seqIndex? i xs.length = some i.toNat := by
    unfold seqIndex?
    simp [show ¬ i < 0 by omega, h0, h1]
  rw [if_pos (by omega), run_bind, run_rd h, e]
  dsimp only
  rw [List.getElem?_eq_getElem lt]
  dsimp only
  rw [run_bind, run_wr, run_pure]
theorem g_append {d : D} (h : ah[n]? = some (.lst xs)) (h1 : xs.length < sizeLine) : Run (appendD n [d]) ah P ↔ P .non (ah.set n (.lst (xs ++ [d]))) := by
  show Run (rdLst n >>= fun xs => if xs.length < sizeLine then (wrLst n (xs ++ [d]) >>= fun _ => pure D.non) else bad) ah P ↔ _
  rw [run_bind, run_rd h, if_pos h1, run_bind, run_wr, run_pure]
theorem g_pop {x : D} (h : ah[n]? = some (.lst (xs ++ [x]))) : Run (popD n []) ah P ↔ P x (ah.set n (.lst xs)) := by
  show Run (rdLst n >>= fun xs => match xs[xs.length - 1]? with | some d => (wrLst n xs.dropLast >>= fun _ => pure d) | none => bad) ah P ↔ _
  rw [run_bind, run_rd h]
  have e1 : (xs ++ [x])[(xs ++ [x]).length - 1]? = some x := by simp
  rw [e1]
  dsimp only
  rw [run_bind, run_wr, run_pure, List.dropLast_concat]
theorem g_extend {m : Nat} {ys : List D} (h : ah[n]? = some (.lst xs)) (k : ah[m]? = some (.lst ys)) (h1 : xs.length + ys.length ≤ sizeLine) : Run (extendD n [.ref m]) ah P ↔ P .non (ah.set n (.lst (xs ++ ys))) := by
  show Run (rdLst n >>= fun xs => rdLst m >>= fun ys => if xs.length + ys.length ≤ sizeLine then (wrLst n (xs ++ ys) >>= fun _ => pure D.non) else bad) ah P ↔ _
  rw [run_bind, run_rd h, run_bind, run_rd k, if_pos h1, run_bind, run_wr, run_pure]
/-- a method of what a name holds -/
theorem c_meth {Γ : Nat → List D → M D} {κ : Nat → D} {env : EnvD} {m : Mt} {i : Nat} {cs : Cs} (e : env[i]?.join = some (.ref n)) (h : ah[n]? = some (.lst xs)) : Run (semC Γ κ (.mth m (.var i) cs) env) ah P ↔ Run (semCs Γ κ cs env) ah fun ds ah1 => Run (m.g n ds) ah1 P := by
  rw [c_mth (n := 0), c_var, e, run_some]
  dsimp only
  rw [run_bind, run_rd h, run_bind]
end
theorem erase_perm : ∀ (L : List D) (k : Nat) (h : k < L.length), (L[k] :: L.eraseIdx k).Perm L
  | [], k, h => absurd h (Nat.not_lt_zero _)
  | a :: L, 0, _ => .refl _
  | a :: L, k + 1, h => by
    have h' : k < L.length := Nat.lt_of_succ_lt_succ h
    exact (List.Perm.swap a L[k] (L.eraseIdx k)).trans (.cons a (erase_perm L k h'))
/-! ### _law_shuffled -/
def shufB : Ss := (.cons (.set 2 (.new (.lst (.vl (.var 1))))) (.cons (.set 3 (.new (.disp .nil))) (.cons (.for (.var 4) (.range1 (.call1 .len (.var 1))) (.cons (.expr (.mth .append (.var 3) (.cons (.mth .popAt (.var 2) (.cons (.call 6 (.cons (.var 0) (.cons (.call1 .len (.var 2)) .nil))) .nil)) .nil))) .nil)) (.cons (.ret (.var 3)) .nil))))
def ShufOk (m : List D → M D) : Prop := ∀ (p q r : Nat) (ah : AH) (xs : List D), PoolOk p q ah → ah[r]? = some (.lst xs) → r ≠ p → xs.length < 2 ^ 20 → Run (m [.ref p, .ref r]) ah fun d ah' => ∃ u ys, d = .ref u ∧ ah.length ≤ u ∧ ah'[u]? = some (.lst ys) ∧ ys.Perm xs ∧ Grew p q ah ah'
theorem shuf_ok {Γ : Nat → List D → M D} {κ : Nat → D} (hd : DrawOk (Γ 6)) : ShufOk (defM 2 5 (semSs Γ κ shufB)) := by
  intro p q r ah xs hp hr hrp hl
  refine def_laid (P := fun d ah' => ∃ u ys, d = D.ref u ∧ ah.length ≤ u ∧ ah'[u]? = some (.lst ys) ∧ ys.Perm xs ∧ Grew p q ah ah') rfl ?_
  show Run (semSs Γ κ shufB [some (.ref p), some (.ref r), none, none, none]) ah _
  unfold shufB
  have rl : r < ah.length := (List.getElem?_eq_some_iff.mp hr).1
  have r2 : (ah ++ [Cell.lst xs] ++ [Cell.lst []])[r]? = some (.lst xs) := by rw [List.append_assoc, List.getElem?_append_left rl]; exact hr
  simp only [↓xs_cons, ↓xs_nil, ↓x_set, ↓c_new, ↓n_lst, ↓l_vl, ↓c_var, List.getElem?_cons_zero, List.getElem?_cons_succ, Option.join_some, ↓run_some, ↓run_itL hr, List.set_cons_succ, List.set_cons_zero, ↓n_disp, ↓cs_nil, List.length_nil, Nat.zero_le, if_true, ↓x_for, ↓i_range1, ↓c_call1, B1.g, ↓g_lenR r2, ↓x_ret]
  rw [if_pos (by rw [sizeLine_eq]; omega)]
  have hn : ((xs.length : Int)).toNat = xs.length := Int.toNat_natCast _
  rw [hn]
  refine for_inv (fun done rest env ah' => ∃ o4 L T, env = [some (.ref p), some (.ref r), some (.ref ah.length), some (.ref (ah ++ [Cell.lst xs]).length), o4] ∧ ah'[ah.length]? = some (.lst L) ∧ ah'[(ah ++ [Cell.lst xs]).length]? = some (.lst T) ∧ L.length = rest.length ∧ (T ++ L).Perm xs ∧ Grew p q ah ah') ?_ ?_ ?_
  · rintro done d rest env ah' e ⟨o4, L, T, rfl, hL, hT, hn, hper, g⟩
    refine ⟨trivial, ?_⟩
    rw [p_var]
    have len := hper.length_eq
    rw [List.length_append] at len
    rw [List.length_cons] at hn
    simp only [↓xs_cons, ↓xs_nil, ↓x_expr, List.set_cons_succ, List.set_cons_zero]
    rw [c_meth (n := (ah ++ [Cell.lst xs]).length) rfl hT, cs_cons, c_meth (n := ah.length) rfl hL]
    simp only [↓cs_cons, ↓cs_nil, ↓c_call, ↓c_call1, ↓c_var, List.getElem?_cons_zero, List.getElem?_cons_succ, Option.join_some, ↓run_some, B1.g, ↓g_lenR hL]
    refine use_draw hd g.pool (by omega) (by omega) fun k ah1 k0 k1 dr => ?_
    have hl1 := dr.cell hL (by have := g.pl; omega)
    have hk : k.toNat < L.length := by omega
    rw [show Mt.popAt.g = popAtD from rfl]
    rw [g_popAt hl1 k0 k1 (by omega) hk]
    have hT1 : (ah1.set ah.length (.lst (L.eraseIdx k.toNat)))[(ah ++ [Cell.lst xs]).length]? = some (.lst T) := by
      rw [List.getElem?_set_ne (by simp)]
      exact dr.cell hT (by have := g.pl; simp; omega)
    rw [show Mt.append.g = appendD from rfl]
    rw [g_append hT1 (by rw [sizeLine_eq]; omega)]
    have lL := (List.getElem?_eq_some_iff.mp hl1).1
    have lT := (List.getElem?_eq_some_iff.mp hT1).1
    refine ⟨some d, L.eraseIdx k.toNat, T ++ [L[k.toNat]], rfl, ?_, ?_, ?_, ?_, ?_⟩
    · rw [List.getElem?_set_ne (by simp), List.getElem?_set_self lL]
    · rw [List.getElem?_set_self lT]
    · rw [List.length_eraseIdx_of_lt hk]; omega
    · rw [List.append_assoc]
      refine .trans (.append_left T ?_) hper
      exact erase_perm L k.toNat hk
    · exact ((g.drew dr).set (Nat.le_refl _)).set (by simp)
  · rintro env ah' ⟨o4, L, T, rfl, hL, hT, hn, hper, g⟩
    refine ⟨trivial, ?_⟩
    simp only [List.getElem?_cons_zero, List.getElem?_cons_succ, Option.join_some, run_some]
    have : L = [] := List.length_eq_zero_iff.mp hn
    subst this
    rw [List.append_nil] at hper
    refine ⟨_, .inl rfl, ?_, _, T, rfl, by simp, hT, hper, g⟩
    simp [D.under]
  · refine ⟨none, xs, [], rfl, ?_, ?_, ?_, ?_, ?_⟩
    · rw [List.append_assoc, List.getElem?_append_right (Nat.le_refl _)]; simp
    · rw [List.getElem?_append_right (Nat.le_refl _)]; simp
    · unfold rangeD; simp
    · exact .refl _
    · exact ((Grew.refl hp).push _).push _
/-! ### _law_some -/
def someB : Ss := (.cons (.ret (.callL .tup (.nw (.sort (.lc (.vl (.var 1)) (.var 3) (.some (.cmp .eq (.call 6 (.cons (.var 0) (.cons (.var 2) .nil))) (.int 0))) (.var 3) [("thing", 3)]))))) .nil)
def SomeOk (m : List D → M D) : Prop := ∀ (s : Sh) (p q : Nat) (ah : AH) (ds : List D) (n : Int), PoolOk p q ah → Has (.seq s) (.tup ds) → s.dep ≤ 40 → 0 < n → n < 2 ^ 30 → Run (m [.ref p, .tup ds, .int n]) ah fun d ah' => (∃ es, d = .tup es ∧ ∀ e ∈ es, e ∈ ds) ∧ Has (.seq s) d ∧ Drew p q ah ah'
theorem some_ok {Γ : Nat → List D → M D} {κ : Nat → D} (hd : DrawOk (Γ 6)) : SomeOk (defM 3 4 (semSs Γ κ someB)) := by
  intro s p q ah ds n hp hs hdep hn hn2
  obtain ⟨ds', e', hl, hs⟩ := hs
  cases e'
  refine def_drew (p := p) (q := q) rfl ?_
  show Run (semSs Γ κ someB [some (.ref p), some (.tup ds), some (.int n), none]) ah _
  unfold someB
  simp only [↓xs_cons, ↓xs_nil, ↓x_ret, ↓c_callL, ↓l_nw, ↓n_sort, ↓n_lc, ↓i_vl, ↓c_var, List.getElem?_cons_zero, List.getElem?_cons_succ, Option.join_some, ↓run_some]
  show Run (lcGo _ _ _ (keeps none ds) _ ds) ah _
  refine lc_inv (fun done acc ah' => Grew p q ah ah' ∧ (∀ e ∈ acc, e ∈ ds) ∧ acc.length ≤ done.length) ?_ ?_ ?_
  · rintro done d rest acc ah' e ⟨g, hm, hc⟩
    refine ⟨trivial, ?_⟩
    rw [p_var, to_some]
    simp only [List.map_cons, List.map_nil, wipeD, List.set_cons_succ, List.set_cons_zero, ↓t_cmp, ↓c_call, ↓cs_cons, ↓cs_nil, ↓c_var, ↓c_int, List.getElem?_cons_zero, List.getElem?_cons_succ, Option.join_some, ↓run_some, CmpO.g, ↓g_eqI]
    refine use_draw hd g.pool hn hn2 fun k ah1 k0 k1 dr => ?_
    rw [g_eqI]
    dsimp only
    by_cases hk : k = 0
    · rw [if_pos (by simpa using hk)]
      refine ⟨g.drew dr, fun x hx => ?_, by simp; omega⟩
      rcases List.mem_append.mp hx with hx | hx
      · exact hm x hx
      · rw [List.mem_singleton.mp hx, e]; simp
    · rw [if_neg (by simpa using hk)]
      exact ⟨g.drew dr, hm, by simp; omega⟩
  · rintro acc ah' ⟨g, hm, hc⟩
    refine ⟨trivial, ?_⟩
    have hs2 : ∀ d ∈ acc, Has s d := fun d hd => hs d (hm d hd)
    rw [run_sort hs2 hdep]
    have hl2 : Has (.seq s) (.tup (sortD acc)) := ⟨_, rfl, by rw [length_sortD]; omega, fun e he => hs2 e (mem_sortD.mp he)⟩
    refine ⟨.tup (sortD acc), .inl rfl, hl2.pure, g, fun ah2 dr => ⟨⟨_, rfl, fun e he => hm e (mem_sortD.mp he)⟩, hl2, dr⟩⟩
  · exact ⟨.refl hp, fun e he => (by cases he), Nat.le_refl _⟩
end Ev

set_option Elab.async false
set_option linter.all false
set_option maxRecDepth 100000
set_option maxHeartbeats 2000000
set_option autoImplicit false
namespace Ev
open PySem L2
section
variable {ah : AH} {P : D → AH → Prop} {n m : Nat} {xs ys : List D}
theorem g_addR (h : ah[n]? = some (.lst xs)) (k : ah[m]? = some (.lst ys)) : Run (addD (.ref n) (.ref m)) ah P ↔ if xs.length + ys.length ≤ sizeLine then P (.ref ah.length) (ah ++ [.lst (xs ++ ys)]) else False := by
  show Run (rdLst n >>= fun xs => rdLst m >>= fun ys => if xs.length + ys.length ≤ sizeLine then alloc (.lst (xs ++ ys)) else bad) ah P ↔ _
  rw [run_bind, run_rd h, run_bind, run_rd k, run_ite]
  exact Iff.rfl
theorem g_sliceR {lo hi : Option Int} (h : ah[n]? = some (.lst xs)) : Run (sliceD (.ref n) lo hi) ah P ↔ P (.ref ah.length) (ah ++ [.lst (cutD xs lo hi)]) := by
  show Run (itemsM (.ref n) >>= fun p => alloc (.lst (cutD p.1 lo hi))) ah P ↔ _
  rw [run_bind, run_itL h, run_alloc]
theorem g_sliceT {lo hi : Option Int} {ds : List D} : Run (sliceD (.tup ds) lo hi) ah P ↔ P (.tup (cutD ds lo hi)) ah := Iff.rfl
theorem cut_pre {xs : List D} {k : Nat} : cutD xs none (some (k : Int)) = xs.take k := by
  unfold cutD
  rw [HT.sIx_none, HT.sIx_nat, List.drop_zero, Nat.sub_zero]
  rcases Nat.le_total k xs.length with h | h
  · rw [Nat.min_eq_left h]
  · rw [Nat.min_eq_right h, List.take_length, List.take_of_length_le h]
theorem cut_post {xs : List D} {k : Nat} : cutD xs (some (k : Int)) none = xs.drop k := by
  unfold cutD
  rw [HT.sIx_none, HT.sIx_nat]
  rcases Nat.le_total k xs.length with h | h
  · rw [Nat.min_eq_left h, List.take_of_length_le (by simp)]
  · rw [Nat.min_eq_right h, List.drop_length, List.drop_of_length_le h]; simp
theorem use_some {p q : Nat} {f : List D → M D} {s : Sh} {ds : List D} {k : Int} (h : SomeOk f) (hp : PoolOk p q ah) (hs : Has (.seq s) (.tup ds)) (hd : s.dep ≤ 40) (hn : 0 < k) (hn2 : k < 2 ^ 30) (c : ∀ es ah1, (∀ e ∈ es, e ∈ ds) → Has (.seq s) (.tup es) → Drew p q ah ah1 → P (.tup es) ah1) : Run (f [.ref p, .tup ds, .int k]) ah P :=
  (h s p q ah ds k hp hs hd hn hn2).mono fun d ah1 ⟨⟨es, e, h1⟩, h2, h3⟩ => by subst e; exact c es ah1 h1 h2 h3
end
/-! ### _law_names -/
def namesB : Ss := (.cons (.set 2 (.new (.disp (.cons (.str "a") (.cons (.str "ab") (.cons (.str "ab1") (.cons (.str "own") (.cons (.str "read") (.cons (.str "z9z9z9z9") (.cons (.str "boss") (.cons (.str "clerk") (.cons (.str "doc") (.cons (.str "x") (.cons (.str "x0") (.cons (.str "book") (.cons (.str "give") (.cons (.str "actor") .nil))))))))))))))))) (.cons (.expr (.mth .extend (.var 2) (.cons (.new (.disp (.cons (.str "when") (.cons (.str "then") (.cons (.str "may") (.cons (.str "start") (.cons (.str "role") (.cons (.str "kind") (.cons (.str "command") (.cons (.str "right") (.cons (.str "things") (.cons (.str "b") (.cons (.str "c7") (.cons (.str "note") .nil)))))))))))))) .nil))) (.cons (.expr (.mth .append (.var 2) (.cons (.str "never") .nil))) (.cons (.ret (.slice (.call 7 (.cons (.var 0) (.cons (.bin .add (.var 2) (.new (.disp (.cons (.str "other") .nil)))) .nil))) .none (.some (.var 1)))) .nil))))
def AllS (ds : List D) : Prop := ∀ d ∈ ds, Has .str d
def NamesOk (m : List D → M D) : Prop := ∀ (p q : Nat) (ah : AH), PoolOk p q ah → Run (m [.ref p, .int 26]) ah fun d ah' => ∃ u ys, d = .ref u ∧ ah.length ≤ u ∧ ah'[u]? = some (.lst ys) ∧ ys.length = 26 ∧ AllS ys ∧ Grew p q ah ah'
theorem names_ok {Γ : Nat → List D → M D} {κ : Nat → D} (hd : ShufOk (Γ 7)) : NamesOk (defM 2 3 (semSs Γ κ namesB)) := by
  intro p q ah hp
  refine def_laid (P := fun d ah' => ∃ u ys, d = D.ref u ∧ ah.length ≤ u ∧ ah'[u]? = some (.lst ys) ∧ ys.length = 26 ∧ AllS ys ∧ Grew p q ah ah') rfl ?_
  show Run (semSs Γ κ namesB [some (.ref p), some (.int 26), none]) ah _
  unfold namesB
  simp only [↓xs_cons, ↓xs_nil, ↓x_set, ↓c_new, ↓n_disp, ↓cs_cons, ↓cs_nil, ↓c_str, List.length_cons, List.length_nil, List.set_cons_succ, List.set_cons_zero, ↓x_expr]
  rw [if_pos (by rw [sizeLine_eq]; omega)]
  have at0 : ∀ (ah : AH) (c : Cell), (ah ++ [c])[ah.length]? = some c := fun ah c => by simp
  rw [c_meth rfl (at0 _ _)]
  simp only [↓c_new, ↓n_disp, ↓cs_cons, ↓cs_nil, ↓c_str, List.length_cons, List.length_nil]
  rw [if_pos (by rw [sizeLine_eq]; omega), show Mt.extend.g = extendD from rfl]
  rw [g_extend (by rw [List.getElem?_append_left (by simp)]; exact at0 _ _) (at0 _ _) (by rw [sizeLine_eq]; simp)]
  rw [c_meth rfl (List.getElem?_set_self (by simp))]
  simp only [↓cs_cons, ↓cs_nil, ↓c_str]
  rw [show Mt.append.g = appendD from rfl, g_append (List.getElem?_set_self (by simp)) (by rw [sizeLine_eq]; simp), List.set_set]
  generalize hah : List.set (ah ++ [_] ++ [_]) ah.length _ = ah1
  have g1 : Grew p q ah ah1 := by rw [← hah]; exact (((Grew.refl hp).push _).push _).set (Nat.le_refl _)
  obtain ⟨X, hX, h1⟩ : ∃ X : List Str, X.length = 27 ∧ ah1[ah.length]? = some (.lst (X.map D.str)) := ⟨(["a", "ab", "ab1", "own", "read", "z9z9z9z9", "boss", "clerk", "doc", "x", "x0", "book", "give", "actor", "when", "then", "may", "start", "role", "kind", "command", "right", "things", "b", "c7", "note", "never"] : List String).map Str.ofString, rfl, by rw [← hah]; exact List.getElem?_set_self (by simp)⟩
  have l1 := (List.getElem?_eq_some_iff.mp h1).1
  simp only [↓x_ret, ↓c_slice, ↓c_call, ↓cs_cons, ↓cs_nil, ↓c_bin, ↓c_var, List.getElem?_cons_zero, List.getElem?_cons_succ, Option.join_some, ↓run_some, ↓c_new, ↓n_disp, ↓c_str, List.length_cons, List.length_nil, BinO.g]
  rw [if_pos (by rw [sizeLine_eq]; omega), g_addR (by rw [List.getElem?_append_left l1]; exact h1) (at0 _ _), if_pos (by rw [sizeLine_eq, List.length_map, hX]; simp)]
  have hp1 := g1.pool
  refine (hd p q _ _ _ ((hp1.of (List.getElem?_append_left hp1.pl) (List.getElem?_append_left hp1.ql)).of (List.getElem?_append_left (by have := hp1.pl; simp; omega)) (List.getElem?_append_left (by have := hp1.ql; simp; omega))) (at0 _ _) (by have := hp1.pl; simp; omega) (by simp; omega)).mono ?_
  rintro d ah2 ⟨u, ys, rfl, hu, hys, per, g2⟩
  simp only [↓o_none, ↓o_some, ↓c_var, List.getElem?_cons_zero, List.getElem?_cons_succ, Option.join_some, ↓run_some]
  rw [g_sliceR hys]
  have len := per.length_eq
  refine ⟨_, .inl rfl, by have := g1.len; have := g2.len; simp [D.under] at *; omega, _, _, rfl, ?_, at0 _ _, ?_, ?_, ?_⟩
  · have := g1.len; have := g2.len; simp at *; omega
  · show (cutD ys none (some ((26 : Nat) : Int))).length = 26
    rw [cut_pre, List.length_take, len]; simp; omega
  · intro y hy
    have hy : y ∈ cutD ys none (some ((26 : Nat) : Int)) := hy
    rw [cut_pre] at hy
    have hy := per.mem_iff.mp (List.mem_of_mem_take hy)
    simp only [List.mem_append, List.mem_map, List.mem_singleton] at hy
    rcases hy with ⟨s, _, rfl⟩ | rfl
    · exact ⟨_, rfl⟩
    · exact ⟨_, rfl⟩
  · exact ((((g1.push _).push _).trans g2).push _)
end Ev

set_option Elab.async false
set_option linter.all false
set_option maxRecDepth 100000
set_option maxHeartbeats 2000000
set_option autoImplicit false
namespace Ev
open PySem L2
/-! ### _law_pool -/
def poolB (Z : Int) : Ss := (.cons (.ret (.new (.disp (.cons (.new (.lc (.vl (.slice (.var 0) .none (.some (.int 63)))) (.var 1) .none (.call1 .abs (.call1 .int (.var 1))) [("cell", 1)])) (.cons (.int 0) (.cons (.int 0) (.cons (.int Z) .nil))))))) .nil)
def PoolMk (m : List D → M D) : Prop := ∀ ns : List Int, Run (m [.ref 0]) (scr ns) fun d ah' => ∃ p q, d = .ref p ∧ PoolOk p q ah'
theorem pool_mk {Γ : Nat → List D → M D} {κ : Nat → D} {Z : Int} (h0 : 0 ≤ Z) (h1 : Z < 2305843009213693951) : PoolMk (defM 1 2 (semSs Γ κ (poolB Z))) := by
  intro ns
  refine def_laid (P := fun d ah' => ∃ p q, d = D.ref p ∧ PoolOk p q ah') rfl ?_
  show Run (semSs Γ κ (poolB Z) [some (.ref 0), none]) (scr ns) _
  unfold poolB
  simp only [↓xs_cons, ↓xs_nil, ↓x_ret, ↓c_new, ↓n_disp, ↓cs_cons, ↓cs_nil, ↓c_int, ↓n_lc, ↓i_vl, ↓c_slice, ↓c_var, List.getElem?_cons_zero, List.getElem?_cons_succ, Option.join_some, ↓run_some, ↓o_none, ↓o_some, List.length_cons, List.length_nil]
  have e0 : (scr ns)[0]? = some (.ro (ns.map D.int)) := rfl
  show Run (itemsM (.ref 0) >>= fun p => alloc (.lst (cutD p.1 none (some ((63 : Nat) : Int))))) (scr ns) _
  rw [run_bind, run_itR e0, run_alloc]
  show Run (itemsM (.ref 1) >>= fun p => ret (p.1, keeps p.2 p.1)) (scr ns ++ [Cell.lst (cutD (ns.map D.int) none (some ((63 : Nat) : Int)))]) _
  have e1 : (scr ns ++ [Cell.lst (cutD (ns.map D.int) none (some ((63 : Nat) : Int)))])[1]? = some (.lst (cutD (ns.map D.int) none (some ((63 : Nat) : Int)))) := rfl
  rw [run_bind, run_itL e1, run_ret]
  refine lc_pure (fun _ => true) (fun d => match d with | .int i => .int (if i < 0 then -i else i) | d => d) (by exact .inl e1) (fun d hd => ?_) ?_
  · rw [cut_pre] at hd
    obtain ⟨i, _, rfl⟩ := List.mem_map.mp (List.mem_of_mem_take hd)
    rw [p_var]
    refine ⟨rfl, ?_⟩
    rw [to_none]
    refine ⟨rfl, rfl, fun _ => ?_⟩
    simp only [List.map_cons, List.map_nil, wipeD, List.set_cons_succ, List.set_cons_zero, ↓c_call1, ↓c_var, List.getElem?_cons_zero, List.getElem?_cons_succ, Option.join_some, ↓run_some, B1.g, ↓g_int, ↓g_abs]
    exact ⟨trivial, trivial⟩
  · rw [List.filter_eq_self.mpr (fun _ _ => rfl), cut_pre, if_pos (by rw [sizeLine_eq]; omega)]
    refine ⟨_, .inl rfl, by simp [D.under, scr], 3, 2, rfl, ?_⟩
    have : ((ns.map D.int).take 63).map (fun d => match d with | .int i => D.int (if i < 0 then -i else i) | d => d) = ((ns.take 63).map fun i => if i < 0 then -i else i).map D.int := by
      rw [← List.map_take, List.map_map, List.map_map]; rfl
    rw [this]
    refine ⟨(ns.take 63).map fun i => if i < 0 then -i else i, 0, 0, Z, rfl, rfl, by decide, fun i hi => ?_, by decide, by decide, h0, h1⟩
    obtain ⟨z, _, rfl⟩ := List.mem_map.mp hi
    split <;> omega
end Ev

set_option Elab.async false
set_option linter.all false
set_option maxRecDepth 100000
set_option maxHeartbeats 2000000
set_option autoImplicit false
namespace Ev
open PySem L2
/-! ### names popped from a list -/
structure Pop (p q u : Nat) (ah ah' : AH) : Prop where
  len : ah'.length = ah.length
  keep : ∀ i, i ≠ p → i ≠ u → ah'[i]? = ah[i]?
  pool : PoolOk p q ah'
section
variable {p q u : Nat} {ah ah1 base : AH}
theorem Pop.grew (h : Pop p q u ah ah1) (g : Grew p q base ah) (hu : base.length ≤ u) : Grew p q base ah1 := by
  have := g.pl
  exact ⟨by rw [h.len]; exact g.len, fun i hi n => (h.keep i n (by omega)).trans (g.keep i hi n), h.pool, g.pl, g.ql⟩
theorem Pop.cell {i : Nat} {c : Cell} (h : Pop p q u ah ah1) (e : ah[i]? = some c) (n : i ≠ p) (m : i ≠ u) : ah1[i]? = some c := by rw [h.keep i n m]; exact e
theorem Drew.pop {ah2 : AH} {L : List D} (h : Drew p q ah ah1) (up : u ≠ p) (uq : u ≠ q) : Pop p q u ah (ah1.set u (.lst L)) :=
  ⟨by rw [List.length_set]; exact h.len, fun i n m => by rw [List.getElem?_set_ne (Ne.symm m)]; exact h.keep i n, h.pool.of (List.getElem?_set_ne up) (List.getElem?_set_ne uq)⟩
theorem Pop.set {L : List D} (h : Pop p q u ah ah1) (up : u ≠ p) (uq : u ≠ q) : Pop p q u ah (ah1.set u (.lst L)) :=
  ⟨by rw [List.length_set]; exact h.len, fun i n m => by rw [List.getElem?_set_ne (Ne.symm m)]; exact h.keep i n m, h.pool.of (List.getElem?_set_ne up) (List.getElem?_set_ne uq)⟩
theorem Pop.trans {ah2 : AH} (h : Pop p q u ah ah1) (k : Pop p q u ah1 ah2) : Pop p q u ah ah2 := ⟨k.len.trans h.len, fun i n m => (k.keep i n m).trans (h.keep i n m), k.pool⟩
end
section
variable {Γ : Nat → List D → M D} {κ : Nat → D} {env : EnvD} {ah : AH} {p q u : Nat}
theorem c_draw {k : Int} {P : D → AH → Prop} (hd : DrawOk (Γ 6)) (e : env[0]?.join = some (.ref p)) (hp : PoolOk p q ah) (h0 : 0 < k) (h1 : k < 2 ^ 20) (c : ∀ (n : Nat) ah1, (n : Int) < k → Drew p q ah ah1 → P (.int n) ah1) : Run (semC Γ κ (.call 6 (.cons (.var 0) (.cons (.int k) .nil))) env) ah P := by
  simp only [↓c_call, ↓cs_cons, ↓cs_nil, ↓c_var, ↓c_int, e, ↓run_some]
  refine use_draw hd hp h0 (by omega) fun r ah1 r0 r1 dr => ?_
  obtain ⟨n, rfl⟩ := Int.eq_ofNat_of_zero_le r0
  exact c n ah1 r1 dr
theorem i_draw {k : Int} {P : List D × (AH → Prop) → AH → Prop} (hd : DrawOk (Γ 6)) (e : env[0]?.join = some (.ref p)) (hp : PoolOk p q ah) (h0 : 0 < k) (h1 : k < 2 ^ 20) (c : ∀ (n : Nat) ah1, (n : Int) < k → Drew p q ah ah1 → P (rangeD 0 n, fun _ => True) ah1) : Run (semI Γ κ (.range1 (.call 6 (.cons (.var 0) (.cons (.int k) .nil)))) env) ah P := by
  rw [i_range1]
  refine c_draw hd e hp h0 h1 fun n ah1 hn dr => ?_
  dsimp only
  rw [if_pos (by rw [sizeLine_eq]; omega), Int.toNat_natCast]
  exact c n ah1 hn dr
theorem i_draw1 {a k : Int} {P : List D × (AH → Prop) → AH → Prop} (hd : DrawOk (Γ 6)) (e : env[0]?.join = some (.ref p)) (hp : PoolOk p q ah) (h0 : 0 < k) (h1 : k < 2 ^ 20) (a0 : 0 ≤ a) (a1 : a < 2 ^ 20) (c : ∀ (n : Nat) ah1, a ≤ n → (n : Int) < a + k → Drew p q ah ah1 → P (rangeD 0 n, fun _ => True) ah1) : Run (semI Γ κ (.range1 (.bin .add (.int a) (.call 6 (.cons (.var 0) (.cons (.int k) .nil))))) env) ah P := by
  rw [i_range1, c_bin, c_int]
  refine c_draw hd e hp h0 h1 fun n ah1 hn dr => ?_
  rw [show BinO.add.g = addD from rfl, g_add]
  dsimp only
  rw [if_pos (by rw [sizeLine_eq]; omega)]
  obtain ⟨m, hm⟩ := Int.eq_ofNat_of_zero_le (show 0 ≤ a + (n : Int) by omega)
  rw [hm]
  have := c m ah1 (by omega) (by omega) dr
  rw [show ((m : Int)).toNat = m from Int.toNat_natCast m]
  exact this
theorem pop_lc {i n : Nat} {L : List D} {P : List D → AH → Prop} (he : ∀ d, (env.set i (some d))[2]?.join = some (.ref u)) (hu : ah[u]? = some (.lst L)) (hs : AllS L) (hn : n ≤ L.length) (k : ∀ L' T, L'.length + n = L.length → T.length = n → AllS L' → AllS T → P T (ah.set u (.lst L'))) : Run (lcGo (semP (.var i)) (semTO Γ κ .none) (semC Γ κ (.mth .pop (.var 2) .nil)) (fun _ => True) env (rangeD 0 n)) ah P := by
  have ul := (List.getElem?_eq_some_iff.mp hu).1
  have rl : (rangeD 0 n).length = n := by unfold rangeD; simp
  refine lc_inv (fun done acc ah' => ∃ L', ah' = ah.set u (.lst L') ∧ L'.length + done.length = L.length ∧ acc.length = done.length ∧ AllS L' ∧ AllS acc) ?_ ?_ ?_
  · rintro done d rest acc ah' e ⟨L', rfl, h1, h2, h3, h4⟩
    refine ⟨trivial, ?_⟩
    rw [p_var, to_none, if_pos rfl]
    have el := congrArg List.length e
    rw [rl, List.length_append, List.length_cons] at el
    obtain ⟨M, x, rfl⟩ : ∃ M x, L' = M ++ [x] := by
      rcases List.eq_nil_or_concat L' with rfl | ⟨M, x, e⟩
      · simp at h1; omega
      · exact ⟨M, x, by rw [e, List.concat_eq_append]⟩
    rw [c_meth (he _) (List.getElem?_set_self ul), cs_nil, show Mt.pop.g = popD from rfl, g_pop (List.getElem?_set_self ul), List.set_set]
    refine ⟨M, rfl, by simp at h1 ⊢; omega, by simp; omega, fun y hy => h3 y (by simp [hy]), fun y hy => ?_⟩
    rcases List.mem_append.mp hy with hy | hy
    · exact h4 y hy
    · rw [List.mem_singleton.mp hy]; exact h3 x (by simp)
  · rintro acc ah' ⟨L', rfl, h1, h2, h3, h4⟩
    rw [rl] at h1 h2
    exact ⟨trivial, k L' acc h1 h2 h3 h4⟩
  · refine ⟨L, ?_, rfl, rfl, hs, fun y hy => by cases hy⟩
    obtain ⟨h, e⟩ := List.getElem?_eq_some_iff.mp hu
    rw [← e, List.set_getElem_self]
theorem n_pops {X : C} {i lo b : Nat} {nm : Str} {L : List D} {P : List D → AH → Prop} (hX : ∀ P, (∀ (n : Nat) ah1, lo ≤ n → n ≤ b → Drew p q ah ah1 → P (rangeD 0 n, fun _ => True) ah1) → Run (semI Γ κ (.range1 X) env) ah P)
    (he : ∀ d, ((env.set i none).set i (some d))[2]?.join = some (.ref u)) (hu : ah[u]? = some (.lst L)) (hs : AllS L) (hn : b ≤ L.length) (hb : b < 64) (up : u ≠ p) (uq : u ≠ q) (k : ∀ L' T ah2, (L'.length + b ≥ L.length ∧ L'.length ≤ L.length) → lo ≤ T.length → T.length ≤ b → AllS L' → AllS T → Pop p q u ah ah2 → ah2[u]? = some (.lst L') → P T ah2) : Run (semN Γ κ (.sort (.lc (.range1 X) (.var i) .none (.mth .pop (.var 2) .nil) [(nm, i)])) env) ah P := by
  have ul := (List.getElem?_eq_some_iff.mp hu).1
  rw [n_sort, n_lc]
  refine hX _ fun n ah1 n0 n1 dr => ?_
  refine pop_lc he (dr.cell hu up) hs (by omega) fun L' T h1 h2 h3 h4 => ?_
  have h5 : ∀ d ∈ T, Has .str d := h4
  rw [run_sort h5 (by decide)]
  refine k L' (sortD T) _ (by omega) (by rw [length_sortD]; omega) (by rw [length_sortD]; omega) h3 (fun y hy => h4 y (mem_sortD.mp hy)) (dr.pop (ah2 := []) up uq) (List.getElem?_set_self (by rw [dr.len]; exact ul))
end
theorem g_tupL {ds : List D} {ah : AH} {P : D → AH → Prop} : Run (BL.tup.g ds) ah P ↔ P (.tup ds) ah := Iff.rfl
theorem g_lenL {ds : List D} {ah : AH} {P : D → AH → Prop} : Run (BL.len.g ds) ah P ↔ P (.int ds.length) ah := Iff.rfl
/-! ### kinds -/
def kindW : Ss := (.cons (.expr (.mth .append (.var 4) (.cons (.tup (.cons (.mth .pop (.var 2) .nil) (.cons (.callL .tup (.nw (.sort (.lc (.range1 (.call 6 (.cons (.var 0) (.cons (.int 4) .nil)))) (.var 16) .none (.mth .pop (.var 2) .nil) [("turn", 16)])))) .nil))) .nil))) .nil)
abbrev kSh : Sh := .two .str (.seq .str)
section
variable {Γ : Nat → List D → M D} {κ : Nat → D} {ah base : AH} {p q u v : Nat}
theorem kind_turn {L K : List D} {e1 e3 e5 e6 e7 e8 e9 e10 e11 e12 e13 e14 e15 e16 : Option D} {P : Flw × EnvD → AH → Prop} (hd : DrawOk (Γ 6)) (g : Grew p q base ah) (bu : base.length ≤ u) (bv : base.length ≤ v) (uv : u ≠ v) (hu : ah[u]? = some (.lst L)) (hv : ah[v]? = some (.lst K)) (hs : AllS L) (hL : 4 ≤ L.length) (hk : ∀ e ∈ K, Has kSh e) (hK : K.length < 100)
    (c : ∀ L' k ah1, Grew p q base ah1 → ah1[u]? = some (.lst L') → ah1[v]? = some (.lst (K ++ [k])) → AllS L' → (L'.length + 4 ≥ L.length ∧ L'.length ≤ L.length) → Has kSh k → P (.next, [some (.ref p), e1, some (.ref u), e3, some (.ref v), e5, e6, e7, e8, e9, e10, e11, e12, e13, e14, e15, e16]) ah1) :
    Run (semSs Γ κ kindW [some (.ref p), e1, some (.ref u), e3, some (.ref v), e5, e6, e7, e8, e9, e10, e11, e12, e13, e14, e15, e16]) ah P := by
  have up : u ≠ p := by have := g.pl; omega
  have uq : u ≠ q := by have := g.ql; omega
  have vp : v ≠ p := by have := g.pl; omega
  have ul := (List.getElem?_eq_some_iff.mp hu).1
  obtain ⟨M, x, rfl⟩ : ∃ M x, L = M ++ [x] := by
    rcases List.eq_nil_or_concat L with rfl | ⟨M, x, e⟩
    · simp at hL
    · exact ⟨M, x, by rw [e, List.concat_eq_append]⟩
  unfold kindW
  simp only [↓xs_cons, ↓xs_nil, ↓x_expr]
  rw [c_meth (n := v) rfl hv, cs_cons, c_tup, cs_cons, c_meth (n := u) rfl hu, cs_nil, show Mt.pop.g = popD from rfl, g_pop hu, cs_cons, c_callL, l_nw]
  have g1 : Grew p q base (ah.set u (.lst M)) := g.set bu
  have hx : Has .str x := hs x (by simp)
  refine n_pops (lo := 0) (b := 3) (p := p) (q := q) (fun P c => i_draw hd rfl g1.pool (by decide) (by decide) fun n ah1 hn dr => c n ah1 (by omega) (by omega) dr) (fun d => rfl) (List.getElem?_set_self ul) (fun y hy => hs y (by simp [hy])) (by simp at hL; omega) (by decide) up uq fun L' T ah2 h1 h2 h3 h4 h5 pp h6 => ?_
  rw [g_tupL, cs_nil, if_pos (by rw [sizeLine_eq]; simp), cs_nil]
  have hv2 : ah2[v]? = some (.lst K) := pp.cell (by rw [List.getElem?_set_ne uv]; exact hv) vp (Ne.symm uv)
  have vl := (List.getElem?_eq_some_iff.mp hv2).1
  rw [show Mt.append.g = appendD from rfl, g_append hv2 (by rw [sizeLine_eq]; omega)]
  refine c L' (.tup [x, .tup T]) _ ((pp.grew g1 bu).set bv) ?_ (List.getElem?_set_self vl) h4 (by simp at *; omega) ⟨x, _, rfl, hx, T, rfl, by omega, h5⟩
  rw [List.getElem?_set_ne (Ne.symm uv)]; exact h6
end
end Ev

set_option Elab.async false
set_option linter.all false
set_option maxRecDepth 100000
set_option maxHeartbeats 2000000
set_option autoImplicit false
namespace Ev
open PySem L2
theorem run_walkT {ds : List D} {ah : AH} {P : List D × (AH → Prop) → AH → Prop} : Run (walkM (.tup ds)) ah P ↔ P (ds, fun _ => True) ah := Iff.rfl
theorem run_walkL {n : Nat} {ds : List D} {ah : AH} {P : List D × (AH → Prop) → AH → Prop} (h : ah[n]? = some (.lst ds)) : Run (walkM (.ref n)) ah P ↔ P (ds, keeps (some n) ds) ah := by
  show Run (itemsM (.ref n) >>= fun p => ret (p.1, keeps p.2 p.1)) ah P ↔ _
  rw [run_bind, run_itL h]; exact Iff.rfl
/-! ### starts -/
def allowW : Ss := (.cons (.set 14 (.new (.lc (.range1 (.bin .add (.int 1) (.call 6 (.cons (.var 0) (.cons (.int 3) .nil))))) (.var 16) .none (.call 10 (.cons (.var 0) (.cons (.var 12) (.cons (.int 2) .nil)))) [("turn", 16)]))) (.cons (.expr (.mth .append (.var 10) (.cons (.callL .tup (.nw (.sortX (.of false (.vl (.var 14)))))) .nil))) .nil))
abbrev aSh : Sh := .seq (.seq .str)
def startW : Ss := (.cons (.set 10 (.new (.disp .nil))) (.cons (.for (.tup (.cons (.var 11) (.cons (.var 12) .nil))) (.vl (.var 4)) allowW) (.cons (.expr (.mth .append (.var 6) (.cons (.tup (.cons (.var 7) (.cons (.call 10 (.cons (.var 0) (.cons (.var 3) (.cons (.int 4) .nil)))) (.cons (.callL .tup (.vl (.var 10))) .nil)))) .nil))) .nil)))
/-- a start of so many kinds -/
def IsStart (n : Nat) (d : D) : Prop := ∃ nm rs al, d = .tup [nm, .tup rs, .tup al] ∧ Has .str nm ∧ Has (.seq .str) (.tup rs) ∧ al.length = n ∧ ∀ a ∈ al, ∃ sets, a = .tup sets ∧ sets.length ≤ 3 ∧ ∀ e ∈ sets, Has (.seq .str) e
theorem at0 {ah : AH} {c : Cell} : (ah ++ [c])[ah.length]? = some c := by simp
section
variable {Γ : Nat → List D → M D} {κ : Nat → D} {ah base : AH} {p q v : Nat}
theorem allow_turn {A rights : List D} {e1 e2 e3 e4 e5 e6 e7 e8 e9 e11 e13 e14 e15 e16 : Option D} {P : Flw × EnvD → AH → Prop} (hd : DrawOk (Γ 6)) (hsm : SomeOk (Γ 10)) (g : Grew p q base ah) (bv : base.length ≤ v) (hv : ah[v]? = some (.lst A)) (hr : Has (.seq .str) (.tup rights)) (hA : A.length < 100)
    (c : ∀ sets o14 ah1, Grew p q base ah1 → ah1[v]? = some (.lst (A ++ [.tup sets])) → sets.length ≤ 3 → (∀ e ∈ sets, Has (.seq .str) e) → P (.next, [some (.ref p), e1, e2, e3, e4, e5, e6, e7, e8, e9, some (.ref v), e11, some (.tup rights), e13, o14, e15, e16]) ah1) :
    Run (semSs Γ κ allowW [some (.ref p), e1, e2, e3, e4, e5, e6, e7, e8, e9, some (.ref v), e11, some (.tup rights), e13, e14, e15, e16]) ah P := by
  have vp : v ≠ p := by have := g.pl; omega
  have vl := (List.getElem?_eq_some_iff.mp hv).1
  unfold allowW
  simp only [↓xs_cons, ↓xs_nil, ↓x_set, ↓c_new, ↓n_lc, ↓x_expr]
  refine i_draw1 hd rfl g.pool (by decide) (by decide) (by decide) (by decide) fun n ah1 n0 n1 dr => ?_
  have rl : (rangeD 0 n).length = n := by unfold rangeD; simp
  have g0 : Grew p q ah ah1 := dr.grew g.pool
  refine lc_inv (fun done acc ah' => Grew p q ah ah' ∧ (∀ e ∈ acc, Has (.seq .str) e) ∧ acc.length ≤ done.length) ?_ ?_ ?_
  · rintro done d rest acc ah' e ⟨g', hm, hc⟩
    refine ⟨trivial, ?_⟩
    rw [p_var, to_none, if_pos rfl]
    simp only [List.map_cons, List.map_nil, wipeD, List.set_cons_succ, List.set_cons_zero, ↓c_call, ↓cs_cons, ↓cs_nil, ↓c_var, ↓c_int, List.getElem?_cons_zero, List.getElem?_cons_succ, Option.join_some, ↓run_some]
    refine use_some hsm g'.pool hr (by decide) (by decide) (by decide) fun es ah2 h1 h2 dr2 => ?_
    refine ⟨g'.drew dr2, fun y hy => ?_, by simp; omega⟩
    rcases List.mem_append.mp hy with hy | hy
    · exact hm y hy
    · rw [List.mem_singleton.mp hy]; exact h2
  · rintro acc ah' ⟨g', hm, hc⟩
    refine ⟨trivial, ?_⟩
    rw [rl] at hc
    have hv1 := g'.cell hv vp
    have vl1 := (List.getElem?_eq_some_iff.mp hv1).1
    have hv2 : (ah' ++ [Cell.lst acc])[v]? = some (.lst A) := by rw [List.getElem?_append_left vl1]; exact hv1
    simp only [List.set_cons_succ, List.set_cons_zero]
    rw [c_meth (n := v) rfl hv2, cs_cons, c_callL, l_nw, n_sortX, sx_of, l_vl, c_var]
    simp only [List.getElem?_cons_zero, List.getElem?_cons_succ, Option.join_some, run_some]
    rw [run_itL at0]
    rw [run_set (s := .seq .str) (fun d hd => ⟨hm d hd, by obtain ⟨es, e, _⟩ := hm d hd; exact ⟨es, e⟩⟩) (by decide) (by omega)]
    have hm2 : ∀ d ∈ ddup acc, Has (.seq .str) d := fun d hd => hm d (mem_ddup.mp hd)
    rw [run_sort hm2 (by decide), g_tupL, cs_nil, show Mt.append.g = appendD from rfl, g_append hv2 (by rw [sizeLine_eq]; omega)]
    refine c (sortD (ddup acc)) _ _ (((g.trans g').push _).set bv) (List.getElem?_set_self (by simp; omega)) ?_ fun e he => hm2 e (mem_sortD.mp he)
    rw [length_sortD]; have := length_ddup acc; omega
  · exact ⟨g0, fun e he => (by cases he), Nat.le_refl _⟩
theorem start_turn {S roles kinds : List D} {nm : D} {e1 e2 e5 e8 e9 e10 e11 e12 e13 e14 e15 e16 : Option D} {P : Flw × EnvD → AH → Prop} (hd : DrawOk (Γ 6)) (hsm : SomeOk (Γ 10)) (g : Grew p q base ah) (bv : base.length ≤ v) (hv : ah[v]? = some (.lst S)) (hnm : Has .str nm) (hr : Has (.seq .str) (.tup roles)) (hk : ∀ k ∈ kinds, Has kSh k) (hkl : kinds.length ≤ 2) (hS : S.length < 100)
    (c : ∀ s o10 o11 o12 o14 ah1, Grew p q base ah1 → ah1[v]? = some (.lst (S ++ [s])) → IsStart kinds.length s → P (.next, [some (.ref p), e1, e2, some (.tup roles), some (.tup kinds), e5, some (.ref v), some nm, e8, e9, o10, o11, o12, e13, o14, e15, e16]) ah1) :
    Run (semSs Γ κ startW [some (.ref p), e1, e2, some (.tup roles), some (.tup kinds), e5, some (.ref v), some nm, e8, e9, e10, e11, e12, e13, e14, e15, e16]) ah P := by
  have vp : v ≠ p := by have := g.pl; omega
  unfold startW
  simp only [↓xs_cons, ↓xs_nil, ↓x_set, ↓c_new, ↓n_disp, ↓cs_nil, List.length_nil, Nat.zero_le, if_true, List.set_cons_succ, List.set_cons_zero, ↓x_for, ↓i_vl, ↓c_var, List.getElem?_cons_zero, List.getElem?_cons_succ, Option.join_some, ↓run_some, ↓run_walkT, ↓x_expr]
  refine for_inv (fun done rest env ah' => ∃ A o11 o12 o14, env = [some (.ref p), e1, e2, some (.tup roles), some (.tup kinds), e5, some (.ref v), some nm, e8, e9, some (.ref ah.length), o11, o12, e13, o14, e15, e16] ∧ Grew p q ah ah' ∧ ah'[ah.length]? = some (.lst A) ∧ A.length = done.length ∧ ∀ a ∈ A, ∃ sets, a = .tup sets ∧ sets.length ≤ 3 ∧ ∀ e ∈ sets, Has (.seq .str) e) ?_ ?_ ?_
  · rintro done d rest env ah' e ⟨A, o11, o12, o14, rfl, g', hA, hl, hm⟩
    refine ⟨trivial, ?_⟩
    obtain ⟨k, r, rfl, hk1, rs, rfl, hrl, hrs⟩ := hk d (by rw [e]; simp)
    have el := congrArg List.length e
    rw [List.length_append, List.length_cons] at el
    simp only [↓p_tup, List.length_cons, List.length_nil, Ps.len, if_true, ↓ps_cons, ↓ps_nil, ↓p_var, List.set_cons_succ, List.set_cons_zero]
    refine allow_turn hd hsm g' (Nat.le_refl _) hA ⟨rs, rfl, hrl, hrs⟩ (by omega) fun sets o14' ah1 g1 h1 h2 h3 => ?_
    refine ⟨A ++ [.tup sets], _, _, o14', rfl, g1, h1, by simp [hl], fun a ha => ?_⟩
    rcases List.mem_append.mp ha with ha | ha
    · exact hm a ha
    · rw [List.mem_singleton.mp ha]; exact ⟨sets, rfl, h2, h3⟩
  · rintro env ah' ⟨A, o11, o12, o14, rfl, g', hA, hl, hm⟩
    refine ⟨trivial, ?_⟩
    have hv1 := g'.cell hv vp
    dsimp only
    rw [c_meth (n := v) rfl hv1]
    simp only [↓cs_cons, ↓cs_nil, ↓c_tup, ↓c_call, ↓c_callL, ↓l_vl, ↓c_var, ↓c_int, List.getElem?_cons_zero, List.getElem?_cons_succ, Option.join_some, ↓run_some]
    refine use_some hsm g'.pool hr (by decide) (by decide) (by decide) fun es ah2 h1 h2 dr2 => ?_
    have hA2 := dr2.cell hA (by have := g.pl; have := g.len; omega)
    rw [run_itL hA2, g_tupL, if_pos (by rw [sizeLine_eq]; simp), show Mt.append.g = appendD from rfl, g_append (dr2.cell hv1 vp) (by rw [sizeLine_eq]; omega)]
    have g2 := (g.trans g').drew dr2
    refine c _ _ _ _ _ _ (g2.set bv) (List.getElem?_set_self (List.getElem?_eq_some_iff.mp (dr2.cell hv1 vp)).1) ⟨nm, es, A, rfl, hnm, h2, hl, hm⟩
  · exact ⟨[], _, _, _, rfl, (Grew.refl g.pool).push _, at0, rfl, fun a ha => by cases ha⟩
end
end Ev

set_option Elab.async false
set_option linter.all false
set_option maxRecDepth 100000
set_option maxHeartbeats 2000000
set_option autoImplicit false
namespace Ev
open PySem L2
/-! ### _law_book, of no command -/
def rowW : Ss := (.cons (.asg (.tup (.cons (.var 11) (.cons (.var 12) .nil))) (.idx (.var 4) (.call 6 (.cons (.var 0) (.cons (.call1 .len (.var 4)) .nil))))) (.cons (.set 13 (.ifx (.call 6 (.cons (.var 0) (.cons (.int 3) .nil))) (.call 12 (.cons (.var 0) (.cons (.var 3) (.cons (.var 12) .nil)))) .non)) (.cons (.expr (.mth .append (.var 8) (.cons (.tup (.cons (.var 7) (.cons (.var 11) (.cons (.call 12 (.cons (.var 0) (.cons (.var 3) (.cons (.var 12) .nil)))) (.cons (.var 13) .nil))))) .nil))) .nil)))
def bookB : Ss := (.cons (.set 2 (.call 9 (.cons (.var 0) (.cons (.int 26) .nil)))) (.cons (.set 3 (.callL .tup (.nw (.sort (.lc (.range1 (.call 6 (.cons (.var 0) (.cons (.int 5) .nil)))) (.var 5) .none (.mth .pop (.var 2) .nil) [("lap", 5)]))))) (.cons (.set 4 (.new (.disp .nil))) (.cons (.for (.var 5) (.range1 (.bin .add (.int 1) (.call 6 (.cons (.var 0) (.cons (.int 2) .nil))))) kindW) (.cons (.set 4 (.callL .tup (.nw (.sortV (.var 4))))) (.cons (.set 6 (.new (.disp .nil))) (.cons (.for (.var 7) (.nw (.sort (.lc (.range1 (.bin .add (.int 1) (.call 6 (.cons (.var 0) (.cons (.int 4) .nil))))) (.var 5) .none (.mth .pop (.var 2) .nil) [("lap", 5)]))) startW) (.cons (.set 8 (.new (.disp .nil))) (.cons (.set 9 (.bin .add (.new (.lc (.range1 (.int 9)) (.var 15) .none (.bin .add (.str "k") (.call1 .str (.var 15))) [("at", 15)])) (.var 2))) (.cons (.for (.var 7) (.nw (.sortV (.slice (.call 7 (.cons (.var 0) (.cons (.var 9) .nil))) .none (.some (.call 6 (.cons (.var 0) (.cons (.bin .add (.var 1) (.int 1)) .nil))))))) rowW) (.cons (.ret (.tup (.cons (.var 3) (.cons (.var 4) (.cons (.callL .tup (.vl (.var 6))) (.cons (.callL .tup (.vl (.var 8))) .nil)))))) .nil)))))))))))
structure BookIs (roles kinds starts : List D) : Prop where
  k1 : 1 ≤ kinds.length
  k2 : kinds.length ≤ 2
  s1 : 1 ≤ starts.length
  s2 : starts.length ≤ 4
  roles : Has (.seq .str) (.tup roles)
  starts : ∀ s ∈ starts, IsStart kinds.length s
  kinds : ∀ k ∈ kinds, Has kSh k
def IsBook (d : D) : Prop := ∃ roles kinds starts, d = .tup [.tup roles, .tup kinds, .tup starts, .tup []] ∧ BookIs roles kinds starts
def BookOk (m : List D → M D) : Prop := ∀ (p q : Nat) (ah : AH), PoolOk p q ah → Run (m [.ref p, .int 0]) ah fun d ah' => IsBook d ∧ Drew p q ah ah'
theorem IsStart.pure {n : Nat} {d : D} (h : IsStart n d) : d.pure = true := by
  obtain ⟨nm, rs, al, rfl, h1, h2, h3, h4⟩ := h
  have e : pures al = true := pures_of fun a ha => by
    obtain ⟨sets, rfl, _, h5⟩ := h4 a ha
    exact pures_of fun e he => (h5 e he).pure
  show (nm.pure && ((D.tup rs).pure && (pures al && true))) = true
  rw [h1.pure, h2.pure, e]; rfl
theorem IsBook.pure {d : D} (h : IsBook d) : d.pure = true := by
  obtain ⟨roles, kinds, starts, rfl, h⟩ := h
  have e1 : pures kinds = true := pures_of fun a ha => (h.kinds a ha).pure
  have e2 : pures starts = true := pures_of fun a ha => (h.starts a ha).pure
  show ((D.tup roles).pure && (pures kinds && (pures starts && (true && true)))) = true
  rw [h.roles.pure, e1, e2]; rfl
theorem g_strI {i : Int} {ah : AH} {P : D → AH → Prop} (h : i.natAbs.log2 < 1920) : Run (strD (.int i)) ah P ↔ P (.str (toString i)) ah := by
  show Run (if i.natAbs.log2 < 1920 then ret (D.str (toString i)) else bad) ah P ↔ _
  rw [if_pos h]; exact Iff.rfl
theorem book_ok {Γ : Nat → List D → M D} {κ : Nat → D} (hd : DrawOk (Γ 6)) (hsh : ShufOk (Γ 7)) (hnm : NamesOk (Γ 9)) (hsm : SomeOk (Γ 10)) : BookOk (defM 2 17 (semSs Γ κ bookB)) := by
  intro p q ah hp
  refine def_drew (p := p) (q := q) rfl ?_
  show Run (semSs Γ κ bookB [some (.ref p), some (.int 0), none, none, none, none, none, none, none, none, none, none, none, none, none, none, none]) ah _
  unfold bookB
  rw [xs_cons, x_set]
  simp only [↓c_call, ↓cs_cons, ↓cs_nil, ↓c_var, ↓c_int, List.getElem?_cons_zero, List.getElem?_cons_succ, Option.join_some, ↓run_some]
  refine (hnm p q ah hp).mono ?_
  rintro d ah1 ⟨u, L, rfl, hu, hL, lL, sL, g1⟩
  have up : u ≠ p := by have := g1.pl; omega
  have uq : u ≠ q := by have := g1.ql; omega
  simp only [List.set_cons_succ, List.set_cons_zero]
  -- the roles
  rw [xs_cons, x_set, c_callL, l_nw]
  refine n_pops (lo := 0) (b := 4) (p := p) (q := q) (fun P c => i_draw hd rfl g1.pool (by decide) (by decide) fun n ah1 hn dr => c n ah1 (by omega) (by omega) dr) (fun d => rfl) hL sL (by omega) (by decide) up uq fun L2 roles ah2 l2 _ r2 sL2 sr pp2 hL2 => ?_
  rw [g_tupL]
  have g2 := pp2.grew g1 hu
  have hroles : Has (.seq .str) (.tup roles) := ⟨_, rfl, by omega, sr⟩
  simp only [List.set_cons_succ, List.set_cons_zero]
  -- the kinds
  rw [xs_cons, x_set, c_new, n_disp, cs_nil, if_pos (by rw [sizeLine_eq]; simp)]
  simp only [List.set_cons_succ, List.set_cons_zero]
  rw [xs_cons, x_for]
  have g3 : Grew p q ah (ah2 ++ [.lst []]) := g2.push _
  have u2 := (List.getElem?_eq_some_iff.mp hL2).1
  refine i_draw1 hd rfl g3.pool (by decide) (by decide) (by decide) (by decide) fun n ah4 n0 n1 dr4 => ?_
  have rl : (rangeD 0 n).length = n := by unfold rangeD; simp
  have g4 := g3.drew dr4
  refine for_inv (fun done rest env ah' => ∃ o5 L K, env = [some (.ref p), some (.int 0), some (.ref u), some (.tup roles), some (.ref ah2.length), o5, none, none, none, none, none, none, none, none, none, none, none] ∧ Grew p q ah ah' ∧ ah'[u]? = some (.lst L) ∧ ah'[ah2.length]? = some (.lst K) ∧ AllS L ∧ (L.length + 4 * done.length ≥ 22 ∧ L.length ≤ 26) ∧ (∀ e ∈ K, Has kSh e) ∧ K.length = done.length) ?_ ?_ ?_
  · rintro done d rest env ah' e ⟨o5, L', K, rfl, g', hu', hv', sL', lL', hK, lK⟩
    refine ⟨trivial, ?_⟩
    have el := congrArg List.length e
    rw [rl, List.length_append, List.length_cons] at el
    rw [p_var]
    simp only [List.set_cons_succ, List.set_cons_zero]
    have := g2.len
    refine kind_turn hd g' hu (by omega) (by omega) hu' hv' sL' (by omega) hK (by omega) fun L'' k ah'' g'' h1 h2 h3 h4 h5 => ?_
    refine ⟨some d, L'', K ++ [k], rfl, g'', h1, h2, h3, by simp; omega, fun e he => ?_, by simp [lK]⟩
    rcases List.mem_append.mp he with he | he
    · exact hK e he
    · rw [List.mem_singleton.mp he]; exact h5
  · rintro env ah5 ⟨o5, L5, K, rfl, g5, hu5, hv5, sL5, lL5, hK, lK⟩
    rw [rl] at lL5 lK
    refine ⟨trivial, ?_⟩
    dsimp only
    rw [xs_cons, x_set, c_callL, l_nw, n_sortV, c_var]
    simp only [List.getElem?_cons_zero, List.getElem?_cons_succ, Option.join_some, run_some]
    rw [run_bind, run_itL hv5, run_sort hK (by decide), g_tupL]
    have hK2 : ∀ k ∈ sortD K, Has kSh k := fun k hk => hK k (mem_sortD.mp hk)
    have lK2 : (sortD K).length = n := by rw [length_sortD]; exact lK
    generalize sortD K = kinds at hK2 lK2 ⊢
    simp only [List.set_cons_succ, List.set_cons_zero]
    -- the starts
    rw [xs_cons, x_set, c_new, n_disp, cs_nil, if_pos (by rw [sizeLine_eq]; simp)]
    simp only [List.set_cons_succ, List.set_cons_zero]
    rw [xs_cons, x_for, i_nw]
    have u5 := (List.getElem?_eq_some_iff.mp hu5).1
    have g6 : Grew p q ah (ah5 ++ [.lst []]) := g5.push _
    refine n_pops (lo := 1) (b := 4) (p := p) (q := q) (fun P c => i_draw1 hd rfl g6.pool (by decide) (by decide) (by decide) (by decide) fun n ah1 h0 hn dr => c n ah1 (by omega) (by omega) dr) (fun d => rfl) (show (ah5 ++ [Cell.lst []])[u]? = some (.lst L5) by rw [List.getElem?_append_left u5]; exact hu5) sL5 (by omega) (by decide) up uq fun L7 nms ah7 l7 n71 n72 sL7 snm pp7 hL7 => ?_
    have g7 := pp7.grew g6 hu
    have hv7 : ah7[ah5.length]? = some (.lst []) := pp7.cell at0 (by have := g5.pl; have := g5.len; omega) (by omega)
    have u7 := (List.getElem?_eq_some_iff.mp hL7).1
    have len7 := pp7.len
    rw [List.length_append] at len7
    obtain ⟨B, hB⟩ : ∃ B, B = ah7.take ah5.length := ⟨_, rfl⟩
    have lB : B.length = ah5.length := by rw [hB, List.length_take]; simp at len7; omega
    have tB : ∀ i, i < ah5.length → B[i]? = ah7[i]? := fun i hi => by rw [hB, List.getElem?_take_of_lt hi]
    have p5 : p < ah5.length := g5.pool.pl
    have q5 : q < ah5.length := g5.pool.ql
    have gB : Grew p q ah B := ⟨by rw [lB]; exact g5.len, fun i hi n => by rw [tB i (Nat.lt_of_lt_of_le hi g5.len)]; exact g7.keep i hi n, g7.pool.of (tB p p5) (tB q q5), g7.pl, g7.ql⟩
    have gB7 : Grew p q B ah7 := ⟨by rw [lB]; simp at len7; omega, fun i hi n => (tB i (by rw [← lB]; exact hi)).symm, g7.pool, by rw [lB]; exact p5, by rw [lB]; exact q5⟩
    have hBu : B[u]? = some (.lst L7) := by rw [tB u u5]; exact hL7
    refine for_inv (fun done rest env ah' => ∃ o5 o7 o10 o11 o12 o14 S, env = [some (.ref p), some (.int 0), some (.ref u), some (.tup roles), some (.tup kinds), o5, some (.ref ah5.length), o7, none, none, o10, o11, o12, none, o14, none, none] ∧ Grew p q B ah' ∧ ah'[ah5.length]? = some (.lst S) ∧ (∀ s ∈ S, IsStart kinds.length s) ∧ S.length = done.length) ?_ ?_ ?_
    · rintro done d rest env ah' e ⟨o5, o7, o10, o11, o12, o14, S, rfl, g', hv', hS, lS⟩
      have e : nms = done ++ d :: rest := e
      refine ⟨trivial, ?_⟩
      have el := congrArg List.length e
      rw [List.length_append, List.length_cons] at el
      rw [p_var]
      simp only [List.set_cons_succ, List.set_cons_zero]
      have hnm7 : Has .str d := snm d (by rw [e]; simp)
      refine start_turn hd hsm g' (by omega) hv' hnm7 hroles hK2 (by omega) (by omega) fun s o10' o11' o12' o14' ah'' g'' h1 h2 => ?_
      refine ⟨_, _, o10', o11', o12', o14', S ++ [s], rfl, g'', h1, fun e he => ?_, by simp [lS]⟩
      rcases List.mem_append.mp he with he | he
      · exact hS e he
      · rw [List.mem_singleton.mp he]; exact h2
    · rintro env ah8 ⟨o5, o7, o10, o11, o12, o14, S, rfl, g8, hv8, hS, lS⟩
      have lS : S.length = nms.length := lS
      refine ⟨trivial, ?_⟩
      have hu8 := g8.cell hBu up
      dsimp only
      -- the rows: none
      rw [xs_cons, x_set, c_new, n_disp, cs_nil, if_pos (by rw [sizeLine_eq]; simp)]
      simp only [List.set_cons_succ, List.set_cons_zero]
      rw [xs_cons, x_set, c_bin, c_new, n_lc, i_range1, c_int]
      dsimp only
      rw [if_pos (by rw [sizeLine_eq]; omega)]
      have g9 : Grew p q B (ah8 ++ [.lst []]) := g8.push _
      have r9 : (rangeD 0 ((9 : Int)).toNat).length = 9 := by unfold rangeD; simp
      refine lc_inv (fun done acc ah' => ah' = ah8 ++ [.lst []] ∧ AllS acc ∧ acc.length ≤ done.length) ?_ ?_ ?_
      · rintro done d rest acc ah' e ⟨rfl, hm, hc⟩
        refine ⟨trivial, ?_⟩
        obtain ⟨i, hi, rfl⟩ := mem_rangeD (show d ∈ rangeD 0 ((9 : Int)).toNat by rw [e]; simp)
        have hi : i < 9 := hi
        have sk : (Str.ofString "k").length = 1 := by decide
        have sm : ∀ i, i < 9 → Str.length (toString ((i : Nat) : Int)) ≤ 100 := by decide
        rw [p_var, to_none, if_pos rfl]
        simp only [List.map_cons, List.map_nil, wipeD, List.set_cons_succ, List.set_cons_zero, ↓c_bin, ↓c_str, ↓c_call1, ↓c_var, List.getElem?_cons_zero, List.getElem?_cons_succ, Option.join_some, ↓run_some, B1.g, BinO.g]
        have lg : ∀ i, i < 9 → ((i : Nat) : Int).natAbs.log2 < 1920 := by decide +kernel
        rw [g_strI (lg i hi), g_addS, if_pos (by have := sm i hi; rw [sizeLine_eq]; omega)]
        refine ⟨rfl, fun y hy => ?_, by simp; omega⟩
        rcases List.mem_append.mp hy with hy | hy
        · exact hm y hy
        · rw [List.mem_singleton.mp hy]; exact ⟨_, rfl⟩
      · rintro acc ah' ⟨rfl, hm, hc⟩
        rw [r9] at hc
        refine ⟨trivial, ?_⟩
        rw [c_var]
        simp only [List.getElem?_cons_zero, List.getElem?_cons_succ, Option.join_some, run_some, BinO.g]
        have u8 := (List.getElem?_eq_some_iff.mp hu8).1
        have hu9 : (ah8 ++ [Cell.lst []] ++ [Cell.lst acc])[u]? = some (.lst L7) := by rw [List.append_assoc, List.getElem?_append_left u8]; exact hu8
        rw [g_addR at0 hu9, if_pos (by rw [sizeLine_eq]; omega)]
        have p8 := g8.pl
        have b8 := g8.len
        have g10 : Grew p q B (ah8 ++ [Cell.lst []] ++ [Cell.lst acc] ++ [Cell.lst (acc ++ L7)]) := (g9.push _).push _
        have hv10 : (ah8 ++ [Cell.lst []] ++ [Cell.lst acc] ++ [Cell.lst (acc ++ L7)])[ah5.length]? = some (.lst S) := by
          rw [List.append_assoc, List.append_assoc, List.getElem?_append_left (List.getElem?_eq_some_iff.mp hv8).1]; exact hv8
        have hr10 : (ah8 ++ [Cell.lst []] ++ [Cell.lst acc] ++ [Cell.lst (acc ++ L7)])[ah8.length]? = some (.lst []) := by
          rw [List.append_assoc, List.append_assoc, List.getElem?_append_right (Nat.le_refl _)]; simp
        have hm10 := at0 (ah := ah8 ++ [Cell.lst []] ++ [Cell.lst acc]) (c := Cell.lst (acc ++ L7))
        generalize ah8 ++ [Cell.lst []] ++ [Cell.lst acc] ++ [Cell.lst (acc ++ L7)] = ahx at g10 hv10 hr10 hm10 ⊢
        simp only [List.set_cons_succ, List.set_cons_zero]
        rw [xs_cons, x_for, i_nw, n_sortV, c_slice]
        simp only [↓c_call, ↓cs_cons, ↓cs_nil, ↓c_var, ↓c_int, ↓c_bin, List.getElem?_cons_zero, List.getElem?_cons_succ, Option.join_some, ↓run_some, BinO.g, ↓g_add, ↓o_none, ↓o_some]
        refine (hsh p q _ _ _ g10.pool hm10 (by simp; omega) (by simp; omega)).mono ?_
        rintro d ah11 ⟨w, ys, rfl, hw, hys, per, g11⟩
        have wp : w ≠ p := by have := g11.pl; omega
        refine use_draw hd g11.pool (by decide) (by decide) fun r ah12 r0 r1 dr12 => ?_
        have r0 : r = ((0 : Nat) : Int) := by omega
        subst r0
        dsimp only
        rw [g_sliceR (dr12.cell hys wp), cut_pre, List.take_zero, run_bind, run_itL at0]
        rw [run_sort (s := .str) (fun d hd => by cases hd) (by decide)]
        have g13 := (g11.drew dr12).push [.lst []]
        have e0 : sortD [] = [] := List.eq_nil_of_length_eq_zero (by rw [length_sortD]; rfl)
        rw [e0]
        have g14 := g10.trans g13
        have hv14 := g13.cell hv10 (by omega)
        have hr14 := g13.cell hr10 (by have := g8.pool.pl; omega)
        refine for_inv (fun done rest env ah' => rest = [] ∧ ah' = ah12 ++ [Cell.lst []] ∧ ∃ o9, env = [some (.ref p), some (.int 0), some (.ref u), some (.tup roles), some (.tup kinds), o5, some (.ref ah5.length), o7, some (.ref ah8.length), o9, o10, o11, o12, none, o14, none, none]) ?_ ?_ ?_
        · rintro done d rest env ah' _ ⟨no, _⟩; cases no
        · rintro env ah' ⟨_, rfl, o9, rfl⟩
          refine ⟨trivial, ?_⟩
          dsimp only
          simp only [↓xs_cons, ↓xs_nil, ↓x_ret, ↓c_tup, ↓cs_cons, ↓cs_nil, ↓c_callL, ↓l_vl, ↓c_var, List.getElem?_cons_zero, List.getElem?_cons_succ, Option.join_some, ↓run_some, ↓run_itL hv14, ↓run_itL hr14, ↓g_tupL, List.length_cons, List.length_nil]
          rw [if_pos (by rw [sizeLine_eq]; omega)]
          have hb : IsBook (.tup [.tup roles, .tup kinds, .tup S, .tup []]) := ⟨_, _, _, rfl, by omega, by omega, by omega, by omega, hroles, hS, hK2⟩
          exact ⟨_, .inl rfl, hb.pure, gB.trans g14, fun ah2 dr => ⟨hb, dr⟩⟩
        · exact ⟨rfl, rfl, _, rfl⟩
      · exact ⟨rfl, fun s hs => (by cases hs), Nat.le_refl _⟩
    · exact ⟨_, _, _, _, _, _, [], rfl, gB7, hv7, fun s hs => (by cases hs), rfl⟩
  · refine ⟨_, L2, [], rfl, g4, dr4.cell (by rw [List.getElem?_append_left u2]; exact hL2) up, dr4.cell at0 (by have := g2.pl; have := g2.len; omega), sL2, by simp; omega, fun s hs => (by cases hs), rfl⟩
end Ev

set_option Elab.async false
set_option linter.all false
set_option maxRecDepth 100000
set_option maxHeartbeats 2000000
set_option autoImplicit false
namespace Ev
open PySem L2
/-! ### what a def without a pool leaves -/
structure Kept (ah ah' : AH) : Prop where
  len : ah.length ≤ ah'.length
  keep : ∀ i, i < ah.length → ah'[i]? = ah[i]?
section
variable {ah ah1 ah2 : AH}
theorem Kept.refl : Kept ah ah := ⟨Nat.le_refl _, fun _ _ => rfl⟩
theorem Kept.trans (h : Kept ah ah1) (k : Kept ah1 ah2) : Kept ah ah2 := ⟨Nat.le_trans h.len k.len, fun i hi => (k.keep i (Nat.lt_of_lt_of_le hi h.len)).trans (h.keep i hi)⟩
theorem Kept.push (h : Kept ah ah1) (t : AH) : Kept ah (ah1 ++ t) := h.trans ⟨by simp, fun i hi => List.getElem?_append_left hi⟩
theorem Kept.set {u : Nat} {c : Cell} (h : Kept ah ah1) (hu : ah.length ≤ u) : Kept ah (ah1.set u c) :=
  ⟨by rw [List.length_set]; exact h.len, fun i hi => by rw [List.getElem?_set_ne (by omega)]; exact h.keep i hi⟩
theorem Kept.cell {i : Nat} {c : Cell} (h : Kept ah ah1) (e : ah[i]? = some c) : ah1[i]? = some c := by
  rw [h.keep i (List.getElem?_eq_some_iff.mp e).1]; exact e
theorem def_kept {n N : Nat} {b : EnvD → M (Flw × EnvD)} {ds : List D} {P : D → AH → Prop} (hn : ds.length = n)
    (h : Run (b (ds.map some ++ List.replicate (N - ds.length) none)) ah fun r ah' => ∃ d, (r.1 = .rt d ∨ (r.1 = .next ∧ d = .non)) ∧ d.pure = true ∧ Kept ah ah' ∧ P d ah) : Run (defM n N b ds) ah P := by
  refine run_def hn (h.mono fun r ah' ⟨d, h1, h2, g, h3⟩ => ⟨d, h1, fun _ => ?_, fun no => absurd ⟨pure_under h2, g.len, fun i hi => .inl (g.keep i hi)⟩ no⟩)
  have : ah'.take ah.length = ah := by
    refine List.ext_getElem? fun i => ?_
    by_cases hi : i < ah.length
    · rw [List.getElem?_take_of_lt hi]; exact g.keep i hi
    · rw [List.getElem?_eq_none (by rw [List.length_take]; omega), List.getElem?_eq_none (by omega)]
  rw [this]; exact h3
end
/-! ### a set comprehension that leaves the state -/
section
variable {Γ : Nat → List D → M D} {κ : Nat → D} {env : EnvD} {ah : AH}
theorem sx_sc {m : Bool} {it : It2} {p : Ev.P} {t : CO} {e : C} {own : List (Str × Nat)} {P : List D → AH → Prop} : Run (semX Γ κ (.sc m it p t e own) env) ah P ↔ Run (semI Γ κ it env) ah fun q ah' => if q.1.length < 64 then Run (scGo m (semP p) (semTO Γ κ t) (semC Γ κ e) q.2 (wipeD env (own.map (·.2))) q.1) ah' fun ys ah2 => P (ddup ys) ah2 else False := by
  simp only [semX, sSc, run_bind, run_ite, run_pure, run_bad]
theorem sc_pure {m : Bool} {g : D → EnvD → M EnvD} {t : EnvD → M Bool} {e : EnvD → M D} {gd : AH → Prop} {env : EnvD} {P : List D → AH → Prop} {ah : AH} (f : D → D) (hg : gd ah) {ds : List D}
    (turn : ∀ d ∈ ds, okItem m (f d) = true ∧ Run (g d env) ah fun env1 ah1 => ah1 = ah ∧ Run (t env1) ah fun b ah2 => ah2 = ah ∧ b = true ∧ Run (e env1) ah fun y ah3 => ah3 = ah ∧ y = f d) (h : P (ds.map f) ah) : Run (scGo m g t e gd env ds) ah P := by
  induction ds generalizing P with
  | nil =>
    show Run (guardM gd >>= fun _ => pure []) ah P
    rw [run_bind, run_guard]; exact ⟨hg, h⟩
  | cons d ds ih =>
    show Run (guardM gd >>= fun _ => quiet (g d env) >>= fun env1 => quiet (t env1) >>= fun b => if b then (quiet (e env1) >>= fun y => if okItem m y then (scGo m g t e gd env ds >>= fun ys => pure (y :: ys)) else bad) else scGo m g t e gd env ds) ah P
    rw [run_bind, run_guard]
    refine ⟨hg, ?_⟩
    obtain ⟨ok, tr⟩ := turn d (.head _)
    rw [run_bind, run_quiet]
    refine tr.mono fun env1 ah1 ⟨h1, tr⟩ => ?_
    subst h1
    rw [run_bind, run_quiet]
    refine tr.mono fun b ah2 ⟨h2, h3, tr⟩ => ?_
    subst h2 h3
    rw [if_pos rfl, run_bind, run_quiet]
    refine tr.mono fun y ah3 ⟨h4, h5⟩ => ?_
    subst h4 h5
    rw [if_pos ok, run_bind]
    exact ih (fun d hd => turn d (.tail _ hd)) h
end
/-! ### standings of starts -/
def kn : D → D
  | .tup (a :: _) => a
  | _ => .non
def its : D → List D
  | .tup ds => ds
  | _ => []
def famD : D → List D
  | .tup [k, a] => (its a).map fun x => .tup [kn k, x]
  | _ => []
def stOf (kinds : List D) : D → D
  | .tup [_, rs, .tup al] => .tup [rs, .tup (sortD ((zipD kinds al).flatMap famD))]
  | _ => .non
abbrev tSh : Sh := .two (.seq .str) (.seq kSh)
theorem mem_zipD {kinds al : List D} {d : D} (h : d ∈ zipD kinds al) : ∃ k a, k ∈ kinds ∧ a ∈ al ∧ d = .tup [k, a] := by
  unfold zipD at h
  obtain ⟨⟨k, a⟩, h1, rfl⟩ := List.mem_map.mp h
  exact ⟨k, a, (List.of_mem_zip h1).1, (List.of_mem_zip h1).2, rfl⟩
theorem fam_mem {roles kinds starts : List D} (hb : BookIs roles kinds starts) {s nm : D} {rs al : List D} (hs : s ∈ starts) (e : s = .tup [nm, .tup rs, .tup al]) {ds : List D} (hz : ∀ d ∈ ds, d ∈ zipD kinds al) : (∀ x ∈ ds.flatMap famD, Has kSh x) ∧ (ds.flatMap famD).length ≤ 3 * ds.length := by
  obtain ⟨nm', rs', al', e', h1, h2, h3, h4⟩ := hb.starts s hs
  rw [e] at e'
  cases e'
  induction ds with
  | nil => exact ⟨fun x hx => by simp at hx, by simp⟩
  | cons d ds ih =>
    obtain ⟨i1, i2⟩ := ih fun x hx => hz x (.tail _ hx)
    obtain ⟨k, a, hk, ha, rfl⟩ := mem_zipD (hz d (.head _))
    obtain ⟨x, y, rfl, hx, hy⟩ := hb.kinds k hk
    obtain ⟨sets, rfl, hl, hm⟩ := h4 a ha
    refine ⟨fun z hz => ?_, ?_⟩
    · rw [List.flatMap_cons] at hz
      rcases List.mem_append.mp hz with hz | hz
      · obtain ⟨w, hw, rfl⟩ := List.mem_map.mp hz
        exact ⟨x, w, rfl, hx, hm w hw⟩
      · exact i1 z hz
    · rw [List.flatMap_cons, List.length_append, List.length_cons]
      have : (famD (.tup [.tup [x, y], .tup sets])).length = sets.length := by simp [famD, its]
      omega
theorem stOf_has {roles kinds starts : List D} (hb : BookIs roles kinds starts) {s : D} (hs : s ∈ starts) : Has tSh (stOf kinds s) := by
  obtain ⟨nm, rs, al, e, h1, h2, h3, h4⟩ := hb.starts s hs
  obtain ⟨f1, f2⟩ := fam_mem hb hs e (ds := zipD kinds al) fun _ h => h
  subst e
  refine ⟨_, _, rfl, h2, _, rfl, ?_, fun e he => f1 e (mem_sortD.mp he)⟩
  have := zipD_len kinds al
  have := hb.k2
  rw [length_sortD]; omega
def ssB : Ss := (.cons (.set 2 (.new (.disp .nil))) (.cons (.for (.tup (.cons (.tup (.cons (.var 3) (.cons (.var 4) .nil))) (.cons (.var 5) .nil))) (.zip (.idx (.var 0) (.int 1)) (.idx (.var 1) (.int 2))) (.cons (.expr (.mth .extend (.var 2) (.cons (.new (.lc (.vl (.var 5)) (.var 6) .none (.tup (.cons (.var 3) (.cons (.var 6) .nil))) [("one", 6)])) .nil))) .nil)) (.cons (.ret (.tup (.cons (.idx (.var 1) (.int 1)) (.cons (.callL .tup (.nw (.sortV (.var 2)))) .nil)))) .nil)))
def bookD (roles kinds starts : List D) : D := .tup [.tup roles, .tup kinds, .tup starts, .tup []]
def SsOk (m : List D → M D) : Prop := ∀ (roles kinds starts : List D) (s : D) (ah : AH), BookIs roles kinds starts → s ∈ starts → Run (m [bookD roles kinds starts, s]) ah fun d ah' => ah' = ah ∧ d = stOf kinds s
theorem ss_ok {Γ : Nat → List D → M D} {κ : Nat → D} : SsOk (defM 2 7 (semSs Γ κ ssB)) := by
  intro roles kinds starts s ah hb hs
  obtain ⟨nm, rs, al, es, h1, h2, h3, h4⟩ := hb.starts s hs
  have hst := stOf_has hb hs
  have hfam := fun ds => fam_mem hb hs es (ds := ds)
  subst es
  have hzl := zipD_len kinds al
  have hk2 := hb.k2
  refine def_kept rfl ?_
  show Run (semSs Γ κ ssB [some (bookD roles kinds starts), some (.tup [nm, .tup rs, .tup al]), none, none, none, none, none]) ah _
  unfold ssB bookD
  have i1 : atI [D.tup roles, .tup kinds, .tup starts, .tup []] 1 = some (.tup kinds) := rfl
  have i2 : atI [nm, D.tup rs, .tup al] 2 = some (.tup al) := rfl
  have i3 : atI [nm, D.tup rs, .tup al] 1 = some (.tup rs) := rfl
  simp only [↓xs_cons, ↓xs_nil, ↓x_set, ↓c_new, ↓n_disp, ↓cs_nil, List.length_nil, Nat.zero_le, if_true, List.set_cons_succ, List.set_cons_zero, ↓x_for, ↓i_zip, ↓c_idx, ↓c_var, ↓c_int, List.getElem?_cons_zero, List.getElem?_cons_succ, Option.join_some, ↓run_some, ↓g_idxT, i1, i2]
  show Run (forGo _ _ (fun _ => True) (zipD kinds al) _) _ _
  refine for_inv (fun done rest env ah' => ∃ o3 o4 o5, env = [some (bookD roles kinds starts), some (.tup [nm, .tup rs, .tup al]), some (.ref ah.length), o3, o4, o5, none] ∧ Kept ah ah' ∧ ah'[ah.length]? = some (.lst (done.flatMap famD))) ?_ ?_ ?_
  · rintro done d rest env ah' e ⟨o3, o4, o5, rfl, g, hv⟩
    refine ⟨trivial, ?_⟩
    obtain ⟨k, a, hk, ha, rfl⟩ := mem_zipD (show d ∈ zipD kinds al by rw [e]; simp)
    obtain ⟨x, y, rfl, hx, hy⟩ := hb.kinds k hk
    obtain ⟨sets, rfl, hl, hm⟩ := h4 a ha
    have hdl := (hfam done fun z hz => by rw [e]; simp [hz]).2
    have el := congrArg List.length e
    rw [List.length_append, List.length_cons] at el
    simp only [↓p_tup, List.length_cons, List.length_nil, Ps.len, if_true, ↓ps_cons, ↓ps_nil, ↓p_var, List.set_cons_succ, List.set_cons_zero, ↓xs_cons, ↓xs_nil, ↓x_expr]
    rw [c_meth (n := ah.length) rfl hv, cs_cons, c_new, n_lc, i_vl, c_var]
    simp only [List.getElem?_cons_zero, List.getElem?_cons_succ, Option.join_some, run_some, run_walkT]
    refine lc_pure (fun _ => true) (fun z => .tup [x, z]) trivial (fun z hz => ?_) ?_
    · rw [p_var]
      refine ⟨rfl, ?_⟩
      rw [to_none]
      refine ⟨rfl, rfl, fun _ => ?_⟩
      simp only [List.map_cons, List.map_nil, wipeD, List.set_cons_succ, List.set_cons_zero, ↓c_tup, ↓cs_cons, ↓cs_nil, ↓c_var, List.getElem?_cons_zero, List.getElem?_cons_succ, Option.join_some, ↓run_some, List.length_cons, List.length_nil]
      rw [if_pos (by rw [sizeLine_eq]; omega)]
      exact ⟨trivial, trivial⟩
    · have vl := (List.getElem?_eq_some_iff.mp hv).1
      rw [List.filter_eq_self.mpr (fun _ _ => rfl), cs_nil, show Mt.extend.g = extendD from rfl, g_extend (by rw [List.getElem?_append_left vl]; exact hv) at0 (by rw [sizeLine_eq, List.length_map]; omega)]
      refine ⟨_, _, _, rfl, (g.push _).set (Nat.le_refl _), ?_⟩
      rw [List.getElem?_set_self (by simp; omega), List.flatMap_append]
      simp [famD, its, kn]
  · rintro env ah' ⟨o3, o4, o5, rfl, g, hv⟩
    refine ⟨trivial, ?_⟩
    obtain ⟨f1, f2⟩ := hfam (zipD kinds al) fun _ h => h
    dsimp only
    simp only [↓xs_cons, ↓xs_nil, ↓x_ret, ↓c_tup, ↓cs_cons, ↓cs_nil, ↓c_idx, ↓c_callL, ↓l_nw, ↓n_sortV, ↓c_var, ↓c_int, List.getElem?_cons_zero, List.getElem?_cons_succ, Option.join_some, ↓run_some, ↓g_idxT, i3]
    rw [run_bind, run_itL hv, run_sort f1 (by decide), g_tupL]
    simp only [List.length_cons, List.length_nil]
    rw [if_pos (by rw [sizeLine_eq]; omega)]
    exact ⟨_, .inl rfl, hst.pure, g, trivial, rfl⟩
  · exact ⟨_, _, _, rfl, Kept.refl.push _, at0⟩
end Ev

set_option Elab.async false
set_option linter.all false
set_option maxRecDepth 100000
set_option maxHeartbeats 2000000
set_option autoImplicit false
namespace Ev
open PySem L2
/-! ### start_standings, _law_starts -/
def stsB : Ss := (.cons (.ret (.callL .tup (.nw (.sortX (.sc false (.vl (.idx (.var 0) (.int 2))) (.var 1) .none (.call 1 (.cons (.var 0) (.cons (.var 1) .nil))) [("start", 1)]))))) .nil)
def lstB : Ss := (.cons (.set 1 (.new (.lc (.vl (.idx (.var 0) (.int 1))) (.tup (.cons (.var 8) (.cons (.var 9) .nil))) .none (.var 8) [("kind", 8), ("rights", 9)]))) (.cons (.set 2 (.new (.disp .nil))) (.cons (.for (.tup (.cons (.var 3) (.cons (.var 4) (.cons (.var 5) .nil)))) (.vl (.idx (.var 0) (.int 2))) (.cons (.set 6 (.new (.disp .nil))) (.cons (.for (.var 7) (.range1 (.call1 .len (.var 1))) (.cons (.expr (.mth .extend (.var 6) (.cons (.new (.lc (.vl (.idx (.var 5) (.var 7))) (.var 10) .none (.tup (.cons (.idx (.var 1) (.var 7)) (.cons (.var 10) .nil))) [("some", 10)])) .nil))) .nil)) (.cons (.expr (.mth .append (.var 2) (.cons (.tup (.cons (.var 4) (.cons (.callL .tup (.nw (.sortV (.var 6)))) .nil))) .nil))) .nil)))) (.cons (.ret (.callL .tup (.nw (.sortX (.of false (.vl (.var 2))))))) .nil))))
noncomputable def sts (kinds starts : List D) : List D := sortD (ddup (starts.map (stOf kinds)))
def StsOk (m : List D → M D) : Prop := ∀ (roles kinds starts : List D) (ah : AH), BookIs roles kinds starts → Run (m [bookD roles kinds starts]) ah fun d ah' => ah' = ah ∧ d = .tup (sts kinds starts)
theorem sts_mem {roles kinds starts : List D} (hb : BookIs roles kinds starts) : ∀ d ∈ starts.map (stOf kinds), Has tSh d := fun d hd => by
  obtain ⟨s, hs, rfl⟩ := List.mem_map.mp hd
  exact stOf_has hb hs
theorem sts_has {roles kinds starts : List D} (hb : BookIs roles kinds starts) : Has (.seq tSh) (.tup (sts kinds starts)) := by
  refine ⟨_, rfl, ?_, fun e he => sts_mem hb e (mem_ddup.mp (mem_sortD.mp he))⟩
  have := length_ddup (starts.map (stOf kinds))
  have := hb.s2
  simp only [sts, length_sortD, List.length_map] at *; omega
theorem two_tup {a b : Sh} {d : D} (h : Has (.two a b) d) : ∃ es, d = .tup es := by
  obtain ⟨x, y, e, _⟩ := h; exact ⟨_, e⟩
section
variable {Γ : Nat → List D → M D} {κ : Nat → D}
theorem sts_ok (h1 : SsOk (Γ 1)) : StsOk (defM 1 2 (semSs Γ κ stsB)) := by
  intro roles kinds starts ah hb
  have hm := sts_mem hb
  have hh := sts_has hb
  have hl : starts.length < 64 := by have := hb.s2; omega
  refine def_kept rfl ?_
  show Run (semSs Γ κ stsB [some (bookD roles kinds starts), none]) ah _
  unfold stsB
  have i1 : atI [D.tup roles, .tup kinds, .tup starts, .tup []] 2 = some (.tup starts) := rfl
  simp only [↓xs_cons, ↓xs_nil, ↓x_ret, ↓c_callL, ↓l_nw, ↓n_sortX, ↓sx_sc, ↓i_vl, ↓c_idx, ↓c_var, ↓c_int, List.getElem?_cons_zero, List.getElem?_cons_succ, Option.join_some, ↓run_some]
  rw [bookD, g_idxT, i1, run_some, run_walkT, if_pos hl]
  refine sc_pure (stOf kinds) trivial (fun d hd => ?_) ?_
  · have hd' := hm _ (List.mem_map.mpr ⟨d, hd, rfl⟩)
    refine ⟨okItem_tup hd' (two_tup hd') (by decide), ?_⟩
    rw [p_var]
    refine ⟨rfl, ?_⟩
    rw [to_none]
    refine ⟨rfl, rfl, ?_⟩
    simp only [List.map_cons, List.map_nil, wipeD, List.set_cons_succ, List.set_cons_zero, ↓c_call, ↓cs_cons, ↓cs_nil, ↓c_var, List.getElem?_cons_zero, List.getElem?_cons_succ, Option.join_some, ↓run_some]
    exact h1 roles kinds starts d ah hb hd
  · rw [run_sort (s := tSh) (fun d hd => hm d (mem_ddup.mp hd)) (by decide), g_tupL]
    exact ⟨_, .inl rfl, hh.pure, .refl, trivial, rfl⟩
theorem lst_ok : StsOk (defM 1 11 (semSs Γ κ lstB)) := by
  intro roles kinds starts ah hb
  have hm := sts_mem hb
  have hh := sts_has hb
  have hs2 := hb.s2
  have hk2 := hb.k2
  refine def_kept rfl ?_
  show Run (semSs Γ κ lstB [some (bookD roles kinds starts), none, none, none, none, none, none, none, none, none, none]) ah _
  unfold lstB
  have j1 : atI [D.tup roles, .tup kinds, .tup starts, .tup []] 1 = some (.tup kinds) := rfl
  have j2 : atI [D.tup roles, .tup kinds, .tup starts, .tup []] 2 = some (.tup starts) := rfl
  simp only [↓xs_cons, ↓xs_nil, ↓x_set, ↓c_new, ↓n_lc, ↓i_vl, ↓c_idx, ↓c_var, ↓c_int, List.getElem?_cons_zero, List.getElem?_cons_succ, Option.join_some, ↓run_some]
  rw [bookD, g_idxT, j1, run_some, run_walkT]
  refine lc_pure (fun _ => true) kn trivial (fun d hd => ?_) ?_
  · obtain ⟨x, y, rfl, hx, hy⟩ := hb.kinds d hd
    simp only [↓p_tup, List.length_cons, List.length_nil, Ps.len, if_true, ↓ps_cons, ↓ps_nil, ↓p_var, List.map_cons, List.map_nil, wipeD, List.set_cons_succ, List.set_cons_zero]
    refine ⟨trivial, ?_⟩
    rw [to_none]
    refine ⟨rfl, rfl, fun _ => ?_⟩
    rw [c_var]
    exact ⟨rfl, rfl⟩
  · rw [List.filter_eq_self.mpr (fun _ _ => rfl)]
    simp only [↓n_disp, ↓cs_nil, List.length_nil, Nat.zero_le, if_true, List.set_cons_succ, List.set_cons_zero, ↓x_for, ↓i_vl, ↓c_idx, ↓c_var, ↓c_int, List.getElem?_cons_zero, List.getElem?_cons_succ, Option.join_some, ↓run_some, ↓g_idxT, j2, ↓run_walkT, ↓x_ret]
    refine for_inv (fun done rest env ah' => ∃ o3 o4 o5 o6 o7, env = [some (bookD roles kinds starts), some (.ref ah.length), some (.ref (ah ++ [Cell.lst (kinds.map kn)]).length), o3, o4, o5, o6, o7, none, none, none] ∧ Kept ah ah' ∧ ah'[ah.length]? = some (.lst (kinds.map kn)) ∧ ah'[(ah ++ [Cell.lst (kinds.map kn)]).length]? = some (.lst (done.map (stOf kinds)))) ?_ ?_ ?_
    · rintro done d rest env ah1 e ⟨o3, o4, o5, o6, o7, rfl, g, hA, hB⟩
      refine ⟨trivial, ?_⟩
      have hds : d ∈ starts := by rw [e]; simp
      obtain ⟨nm, rs, al, es, _, h2, h3, h4⟩ := hb.starts d hds
      have hfam := fun ds => fam_mem hb hds es (ds := ds)
      subst es
      have el := congrArg List.length e
      rw [List.length_append, List.length_cons] at el
      have zl := zipD_len kinds al
      simp only [↓p_tup, List.length_cons, List.length_nil, Ps.len, if_true, ↓ps_cons, ↓ps_nil, ↓p_var, List.set_cons_succ, List.set_cons_zero, ↓xs_cons, ↓xs_nil, ↓x_set, ↓c_new, ↓n_disp, ↓cs_nil, Nat.zero_le, ↓x_for]
      have la := (List.getElem?_eq_some_iff.mp hA).1
      have hA1 : (ah1 ++ [Cell.lst []])[ah.length]? = some (.lst (kinds.map kn)) := by rw [List.getElem?_append_left la]; exact hA
      simp only [↓i_range1, ↓c_call1, ↓c_var, List.getElem?_cons_zero, List.getElem?_cons_succ, Option.join_some, ↓run_some, B1.g, ↓g_lenR hA1]
      rw [if_pos (by rw [sizeLine_eq, List.length_map]; omega), Int.toNat_natCast, List.length_map]
      have rl : (rangeD 0 kinds.length).length = kinds.length := by unfold rangeD; simp
      refine for_inv (fun done rest env ah' => ∃ o7, env = [some (bookD roles kinds starts), some (.ref ah.length), some (.ref (ah ++ [Cell.lst (kinds.map kn)]).length), some nm, some (.tup rs), some (.tup al), some (.ref ah1.length), o7, none, none, none] ∧ Kept ah1 ah' ∧ ah'[ah1.length]? = some (.lst (((zipD kinds al).take done.length).flatMap famD))) ?_ ?_ ?_
      · rintro dn d' rest' env ah2 e' ⟨o7, rfl, g2, hC⟩
        refine ⟨trivial, ?_⟩
        have el' := congrArg List.length e'
        rw [rl, List.length_append, List.length_cons] at el'
        have hd' : d' = .int (dn.length : Nat) := by
          have : (rangeD 0 kinds.length)[dn.length]? = some d' := by rw [e']; simp
          unfold rangeD at this
          rw [List.getElem?_map, List.getElem?_range (by omega)] at this
          simpa using this.symm
        subst hd'
        have k1 : dn.length < kinds.length := by omega
        have a1 : dn.length < al.length := by omega
        obtain ⟨sets, ea, hl, hms⟩ := h4 al[dn.length] (List.getElem_mem a1)
        obtain ⟨x, y, ek, hx, hy⟩ := hb.kinds kinds[dn.length] (List.getElem_mem k1)
        have hA2 := g2.cell hA
        rw [p_var]
        simp only [List.set_cons_succ, List.set_cons_zero, ↓xs_cons, ↓xs_nil, ↓x_expr]
        rw [c_meth (n := ah1.length) rfl hC]
        simp only [↓cs_cons, ↓cs_nil, ↓c_new, ↓n_lc, ↓i_vl, ↓c_idx, ↓c_var, List.getElem?_cons_zero, List.getElem?_cons_succ, Option.join_some, ↓run_some, ↓g_idxT]
        rw [atI_nat a1, ea, run_some, run_walkT]
        dsimp only
        have ei : atI (kinds.map kn) (dn.length : Nat) = some x := by
          rw [atI_nat (by rw [List.length_map]; exact k1), List.getElem_map, ek]; rfl
        refine lc_pure (fun _ => true) (fun z => .tup [x, z]) trivial (fun z hz => ?_) ?_
        · rw [p_var]
          refine ⟨rfl, ?_⟩
          rw [to_none]
          refine ⟨rfl, rfl, fun _ => ?_⟩
          simp only [List.map_cons, List.map_nil, wipeD, List.set_cons_succ, List.set_cons_zero, ↓c_tup, ↓cs_cons, ↓cs_nil, ↓c_idx, ↓c_var, List.getElem?_cons_zero, List.getElem?_cons_succ, Option.join_some, ↓run_some, ↓g_idxL hA2, ei, List.length_cons, List.length_nil]
          rw [if_pos (by rw [sizeLine_eq]; omega)]
          exact ⟨trivial, trivial⟩
        · have vl := (List.getElem?_eq_some_iff.mp hC).1
          have fl := (hfam ((zipD kinds al).take dn.length) fun z hz => List.mem_of_mem_take hz).2
          rw [List.length_take] at fl
          rw [List.filter_eq_self.mpr (fun _ _ => rfl), show Mt.extend.g = extendD from rfl, g_extend (by rw [List.getElem?_append_left vl]; exact hC) at0 (by rw [sizeLine_eq, List.length_map]; omega)]
          refine ⟨_, rfl, (g2.push _).set (Nat.le_refl _), ?_⟩
          rw [List.getElem?_set_self (by simp; omega)]
          have zi : dn.length < (zipD kinds al).length := by omega
          have ez : (zipD kinds al)[dn.length] = .tup [.tup [x, y], .tup sets] := by
            simp only [zipD, List.getElem_map, List.getElem_zip, ek, ea]
          rw [List.length_append, List.length_singleton, List.take_succ_eq_append_getElem zi, List.flatMap_append, ez]
          simp [famD, its, kn]
      · rintro env ah3 ⟨o7, rfl, g3, hC⟩
        refine ⟨trivial, ?_⟩
        rw [rl, List.take_of_length_le (by omega)] at hC
        obtain ⟨f1, f2⟩ := hfam (zipD kinds al) fun _ h => h
        have hA3 := g3.cell hA
        have hB3 := g3.cell hB
        dsimp only
        rw [x_expr, c_meth (n := (ah ++ [Cell.lst (kinds.map kn)]).length) rfl hB3]
        simp only [↓cs_cons, ↓cs_nil, ↓c_tup, ↓c_callL, ↓l_nw, ↓n_sortV, ↓c_var, List.getElem?_cons_zero, List.getElem?_cons_succ, Option.join_some, ↓run_some]
        rw [run_bind, run_itL hC, run_sort f1 (by decide), g_tupL]
        simp only [List.length_cons, List.length_nil]
        rw [if_pos (by rw [sizeLine_eq]; omega), show Mt.append.g = appendD from rfl, g_append hB3 (by rw [sizeLine_eq, List.length_map]; omega)]
        have lb := (List.getElem?_eq_some_iff.mp hB3).1
        refine ⟨_, _, _, _, _, rfl, (g.trans g3).set (by simp), ?_, ?_⟩
        · rw [List.getElem?_set_ne (by simp)]; exact hA3
        · rw [List.getElem?_set_self lb, List.map_append]; rfl
      · exact ⟨_, rfl, Kept.refl.push _, by rw [at0]; rfl⟩
    · rintro env ah' ⟨o3, o4, o5, o6, o7, rfl, g, hA, hB⟩
      refine ⟨trivial, ?_⟩
      dsimp only
      simp only [↓c_callL, ↓l_nw, ↓n_sortX, ↓sx_of, ↓l_vl, ↓c_var, List.getElem?_cons_zero, List.getElem?_cons_succ, Option.join_some, ↓run_some, ↓run_itL hB]
      rw [run_set (s := tSh) (fun d hd => ⟨hm d hd, two_tup (hm d hd)⟩) (by decide) (by rw [List.length_map]; omega), run_sort (s := tSh) (fun d hd => hm d (mem_ddup.mp hd)) (by decide), g_tupL]
      exact ⟨_, .inl rfl, hh.pure, g, trivial, rfl⟩
    · refine ⟨_, _, _, _, _, rfl, (Kept.refl.push _).push _, ?_, at0⟩
      rw [List.append_assoc, List.getElem?_append_right (Nat.le_refl _)]; simp
end
end Ev

set_option Elab.async false
set_option linter.all false
set_option maxRecDepth 100000
set_option maxHeartbeats 2000000
set_option autoImplicit false
namespace Ev
open PySem L2 Classical
/-! ### within one another -/
def hasallB : Ss := (.cons (.ret (.callW .all (.lc (.vl (.var 1)) (.var 2) .none (.cmp .isin (.var 2) (.var 0)) [("thing", 2)]))) .nil)
def iswB : Ss := (.cons (.ret (.and (.cmp .eq (.idx (.var 0) (.int 0)) (.idx (.var 1) (.int 0))) (.one (.call 0 (.cons (.idx (.var 1) (.int 1)) (.cons (.idx (.var 0) (.int 1)) .nil)))))) .nil)
def lwB : Ss := (.cons (.ret (.and (.cmp .eq (.idx (.var 0) (.int 0)) (.idx (.var 1) (.int 0))) (.one (.cmp .eq (.callL .len (.nw (.lc (.vl (.idx (.var 0) (.int 1))) (.var 2) (.some (.cmp .notin (.var 2) (.idx (.var 1) (.int 1)))) (.var 2) [("pair", 2)]))) (.int 0))))) .nil)
def grtB : Ss := (.cons (.set 1 (.new (.sortX (.of false (.vl (.var 0)))))) (.cons (.ret (.callL .tup (.nw (.lc (.vl (.var 1)) (.var 2) (.some (.not (.new (.lc (.vl (.var 1)) (.var 3) (.some (.and (.cmp .ne (.var 3) (.var 2)) (.one (.call 3 (.cons (.var 2) (.cons (.var 3) .nil)))))) (.var 3) [("other", 3)])))) (.var 2) [("one", 2)])))) .nil))
def lgrB : Ss := (.cons (.set 1 (.new (.sortX (.of false (.vl (.var 0)))))) (.cons (.set 2 (.new (.disp .nil))) (.cons (.for (.var 3) (.vl (.var 1)) (.cons (.ifs (.cmp .eq (.callL .len (.nw (.lc (.vl (.var 1)) (.var 4) (.some (.and (.cmp .ne (.var 4) (.var 3)) (.one (.call 15 (.cons (.var 3) (.cons (.var 4) .nil)))))) (.var 4) [("other", 4)]))) (.int 0)) (.cons (.expr (.mth .append (.var 2) (.cons (.var 3) .nil))) .nil) .nil) .nil)) (.cons (.ret (.callL .tup (.vl (.var 2)))) .nil))))
noncomputable def allIn (xs ys : List D) : Bool := decide (∀ y ∈ ys, y ∈ xs)
noncomputable def wth : D → D → Bool
  | .tup [r, .tup f], .tup [r', .tup f'] => decide (r = r') && allIn f' f
  | _, _ => false
def HasAllOk (m : List D → M D) : Prop := ∀ (s : Sh) (xs ys : List D) (ah : AH), s.dep ≤ 60 → (∀ x ∈ xs, Has s x) → (∀ y ∈ ys, Has s y) → ys.length < 64 → Run (m [.tup xs, .tup ys]) ah fun d ah' => ah' = ah ∧ d = .bl (allIn xs ys)
def WthOk (m : List D → M D) : Prop := ∀ (a b : D) (ah : AH), Has tSh a → Has tSh b → Run (m [a, b]) ah fun d ah' => ah' = ah ∧ d = .bl (wth a b)
theorem bools_map (f : D → Bool) : ∀ ds : List D, boolsOf (ds.map fun d => .bl (f d)) = some (ds.map f)
  | [] => rfl
  | d :: ds => by simp [boolsOf, bools_map f ds]
theorem allIn_all {xs ys : List D} : (ys.map fun y => decide (y ∈ xs)).all id = allIn xs ys := by
  unfold allIn
  rw [Bool.eq_iff_iff]
  simp
section
variable {Γ : Nat → List D → M D} {κ : Nat → D}
theorem hasall_ok : HasAllOk (defM 2 3 (semSs Γ κ hasallB)) := by
  intro s xs ys ah hd hx hy hl
  refine def_kept rfl ?_
  show Run (semSs Γ κ hasallB [some (.tup xs), some (.tup ys), none]) ah _
  unfold hasallB
  simp only [↓xs_cons, ↓xs_nil, ↓x_ret, ↓c_callW, ↓n_lc, ↓i_vl, ↓c_var, List.getElem?_cons_zero, List.getElem?_cons_succ, Option.join_some, ↓run_some, ↓run_walkT]
  refine lc_pure (fun _ => true) (fun d => .bl (decide (d ∈ xs))) trivial (fun d hd => ?_) ?_
  · rw [p_var]
    refine ⟨rfl, ?_⟩
    rw [to_none]
    refine ⟨rfl, rfl, fun _ => ?_⟩
    simp only [List.map_cons, List.map_nil, wipeD, List.set_cons_succ, List.set_cons_zero, ↓c_cmp, ↓c_var, List.getElem?_cons_zero, List.getElem?_cons_succ, Option.join_some, ↓run_some, CmpO.g]
    rw [run_in (hy d hd) hx (by omega)]
    refine ⟨by trivial, ?_⟩
    simp
  · rw [List.filter_eq_self.mpr (fun _ _ => rfl)]
    show Run (match boolsOf (ys.map fun d => D.bl (decide (d ∈ xs))) with | some bs => ret (D.bl (bs.all id)) | none => bad) ah _
    rw [bools_map (fun d => decide (d ∈ xs)), ← allIn_all]
    exact ⟨_, .inl rfl, rfl, .refl, by trivial, rfl⟩
theorem isw_ok (h0 : HasAllOk (Γ 0)) : WthOk (defM 2 2 (semSs Γ κ iswB)) := by
  intro a b ah ⟨r, f, ea, hr, hf⟩ ⟨r', f', eb, hr', hf'⟩
  obtain ⟨fs, rfl, fl, hfs⟩ := hf
  obtain ⟨fs', rfl, fl', hfs'⟩ := hf'
  subst ea eb
  refine def_kept rfl ?_
  show Run (semSs Γ κ iswB [some (.tup [r, .tup fs]), some (.tup [r', .tup fs'])]) ah _
  unfold iswB
  have a0 : ∀ x y : D, atI [x, y] 0 = some x := fun _ _ => rfl
  have a1 : ∀ x y : D, atI [x, y] 1 = some y := fun _ _ => rfl
  simp only [↓xs_cons, ↓xs_nil, ↓x_ret, ↓c_and, ↓c_cmp, ↓c_idx, ↓c_one, ↓c_call, ↓cs_cons, ↓cs_nil, ↓c_var, ↓c_int, List.getElem?_cons_zero, List.getElem?_cons_succ, Option.join_some, ↓run_some, ↓g_idxT, a0, a1, CmpO.g]
  rw [run_eq hr hr' (by decide), tru_bl]
  by_cases h : r = r'
  · rw [if_pos (by simpa using h)]
    refine (h0 kSh fs' fs ah (by decide) hfs' hfs fl).mono fun d ah' ⟨h1, h2⟩ => ?_
    subst h1 h2
    exact ⟨_, .inl rfl, rfl, .refl, by trivial, by simp [wth, h]⟩
  · rw [if_neg (by simpa using h)]
    exact ⟨_, .inl rfl, rfl, .refl, by trivial, by simp [wth, h]⟩
theorem lw_ok : WthOk (defM 2 3 (semSs Γ κ lwB)) := by
  intro a b ah ⟨r, f, ea, hr, hf⟩ ⟨r', f', eb, hr', hf'⟩
  obtain ⟨fs, rfl, fl, hfs⟩ := hf
  obtain ⟨fs', rfl, fl', hfs'⟩ := hf'
  subst ea eb
  refine def_kept rfl ?_
  show Run (semSs Γ κ lwB [some (.tup [r, .tup fs]), some (.tup [r', .tup fs']), none]) ah _
  unfold lwB
  have a0 : ∀ x y : D, atI [x, y] 0 = some x := fun _ _ => rfl
  have a1 : ∀ x y : D, atI [x, y] 1 = some y := fun _ _ => rfl
  simp only [↓xs_cons, ↓xs_nil, ↓x_ret, ↓c_and, ↓c_cmp, ↓c_idx, ↓c_one, ↓c_callL, ↓l_nw, ↓n_lc, ↓i_vl, ↓cs_cons, ↓cs_nil, ↓c_var, ↓c_int, List.getElem?_cons_zero, List.getElem?_cons_succ, Option.join_some, ↓run_some, ↓g_idxT, a0, a1, CmpO.g, ↓run_walkT]
  rw [run_eq hr hr' (by decide), tru_bl]
  by_cases h : r = r'
  · rw [if_pos (by simpa using h)]
    refine lc_pure (fun d => !decide (d ∈ fs')) (fun d => d) trivial (fun d hd => ?_) ?_
    · rw [p_var]
      refine ⟨rfl, ?_⟩
      simp only [List.map_cons, List.map_nil, wipeD, List.set_cons_succ, List.set_cons_zero, ↓to_some, ↓t_cmp, ↓c_idx, ↓c_var, ↓c_int, List.getElem?_cons_zero, List.getElem?_cons_succ, Option.join_some, ↓run_some, ↓g_idxT, a1, CmpO.g]
      rw [run_in (hfs d hd) hfs' (by decide)]
      exact ⟨by trivial, by simp, fun _ => ⟨by trivial, by trivial⟩⟩
    · rw [g_lenL, g_eqI]
      refine ⟨_, .inl rfl, rfl, .refl, by trivial, ?_⟩
      congr 1
      rw [Bool.eq_iff_iff]
      simp [wth, h, allIn]
  · rw [if_neg (by simpa using h)]
    exact ⟨_, .inl rfl, rfl, .refl, by trivial, by simp [wth, h]⟩
end
/-! ### the greatest -/
noncomputable def alone (ds : List D) : List D := sortD (ddup ds)
noncomputable def over (A : List D) (d : D) : List D := A.filter fun e => !decide (e = d) && wth d e
noncomputable def grt (ds : List D) : List D := (alone ds).filter fun d => (over (alone ds) d).isEmpty
def GrtOk (m : List D → M D) : Prop := ∀ (ds : List D) (ah : AH), (∀ d ∈ ds, Has tSh d) → ds.length < 64 → Run (m [.tup ds]) ah fun d ah' => ah' = ah ∧ d = .tup (grt ds)
theorem mem_alone {ds : List D} {d : D} : d ∈ alone ds ↔ d ∈ ds := by unfold alone; rw [mem_sortD, mem_ddup]
theorem alone_len (ds : List D) : (alone ds).length ≤ ds.length := by unfold alone; rw [length_sortD]; exact length_ddup ds
theorem grt_has {ds : List D} (h : ∀ d ∈ ds, Has tSh d) (hl : ds.length < 64) : Has (.seq tSh) (.tup (grt ds)) := by
  refine ⟨_, rfl, ?_, fun e he => h e (mem_alone.mp (List.mem_filter.mp he).1)⟩
  have := alone_len ds
  have : (grt ds).length ≤ (alone ds).length := List.length_filter_le _ _
  omega
theorem grt_congr {ds es : List D} (h : ∀ d ∈ ds, Has tSh d) (he : ∀ d, d ∈ ds ↔ d ∈ es) : grt ds = grt es := by
  have p : (ddup ds).Perm (ddup es) := (List.perm_ext_iff_of_nodup (nodup_ddup ds) (nodup_ddup es)).mpr fun d => by rw [mem_ddup, mem_ddup]; exact he d
  have e : alone ds = alone es := sortD_congr p (fun d hd e he' => (h d (mem_ddup.mp hd)).alike (h e (mem_ddup.mp he'))) fun d hd => (h d (mem_ddup.mp hd)).pure
  unfold grt
  rw [e]
section
variable {Γ : Nat → List D → M D} {κ : Nat → D}
theorem over_len {A : List D} {d : D} : (over A d).length ≤ A.length := List.length_filter_le _ _
theorem grt_ok (h3 : WthOk (Γ 3)) : GrtOk (defM 1 4 (semSs Γ κ grtB)) := by
  intro ds ah hds hl
  have hh := grt_has hds hl
  refine def_kept rfl ?_
  show Run (semSs Γ κ grtB [some (.tup ds), none, none, none]) ah _
  unfold grtB
  simp only [↓xs_cons, ↓xs_nil, ↓x_set, ↓x_ret, ↓c_new, ↓n_sortX, ↓sx_of, ↓l_vl, ↓c_var, List.getElem?_cons_zero, List.getElem?_cons_succ, Option.join_some, ↓run_some, ↓run_itT]
  rw [run_set (s := tSh) (fun d hd => ⟨hds d hd, two_tup (hds d hd)⟩) (by decide) hl, run_sort (s := tSh) (fun d hd => hds d (mem_ddup.mp hd)) (by decide)]
  rw [show sortD (ddup ds) = alone ds from rfl]
  have hA : ∀ d ∈ alone ds, Has tSh d := fun d hd => hds d (mem_alone.mp hd)
  have lA := alone_len ds
  have k0 : Kept ah (ah ++ [Cell.lst (alone ds)]) := Kept.refl.push _
  have w0 := at0 (ah := ah) (c := Cell.lst (alone ds))
  simp only [List.set_cons_succ, List.set_cons_zero, ↓c_callL, ↓l_nw, ↓n_lc, ↓i_vl, ↓c_var, List.getElem?_cons_zero, List.getElem?_cons_succ, Option.join_some, ↓run_some, ↓run_walkL w0]
  refine lc_inv (fun done acc ah' => Kept (ah ++ [Cell.lst (alone ds)]) ah' ∧ acc = done.filter fun d => (over (alone ds) d).isEmpty) ?_ ?_ ?_
  · rintro done d rest acc ah' e ⟨g, rfl⟩
    have w1 := g.cell w0
    refine ⟨.inl w1, ?_⟩
    have hd : Has tSh d := hA d (by rw [e]; simp)
    rw [p_var]
    simp only [List.map_cons, List.map_nil, wipeD, List.set_cons_succ, List.set_cons_zero, ↓to_some, ↓t_not, ↓t_new, ↓c_new, ↓n_lc, ↓i_vl, ↓c_var, List.getElem?_cons_zero, List.getElem?_cons_succ, Option.join_some, ↓run_some, ↓run_walkL w1]
    refine lc_pure (fun e => !decide (e = d) && wth d e) (fun e => e) (.inl w1) (fun e he => ?_) ?_
    · rw [p_var]
      refine ⟨rfl, ?_⟩
      have hE := hA e he
      simp only [List.map_cons, List.map_nil, wipeD, List.set_cons_succ, List.set_cons_zero, ↓to_some, ↓t_and, ↓t_one, ↓t_call, ↓c_call, ↓cs_cons, ↓cs_nil, ↓t_cmp, ↓c_var, List.getElem?_cons_zero, List.getElem?_cons_succ, Option.join_some, ↓run_some, CmpO.g]
      rw [run_ne hE hd (by decide)]
      dsimp only
      by_cases c : e = d
      · rw [if_neg (by simp [c])]
        exact ⟨by trivial, by simp [c], fun _ => ⟨by trivial, by trivial⟩⟩
      · rw [if_pos (by simp [c])]
        refine (h3 d e ah' hd hE).mono fun r ah2 ⟨z1, z2⟩ => ?_
        subst z1 z2
        rw [tru_bl]
        exact ⟨by trivial, by simp [c], fun _ => ⟨by trivial, by trivial⟩⟩
    · rw [List.map_id', show (alone ds).filter (fun e => !decide (e = d) && wth d e) = over (alone ds) d from rfl, tru_ref at0]
      have g' : Kept (ah ++ [Cell.lst (alone ds)]) (ah' ++ [Cell.lst (over (alone ds) d)]) := g.push _
      cases ho : (over (alone ds) d).isEmpty with
      | true =>
        rw [if_pos (by simp)]
        exact ⟨g', by simp [List.filter_append, ho]⟩
      | false =>
        rw [if_neg (by simp)]
        exact ⟨g', by simp [List.filter_append, ho]⟩
  · rintro acc ah' ⟨g, rfl⟩
    refine ⟨.inl (g.cell w0), ?_⟩
    rw [g_tupL]
    exact ⟨_, .inl rfl, hh.pure, k0.trans g, by trivial, rfl⟩
  · exact ⟨.refl, rfl⟩
theorem lgr_ok (h15 : WthOk (Γ 15)) : GrtOk (defM 1 5 (semSs Γ κ lgrB)) := by
  intro ds ah hds hl
  have hh := grt_has hds hl
  refine def_kept rfl ?_
  show Run (semSs Γ κ lgrB [some (.tup ds), none, none, none, none]) ah _
  unfold lgrB
  simp only [↓xs_cons, ↓xs_nil, ↓x_set, ↓x_ret, ↓c_new, ↓n_sortX, ↓sx_of, ↓l_vl, ↓c_var, List.getElem?_cons_zero, List.getElem?_cons_succ, Option.join_some, ↓run_some, ↓run_itT]
  rw [run_set (s := tSh) (fun d hd => ⟨hds d hd, two_tup (hds d hd)⟩) (by decide) hl, run_sort (s := tSh) (fun d hd => hds d (mem_ddup.mp hd)) (by decide)]
  rw [show sortD (ddup ds) = alone ds from rfl]
  have hA : ∀ d ∈ alone ds, Has tSh d := fun d hd => hds d (mem_alone.mp hd)
  have lA := alone_len ds
  have k0 : Kept ah (ah ++ [Cell.lst (alone ds)] ++ [Cell.lst []]) := (Kept.refl.push _).push _
  have w0 : (ah ++ [Cell.lst (alone ds)] ++ [Cell.lst []])[ah.length]? = some (.lst (alone ds)) := by rw [List.append_assoc, List.getElem?_append_right (Nat.le_refl _)]; simp
  simp only [List.set_cons_succ, List.set_cons_zero, ↓n_disp, ↓cs_nil, List.length_nil, Nat.zero_le, if_true, ↓x_for, ↓i_vl, ↓c_var, List.getElem?_cons_zero, List.getElem?_cons_succ, Option.join_some, ↓run_some, ↓run_walkL w0]
  refine for_inv (fun done rest env ah' => ∃ o3, env = [some (.tup ds), some (.ref ah.length), some (.ref (ah ++ [Cell.lst (alone ds)]).length), o3, none] ∧ Kept ah ah' ∧ ah'[ah.length]? = some (.lst (alone ds)) ∧ ah'[(ah ++ [Cell.lst (alone ds)]).length]? = some (.lst (done.filter fun d => (over (alone ds) d).isEmpty))) ?_ ?_ ?_
  · rintro done d rest env ah' e ⟨o3, rfl, g, w1, w2⟩
    refine ⟨.inl w1, ?_⟩
    have hd : Has tSh d := hA d (by rw [e]; simp)
    have el := congrArg List.length e
    rw [List.length_append, List.length_cons] at el
    rw [p_var]
    simp only [List.set_cons_succ, List.set_cons_zero, ↓xs_cons, ↓xs_nil, ↓x_ifs, ↓t_cmp, ↓c_callL, ↓l_nw, ↓n_lc, ↓i_vl, ↓c_var, List.getElem?_cons_zero, List.getElem?_cons_succ, Option.join_some, ↓run_some, ↓run_walkL w1, CmpO.g]
    refine lc_pure (fun e => !decide (e = d) && wth d e) (fun e => e) (.inl w1) (fun e he => ?_) ?_
    · rw [p_var]
      refine ⟨rfl, ?_⟩
      have hE := hA e he
      simp only [List.map_cons, List.map_nil, wipeD, List.set_cons_succ, List.set_cons_zero, ↓to_some, ↓t_and, ↓t_one, ↓t_call, ↓c_call, ↓cs_cons, ↓cs_nil, ↓t_cmp, ↓c_var, List.getElem?_cons_zero, List.getElem?_cons_succ, Option.join_some, ↓run_some, CmpO.g]
      rw [run_ne hE hd (by decide)]
      dsimp only
      by_cases c : e = d
      · rw [if_neg (by simp [c])]
        exact ⟨by trivial, by simp [c], fun _ => ⟨by trivial, by trivial⟩⟩
      · rw [if_pos (by simp [c])]
        refine (h15 d e ah' hd hE).mono fun r ah2 ⟨z1, z2⟩ => ?_
        subst z1 z2
        rw [tru_bl]
        exact ⟨by trivial, by simp [c], fun _ => ⟨by trivial, by trivial⟩⟩
    · rw [List.map_id', show (alone ds).filter (fun e => !decide (e = d) && wth d e) = over (alone ds) d from rfl, g_lenL, c_int, g_eqI]
      dsimp only
      have lf : (done.filter fun d => (over (alone ds) d).isEmpty).length ≤ done.length := List.length_filter_le _ _
      have l2 := (List.getElem?_eq_some_iff.mp w2).1
      cases ho : over (alone ds) d with
      | nil =>
        rw [if_pos (by simp)]
        rw [x_expr, c_meth (n := (ah ++ [Cell.lst (alone ds)]).length) rfl w2, cs_cons, c_var]
        simp only [List.getElem?_cons_zero, List.getElem?_cons_succ, Option.join_some, run_some]
        rw [cs_nil, show Mt.append.g = appendD from rfl, g_append w2 (by rw [sizeLine_eq]; omega)]
        refine ⟨_, rfl, g.set (by simp), by rw [List.getElem?_set_ne (by simp)]; exact w1, ?_⟩
        rw [List.getElem?_set_self l2, List.filter_append]
        simp [ho]
      | cons z zs =>
        rw [if_neg (by simp; omega)]
        refine ⟨_, rfl, g, w1, ?_⟩
        rw [w2, List.filter_append]
        simp [ho]
  · rintro env ah' ⟨o3, rfl, g, w1, w2⟩
    refine ⟨.inl w1, ?_⟩
    dsimp only
    simp only [↓c_callL, ↓l_vl, ↓c_var, List.getElem?_cons_zero, List.getElem?_cons_succ, Option.join_some, ↓run_some, ↓run_itL w2, ↓g_tupL]
    exact ⟨_, .inl rfl, hh.pure, g, trivial, rfl⟩
  · exact ⟨_, rfl, k0, w0, at0⟩
end
end Ev

set_option Elab.async false
set_option linter.all false
set_option maxRecDepth 100000
set_option maxHeartbeats 2000000
set_option autoImplicit false
namespace Ev
open PySem L2
/-! ### _law_drawn -/
def midS : S := (.ifs (.and (.cmp .eq (.var 7) (.int 0)) (.one (.cmp .gt (.call1 .len (.var 6)) (.int 0)))) (.cons (.set 10 (.call 6 (.cons (.var 0) (.cons (.call1 .len (.var 6)) .nil)))) (.cons (.set 6 (.bin .add (.slice (.var 6) .none (.some (.var 10))) (.slice (.var 6) (.some (.bin .add (.var 10) (.int 1))) .none))) .nil)) (.cons (.ifs (.cmp .eq (.var 7) (.int 1)) (.cons (.asg (.tup (.cons (.var 8) (.cons (.var 9) .nil))) (.idx (.var 2) (.call 6 (.cons (.var 0) (.cons (.call1 .len (.var 2)) .nil))))) (.cons (.set 6 (.callL .tup (.nw (.sortX (.of false (.vl (.bin .add (.var 6) (.tup (.cons (.tup (.cons (.var 8) (.cons (.call 10 (.cons (.var 0) (.cons (.var 9) (.cons (.int 2) .nil)))) .nil))) .nil))))))))) .nil)) (.cons (.ifs (.cmp .eq (.var 7) (.int 2)) (.cons (.set 5 (.call 10 (.cons (.var 0) (.cons (.idx (.var 1) (.int 0)) (.cons (.int 2) .nil))))) .nil) .nil) .nil)) .nil))
def oldW : Ss := (.cons (.asg (.tup (.cons (.var 5) (.cons (.var 6) .nil))) (.idx (.var 3) (.call 6 (.cons (.var 0) (.cons (.call1 .len (.var 3)) .nil))))) (.cons (.set 7 (.call 6 (.cons (.var 0) (.cons (.int 4) .nil)))) (.cons midS (.cons (.expr (.mth .append (.var 3) (.cons (.tup (.cons (.var 5) (.cons (.var 6) .nil))) .nil))) .nil))))
def famW : Ss := (.cons (.expr (.mth .extend (.var 6) (.cons (.new (.lc (.range1 (.bin .add (.int 1) (.call 6 (.cons (.var 0) (.cons (.int 3) .nil))))) (.var 11) .none (.tup (.cons (.var 8) (.cons (.call 10 (.cons (.var 0) (.cons (.var 9) (.cons (.int 2) .nil)))) .nil))) [("turn", 11)])) .nil))) .nil)
def newW : Ss := (.cons (.set 6 (.new (.disp .nil))) (.cons (.for (.tup (.cons (.var 8) (.cons (.var 9) .nil))) (.vl (.var 2)) famW) (.cons (.expr (.mth .append (.var 3) (.cons (.tup (.cons (.call 10 (.cons (.var 0) (.cons (.idx (.var 1) (.int 0)) (.cons (.int 3) .nil)))) (.cons (.callL .tup (.nw (.sortX (.of false (.vl (.var 6)))))) .nil))) .nil))) .nil)))
def drawnW : Ss := (.cons (.ifs (.and (.var 3) (.one (.call 6 (.cons (.var 0) (.cons (.int 2) .nil))))) oldW newW) .nil)
def drawnB : Ss := (.cons (.set 2 (.idx (.var 1) (.int 1))) (.cons (.set 3 (.new (.disp .nil))) (.cons (.for (.var 4) (.range1 (.bin .add (.int 2) (.call 6 (.cons (.var 0) (.cons (.int 5) .nil))))) drawnW) (.cons (.ret (.callL .tup (.vl (.var 3)))) .nil))))
def RowOk (n : Nat) (d : D) : Prop := ∃ rs fam, d = .tup [.tup rs, .tup fam] ∧ Has (.seq .str) (.tup rs) ∧ fam.length ≤ n ∧ ∀ e ∈ fam, Has kSh e
theorem RowOk.has {n : Nat} {d : D} (h : RowOk n d) (hn : n < 64) : Has tSh d := by
  obtain ⟨rs, fam, rfl, h1, h2, h3⟩ := h
  exact ⟨_, _, rfl, h1, fam, rfl, by omega, h3⟩
theorem RowOk.mono {n m : Nat} {d : D} (h : RowOk n d) (hn : n ≤ m) : RowOk m d := by
  obtain ⟨rs, fam, rfl, h1, h2, h3⟩ := h
  exact ⟨rs, fam, rfl, h1, by omega, h3⟩
theorem atI_int {xs : List D} {r : Int} (h0 : 0 ≤ r) (h1 : r < xs.length) : ∃ x ∈ xs, atI xs r = some x := by
  obtain ⟨n, rfl⟩ := Int.eq_ofNat_of_zero_le h0
  have : n < xs.length := by omega
  exact ⟨xs[n], List.getElem_mem this, atI_nat this⟩
section
variable {Γ : Nat → List D → M D} {κ : Nat → D} {ah base : AH} {p q v : Nat} {roles kinds starts : List D}
theorem mid_ok (hd : DrawOk (Γ 6)) (hsm : SomeOk (Γ 10)) (hb : BookIs roles kinds starts) {n : Nat} (hn : n ≤ 20) {rs fam : List D} {way : Int} {e3 e4 e8 e9 e10 e11 : Option D} (g : Grew p q base ah) (hrs : Has (.seq .str) (.tup rs)) (hf : fam.length ≤ n) (hfam : ∀ e ∈ fam, Has kSh e) {P : Flw × EnvD → AH → Prop}
    (c : ∀ rs' fam' o8 o9 o10 ah1, Grew p q ah ah1 → Has (.seq .str) (.tup rs') → fam'.length ≤ n + 1 → (∀ e ∈ fam', Has kSh e) → P (.next, [some (.ref p), some (bookD roles kinds starts), some (.tup kinds), e3, e4, some (.tup rs'), some (.tup fam'), some (.int way), o8, o9, o10, e11]) ah1) :
    Run (semS Γ κ midS [some (.ref p), some (bookD roles kinds starts), some (.tup kinds), e3, e4, some (.tup rs), some (.tup fam), some (.int way), e8, e9, e10, e11]) ah P := by
  have k1 := hb.k1
  have k2 := hb.k2
  have i0 : atI [D.tup roles, .tup kinds, .tup starts, .tup []] 0 = some (.tup roles) := rfl
  unfold midS
  simp only [↓x_ifs, ↓t_and, ↓t_one, ↓t_cmp, ↓c_call1, ↓c_var, ↓c_int, List.getElem?_cons_zero, List.getElem?_cons_succ, Option.join_some, ↓run_some, CmpO.g, B1.g, ↓g_eqI, ↓g_lenT, ↓g_gt]
  have other : Run (semSs Γ κ (.cons (.ifs (.cmp .eq (.var 7) (.int 1)) (.cons (.asg (.tup (.cons (.var 8) (.cons (.var 9) .nil))) (.idx (.var 2) (.call 6 (.cons (.var 0) (.cons (.call1 .len (.var 2)) .nil))))) (.cons (.set 6 (.callL .tup (.nw (.sortX (.of false (.vl (.bin .add (.var 6) (.tup (.cons (.tup (.cons (.var 8) (.cons (.call 10 (.cons (.var 0) (.cons (.var 9) (.cons (.int 2) .nil)))) .nil))) .nil))))))))) .nil)) (.cons (.ifs (.cmp .eq (.var 7) (.int 2)) (.cons (.set 5 (.call 10 (.cons (.var 0) (.cons (.idx (.var 1) (.int 0)) (.cons (.int 2) .nil))))) .nil) .nil) .nil)) .nil) [some (.ref p), some (bookD roles kinds starts), some (.tup kinds), e3, e4, some (.tup rs), some (.tup fam), some (.int way), e8, e9, e10, e11]) ah P := by
    simp only [↓xs_cons, ↓xs_nil, ↓x_ifs, ↓t_cmp, ↓c_var, ↓c_int, List.getElem?_cons_zero, List.getElem?_cons_succ, Option.join_some, ↓run_some, CmpO.g, ↓g_eqI]
    by_cases w1 : way = 1
    · rw [if_pos (by simpa using w1)]
      simp only [↓x_asg, ↓c_idx, ↓c_call, ↓cs_cons, ↓cs_nil, ↓c_call1, ↓c_var, ↓c_int, List.getElem?_cons_zero, List.getElem?_cons_succ, Option.join_some, ↓run_some, B1.g, ↓g_lenT]
      refine use_draw hd g.pool (by omega) (by omega) fun r ah1 r0 r1 dr => ?_
      obtain ⟨k, hk, ek⟩ := atI_int r0 r1
      obtain ⟨x, y, rfl, hx, rgs, rfl, hrl, hrg⟩ := hb.kinds k hk
      rw [g_idxT, ek, run_some]
      simp only [↓p_tup, List.length_cons, List.length_nil, Ps.len, if_true, ↓ps_cons, ↓ps_nil, ↓p_var, List.set_cons_succ, List.set_cons_zero, ↓x_set, ↓c_callL, ↓l_nw, ↓n_sortX, ↓sx_of, ↓l_vl, ↓c_bin, ↓c_tup, ↓cs_cons, ↓cs_nil, ↓c_call, ↓c_var, ↓c_int, List.getElem?_cons_zero, List.getElem?_cons_succ, Option.join_some, ↓run_some]
      have hp1 := dr.pool
      refine use_some hsm hp1 ⟨rgs, rfl, hrl, hrg⟩ (by decide) (by decide) (by decide) fun es ah2 h1 h2 dr2 => ?_
      rw [if_pos (by rw [sizeLine_eq]; omega), if_pos (by rw [sizeLine_eq]; omega), show BinO.add.g = addD from rfl, g_addT, if_pos (by rw [sizeLine_eq]; simp; omega)]
      have hnew : ∀ e ∈ fam ++ [D.tup [x, .tup es]], Has kSh e := fun e he => by
        rcases List.mem_append.mp he with he | he
        · exact hfam e he
        · rw [List.mem_singleton.mp he]; exact ⟨x, _, rfl, hx, h2⟩
      rw [run_itT, run_set (s := kSh) (fun d hd => ⟨hnew d hd, two_tup (hnew d hd)⟩) (by decide) (by simp; omega), run_sort (s := kSh) (fun d hd => hnew d (mem_ddup.mp hd)) (by decide), g_tupL]
      refine c _ _ _ _ _ _ ((dr.grew g.pool).drew dr2) hrs ?_ fun e he => hnew e (mem_ddup.mp (mem_sortD.mp he))
      rw [length_sortD]
      have := length_ddup (fam ++ [D.tup [x, .tup es]])
      simp at this ⊢; omega
    · rw [if_neg (by simpa using w1)]
      by_cases w2 : way = 2
      · rw [if_pos (by simpa using w2)]
        simp only [↓x_set, ↓c_idx, ↓c_call, ↓cs_cons, ↓cs_nil, ↓c_var, ↓c_int, List.getElem?_cons_zero, List.getElem?_cons_succ, Option.join_some, ↓run_some]
        rw [bookD, g_idxT, i0, run_some]
        refine use_some hsm g.pool hb.roles (by decide) (by decide) (by decide) fun es ah2 h1 h2 dr2 => ?_
        exact c _ _ _ _ _ _ (dr2.grew g.pool) h2 (by omega) hfam
      · rw [if_neg (by simpa using w2)]
        exact c _ _ _ _ _ _ (.refl g.pool) hrs (by omega) hfam
  by_cases w0 : way = 0
  · rw [if_pos (by simpa using w0)]
    by_cases wf : (0 : Int) < fam.length
    · rw [if_pos (by simpa using wf)]
      simp only [↓xs_cons, ↓xs_nil, ↓x_set, ↓c_call, ↓cs_cons, ↓cs_nil, ↓c_call1, ↓c_var, ↓c_int, List.getElem?_cons_zero, List.getElem?_cons_succ, Option.join_some, ↓run_some, B1.g, ↓g_lenT]
      refine use_draw hd g.pool wf (by omega) fun r ah1 r0 r1 dr => ?_
      obtain ⟨m, rfl⟩ := Int.eq_ofNat_of_zero_le r0
      simp only [List.set_cons_succ, List.set_cons_zero, ↓c_bin, ↓c_slice, ↓o_none, ↓o_some, ↓c_var, ↓c_int, List.getElem?_cons_zero, List.getElem?_cons_succ, Option.join_some, ↓run_some, BinO.g, ↓g_add, ↓g_sliceT, ↓g_addT]
      have es : ((m : Int) + 1) = ((m + 1 : Nat) : Int) := by omega
      rw [es, cut_pre, cut_post]
      have ll : (fam.take m ++ fam.drop (m + 1)).length ≤ n := by rw [List.length_append, List.length_take, List.length_drop]; omega
      rw [if_pos (by rw [List.length_append] at ll; rw [sizeLine_eq]; omega)]
      refine c _ _ _ _ _ _ (dr.grew g.pool) hrs (by omega) fun e he => ?_
      rcases List.mem_append.mp he with he | he
      · exact hfam e (List.mem_of_mem_take he)
      · exact hfam e (List.mem_of_mem_drop he)
    · rw [if_neg (by simpa using wf)]
      exact other
  · rw [if_neg (by simpa using w0), if_neg (by simp)]
    exact other
end
end Ev

set_option Elab.async false
set_option linter.all false
set_option maxRecDepth 100000
set_option maxHeartbeats 2000000
set_option autoImplicit false
namespace Ev
open PySem L2
section
variable {Γ : Nat → List D → M D} {κ : Nat → D} {ah base : AH} {p q v : Nat} {roles kinds starts : List D}
theorem fam_turn (hd : DrawOk (Γ 6)) (hsm : SomeOk (Γ 10)) {w : Nat} {F : List D} {e1 e2 e3 e4 e5 e7 e10 : Option D} {k x : D} {rgs : List D} (g : Grew p q base ah) (bw : base.length ≤ w) (hw : ah[w]? = some (.lst F)) (hx : Has .str x) (hr : Has (.seq .str) (.tup rgs)) (hF : ∀ e ∈ F, Has kSh e) (lF : F.length ≤ 100) {P : Flw × EnvD → AH → Prop}
    (c : ∀ F' ah1, Grew p q base ah1 → ah1[w]? = some (.lst F') → F'.length ≤ F.length + 3 → (∀ e ∈ F', Has kSh e) → P (.next, [some (.ref p), e1, e2, e3, e4, e5, some (.ref w), e7, some x, some (.tup rgs), e10, none]) ah1) :
    Run (semSs Γ κ famW [some (.ref p), e1, e2, e3, e4, e5, some (.ref w), e7, some x, some (.tup rgs), e10, none]) ah P := by
  have wp : w ≠ p := by have := g.pl; omega
  unfold famW
  simp only [↓xs_cons, ↓xs_nil, ↓x_expr]
  rw [c_meth (n := w) rfl hw, cs_cons, c_new, n_lc]
  refine i_draw1 hd rfl g.pool (by decide) (by decide) (by decide) (by decide) fun n ah1 n0 n1 dr => ?_
  have rl : (rangeD 0 n).length = n := by unfold rangeD; simp
  refine lc_inv (fun done acc ah' => Grew p q ah ah' ∧ (∀ e ∈ acc, Has kSh e) ∧ acc.length ≤ done.length) ?_ ?_ ?_
  · rintro done d rest acc ah' e ⟨g', hm, hc⟩
    refine ⟨trivial, ?_⟩
    rw [p_var, to_none, if_pos rfl]
    simp only [List.map_cons, List.map_nil, wipeD, List.set_cons_succ, List.set_cons_zero, ↓c_tup, ↓c_call, ↓cs_cons, ↓cs_nil, ↓c_var, ↓c_int, List.getElem?_cons_zero, List.getElem?_cons_succ, Option.join_some, ↓run_some]
    refine use_some hsm g'.pool hr (by decide) (by decide) (by decide) fun es ah2 h1 h2 dr2 => ?_
    rw [if_pos (by rw [sizeLine_eq]; simp)]
    refine ⟨g'.drew dr2, fun y hy => ?_, by simp; omega⟩
    rcases List.mem_append.mp hy with hy | hy
    · exact hm y hy
    · rw [List.mem_singleton.mp hy]; exact ⟨x, _, rfl, hx, h2⟩
  · rintro acc ah' ⟨g', hm, hc⟩
    rw [rl] at hc
    refine ⟨trivial, ?_⟩
    have hw1 := g'.cell hw wp
    have wl := (List.getElem?_eq_some_iff.mp hw1).1
    rw [cs_nil, show Mt.extend.g = extendD from rfl, g_extend (by rw [List.getElem?_append_left wl]; exact hw1) at0 (by rw [sizeLine_eq]; omega)]
    refine c (F ++ acc) _ (((g.trans g').push _).set bw) (List.getElem?_set_self (by simp; omega)) (by simp; omega) fun e he => ?_
    rcases List.mem_append.mp he with he | he
    · exact hF e he
    · exact hm e he
  · exact ⟨dr.grew g.pool, fun e he => (by cases he), Nat.le_refl _⟩
theorem new_turn (hd : DrawOk (Γ 6)) (hsm : SomeOk (Γ 10)) (hb : BookIs roles kinds starts) {X : List D} {e4 e5 e6 e7 e8 e9 e10 : Option D} (g : Grew p q base ah) (bv : base.length ≤ v) (hv : ah[v]? = some (.lst X)) (lX : X.length ≤ 100) {P : Flw × EnvD → AH → Prop}
    (c : ∀ r o5 o6 o7 o8 o9 o10 ah1, Grew p q base ah1 → ah1[v]? = some (.lst (X ++ [r])) → RowOk 6 r → P (.next, [some (.ref p), some (bookD roles kinds starts), some (.tup kinds), some (.ref v), e4, o5, o6, o7, o8, o9, o10, none]) ah1) :
    Run (semSs Γ κ newW [some (.ref p), some (bookD roles kinds starts), some (.tup kinds), some (.ref v), e4, e5, e6, e7, e8, e9, e10, none]) ah P := by
  have vp : v ≠ p := by have := g.pl; omega
  have k2 := hb.k2
  have i0 : atI [D.tup roles, .tup kinds, .tup starts, .tup []] 0 = some (.tup roles) := rfl
  unfold newW
  simp only [↓xs_cons, ↓xs_nil, ↓x_set, ↓c_new, ↓n_disp, ↓cs_nil, List.length_nil, Nat.zero_le, if_true, List.set_cons_succ, List.set_cons_zero, ↓x_for, ↓i_vl, ↓c_var, List.getElem?_cons_zero, List.getElem?_cons_succ, Option.join_some, ↓run_some, ↓run_walkT, ↓x_expr]
  refine for_inv (fun done rest env ah' => ∃ F o8 o9, env = [some (.ref p), some (bookD roles kinds starts), some (.tup kinds), some (.ref v), e4, e5, some (.ref ah.length), e7, o8, o9, e10, none] ∧ Grew p q ah ah' ∧ ah'[ah.length]? = some (.lst F) ∧ F.length ≤ 3 * done.length ∧ ∀ e ∈ F, Has kSh e) ?_ ?_ ?_
  · rintro done d rest env ah' e ⟨F, o8, o9, rfl, g', hF, lF, mF⟩
    refine ⟨trivial, ?_⟩
    have el := congrArg List.length e
    rw [List.length_append, List.length_cons] at el
    obtain ⟨x, y, rfl, hx, rgs, rfl, hrl, hrg⟩ := hb.kinds d (by rw [e]; simp)
    simp only [↓p_tup, List.length_cons, List.length_nil, Ps.len, if_true, ↓ps_cons, ↓ps_nil, ↓p_var, List.set_cons_succ, List.set_cons_zero]
    refine fam_turn (k := x) hd hsm g' (Nat.le_refl _) hF hx ⟨rgs, rfl, hrl, hrg⟩ mF (by omega) fun F' ah1 g1 h1 h2 h3 => ?_
    exact ⟨F', _, _, rfl, g1, h1, by simp; omega, h3⟩
  · rintro env ah' ⟨F, o8, o9, rfl, g', hF, lF, mF⟩
    refine ⟨trivial, ?_⟩
    have hv1 := g'.cell hv vp
    dsimp only
    rw [c_meth (n := v) rfl hv1]
    simp only [↓cs_cons, ↓cs_nil, ↓c_tup, ↓c_call, ↓c_callL, ↓l_nw, ↓n_sortX, ↓sx_of, ↓l_vl, ↓c_idx, ↓c_var, ↓c_int, List.getElem?_cons_zero, List.getElem?_cons_succ, Option.join_some, ↓run_some]
    rw [bookD, g_idxT, i0, run_some]
    refine use_some hsm g'.pool hb.roles (by decide) (by decide) (by decide) fun es ah2 h1 h2 dr2 => ?_
    have hF2 := dr2.cell hF (by have := g.pool.pl; omega)
    rw [run_itL hF2, run_set (s := kSh) (fun d hd => ⟨mF d hd, two_tup (mF d hd)⟩) (by decide) (by omega), run_sort (s := kSh) (fun d hd => mF d (mem_ddup.mp hd)) (by decide), g_tupL, if_pos (by rw [sizeLine_eq]; simp), show Mt.append.g = appendD from rfl, g_append (dr2.cell hv1 vp) (by rw [sizeLine_eq]; omega)]
    have g2 := (g.trans g').drew dr2
    refine c _ _ _ _ _ _ _ _ (g2.set bv) (List.getElem?_set_self (List.getElem?_eq_some_iff.mp (dr2.cell hv1 vp)).1) ⟨es, _, rfl, h2, ?_, fun e he => mF e (mem_ddup.mp (mem_sortD.mp he))⟩
    rw [length_sortD]
    have := length_ddup F
    omega
  · exact ⟨[], _, _, rfl, (Grew.refl g.pool).push _, at0, Nat.le_refl _, fun a ha => by cases ha⟩
theorem old_turn (hd : DrawOk (Γ 6)) (hsm : SomeOk (Γ 10)) (hb : BookIs roles kinds starts) {n : Nat} (hn : n ≤ 20) {X : List D} {e4 e5 e6 e7 e8 e9 e10 : Option D} (g : Grew p q base ah) (bv : base.length ≤ v) (hv : ah[v]? = some (.lst X)) (lX : X.length ≤ 100) (l0 : 0 < X.length) (mX : ∀ r ∈ X, RowOk n r) {P : Flw × EnvD → AH → Prop}
    (c : ∀ r o5 o6 o7 o8 o9 o10 ah1, Grew p q base ah1 → ah1[v]? = some (.lst (X ++ [r])) → RowOk (n + 1) r → P (.next, [some (.ref p), some (bookD roles kinds starts), some (.tup kinds), some (.ref v), e4, o5, o6, o7, o8, o9, o10, none]) ah1) :
    Run (semSs Γ κ oldW [some (.ref p), some (bookD roles kinds starts), some (.tup kinds), some (.ref v), e4, e5, e6, e7, e8, e9, e10, none]) ah P := by
  have vp : v ≠ p := by have := g.pl; omega
  unfold oldW
  simp only [↓xs_cons, ↓xs_nil, ↓x_asg, ↓c_idx, ↓c_call, ↓cs_cons, ↓cs_nil, ↓c_call1, ↓c_var, ↓c_int, List.getElem?_cons_zero, List.getElem?_cons_succ, Option.join_some, ↓run_some, B1.g, ↓g_lenR hv]
  refine use_draw hd g.pool (by omega) (by omega) fun r ah1 r0 r1 dr => ?_
  have hv1 := dr.cell hv vp
  obtain ⟨d, hd', ed⟩ := atI_int r0 r1
  obtain ⟨rs, fam, rfl, hrs, lf, hf⟩ := mX d hd'
  rw [g_idxL hv1, ed, run_some]
  simp only [↓p_tup, List.length_cons, List.length_nil, Ps.len, if_true, ↓ps_cons, ↓ps_nil, ↓p_var, List.set_cons_succ, List.set_cons_zero, ↓x_set, ↓c_call, ↓cs_cons, ↓cs_nil, ↓c_var, ↓c_int, List.getElem?_cons_zero, List.getElem?_cons_succ, Option.join_some, ↓run_some]
  have g1 := g.drew dr
  refine use_draw hd g1.pool (by decide) (by decide) fun way ah2 w0 w1 dr2 => ?_
  have g2 := g1.drew dr2
  have hv2 := dr2.cell hv1 vp
  refine mid_ok hd hsm hb hn g2 hrs lf hf fun rs' fam' o8 o9 o10 ah3 g3 h1 h2 h3 => ?_
  have hv3 := g3.cell hv2 vp
  dsimp only
  rw [x_expr, c_meth (n := v) rfl hv3]
  simp only [↓cs_cons, ↓cs_nil, ↓c_tup, ↓c_var, List.getElem?_cons_zero, List.getElem?_cons_succ, Option.join_some, ↓run_some, List.length_cons, List.length_nil]
  rw [if_pos (by rw [sizeLine_eq]; omega), show Mt.append.g = appendD from rfl, g_append hv3 (by rw [sizeLine_eq]; omega)]
  exact c _ _ _ _ _ _ _ _ ((g2.trans g3).set bv) (List.getElem?_set_self (List.getElem?_eq_some_iff.mp hv3).1) ⟨rs', fam', rfl, h1, h2, h3⟩
def DrawnOk (m : List D → M D) : Prop := ∀ (roles kinds starts : List D) (p q : Nat) (ah : AH), BookIs roles kinds starts → PoolOk p q ah → Run (m [.ref p, bookD roles kinds starts]) ah fun d ah' => Drew p q ah ah' ∧ ∃ rows, d = .tup rows ∧ 1 ≤ rows.length ∧ rows.length ≤ 6 ∧ ∀ r ∈ rows, Has tSh r
theorem drawn_ok (hd : DrawOk (Γ 6)) (hsm : SomeOk (Γ 10)) : DrawnOk (defM 2 12 (semSs Γ κ drawnB)) := by
  intro roles kinds starts p q ah hb hp
  refine def_drew (p := p) (q := q) rfl ?_
  show Run (semSs Γ κ drawnB [some (.ref p), some (bookD roles kinds starts), none, none, none, none, none, none, none, none, none, none]) ah _
  have i1 : atI [D.tup roles, .tup kinds, .tup starts, .tup []] 1 = some (.tup kinds) := rfl
  unfold drawnB
  rw [xs_cons, x_set, c_idx, c_var]
  simp only [List.getElem?_cons_zero, List.getElem?_cons_succ, Option.join_some, run_some, c_int]
  rw [bookD, g_idxT, i1, run_some]
  simp only [↓xs_cons, ↓xs_nil, ↓x_set, ↓c_new, ↓n_disp, ↓cs_nil, List.length_nil, Nat.zero_le, if_true, List.set_cons_succ, List.set_cons_zero, ↓x_for, ↓x_ret]
  have g0 : Grew p q ah (ah ++ [.lst []]) := (Grew.refl hp).push _
  have vp : ah.length ≠ p := by have := hp.pl; omega
  refine i_draw1 hd rfl g0.pool (by decide) (by decide) (by decide) (by decide) fun n ah1 n0 n1 dr => ?_
  have rl : (rangeD 0 n).length = n := by unfold rangeD; simp
  refine for_inv (fun done rest env ah' => ∃ X o4 o5 o6 o7 o8 o9 o10, env = [some (.ref p), some (bookD roles kinds starts), some (.tup kinds), some (.ref ah.length), o4, o5, o6, o7, o8, o9, o10, none] ∧ Grew p q ah ah' ∧ ah'[ah.length]? = some (.lst X) ∧ X.length = done.length ∧ ∀ r ∈ X, RowOk (6 + done.length) r) ?_ ?_ ?_
  · rintro done d rest env ah2 e ⟨X, o4, o5, o6, o7, o8, o9, o10, rfl, g, hv, lX, mX⟩
    refine ⟨trivial, ?_⟩
    have el := congrArg List.length e
    rw [rl, List.length_append, List.length_cons] at el
    rw [p_var]
    have step : ∀ {n m : Nat} {r : D}, RowOk m r → m ≤ 6 + done.length + 1 → ∀ r' ∈ X ++ [r], RowOk (6 + (done ++ [d]).length) r' := fun {n m r} hr hm r' hr' => by
      rw [List.length_append, List.length_singleton]
      rcases List.mem_append.mp hr' with hr' | hr'
      · exact (mX r' hr').mono (by omega)
      · rw [List.mem_singleton.mp hr']; exact hr.mono (by omega)
    have new : ∀ ah3, Grew p q ah ah3 → ah3[ah.length]? = some (.lst X) → Run (semSs Γ κ newW [some (.ref p), some (bookD roles kinds starts), some (.tup kinds), some (.ref ah.length), some d, o5, o6, o7, o8, o9, o10, none]) ah3 fun p_1 ah2 => match p_1.fst with
        | .next => ∃ X o4 o5 o6 o7 o8 o9 o10, p_1.snd = [some (.ref p), some (bookD roles kinds starts), some (.tup kinds), some (.ref ah.length), o4, o5, o6, o7, o8, o9, o10, none] ∧ Grew p q ah ah2 ∧ ah2[ah.length]? = some (.lst X) ∧ X.length = (done ++ [d]).length ∧ ∀ r ∈ X, RowOk (6 + (done ++ [d]).length) r
        | _ => False := fun ah3 g3 hv3 => new_turn hd hsm hb g3 (Nat.le_refl _) hv3 (by omega) fun r p5 p6 p7 p8 p9 p10 ah4 g4 h1 h2 => ⟨X ++ [r], _, p5, p6, p7, p8, p9, p10, rfl, g4, h1, by simp [lX], step (n := 0) h2 (by omega)⟩
    have old : ∀ ah3, 0 < X.length → Grew p q ah ah3 → ah3[ah.length]? = some (.lst X) → Run (semSs Γ κ oldW [some (.ref p), some (bookD roles kinds starts), some (.tup kinds), some (.ref ah.length), some d, o5, o6, o7, o8, o9, o10, none]) ah3 fun p_1 ah2 => match p_1.fst with
        | .next => ∃ X o4 o5 o6 o7 o8 o9 o10, p_1.snd = [some (.ref p), some (bookD roles kinds starts), some (.tup kinds), some (.ref ah.length), o4, o5, o6, o7, o8, o9, o10, none] ∧ Grew p q ah ah2 ∧ ah2[ah.length]? = some (.lst X) ∧ X.length = (done ++ [d]).length ∧ ∀ r ∈ X, RowOk (6 + (done ++ [d]).length) r
        | _ => False := fun ah3 l0 g3 hv3 => old_turn hd hsm hb (n := 6 + done.length) (by omega) g3 (Nat.le_refl _) hv3 (by omega) l0 mX fun r p5 p6 p7 p8 p9 p10 ah4 g4 h1 h2 => ⟨X ++ [r], _, p5, p6, p7, p8, p9, p10, rfl, g4, h1, by simp [lX], step (n := 0) h2 (by omega)⟩
    unfold drawnW
    rw [xs_cons, x_ifs, t_and, t_var]
    simp only [List.set_cons_succ, List.set_cons_zero, List.getElem?_cons_zero, List.getElem?_cons_succ, Option.join_some, run_some, tru_ref hv]
    have use : ∀ {W : Ss} {ah3 : AH}, Run (semSs Γ κ W [some (.ref p), some (bookD roles kinds starts), some (.tup kinds), some (.ref ah.length), some d, o5, o6, o7, o8, o9, o10, none]) ah3 (fun p_1 ah2 => match p_1.fst with
        | .next => ∃ X o4 o5 o6 o7 o8 o9 o10, p_1.snd = [some (.ref p), some (bookD roles kinds starts), some (.tup kinds), some (.ref ah.length), o4, o5, o6, o7, o8, o9, o10, none] ∧ Grew p q ah ah2 ∧ ah2[ah.length]? = some (.lst X) ∧ X.length = (done ++ [d]).length ∧ ∀ r ∈ X, RowOk (6 + (done ++ [d]).length) r
        | _ => False) → ∀ {Q : Flw × EnvD → AH → Prop}, (∀ env ah4, (∃ X o4 o5 o6 o7 o8 o9 o10, env = [some (.ref p), some (bookD roles kinds starts), some (.tup kinds), some (.ref ah.length), o4, o5, o6, o7, o8, o9, o10, none] ∧ Grew p q ah ah4 ∧ ah4[ah.length]? = some (.lst X) ∧ X.length = (done ++ [d]).length ∧ ∀ r ∈ X, RowOk (6 + (done ++ [d]).length) r) → Q (.next, env) ah4) → Run (semSs Γ κ W [some (.ref p), some (bookD roles kinds starts), some (.tup kinds), some (.ref ah.length), some d, o5, o6, o7, o8, o9, o10, none]) ah3 Q := by
      intro W ah3 h Q k
      refine h.mono fun r ah4 z => ?_
      obtain ⟨fl, env⟩ := r
      cases fl with
      | next => exact k env ah4 z
      | cont => exact z.elim
      | brk => exact z.elim
      | rt r => exact z.elim
    by_cases l0 : 0 < X.length
    · have ne : (!X.isEmpty) = true := by cases X with
        | nil => simp at l0
        | cons _ _ => rfl
      rw [if_pos ne]
      rw [t_one, t_call, c_call]
      simp only [↓cs_cons, ↓cs_nil, ↓c_var, ↓c_int, List.getElem?_cons_zero, List.getElem?_cons_succ, Option.join_some, ↓run_some]
      refine use_draw hd g.pool (by decide) (by decide) fun r ah3 r0 r1 dr3 => ?_
      rw [tru_int]
      by_cases hr : (r != 0) = true
      · rw [if_pos hr]
        exact use (old ah3 l0 (g.drew dr3) (dr3.cell hv vp)) fun env ah4 z => z
      · rw [if_neg hr]
        exact use (new ah3 (g.drew dr3) (dr3.cell hv vp)) fun env ah4 z => z
    · have ne : ¬ (!X.isEmpty) = true := by cases X with
        | nil => simp
        | cons _ _ => simp at l0
      rw [if_neg ne, if_neg (by simp)]
      exact use (new ah2 g hv) fun env ah4 z => z
  · rintro env ah2 ⟨X, o4, o5, o6, o7, o8, o9, o10, rfl, g, hv, lX, mX⟩
    rw [rl] at lX mX
    refine ⟨trivial, ?_⟩
    dsimp only
    simp only [↓c_callL, ↓l_vl, ↓c_var, List.getElem?_cons_zero, List.getElem?_cons_succ, Option.join_some, ↓run_some, ↓run_itL hv, ↓g_tupL]
    have hX : ∀ r ∈ X, Has tSh r := fun r hr => (mX r hr).has (by omega)
    exact ⟨_, .inl rfl, pures_of fun r hr => (hX r hr).pure, g, fun ah3 d3 => ⟨d3, X, rfl, by omega, by omega, hX⟩⟩
  · exact ⟨[], _, _, _, _, _, _, _, rfl, g0.drew dr, dr.cell at0 vp, rfl, fun r hr => by cases hr⟩
end
end Ev

set_option Elab.async false
set_option linter.all false
set_option maxRecDepth 100000
set_option maxHeartbeats 2000000
set_option autoImplicit false
namespace Ev
open PySem L2
/-! ### law: a lap -/
def pairW : Ss := (.cons (.set 11 (.tup (.cons (.call 15 (.cons (.var 9) (.cons (.var 10) .nil))) (.cons (.call 15 (.cons (.var 10) (.cons (.var 9) .nil))) .nil)))) (.cons (.ifs (.not (.call 8 (.cons (.tup (.cons (.call 3 (.cons (.var 9) (.cons (.var 10) .nil))) (.cons (.call 3 (.cons (.var 10) (.cons (.var 9) .nil))) .nil))) (.cons (.var 11) .nil)))) (.cons (.ret (.bl false)) .nil) .nil) .nil))
def lapW : Ss := (.cons (.set 3 (.call 13 (.cons (.var 1) (.cons (.int 0) .nil)))) (.cons (.set 7 (.call 14 (.cons (.var 3) .nil))) (.cons (.ifs (.not (.call 8 (.cons (.tup (.cons (.call 2 (.cons (.var 3) .nil)) (.cons (.call 4 (.cons (.var 7) .nil)) .nil))) (.cons (.tup (.cons (.var 7) (.cons (.call 16 (.cons (.var 7) .nil)) .nil))) .nil)))) (.cons (.ret (.bl false)) .nil) .nil) (.cons (.set 8 (.call 17 (.cons (.var 1) (.cons (.var 3) .nil)))) (.cons (.ifs (.not (.call 8 (.cons (.tup (.cons (.call 4 (.cons (.var 8) .nil)) (.cons (.call 4 (.cons (.bin .add (.var 8) (.back (.var 8))) .nil)) .nil))) (.cons (.tup (.cons (.call 16 (.cons (.var 8) .nil)) (.cons (.call 16 (.cons (.var 8) .nil)) .nil))) .nil)))) (.cons (.ret (.bl false)) .nil) .nil) (.cons (.for (.var 9) (.vl (.var 8)) (.cons (.for (.var 10) (.vl (.tup (.cons (.idx (.var 8) (.call 6 (.cons (.var 1) (.cons (.call1 .len (.var 8)) .nil)))) (.cons (.var 9) (.cons (.idx (.var 7) (.int 0)) .nil))))) pairW) .nil)) .nil))))))
def endW : Ss := (.cons (.set 3 (.tup (.cons (.tup .nil) (.cons (.tup (.cons (.tup (.cons (.str "doc") (.cons (.tup (.cons (.str "own") .nil)) .nil))) .nil)) (.cons (.tup (.cons (.tup (.cons (.str "a") (.cons (.tup .nil) (.cons (.tup (.cons (.tup (.cons (.tup .nil) .nil)) .nil)) .nil)))) (.cons (.tup (.cons (.str "b") (.cons (.tup .nil) (.cons (.tup (.cons (.tup (.cons (.tup .nil) .nil)) .nil)) .nil)))) (.cons (.tup (.cons (.str "c") (.cons (.tup .nil) (.cons (.tup (.cons (.tup (.cons (.tup .nil) (.cons (.tup (.cons (.str "own") .nil)) .nil))) .nil)) .nil)))) .nil)))) (.cons (.tup .nil) .nil)))))) (.cons (.asg (.tup (.cons (.var 4) (.cons (.var 5) .nil))) (.tup (.cons (.tup (.cons (.tup .nil) (.cons (.tup (.cons (.tup (.cons (.str "doc") (.cons (.tup .nil) .nil))) .nil)) .nil))) (.cons (.tup (.cons (.tup .nil) (.cons (.tup (.cons (.tup (.cons (.str "doc") (.cons (.tup .nil) .nil))) (.cons (.tup (.cons (.str "doc") (.cons (.tup (.cons (.str "own") .nil)) .nil))) .nil))) .nil))) .nil)))) (.cons (.set 6 (.tup (.cons (.callK 2 0 1 [0] .nil (.cons (.var 3) .nil)) (.cons (.callK 4 0 1 [0] .nil (.cons (.tup (.cons (.var 4) (.cons (.var 5) (.cons (.var 4) .nil)))) .nil)) (.cons (.call 4 (.cons (.tup .nil) .nil)) .nil))))) (.cons (.set 6 (.bin .add (.var 6) (.tup (.cons (.callK 3 0 2 [1, 0] .nil (.cons (.var 5) (.cons (.var 4) .nil))) .nil)))) (.cons (.ifs (.not (.call 8 (.cons (.var 6) (.cons (.tup (.cons (.tup (.cons (.var 4) (.cons (.var 5) .nil))) (.cons (.tup (.cons (.var 5) .nil)) (.cons (.tup .nil) (.cons (.bl true) .nil))))) .nil)))) (.cons (.ret (.bl false)) .nil) .nil) (.cons (.ret (.call 8 (.cons (.tup (.cons (.call 3 (.cons (.var 5) (.cons (.var 4) .nil))) (.cons (.call 3 (.cons (.tup (.cons (.tup (.cons (.str "b") .nil)) (.cons (.idx (.var 4) (.int 1)) .nil))) (.cons (.var 5) .nil))) .nil))) (.cons (.tup (.cons (.bl false) (.cons (.bl false) .nil))) .nil)))) .nil))))))
def lawB : Ss := (.cons (.set 1 (.call 5 (.cons (.var 0) .nil))) (.cons (.for (.var 2) (.range1 (.int 4)) lapW) endW))
structure LawOk (Γ : Nat → List D → M D) : Prop where
  isw : WthOk (Γ 3)
  sts : StsOk (Γ 2)
  grt : GrtOk (Γ 4)
  pool : PoolMk (Γ 5)
  draw : DrawOk (Γ 6)
  same : SameOk (Γ 8)
  book : BookOk (Γ 13)
  lst : StsOk (Γ 14)
  lw : WthOk (Γ 15)
  lgr : GrtOk (Γ 16)
  drawn : DrawnOk (Γ 17)
theorem run_same {m : List D → M D} (h : SameOk m) {a b : D} {ah : AH} {P : D → AH → Prop} (e : a = b) (hp : a.pure = true) (hz : a.size ≤ 2 ^ 20) (c : P (.bl true) ah) : Run (m [a, b]) ah P := by
  subst e
  refine (h a ah hp hz).mono fun d ah' ⟨h1, h2⟩ => ?_
  subst h1 h2
  exact c
theorem run_wth {m : List D → M D} (h : WthOk m) {a b : D} {ah : AH} {P : D → AH → Prop} (ha : Has tSh a) (hb : Has tSh b) (c : P (.bl (wth a b)) ah) : Run (m [a, b]) ah P := by
  refine (h a b ah ha hb).mono fun d ah' ⟨h1, h2⟩ => ?_
  subst h1 h2
  exact c
theorem run_grt {m : List D → M D} (h : GrtOk m) {ds : List D} {ah : AH} {P : D → AH → Prop} (hd : ∀ d ∈ ds, Has tSh d) (hl : ds.length < 64) (c : P (.tup (grt ds)) ah) : Run (m [.tup ds]) ah P := by
  refine (h ds ah hd hl).mono fun d ah' ⟨h1, h2⟩ => ?_
  subst h1 h2
  exact c
theorem run_sts {m : List D → M D} (h : StsOk m) {roles kinds starts : List D} {ah : AH} {P : D → AH → Prop} (hb : BookIs roles kinds starts) (c : P (.tup (sts kinds starts)) ah) : Run (m [bookD roles kinds starts]) ah P := by
  refine (h roles kinds starts ah hb).mono fun d ah' ⟨h1, h2⟩ => ?_
  subst h1 h2
  exact c
theorem pair_sz {s : Sh} {a b : D} (ha : Has s a) (hb : Has s b) (h : 2 * s.sz + 1 ≤ 2 ^ 20) : (D.tup [a, b]).size ≤ 2 ^ 20 := by
  have h1 := ha.sz
  have h2 := hb.sz
  show a.size + (b.size + 0) + 1 ≤ _
  omega
theorem pair_pure {a b : D} (ha : a.pure = true) (hb : b.pure = true) : (D.tup [a, b]).pure = true := by
  show (a.pure && (b.pure && true)) = true
  rw [ha, hb]; rfl
section
variable {Γ : Nat → List D → M D} {κ : Nat → D} {ah : AH} {p q : Nat}
theorem pair_turn (L : LawOk Γ) (hp : PoolOk p q ah) {a b : D} (ha : Has tSh a) (hb : Has tSh b) {e0 e1 e2 e3 e4 e5 e6 e7 e8 e11 : Option D} {P : Flw × EnvD → AH → Prop} (c : ∀ o11, P (.next, [e0, e1, e2, e3, e4, e5, e6, e7, e8, some a, some b, o11]) ah) :
    Run (semSs Γ κ pairW [e0, e1, e2, e3, e4, e5, e6, e7, e8, some a, some b, e11]) ah P := by
  unfold pairW
  simp only [↓xs_cons, ↓xs_nil, ↓x_set, ↓c_tup, ↓cs_cons, ↓cs_nil, ↓c_call, ↓c_var, List.getElem?_cons_zero, List.getElem?_cons_succ, Option.join_some, ↓run_some]
  refine run_wth L.lw ha hb (run_wth L.lw hb ha ?_)
  rw [if_pos (by rw [sizeLine_eq]; simp)]
  simp only [List.set_cons_succ, List.set_cons_zero, ↓x_ifs, ↓t_not, ↓t_call, ↓c_call, ↓c_tup, ↓cs_cons, ↓cs_nil, ↓c_var, List.getElem?_cons_zero, List.getElem?_cons_succ, Option.join_some, ↓run_some]
  refine run_wth L.isw ha hb (run_wth L.isw hb ha ?_)
  rw [if_pos (by rw [sizeLine_eq]; simp)]
  refine run_same L.same rfl rfl (by simp [D.size, sizes]) ?_
  rw [tru_bl, if_neg (by simp), xs_nil]
  exact c _
theorem lap_turn (L : LawOk Γ) (hp : PoolOk p q ah) {e0 e2 e3 e4 e5 e6 e7 e8 e9 e10 e11 : Option D} {P : Flw × EnvD → AH → Prop} (c : ∀ o3 o7 o8 o9 o10 o11 ah1, PoolOk p q ah1 → P (.next, [e0, some (.ref p), e2, o3, e4, e5, e6, o7, o8, o9, o10, o11]) ah1) :
    Run (semSs Γ κ lapW [e0, some (.ref p), e2, e3, e4, e5, e6, e7, e8, e9, e10, e11]) ah P := by
  unfold lapW
  rw [xs_cons, x_set, c_call]
  simp only [↓cs_cons, ↓cs_nil, ↓c_var, ↓c_int, List.getElem?_cons_zero, List.getElem?_cons_succ, Option.join_some, ↓run_some]
  refine (L.book p q ah hp).mono ?_
  rintro d ah1 ⟨⟨roles, kinds, starts, rfl, hb⟩, dr⟩
  rw [show D.tup [.tup roles, .tup kinds, .tup starts, .tup []] = bookD roles kinds starts from rfl]
  simp only [List.set_cons_succ, List.set_cons_zero]
  rw [xs_cons, x_set, c_call]
  simp only [↓cs_cons, ↓cs_nil, ↓c_var, ↓c_int, List.getElem?_cons_zero, List.getElem?_cons_succ, Option.join_some, ↓run_some]
  refine run_sts L.lst hb ?_
  have hS := sts_has hb
  obtain ⟨S', e', lS, mS⟩ := hS
  cases e'
  have s0 : 0 < (sts kinds starts).length := by
    obtain ⟨s, hs⟩ := List.exists_mem_of_length_pos hb.s1
    exact List.length_pos_of_mem (mem_sortD.mpr (mem_ddup.mpr (List.mem_map.mpr ⟨s, hs, rfl⟩)))
  have hS := sts_has hb
  have sz : ∀ {a b : D}, Has (.seq tSh) a → Has (.seq tSh) b → (D.tup [a, b]).size ≤ 2 ^ 20 := fun ha hb => pair_sz ha hb (by decide)
  have hG := grt_has mS lS
  simp only [List.set_cons_succ, List.set_cons_zero]
  rw [xs_cons, x_ifs, t_not, t_call, c_call]
  simp only [↓c_tup, ↓c_call, ↓cs_cons, ↓cs_nil, ↓c_var, ↓c_int, List.getElem?_cons_zero, List.getElem?_cons_succ, Option.join_some, ↓run_some]
  refine run_sts L.sts hb (run_grt L.grt mS lS ?_)
  rw [if_pos (by rw [sizeLine_eq]; simp)]
  refine run_grt L.lgr mS lS ?_
  rw [if_pos (by rw [sizeLine_eq]; simp)]
  refine run_same L.same rfl (pair_pure hS.pure hG.pure) (sz hS hG) ?_
  rw [tru_bl, if_neg (by simp), xs_nil]
  dsimp only
  rw [xs_cons, x_set, c_call]
  simp only [↓cs_cons, ↓cs_nil, ↓c_var, ↓c_int, List.getElem?_cons_zero, List.getElem?_cons_succ, Option.join_some, ↓run_some]
  refine (L.drawn roles kinds starts p q ah1 hb dr.pool).mono ?_
  rintro d ah2 ⟨dr2, rows, rfl, r1, r6, mR⟩
  have hR := grt_has mR (by omega)
  simp only [List.set_cons_succ, List.set_cons_zero]
  rw [xs_cons, x_ifs, t_not, t_call, c_call]
  simp only [↓c_tup, ↓c_call, ↓c_bin, ↓c_back, ↓cs_cons, ↓cs_nil, ↓c_var, ↓c_int, List.getElem?_cons_zero, List.getElem?_cons_succ, Option.join_some, ↓run_some, BinO.g]
  refine run_grt L.grt mR (by omega) ?_
  rw [show Run (backD (.tup rows)) ah2 = Run (ret (D.tup rows.reverse)) ah2 from rfl, run_ret, g_addT, if_pos (by rw [sizeLine_eq, List.length_reverse]; omega)]
  have mRR : ∀ d ∈ rows ++ rows.reverse, Has tSh d := fun d hd => mR d (by simpa using hd)
  refine run_grt L.grt mRR (by simp; omega) ?_
  rw [if_pos (by rw [sizeLine_eq]; simp)]
  refine run_grt L.lgr mR (by omega) (run_grt L.lgr mR (by omega) ?_)
  rw [if_pos (by rw [sizeLine_eq]; simp)]
  have eR : grt (rows ++ rows.reverse) = grt rows := grt_congr mRR fun d => by simp
  rw [eR]
  refine run_same L.same rfl (pair_pure hR.pure hR.pure) (sz hR hR) ?_
  rw [tru_bl, if_neg (by simp), xs_nil]
  dsimp only
  simp only [↓xs_cons, ↓xs_nil, ↓x_for, ↓i_vl, ↓c_var, List.getElem?_cons_zero, List.getElem?_cons_succ, Option.join_some, ↓run_some, ↓run_walkT]
  refine for_inv (fun done rest env ah' => ∃ o9 o10 o11, env = [e0, some (.ref p), e2, some (bookD roles kinds starts), e4, e5, e6, some (.tup (sts kinds starts)), some (.tup rows), o9, o10, o11] ∧ PoolOk p q ah') ?_ ?_ ?_
  · rintro done d rest env ah3 e ⟨o9, o10, o11, rfl, hp3⟩
    refine ⟨trivial, ?_⟩
    have hd : Has tSh d := mR d (by rw [show rows = done ++ d :: rest from e]; simp)
    rw [p_var]
    simp only [List.set_cons_succ, List.set_cons_zero, ↓xs_cons, ↓xs_nil, ↓x_for, ↓i_vl, ↓c_tup, ↓cs_cons, ↓cs_nil, ↓c_idx, ↓c_call, ↓c_call1, ↓c_var, ↓c_int, List.getElem?_cons_zero, List.getElem?_cons_succ, Option.join_some, ↓run_some, B1.g, ↓g_lenT]
    refine use_draw (n := (rows.length : Int)) L.draw hp3 (by omega) (by omega) fun r ah4 r0 rl dr4 => ?_
    obtain ⟨x, hx, ex⟩ := atI_int r0 rl
    rw [g_idxT, ex, run_some, g_idxT, show ((0 : Int)) = ((0 : Nat) : Int) from rfl, atI_nat s0, run_some, if_pos (by rw [sizeLine_eq]; simp), run_walkT]
    refine for_inv (fun done rest env ah' => ∃ o10 o11, env = [e0, some (.ref p), e2, some (bookD roles kinds starts), e4, e5, e6, some (.tup (sts kinds starts)), some (.tup rows), some d, o10, o11] ∧ PoolOk p q ah') ?_ ?_ ?_
    · rintro done' b rest' env ah5 e' ⟨o10, o11, rfl, hp5⟩
      refine ⟨trivial, ?_⟩
      have hb' : Has tSh b := by
        have : b ∈ [x, d, (sts kinds starts)[0]] := by rw [show [x, d, (sts kinds starts)[0]] = done' ++ b :: rest' from e']; simp
        simp only [List.mem_cons, List.not_mem_nil, or_false] at this
        rcases this with rfl | rfl | rfl
        · exact mR _ hx
        · exact hd
        · exact mS _ (List.getElem_mem s0)
      rw [p_var]
      simp only [List.set_cons_succ, List.set_cons_zero]
      exact pair_turn L hp5 hd hb' fun o => ⟨_, _, rfl, hp5⟩
    · rintro env ah5 ⟨o10, o11, rfl, hp5⟩
      exact ⟨trivial, _, _, _, rfl, hp5⟩
    · exact ⟨_, _, rfl, dr4.pool⟩
  · rintro env ah3 ⟨o9, o10, o11, rfl, hp3⟩
    exact ⟨trivial, c _ _ _ _ _ _ _ hp3⟩
  · exact ⟨_, _, _, rfl, dr2.pool⟩
end
end Ev

set_option Elab.async false
set_option linter.all false
set_option maxRecDepth 100000
set_option maxHeartbeats 2000000
set_option autoImplicit false
namespace Ev
open PySem L2 Classical
/-! ### the written ones -/
theorem sortD_is {s : Sh} {ds es : List D} (p : ds.Perm es) (h : ∀ d ∈ ds, Has s d) (o : es.Pairwise fun a b => leS a b = true) : sortD ds = es :=
  sorted_unique ((sortD_perm ds).trans p) (sortD_sorted ds) o (fun d hd e he => (h d (mem_sortD.mp hd)).alike (h e (mem_sortD.mp he))) fun d hd => (h d (mem_sortD.mp hd)).pure
theorem ddup_is {s : Sh} {ds es : List D} (m : ∀ d, d ∈ ds ↔ d ∈ es) (n : es.Nodup) (h : ∀ d ∈ ds, Has s d) (o : es.Pairwise fun a b => leS a b = true) : sortD (ddup ds) = es :=
  sortD_is ((List.perm_ext_iff_of_nodup (nodup_ddup ds) n).mpr fun d => by rw [mem_ddup]; exact m d) (fun d hd => h d (mem_ddup.mp hd)) o
def wDoc : D := .tup [.str "doc", .tup []]
def wOwn : D := .tup [.str "doc", .tup [.str "own"]]
def wLess : D := .tup [.tup [], .tup [wDoc]]
def wMore : D := .tup [.tup [], .tup [wDoc, wOwn]]
def wB : D := .tup [.tup [.str "b"], .tup [wDoc]]
def wKinds : List D := [wOwn]
def wA (x : Str) : D := .tup [.str x, .tup [], .tup [.tup [.tup []]]]
def wC : D := .tup [.str "c", .tup [], .tup [.tup [.tup [], .tup [.str "own"]]]]
def wStarts : List D := [wA "a", wA "b", wC]
theorem hasStr {x : Str} : Has .str (.str x) := ⟨x, rfl⟩
theorem hasNil {s : Sh} : Has (.seq s) (.tup []) := ⟨[], rfl, by decide, fun e he => by cases he⟩
theorem hasOne {s : Sh} {d : D} (h : Has s d) : Has (.seq s) (.tup [d]) := ⟨[d], rfl, by simp, fun e he => by rw [List.mem_singleton.mp he]; exact h⟩
theorem hasTwo {s : Sh} {d e : D} (h : Has s d) (k : Has s e) : Has (.seq s) (.tup [d, e]) := ⟨[d, e], rfl, by simp, fun z hz => by
  simp only [List.mem_cons, List.not_mem_nil, or_false] at hz
  rcases hz with rfl | rfl
  · exact h
  · exact k⟩
theorem hDoc : Has kSh wDoc := ⟨_, _, rfl, hasStr, hasNil⟩
theorem hOwn : Has kSh wOwn := ⟨_, _, rfl, hasStr, hasOne hasStr⟩
theorem hLess : Has tSh wLess := ⟨_, _, rfl, hasNil, hasOne hDoc⟩
theorem hMore : Has tSh wMore := ⟨_, _, rfl, hasNil, hasTwo hDoc hOwn⟩
theorem hB : Has tSh wB := ⟨_, _, rfl, hasOne hasStr, hasOne hDoc⟩
theorem wBook : BookIs [] wKinds wStarts := by
  have one : ∀ x : Str, IsStart wKinds.length (wA x) := fun x => ⟨_, _, _, rfl, hasStr, hasNil, rfl, fun a ha => ⟨[.tup []], List.mem_singleton.mp ha, by simp, fun e he => by rw [List.mem_singleton.mp he]; exact hasNil⟩⟩
  refine ⟨by decide, by decide, by decide, by decide, hasNil, fun s hs => ?_, fun k hk => by rw [List.mem_singleton.mp hk]; exact hOwn⟩
  simp only [wStarts, List.mem_cons, List.not_mem_nil, or_false] at hs
  rcases hs with rfl | rfl | rfl
  · exact one _
  · exact one _
  · refine ⟨_, _, _, rfl, hasStr, hasNil, rfl, fun a ha => ⟨[.tup [], .tup [.str "own"]], List.mem_singleton.mp ha, by simp, fun e he => ?_⟩⟩
    simp only [List.mem_cons, List.not_mem_nil, or_false] at he
    rcases he with rfl | rfl
    · exact hasNil
    · exact hasOne hasStr
theorem leDO : leS wDoc wOwn = true := by decide +kernel
theorem leLM : leS wLess wMore = true := by decide +kernel
theorem dneo : wDoc ≠ wOwn := by intro h; unfold wDoc wOwn at h; injection h with h; injection h with _ h; injection h with h _; injection h with h; cases h
theorem lnem : wLess ≠ wMore := by intro h; unfold wLess wMore at h; injection h with h; injection h with _ h; injection h with h _; injection h with h; injection h with _ h; cases h
theorem stA (x : Str) : stOf wKinds (wA x) = wLess := by
  show D.tup [.tup [], .tup (sortD [wDoc])] = wLess
  rw [sortD_is (s := kSh) (.refl _) (fun d hd => by rw [List.mem_singleton.mp hd]; exact hDoc) (List.pairwise_singleton _ _)]; rfl
theorem stC : stOf wKinds wC = wMore := by
  show D.tup [.tup [], .tup (sortD [wDoc, wOwn])] = wMore
  rw [sortD_is (s := kSh) (.refl _) (fun d hd => by
    simp only [List.mem_cons, List.not_mem_nil, or_false] at hd
    rcases hd with rfl | rfl
    · exact hDoc
    · exact hOwn) (by simp [leDO])]; rfl
theorem lmHas : ∀ d ∈ [wLess, wMore, wLess], Has tSh d := fun d hd => by
  simp only [List.mem_cons, List.not_mem_nil, or_false] at hd
  rcases hd with rfl | rfl | rfl
  · exact hLess
  · exact hMore
  · exact hLess
theorem lmNodup : [wLess, wMore].Nodup := by simp [lnem]
theorem lmSort : [wLess, wMore].Pairwise fun a b => leS a b = true := by simp [leLM]
theorem wSts : sts wKinds wStarts = [wLess, wMore] := by
  unfold sts
  refine ddup_is (s := tSh) (fun d => ?_) lmNodup (fun d hd => ?_) lmSort
  · simp [wStarts, stA, stC]
  · have : d ∈ [wLess, wMore] := by simpa [wStarts, stA, stC] using hd
    exact lmHas d (by simp at this ⊢; rcases this with h | h <;> simp [h])
theorem wthLM : wth wLess wMore = true := by simp [wth, wLess, wMore, allIn]
theorem wthML : wth wMore wLess = false := by simp [wth, wLess, wMore, allIn, Ne.symm dneo]
theorem wthBM : wth wB wMore = false := by simp [wth, wB, wMore]
theorem wAlone : alone [wLess, wMore, wLess] = [wLess, wMore] := by
  unfold alone
  exact ddup_is (s := tSh) (fun d => by
    simp only [List.mem_cons, List.not_mem_nil, or_false]
    constructor
    · rintro (h | h | h) <;> simp [h]
    · rintro (h | h) <;> simp [h]) lmNodup lmHas lmSort
theorem wGrt : grt [wLess, wMore, wLess] = [wMore] := by
  unfold grt
  rw [wAlone]
  simp [over, wthLM, wthML, lnem, Ne.symm lnem]
theorem wGrt0 : grt [] = [] := by
  have : alone [] = [] := List.eq_nil_of_length_eq_zero (Nat.le_zero.mp (alone_len []))
  unfold grt
  rw [this]; rfl
end Ev

set_option Elab.async false
set_option linter.all false
set_option maxRecDepth 100000
set_option maxHeartbeats 2000000
set_option autoImplicit false
namespace Ev
open PySem L2
/-! ### law: the end -/
section
variable {Γ : Nat → List D → M D} {κ : Nat → D} {ah : AH} {p q : Nat}
theorem end_turn (L : LawOk Γ) {e0 e1 e2 e3 e4 e5 e6 e7 e8 e9 e10 e11 : Option D} {P : Flw × EnvD → AH → Prop} (c : ∀ env, P (.rt (.bl true), env) ah) :
    Run (semSs Γ κ endW [e0, e1, e2, e3, e4, e5, e6, e7, e8, e9, e10, e11]) ah P := by
  have z1 : 1 ≤ sizeLine := by rw [sizeLine_eq]; omega
  have z : ∀ n, n ≤ 10 → n ≤ sizeLine := fun n h => by rw [sizeLine_eq]; omega
  unfold endW
  rw [xs_cons, x_set]
  simp only [↓c_tup, ↓cs_cons, ↓cs_nil, ↓c_str, List.length_cons, List.length_nil, z, Nat.zero_le, Nat.reduceAdd, Nat.reduceLeDiff, if_true]
  rw [xs_cons, x_asg]
  simp only [↓c_tup, ↓cs_cons, ↓cs_nil, ↓c_str, List.length_cons, List.length_nil, z, Nat.zero_le, Nat.reduceAdd, Nat.reduceLeDiff, if_true, List.set_cons_succ, List.set_cons_zero, ↓p_tup, Ps.len, ↓ps_cons, ↓ps_nil, ↓p_var]
  rw [show D.tup [.tup [], .tup [.tup [.str "doc", .tup []]]] = wLess from rfl]
  rw [show D.tup [.tup [], .tup [.tup [.str "doc", .tup []], .tup [.str "doc", .tup [.str "own"]]]] = wMore from rfl]
  rw [show D.tup [.tup [], .tup [.tup [.str "doc", .tup [.str "own"]]], .tup [.tup [.str "a", .tup [], .tup [.tup [.tup []]]], .tup [.str "b", .tup [], .tup [.tup [.tup []]]], .tup [.str "c", .tup [], .tup [.tup [.tup [], .tup [.str "own"]]]]], .tup []] = bookD [] wKinds wStarts from rfl]
  have m1 : ∀ d ∈ [wLess, wMore, wLess], Has tSh d := lmHas
  rw [xs_cons, x_set, c_tup]
  simp only [↓cs_cons, ↓cs_nil, ↓c_callK, ↓c_call, ↓c_tup, ↓c_var, List.getElem?_cons_zero, List.getElem?_cons_succ, Option.join_some, ↓run_some, List.length_cons, List.length_nil, z, Nat.zero_le, Nat.reduceAdd, Nat.reduceLeDiff, if_true]
  rw [if_pos ⟨trivial, trivial, rfl⟩, show ([] ++ pick [0] [bookD [] wKinds wStarts] : List D) = [bookD [] wKinds wStarts] from rfl]
  refine run_sts L.sts wBook ?_
  rw [if_pos ⟨trivial, trivial, rfl⟩, show ([] ++ pick [0] [D.tup [wLess, wMore, wLess]] : List D) = [D.tup [wLess, wMore, wLess]] from rfl]
  refine run_grt L.grt m1 (by decide) (run_grt L.grt (fun d hd => by cases hd) (by decide) ?_)
  rw [wSts, wGrt, wGrt0]
  simp only [List.set_cons_succ, List.set_cons_zero]
  rw [xs_cons, x_set, c_bin, c_var]
  simp only [List.getElem?_cons_zero, List.getElem?_cons_succ, Option.join_some, run_some]
  rw [c_tup, cs_cons, c_callK]
  simp only [↓cs_cons, ↓cs_nil, ↓c_var, List.getElem?_cons_zero, List.getElem?_cons_succ, Option.join_some, ↓run_some, List.length_cons, List.length_nil]
  rw [if_pos ⟨trivial, trivial, rfl⟩, show ([] ++ pick [1, 0] [wMore, wLess] : List D) = [wLess, wMore] from rfl]
  refine run_wth L.isw hLess hMore ?_
  rw [wthLM, if_pos (by rw [sizeLine_eq]; simp), show BinO.add.g = addD from rfl, g_addT, if_pos (by rw [sizeLine_eq]; simp)]
  simp only [List.set_cons_succ, List.set_cons_zero]
  rw [xs_cons, x_ifs, t_not, t_call, c_call]
  simp only [↓cs_cons, ↓cs_nil, ↓c_tup, ↓c_var, ↓c_bl, List.getElem?_cons_zero, List.getElem?_cons_succ, Option.join_some, ↓run_some, List.length_cons, List.length_nil, z, Nat.zero_le, Nat.reduceAdd, Nat.reduceLeDiff, if_true]
  refine run_same L.same rfl (by decide +kernel) (by decide +kernel) ?_
  rw [tru_bl, if_neg (by simp), xs_nil]
  dsimp only
  rw [xs_cons, x_ret, c_call]
  have i1 : atI [D.tup [], .tup [wDoc]] 1 = some (.tup [wDoc]) := rfl
  simp only [↓cs_cons, ↓cs_nil, ↓c_tup, ↓c_call, ↓c_idx, ↓c_int, ↓c_str, ↓c_var, ↓c_bl, List.getElem?_cons_zero, List.getElem?_cons_succ, Option.join_some, ↓run_some, List.length_cons, List.length_nil, z, Nat.zero_le, Nat.reduceAdd, Nat.reduceLeDiff, if_true]
  refine run_wth L.isw hMore hLess ?_
  rw [show Run (idxD wLess (.int 1)) ah = Run (opt (some (D.tup [wDoc]))) ah from rfl, run_some]
  refine run_wth L.isw hB hMore ?_
  have wthB' : wth (.tup [.tup [.str "b"], .tup [wDoc]]) wMore = false := wthBM
  rw [wthML, wthB']
  exact run_same L.same rfl (by decide +kernel) (by decide +kernel) (c _)
theorem law_turn (L : LawOk Γ) (ns : List Int) : Run (defM 1 12 (semSs Γ κ lawB) [.ref 0]) (scr ns) fun d _ => d = .bl true := by
  refine run_def rfl ?_
  show Run (semSs Γ κ lawB [some (.ref 0), none, none, none, none, none, none, none, none, none, none, none]) (scr ns) _
  unfold lawB
  rw [xs_cons, x_set, c_call]
  simp only [↓cs_cons, ↓cs_nil, ↓c_var, List.getElem?_cons_zero, List.getElem?_cons_succ, Option.join_some, ↓run_some]
  refine (L.pool ns).mono ?_
  rintro d ah1 ⟨p, q, rfl, hp⟩
  simp only [List.set_cons_succ, List.set_cons_zero]
  rw [xs_cons, x_for, i_range1, c_int]
  dsimp only
  rw [if_pos (by rw [sizeLine_eq]; omega)]
  refine for_inv (fun done rest env ah' => ∃ o2 o3 o7 o8 o9 o10 o11, env = [some (.ref 0), some (.ref p), o2, o3, none, none, none, o7, o8, o9, o10, o11] ∧ PoolOk p q ah') ?_ ?_ ?_
  · rintro done d rest env ah2 e ⟨o2, o3, o7, o8, o9, o10, o11, rfl, hp2⟩
    refine ⟨trivial, ?_⟩
    rw [p_var]
    simp only [List.set_cons_succ, List.set_cons_zero]
    exact lap_turn L hp2 fun p3 p7 p8 p9 p10 p11 ah3 hp3 => ⟨_, _, _, _, _, _, _, rfl, hp3⟩
  · rintro env ah2 ⟨o2, o3, o7, o8, o9, o10, o11, rfl, hp2⟩
    refine ⟨trivial, ?_⟩
    dsimp only
    exact end_turn L fun env => ⟨.bl true, .inl rfl, fun _ => rfl, fun _ => rfl⟩
  · exact ⟨_, _, _, _, _, _, _, rfl, hp⟩
end
end Ev

set_option Elab.async false
set_option linter.all false
set_option maxRecDepth 100000
set_option maxHeartbeats 4000000
namespace Kk05
open PySem PySem.Spec PyProof.Rows L2 Ev
def top (i : Nat) : Stmt := PySem.Challenge.pw_eachownmay_k05_standings.main.body.getD i (.Pass ⟨0, 0, 0, 0⟩)
def N_has_all : List Str := ["one", "other", "thing"]
def b_has_all : Ss := (.cons (.ret (.callW .all (.lc (.vl (.var 1)) (.var 2) .none (.cmp .isin (.var 2) (.var 0)) [("thing", 2)]))) .nil)
def N_start_standing : List Str := ["book", "start", "family", "kind", "rights", "sets", "one"]
def b_start_standing : Ss := (.cons (.set 2 (.new (.disp .nil))) (.cons (.for (.tup (.cons (.tup (.cons (.var 3) (.cons (.var 4) .nil))) (.cons (.var 5) .nil))) (.zip (.idx (.var 0) (.int 1)) (.idx (.var 1) (.int 2))) (.cons (.expr (.mth .extend (.var 2) (.cons (.new (.lc (.vl (.var 5)) (.var 6) .none (.tup (.cons (.var 3) (.cons (.var 6) .nil))) [("one", 6)])) .nil))) .nil)) (.cons (.ret (.tup (.cons (.idx (.var 1) (.int 1)) (.cons (.callL .tup (.nw (.sortV (.var 2)))) .nil)))) .nil)))
def N_start_standings : List Str := ["book", "start"]
def b_start_standings : Ss := (.cons (.ret (.callL .tup (.nw (.sortX (.sc false (.vl (.idx (.var 0) (.int 2))) (.var 1) .none (.call 1 (.cons (.var 0) (.cons (.var 1) .nil))) [("start", 1)]))))) .nil)
def N_is_within : List Str := ["one", "other"]
def b_is_within : Ss := (.cons (.ret (.and (.cmp .eq (.idx (.var 0) (.int 0)) (.idx (.var 1) (.int 0))) (.one (.call 0 (.cons (.idx (.var 1) (.int 1)) (.cons (.idx (.var 0) (.int 1)) .nil)))))) .nil)
def N_greatest : List Str := ["standings", "single", "one", "other"]
def b_greatest : Ss := (.cons (.set 1 (.new (.sortX (.of false (.vl (.var 0)))))) (.cons (.ret (.callL .tup (.nw (.lc (.vl (.var 1)) (.var 2) (.some (.not (.new (.lc (.vl (.var 1)) (.var 3) (.some (.and (.cmp .ne (.var 3) (.var 2)) (.one (.call 3 (.cons (.var 2) (.cons (.var 3) .nil)))))) (.var 3) [("other", 3)])))) (.var 2) [("one", 2)])))) .nil))
def N__law_pool : List Str := ["script", "cell"]
def b__law_pool : Ss := (.cons (.ret (.new (.disp (.cons (.new (.lc (.vl (.slice (.var 0) .none (.some (.int 63)))) (.var 1) .none (.call1 .abs (.call1 .int (.var 1))) [("cell", 1)])) (.cons (.int 0) (.cons (.int 0) (.cons (.int 40289) .nil))))))) .nil)
def N__law_draw : List Str := ["pool", "many", "cell", "mixed", "digit"]
def b__law_draw : Ss := (.cons (.ifs (.cmp .gt (.idx (.var 0) (.int 2)) (.int 0)) (.cons (.set 4 (.bin .mod (.call1 .int (.idx (.var 0) (.int 2))) (.var 1))) (.cons (.setIx (.var 0) (.int 2) (.bin .fdiv (.idx (.var 0) (.int 2)) (.var 1))) (.cons (.ret (.var 4)) .nil))) .nil) (.cons (.set 2 (.idx (.var 0) (.int 1))) (.cons (.ifs (.cmp .lt (.idx (.var 0) (.int 1)) (.call1 .len (.idx (.var 0) (.int 0)))) (.cons (.set 2 (.bin .mod (.call1 .int (.idx (.idx (.var 0) (.int 0)) (.idx (.var 0) (.int 1)))) (.bin .pow (.bin .pow (.int 10) (.int 60)) (.int 5)))) .nil) .nil) (.cons (.augIx (.var 0) (.int 1) (.int 1)) (.cons (.ifs (.cmp .ge (.var 2) (.bin .pow (.int 10) (.int 18))) (.cons (.setIx (.var 0) (.int 2) (.bin .fdiv (.var 2) (.var 1))) (.cons (.ret (.bin .mod (.call1 .int (.var 2)) (.var 1))) .nil)) .nil) (.cons (.setIx (.var 0) (.int 3) (.bin .mod (.call1 .int (.bin .add (.bin .add (.bin .mul (.idx (.var 0) (.int 3)) (.int 22695739)) (.bin .mul (.var 2) (.int 146009))) (.int 16217))) (.int 2305843009213693951))) (.cons (.set 3 (.bin .mod (.call1 .int (.bin .mul (.idx (.var 0) (.int 3)) (.idx (.var 0) (.int 3)))) (.int 2147481751))) (.cons (.ret (.bin .mod (.bin .fdiv (.var 3) (.int 16)) (.var 1))) .nil))))))))
def N__law_shuffled : List Str := ["pool", "row", "left", "told", "lap"]
def b__law_shuffled : Ss := (.cons (.set 2 (.new (.lst (.vl (.var 1))))) (.cons (.set 3 (.new (.disp .nil))) (.cons (.for (.var 4) (.range1 (.call1 .len (.var 1))) (.cons (.expr (.mth .append (.var 3) (.cons (.mth .popAt (.var 2) (.cons (.call 6 (.cons (.var 0) (.cons (.call1 .len (.var 2)) .nil))) .nil)) .nil))) .nil)) (.cons (.ret (.var 3)) .nil))))
def N__law_same : List Str := ["told", "due", "queue", "one", "other", "at"]
def b__law_same : Ss := (.cons (.set 2 (.new (.disp (.cons (.tup (.cons (.var 0) (.cons (.var 1) .nil))) .nil)))) (.cons (.while (.var 2) (.cons (.asg (.tup (.cons (.var 3) (.cons (.var 4) .nil))) (.mth .pop (.var 2) .nil)) (.cons (.ifs (.cmp .is (.var 4) .non) (.cons (.ifs (.cmp .isnt (.var 3) .non) (.cons (.ret (.bl false)) .nil) .nil) .nil) (.cons (.ifs (.isi "bool" (.var 4)) (.cons (.ifs (.or (.not (.isi "bool" (.var 3))) (.one (.cmp .ne (.var 3) (.var 4)))) (.cons (.ret (.bl false)) .nil) .nil) .nil) (.cons (.ifs (.isi "int" (.var 4)) (.cons (.ifs (.or (.isi "bool" (.var 3)) (.or (.not (.isi "int" (.var 3))) (.one (.cmp .ne (.var 3) (.var 4))))) (.cons (.ret (.bl false)) .nil) .nil) .nil) (.cons (.ifs (.isi "str" (.var 4)) (.cons (.ifs (.or (.not (.isi "str" (.var 3))) (.one (.cmp .ne (.var 3) (.var 4)))) (.cons (.ret (.bl false)) .nil) .nil) .nil) (.cons (.ifs (.isi "tuple" (.var 4)) (.cons (.ifs (.or (.not (.isi "tuple" (.var 3))) (.one (.cmp .ne (.call1 .len (.var 3)) (.call1 .len (.var 4))))) (.cons (.ret (.bl false)) .nil) .nil) (.cons (.expr (.mth .extend (.var 2) (.cons (.new (.lc (.range1 (.call1 .len (.var 4))) (.var 5) .none (.tup (.cons (.idx (.var 3) (.var 5)) (.cons (.idx (.var 4) (.var 5)) .nil))) [("at", 5)])) .nil))) .nil)) (.cons (.ifs (.or (.not (.isi "list" (.var 3))) (.one (.cmp .ne (.call1 .len (.var 3)) (.call1 .len (.var 4))))) (.cons (.ret (.bl false)) .nil) .nil) (.cons (.expr (.mth .extend (.var 2) (.cons (.new (.lc (.range1 (.call1 .len (.var 4))) (.var 5) .none (.tup (.cons (.idx (.var 3) (.var 5)) (.cons (.idx (.var 4) (.var 5)) .nil))) [("at", 5)])) .nil))) .nil))) .nil)) .nil)) .nil)) .nil)) .nil))) (.cons (.ret (.bl true)) .nil)))
def N__law_names : List Str := ["pool", "many", "words"]
def b__law_names : Ss := (.cons (.set 2 (.new (.disp (.cons (.str "a") (.cons (.str "ab") (.cons (.str "ab1") (.cons (.str "own") (.cons (.str "read") (.cons (.str "z9z9z9z9") (.cons (.str "boss") (.cons (.str "clerk") (.cons (.str "doc") (.cons (.str "x") (.cons (.str "x0") (.cons (.str "book") (.cons (.str "give") (.cons (.str "actor") .nil))))))))))))))))) (.cons (.expr (.mth .extend (.var 2) (.cons (.new (.disp (.cons (.str "when") (.cons (.str "then") (.cons (.str "may") (.cons (.str "start") (.cons (.str "role") (.cons (.str "kind") (.cons (.str "command") (.cons (.str "right") (.cons (.str "things") (.cons (.str "b") (.cons (.str "c7") (.cons (.str "note") .nil)))))))))))))) .nil))) (.cons (.expr (.mth .append (.var 2) (.cons (.str "never") .nil))) (.cons (.ret (.slice (.call 7 (.cons (.var 0) (.cons (.bin .add (.var 2) (.new (.disp (.cons (.str "other") .nil)))) .nil))) .none (.some (.var 1)))) .nil))))
def N__law_some : List Str := ["pool", "things", "odds", "thing"]
def b__law_some : Ss := (.cons (.ret (.callL .tup (.nw (.sort (.lc (.vl (.var 1)) (.var 3) (.some (.cmp .eq (.call 6 (.cons (.var 0) (.cons (.var 2) .nil))) (.int 0))) (.var 3) [("thing", 3)]))))) .nil)
def N__law_two : List Str := ["pool", "things", "odds", "one", "thing"]
def b__law_two : Ss := (.cons (.set 3 (.call 10 (.cons (.var 0) (.cons (.var 1) (.cons (.var 2) .nil))))) (.cons (.ret (.tup (.cons (.var 3) (.cons (.call 10 (.cons (.var 0) (.cons (.new (.lc (.vl (.var 1)) (.var 4) (.some (.cmp .notin (.var 4) (.var 3))) (.var 4) [("thing", 4)])) (.cons (.var 2) .nil)))) .nil)))) .nil))
def N__law_part : List Str := ["pool", "roles", "rights", "held", "lacked", "has", "hasnt", "change", "kind", "things", "put", "take", "one"]
def b__law_part : Ss := (.cons (.asg (.tup (.cons (.var 3) (.cons (.var 4) .nil))) (.call 11 (.cons (.var 0) (.cons (.var 1) (.cons (.int 4) .nil))))) (.cons (.asg (.tup (.cons (.var 5) (.cons (.var 6) .nil))) (.call 11 (.cons (.var 0) (.cons (.var 2) (.cons (.int 3) .nil))))) (.cons (.set 7 (.tup .nil)) (.cons (.set 8 (.call 6 (.cons (.var 0) (.cons (.int 5) .nil)))) (.cons (.set 9 (.ifx (.cmp .gt (.var 8) (.int 1)) (.var 2) (.var 1))) (.cons (.ifs (.and (.cmp .gt (.var 8) (.int 0)) (.one (.var 9))) (.cons (.asg (.tup (.cons (.var 10) (.cons (.var 11) .nil))) (.call 11 (.cons (.var 0) (.cons (.var 9) (.cons (.int 3) .nil))))) (.cons (.ifs (.and (.not (.var 10)) (.one (.not (.var 11)))) (.cons (.set 12 (.tup (.cons (.idx (.var 9) (.call 6 (.cons (.var 0) (.cons (.call1 .len (.var 9)) .nil)))) .nil))) (.cons (.asg (.tup (.cons (.var 10) (.cons (.var 11) .nil))) (.ifx (.call 6 (.cons (.var 0) (.cons (.int 3) .nil))) (.tup (.cons (.var 12) (.cons (.tup .nil) .nil))) (.tup (.cons (.tup .nil) (.cons (.var 12) .nil))))) .nil)) .nil) (.cons (.set 7 (.tup (.cons (.ifx (.cmp .gt (.var 8) (.int 1)) (.str "rights") (.str "roles")) (.cons (.var 10) (.cons (.var 11) .nil))))) .nil))) .nil) (.cons (.ret (.tup (.cons (.var 3) (.cons (.var 4) (.cons (.var 5) (.cons (.var 6) (.cons (.var 7) .nil))))))) .nil)))))))
def N__law_book : List Str := ["pool", "commands", "names", "roles", "kinds", "lap", "starts", "name", "rows", "more", "allowed", "kind", "rights", "other", "sets", "at", "turn"]
def b__law_book : Ss := (.cons (.set 2 (.call 9 (.cons (.var 0) (.cons (.int 26) .nil)))) (.cons (.set 3 (.callL .tup (.nw (.sort (.lc (.range1 (.call 6 (.cons (.var 0) (.cons (.int 5) .nil)))) (.var 5) .none (.mth .pop (.var 2) .nil) [("lap", 5)]))))) (.cons (.set 4 (.new (.disp .nil))) (.cons (.for (.var 5) (.range1 (.bin .add (.int 1) (.call 6 (.cons (.var 0) (.cons (.int 2) .nil))))) (.cons (.expr (.mth .append (.var 4) (.cons (.tup (.cons (.mth .pop (.var 2) .nil) (.cons (.callL .tup (.nw (.sort (.lc (.range1 (.call 6 (.cons (.var 0) (.cons (.int 4) .nil)))) (.var 16) .none (.mth .pop (.var 2) .nil) [("turn", 16)])))) .nil))) .nil))) .nil)) (.cons (.set 4 (.callL .tup (.nw (.sortV (.var 4))))) (.cons (.set 6 (.new (.disp .nil))) (.cons (.for (.var 7) (.nw (.sort (.lc (.range1 (.bin .add (.int 1) (.call 6 (.cons (.var 0) (.cons (.int 4) .nil))))) (.var 5) .none (.mth .pop (.var 2) .nil) [("lap", 5)]))) (.cons (.set 10 (.new (.disp .nil))) (.cons (.for (.tup (.cons (.var 11) (.cons (.var 12) .nil))) (.vl (.var 4)) (.cons (.set 14 (.new (.lc (.range1 (.bin .add (.int 1) (.call 6 (.cons (.var 0) (.cons (.int 3) .nil))))) (.var 16) .none (.call 10 (.cons (.var 0) (.cons (.var 12) (.cons (.int 2) .nil)))) [("turn", 16)]))) (.cons (.expr (.mth .append (.var 10) (.cons (.callL .tup (.nw (.sortX (.of false (.vl (.var 14)))))) .nil))) .nil))) (.cons (.expr (.mth .append (.var 6) (.cons (.tup (.cons (.var 7) (.cons (.call 10 (.cons (.var 0) (.cons (.var 3) (.cons (.int 4) .nil)))) (.cons (.callL .tup (.vl (.var 10))) .nil)))) .nil))) .nil)))) (.cons (.set 8 (.new (.disp .nil))) (.cons (.set 9 (.bin .add (.new (.lc (.range1 (.int 9)) (.var 15) .none (.bin .add (.str "k") (.call1 .str (.var 15))) [("at", 15)])) (.var 2))) (.cons (.for (.var 7) (.nw (.sortV (.slice (.call 7 (.cons (.var 0) (.cons (.var 9) .nil))) .none (.some (.call 6 (.cons (.var 0) (.cons (.bin .add (.var 1) (.int 1)) .nil))))))) (.cons (.asg (.tup (.cons (.var 11) (.cons (.var 12) .nil))) (.idx (.var 4) (.call 6 (.cons (.var 0) (.cons (.call1 .len (.var 4)) .nil))))) (.cons (.set 13 (.ifx (.call 6 (.cons (.var 0) (.cons (.int 3) .nil))) (.call 12 (.cons (.var 0) (.cons (.var 3) (.cons (.var 12) .nil)))) .non)) (.cons (.expr (.mth .append (.var 8) (.cons (.tup (.cons (.var 7) (.cons (.var 11) (.cons (.call 12 (.cons (.var 0) (.cons (.var 3) (.cons (.var 12) .nil)))) (.cons (.var 13) .nil))))) .nil))) .nil)))) (.cons (.ret (.tup (.cons (.var 3) (.cons (.var 4) (.cons (.callL .tup (.vl (.var 6))) (.cons (.callL .tup (.vl (.var 8))) .nil)))))) .nil)))))))))))
def N__law_starts : List Str := ["book", "kinds", "found", "name", "roles", "allowed", "family", "at", "kind", "rights", "some"]
def b__law_starts : Ss := (.cons (.set 1 (.new (.lc (.vl (.idx (.var 0) (.int 1))) (.tup (.cons (.var 8) (.cons (.var 9) .nil))) .none (.var 8) [("kind", 8), ("rights", 9)]))) (.cons (.set 2 (.new (.disp .nil))) (.cons (.for (.tup (.cons (.var 3) (.cons (.var 4) (.cons (.var 5) .nil)))) (.vl (.idx (.var 0) (.int 2))) (.cons (.set 6 (.new (.disp .nil))) (.cons (.for (.var 7) (.range1 (.call1 .len (.var 1))) (.cons (.expr (.mth .extend (.var 6) (.cons (.new (.lc (.vl (.idx (.var 5) (.var 7))) (.var 10) .none (.tup (.cons (.idx (.var 1) (.var 7)) (.cons (.var 10) .nil))) [("some", 10)])) .nil))) .nil)) (.cons (.expr (.mth .append (.var 2) (.cons (.tup (.cons (.var 4) (.cons (.callL .tup (.nw (.sortV (.var 6)))) .nil))) .nil))) .nil)))) (.cons (.ret (.callL .tup (.nw (.sortX (.of false (.vl (.var 2))))))) .nil))))
def N__law_within : List Str := ["one", "other", "pair"]
def b__law_within : Ss := (.cons (.ret (.and (.cmp .eq (.idx (.var 0) (.int 0)) (.idx (.var 1) (.int 0))) (.one (.cmp .eq (.callL .len (.nw (.lc (.vl (.idx (.var 0) (.int 1))) (.var 2) (.some (.cmp .notin (.var 2) (.idx (.var 1) (.int 1)))) (.var 2) [("pair", 2)]))) (.int 0))))) .nil)
def N__law_greatest : List Str := ["standings", "alone", "found", "one", "other"]
def b__law_greatest : Ss := (.cons (.set 1 (.new (.sortX (.of false (.vl (.var 0)))))) (.cons (.set 2 (.new (.disp .nil))) (.cons (.for (.var 3) (.vl (.var 1)) (.cons (.ifs (.cmp .eq (.callL .len (.nw (.lc (.vl (.var 1)) (.var 4) (.some (.and (.cmp .ne (.var 4) (.var 3)) (.one (.call 15 (.cons (.var 3) (.cons (.var 4) .nil)))))) (.var 4) [("other", 4)]))) (.int 0)) (.cons (.expr (.mth .append (.var 2) (.cons (.var 3) .nil))) .nil) .nil) .nil)) (.cons (.ret (.callL .tup (.vl (.var 2)))) .nil))))
def N__law_drawn : List Str := ["pool", "book", "kinds", "found", "lap", "roles", "family", "way", "kind", "rights", "at", "turn"]
def b__law_drawn : Ss := (.cons (.set 2 (.idx (.var 1) (.int 1))) (.cons (.set 3 (.new (.disp .nil))) (.cons (.for (.var 4) (.range1 (.bin .add (.int 2) (.call 6 (.cons (.var 0) (.cons (.int 5) .nil))))) (.cons (.ifs (.and (.var 3) (.one (.call 6 (.cons (.var 0) (.cons (.int 2) .nil))))) (.cons (.asg (.tup (.cons (.var 5) (.cons (.var 6) .nil))) (.idx (.var 3) (.call 6 (.cons (.var 0) (.cons (.call1 .len (.var 3)) .nil))))) (.cons (.set 7 (.call 6 (.cons (.var 0) (.cons (.int 4) .nil)))) (.cons (.ifs (.and (.cmp .eq (.var 7) (.int 0)) (.one (.cmp .gt (.call1 .len (.var 6)) (.int 0)))) (.cons (.set 10 (.call 6 (.cons (.var 0) (.cons (.call1 .len (.var 6)) .nil)))) (.cons (.set 6 (.bin .add (.slice (.var 6) .none (.some (.var 10))) (.slice (.var 6) (.some (.bin .add (.var 10) (.int 1))) .none))) .nil)) (.cons (.ifs (.cmp .eq (.var 7) (.int 1)) (.cons (.asg (.tup (.cons (.var 8) (.cons (.var 9) .nil))) (.idx (.var 2) (.call 6 (.cons (.var 0) (.cons (.call1 .len (.var 2)) .nil))))) (.cons (.set 6 (.callL .tup (.nw (.sortX (.of false (.vl (.bin .add (.var 6) (.tup (.cons (.tup (.cons (.var 8) (.cons (.call 10 (.cons (.var 0) (.cons (.var 9) (.cons (.int 2) .nil)))) .nil))) .nil))))))))) .nil)) (.cons (.ifs (.cmp .eq (.var 7) (.int 2)) (.cons (.set 5 (.call 10 (.cons (.var 0) (.cons (.idx (.var 1) (.int 0)) (.cons (.int 2) .nil))))) .nil) .nil) .nil)) .nil)) (.cons (.expr (.mth .append (.var 3) (.cons (.tup (.cons (.var 5) (.cons (.var 6) .nil))) .nil))) .nil)))) (.cons (.set 6 (.new (.disp .nil))) (.cons (.for (.tup (.cons (.var 8) (.cons (.var 9) .nil))) (.vl (.var 2)) (.cons (.expr (.mth .extend (.var 6) (.cons (.new (.lc (.range1 (.bin .add (.int 1) (.call 6 (.cons (.var 0) (.cons (.int 3) .nil))))) (.var 11) .none (.tup (.cons (.var 8) (.cons (.call 10 (.cons (.var 0) (.cons (.var 9) (.cons (.int 2) .nil)))) .nil))) [("turn", 11)])) .nil))) .nil)) (.cons (.expr (.mth .append (.var 3) (.cons (.tup (.cons (.call 10 (.cons (.var 0) (.cons (.idx (.var 1) (.int 0)) (.cons (.int 3) .nil)))) (.cons (.callL .tup (.nw (.sortX (.of false (.vl (.var 6)))))) .nil))) .nil))) .nil)))) .nil)) (.cons (.ret (.callL .tup (.vl (.var 3)))) .nil))))
def N_law : List Str := ["script", "pool", "lap", "book", "less", "more", "told", "starts", "rows", "one", "other", "due"]
def b_law : Ss := (.cons (.set 1 (.call 5 (.cons (.var 0) .nil))) (.cons (.for (.var 2) (.range1 (.int 4)) (.cons (.set 3 (.call 13 (.cons (.var 1) (.cons (.int 0) .nil)))) (.cons (.set 7 (.call 14 (.cons (.var 3) .nil))) (.cons (.ifs (.not (.call 8 (.cons (.tup (.cons (.call 2 (.cons (.var 3) .nil)) (.cons (.call 4 (.cons (.var 7) .nil)) .nil))) (.cons (.tup (.cons (.var 7) (.cons (.call 16 (.cons (.var 7) .nil)) .nil))) .nil)))) (.cons (.ret (.bl false)) .nil) .nil) (.cons (.set 8 (.call 17 (.cons (.var 1) (.cons (.var 3) .nil)))) (.cons (.ifs (.not (.call 8 (.cons (.tup (.cons (.call 4 (.cons (.var 8) .nil)) (.cons (.call 4 (.cons (.bin .add (.var 8) (.back (.var 8))) .nil)) .nil))) (.cons (.tup (.cons (.call 16 (.cons (.var 8) .nil)) (.cons (.call 16 (.cons (.var 8) .nil)) .nil))) .nil)))) (.cons (.ret (.bl false)) .nil) .nil) (.cons (.for (.var 9) (.vl (.var 8)) (.cons (.for (.var 10) (.vl (.tup (.cons (.idx (.var 8) (.call 6 (.cons (.var 1) (.cons (.call1 .len (.var 8)) .nil)))) (.cons (.var 9) (.cons (.idx (.var 7) (.int 0)) .nil))))) (.cons (.set 11 (.tup (.cons (.call 15 (.cons (.var 9) (.cons (.var 10) .nil))) (.cons (.call 15 (.cons (.var 10) (.cons (.var 9) .nil))) .nil)))) (.cons (.ifs (.not (.call 8 (.cons (.tup (.cons (.call 3 (.cons (.var 9) (.cons (.var 10) .nil))) (.cons (.call 3 (.cons (.var 10) (.cons (.var 9) .nil))) .nil))) (.cons (.var 11) .nil)))) (.cons (.ret (.bl false)) .nil) .nil) .nil))) .nil)) .nil))))))) (.cons (.set 3 (.tup (.cons (.tup .nil) (.cons (.tup (.cons (.tup (.cons (.str "doc") (.cons (.tup (.cons (.str "own") .nil)) .nil))) .nil)) (.cons (.tup (.cons (.tup (.cons (.str "a") (.cons (.tup .nil) (.cons (.tup (.cons (.tup (.cons (.tup .nil) .nil)) .nil)) .nil)))) (.cons (.tup (.cons (.str "b") (.cons (.tup .nil) (.cons (.tup (.cons (.tup (.cons (.tup .nil) .nil)) .nil)) .nil)))) (.cons (.tup (.cons (.str "c") (.cons (.tup .nil) (.cons (.tup (.cons (.tup (.cons (.tup .nil) (.cons (.tup (.cons (.str "own") .nil)) .nil))) .nil)) .nil)))) .nil)))) (.cons (.tup .nil) .nil)))))) (.cons (.asg (.tup (.cons (.var 4) (.cons (.var 5) .nil))) (.tup (.cons (.tup (.cons (.tup .nil) (.cons (.tup (.cons (.tup (.cons (.str "doc") (.cons (.tup .nil) .nil))) .nil)) .nil))) (.cons (.tup (.cons (.tup .nil) (.cons (.tup (.cons (.tup (.cons (.str "doc") (.cons (.tup .nil) .nil))) (.cons (.tup (.cons (.str "doc") (.cons (.tup (.cons (.str "own") .nil)) .nil))) .nil))) .nil))) .nil)))) (.cons (.set 6 (.tup (.cons (.callK 2 0 1 [0] .nil (.cons (.var 3) .nil)) (.cons (.callK 4 0 1 [0] .nil (.cons (.tup (.cons (.var 4) (.cons (.var 5) (.cons (.var 4) .nil)))) .nil)) (.cons (.call 4 (.cons (.tup .nil) .nil)) .nil))))) (.cons (.set 6 (.bin .add (.var 6) (.tup (.cons (.callK 3 0 2 [1, 0] .nil (.cons (.var 5) (.cons (.var 4) .nil))) .nil)))) (.cons (.ifs (.not (.call 8 (.cons (.var 6) (.cons (.tup (.cons (.tup (.cons (.var 4) (.cons (.var 5) .nil))) (.cons (.tup (.cons (.var 5) .nil)) (.cons (.tup .nil) (.cons (.bl true) .nil))))) .nil)))) (.cons (.ret (.bl false)) .nil) .nil) (.cons (.ret (.call 8 (.cons (.tup (.cons (.call 3 (.cons (.var 5) (.cons (.var 4) .nil))) (.cons (.call 3 (.cons (.tup (.cons (.tup (.cons (.str "b") .nil)) (.cons (.idx (.var 4) (.int 1)) .nil))) (.cons (.var 5) .nil))) .nil))) (.cons (.tup (.cons (.bl false) (.cons (.bl false) .nil))) .nil)))) .nil))))))))
def defs : List (Str × List Str × List KPat) := [
  ("has_all", ["one", "other"], []),
  ("start_standing", ["book", "start"], []),
  ("start_standings", ["book"], [(0, ["book"], [0])]),
  ("is_within", ["one", "other"], [(0, ["other", "one"], [1, 0])]),
  ("greatest", ["standings"], [(0, ["standings"], [0])]),
  ("_law_pool", ["script"], []),
  ("_law_draw", ["pool", "many"], []),
  ("_law_shuffled", ["pool", "row"], []),
  ("_law_same", ["told", "due"], []),
  ("_law_names", ["pool", "many"], []),
  ("_law_some", ["pool", "things", "odds"], []),
  ("_law_two", ["pool", "things", "odds"], []),
  ("_law_part", ["pool", "roles", "rights"], []),
  ("_law_book", ["pool", "commands"], []),
  ("_law_starts", ["book"], []),
  ("_law_within", ["one", "other"], []),
  ("_law_greatest", ["standings"], []),
  ("_law_drawn", ["pool", "book"], []),
  ("law", ["script"], [])]
def tab : List (Nat × Nat × Ss) := [(2, 3, b_has_all), (2, 7, b_start_standing), (1, 2, b_start_standings), (2, 2, b_is_within), (1, 4, b_greatest), (1, 2, b__law_pool), (2, 5, b__law_draw), (2, 5, b__law_shuffled), (2, 6, b__law_same), (2, 3, b__law_names), (3, 4, b__law_some), (3, 5, b__law_two), (3, 13, b__law_part), (2, 17, b__law_book), (1, 11, b__law_starts), (2, 3, b__law_within), (1, 5, b__law_greatest), (2, 12, b__law_drawn), (1, 12, b_law)]
def consts : List Str := []
def bl : List Str := ["abs", "all", "bool", "int", "isinstance", "len", "list", "range", "set", "sorted", "str", "tuple", "zip"]
theorem chk_has_all : chkSs { N := N_has_all, sc := defScope (top 1), fn := fun _ => true, defs := defs, consts := consts, bl := bl } b_has_all (defBody (top 1)) = true := by decide +kernel
theorem chk_start_standing : chkSs { N := N_start_standing, sc := defScope (top 3), fn := fun _ => true, defs := defs, consts := consts, bl := bl } b_start_standing (defBody (top 3)) = true := by decide +kernel
theorem chk_start_standings : chkSs { N := N_start_standings, sc := defScope (top 4), fn := fun _ => true, defs := defs, consts := consts, bl := bl } b_start_standings (defBody (top 4)) = true := by decide +kernel
theorem chk_is_within : chkSs { N := N_is_within, sc := defScope (top 5), fn := fun _ => true, defs := defs, consts := consts, bl := bl } b_is_within (defBody (top 5)) = true := by decide +kernel
theorem chk_greatest : chkSs { N := N_greatest, sc := defScope (top 6), fn := fun _ => true, defs := defs, consts := consts, bl := bl } b_greatest (defBody (top 6)) = true := by decide +kernel
theorem chk__law_pool : chkSs { N := N__law_pool, sc := defScope (top 8), fn := fun _ => true, defs := defs, consts := consts, bl := bl } b__law_pool (defBody (top 8)) = true := by decide +kernel
theorem chk__law_draw : chkSs { N := N__law_draw, sc := defScope (top 9), fn := fun _ => true, defs := defs, consts := consts, bl := bl } b__law_draw (defBody (top 9)) = true := by decide +kernel
theorem chk__law_shuffled : chkSs { N := N__law_shuffled, sc := defScope (top 10), fn := fun _ => true, defs := defs, consts := consts, bl := bl } b__law_shuffled (defBody (top 10)) = true := by decide +kernel
theorem chk__law_same : chkSs { N := N__law_same, sc := defScope (top 11), fn := fun _ => true, defs := defs, consts := consts, bl := bl } b__law_same (defBody (top 11)) = true := by decide +kernel
theorem chk__law_names : chkSs { N := N__law_names, sc := defScope (top 12), fn := fun _ => true, defs := defs, consts := consts, bl := bl } b__law_names (defBody (top 12)) = true := by decide +kernel
theorem chk__law_some : chkSs { N := N__law_some, sc := defScope (top 13), fn := fun _ => true, defs := defs, consts := consts, bl := bl } b__law_some (defBody (top 13)) = true := by decide +kernel
theorem chk__law_two : chkSs { N := N__law_two, sc := defScope (top 14), fn := fun _ => true, defs := defs, consts := consts, bl := bl } b__law_two (defBody (top 14)) = true := by decide +kernel
theorem chk__law_part : chkSs { N := N__law_part, sc := defScope (top 15), fn := fun _ => true, defs := defs, consts := consts, bl := bl } b__law_part (defBody (top 15)) = true := by decide +kernel
theorem chk__law_book : chkSs { N := N__law_book, sc := defScope (top 16), fn := fun _ => true, defs := defs, consts := consts, bl := bl } b__law_book (defBody (top 16)) = true := by decide +kernel
theorem chk__law_starts : chkSs { N := N__law_starts, sc := defScope (top 17), fn := fun _ => true, defs := defs, consts := consts, bl := bl } b__law_starts (defBody (top 17)) = true := by decide +kernel
theorem chk__law_within : chkSs { N := N__law_within, sc := defScope (top 18), fn := fun _ => true, defs := defs, consts := consts, bl := bl } b__law_within (defBody (top 18)) = true := by decide +kernel
theorem chk__law_greatest : chkSs { N := N__law_greatest, sc := defScope (top 19), fn := fun _ => true, defs := defs, consts := consts, bl := bl } b__law_greatest (defBody (top 19)) = true := by decide +kernel
theorem chk__law_drawn : chkSs { N := N__law_drawn, sc := defScope (top 20), fn := fun _ => true, defs := defs, consts := consts, bl := bl } b__law_drawn (defBody (top 20)) = true := by decide +kernel
theorem chk_law : chkSs { N := N_law, sc := defScope (top 21), fn := fun _ => true, defs := defs, consts := consts, bl := bl } b_law (defBody (top 21)) = true := by decide +kernel
theorem sc_has_all : FnScope N_has_all ["one", "other"] (defScope (top 1)) := ⟨rfl, rfl, rfl, by decide +kernel, rfl, by decide +kernel, by decide +kernel⟩
theorem sc_start_standing : FnScope N_start_standing ["book", "start"] (defScope (top 3)) := ⟨rfl, rfl, rfl, by decide +kernel, rfl, by decide +kernel, by decide +kernel⟩
theorem sc_start_standings : FnScope N_start_standings ["book"] (defScope (top 4)) := ⟨rfl, rfl, rfl, by decide +kernel, rfl, by decide +kernel, by decide +kernel⟩
theorem sc_is_within : FnScope N_is_within ["one", "other"] (defScope (top 5)) := ⟨rfl, rfl, rfl, by decide +kernel, rfl, by decide +kernel, by decide +kernel⟩
theorem sc_greatest : FnScope N_greatest ["standings"] (defScope (top 6)) := ⟨rfl, rfl, rfl, by decide +kernel, rfl, by decide +kernel, by decide +kernel⟩
theorem sc__law_pool : FnScope N__law_pool ["script"] (defScope (top 8)) := ⟨rfl, rfl, rfl, by decide +kernel, rfl, by decide +kernel, by decide +kernel⟩
theorem sc__law_draw : FnScope N__law_draw ["pool", "many"] (defScope (top 9)) := ⟨rfl, rfl, rfl, by decide +kernel, rfl, by decide +kernel, by decide +kernel⟩
theorem sc__law_shuffled : FnScope N__law_shuffled ["pool", "row"] (defScope (top 10)) := ⟨rfl, rfl, rfl, by decide +kernel, rfl, by decide +kernel, by decide +kernel⟩
theorem sc__law_same : FnScope N__law_same ["told", "due"] (defScope (top 11)) := ⟨rfl, rfl, rfl, by decide +kernel, rfl, by decide +kernel, by decide +kernel⟩
theorem sc__law_names : FnScope N__law_names ["pool", "many"] (defScope (top 12)) := ⟨rfl, rfl, rfl, by decide +kernel, rfl, by decide +kernel, by decide +kernel⟩
theorem sc__law_some : FnScope N__law_some ["pool", "things", "odds"] (defScope (top 13)) := ⟨rfl, rfl, rfl, by decide +kernel, rfl, by decide +kernel, by decide +kernel⟩
theorem sc__law_two : FnScope N__law_two ["pool", "things", "odds"] (defScope (top 14)) := ⟨rfl, rfl, rfl, by decide +kernel, rfl, by decide +kernel, by decide +kernel⟩
theorem sc__law_part : FnScope N__law_part ["pool", "roles", "rights"] (defScope (top 15)) := ⟨rfl, rfl, rfl, by decide +kernel, rfl, by decide +kernel, by decide +kernel⟩
theorem sc__law_book : FnScope N__law_book ["pool", "commands"] (defScope (top 16)) := ⟨rfl, rfl, rfl, by decide +kernel, rfl, by decide +kernel, by decide +kernel⟩
theorem sc__law_starts : FnScope N__law_starts ["book"] (defScope (top 17)) := ⟨rfl, rfl, rfl, by decide +kernel, rfl, by decide +kernel, by decide +kernel⟩
theorem sc__law_within : FnScope N__law_within ["one", "other"] (defScope (top 18)) := ⟨rfl, rfl, rfl, by decide +kernel, rfl, by decide +kernel, by decide +kernel⟩
theorem sc__law_greatest : FnScope N__law_greatest ["standings"] (defScope (top 19)) := ⟨rfl, rfl, rfl, by decide +kernel, rfl, by decide +kernel, by decide +kernel⟩
theorem sc__law_drawn : FnScope N__law_drawn ["pool", "book"] (defScope (top 20)) := ⟨rfl, rfl, rfl, by decide +kernel, rfl, by decide +kernel, by decide +kernel⟩
theorem sc_law : FnScope N_law ["script"] (defScope (top 21)) := ⟨rfl, rfl, rfl, by decide +kernel, rfl, by decide +kernel, by decide +kernel⟩
abbrev R : PySem.W.OpenRow := PySem.W.OpenLaw.row PySem.Challenge.rw_eachownmay_k05_standings
def fn : List He.DefD := [⟨("has_all", none), "has_all", "has_all", defArgs (top 1), defBody (top 1), defScope (top 1), [], []⟩, ⟨("start_standing", none), "start_standing", "start_standing", defArgs (top 3), defBody (top 3), defScope (top 3), [], []⟩, ⟨("start_standings", none), "start_standings", "start_standings", defArgs (top 4), defBody (top 4), defScope (top 4), [], []⟩, ⟨("is_within", none), "is_within", "is_within", defArgs (top 5), defBody (top 5), defScope (top 5), [], []⟩, ⟨("greatest", none), "greatest", "greatest", defArgs (top 6), defBody (top 6), defScope (top 6), [], []⟩, ⟨("_law_pool", none), "_law_pool", "_law_pool", defArgs (top 8), defBody (top 8), defScope (top 8), [], []⟩, ⟨("_law_draw", none), "_law_draw", "_law_draw", defArgs (top 9), defBody (top 9), defScope (top 9), [], []⟩, ⟨("_law_shuffled", none), "_law_shuffled", "_law_shuffled", defArgs (top 10), defBody (top 10), defScope (top 10), [], []⟩, ⟨("_law_same", none), "_law_same", "_law_same", defArgs (top 11), defBody (top 11), defScope (top 11), [], []⟩, ⟨("_law_names", none), "_law_names", "_law_names", defArgs (top 12), defBody (top 12), defScope (top 12), [], []⟩, ⟨("_law_some", none), "_law_some", "_law_some", defArgs (top 13), defBody (top 13), defScope (top 13), [], []⟩, ⟨("_law_two", none), "_law_two", "_law_two", defArgs (top 14), defBody (top 14), defScope (top 14), [], []⟩, ⟨("_law_part", none), "_law_part", "_law_part", defArgs (top 15), defBody (top 15), defScope (top 15), [], []⟩, ⟨("_law_book", none), "_law_book", "_law_book", defArgs (top 16), defBody (top 16), defScope (top 16), [], []⟩, ⟨("_law_starts", none), "_law_starts", "_law_starts", defArgs (top 17), defBody (top 17), defScope (top 17), [], []⟩, ⟨("_law_within", none), "_law_within", "_law_within", defArgs (top 18), defBody (top 18), defScope (top 18), [], []⟩, ⟨("_law_greatest", none), "_law_greatest", "_law_greatest", defArgs (top 19), defBody (top 19), defScope (top 19), [], []⟩, ⟨("_law_drawn", none), "_law_drawn", "_law_drawn", defArgs (top 20), defBody (top 20), defScope (top 20), [], []⟩, ⟨("law", none), "law", "law", defArgs (top 21), defBody (top 21), defScope (top 21), [], []⟩]
def fa : List He.Fa := [.glo "has_all", .glo "start_standing", .glo "start_standings", .glo "is_within", .glo "greatest", .glo "_law_pool", .glo "_law_draw", .glo "_law_shuffled", .glo "_law_same", .glo "_law_names", .glo "_law_some", .glo "_law_two", .glo "_law_part", .glo "_law_book", .glo "_law_starts", .glo "_law_within", .glo "_law_greatest", .glo "_law_drawn", .glo "law", .free "abs", .free "all", .free "bool", .free "int", .free "isinstance", .free "len", .free "list", .free "range", .free "set", .free "sorted", .free "str", .free "tuple", .free "zip"]
section
variable {P : Program} {w : World} {K : PySem.W.Frag} {mg : Str → Option Value} {h : Heap}
theorem is_has_all (X : K.In h) (G : h.Ns mainGlobals mg) (c : He.SaysD fa fn K) : DefIs K mg defs consts bl tab 0 "has_all" ["one", "other"] [] := by
  obtain ⟨fd, F⟩ := c.def_ 0 rfl
  refine ⟨_, fd, _, _, _, _, N_has_all, b_has_all, F, sc_has_all, He.glo_ok X G (c.fact 0 (f := .glo "has_all") rfl), fun _ _ _ _ _ _ us hl => match us, hl with | [_, _], _ => rfl, fun q hq => by simp at hq, rfl, chk_has_all⟩
theorem is_start_standing (X : K.In h) (G : h.Ns mainGlobals mg) (c : He.SaysD fa fn K) : DefIs K mg defs consts bl tab 1 "start_standing" ["book", "start"] [] := by
  obtain ⟨fd, F⟩ := c.def_ 1 rfl
  refine ⟨_, fd, _, _, _, _, N_start_standing, b_start_standing, F, sc_start_standing, He.glo_ok X G (c.fact 1 (f := .glo "start_standing") rfl), fun _ _ _ _ _ _ us hl => match us, hl with | [_, _], _ => rfl, fun q hq => by simp at hq, rfl, chk_start_standing⟩
theorem is_start_standings (X : K.In h) (G : h.Ns mainGlobals mg) (c : He.SaysD fa fn K) : DefIs K mg defs consts bl tab 2 "start_standings" ["book"] [(0, ["book"], [0])] := by
  obtain ⟨fd, F⟩ := c.def_ 2 rfl
  refine ⟨_, fd, _, _, _, _, N_start_standings, b_start_standings, F, sc_start_standings, He.glo_ok X G (c.fact 2 (f := .glo "start_standings") rfl), fun _ _ _ _ _ _ us hl => match us, hl with | [_], _ => rfl, ?_, rfl, chk_start_standings⟩
  refine fun q hq => by
      simp only [List.mem_cons, List.not_mem_nil, or_false] at hq
      subst hq
      exact fun _ _ _ _ _ _ us ws h1 h2 => match us, ws, h1, h2 with | [], [_], _, _ => rfl
theorem is_is_within (X : K.In h) (G : h.Ns mainGlobals mg) (c : He.SaysD fa fn K) : DefIs K mg defs consts bl tab 3 "is_within" ["one", "other"] [(0, ["other", "one"], [1, 0])] := by
  obtain ⟨fd, F⟩ := c.def_ 3 rfl
  refine ⟨_, fd, _, _, _, _, N_is_within, b_is_within, F, sc_is_within, He.glo_ok X G (c.fact 3 (f := .glo "is_within") rfl), fun _ _ _ _ _ _ us hl => match us, hl with | [_, _], _ => rfl, ?_, rfl, chk_is_within⟩
  refine fun q hq => by
      simp only [List.mem_cons, List.not_mem_nil, or_false] at hq
      subst hq
      exact fun _ _ _ _ _ _ us ws h1 h2 => match us, ws, h1, h2 with | [], [_, _], _, _ => rfl
theorem is_greatest (X : K.In h) (G : h.Ns mainGlobals mg) (c : He.SaysD fa fn K) : DefIs K mg defs consts bl tab 4 "greatest" ["standings"] [(0, ["standings"], [0])] := by
  obtain ⟨fd, F⟩ := c.def_ 4 rfl
  refine ⟨_, fd, _, _, _, _, N_greatest, b_greatest, F, sc_greatest, He.glo_ok X G (c.fact 4 (f := .glo "greatest") rfl), fun _ _ _ _ _ _ us hl => match us, hl with | [_], _ => rfl, ?_, rfl, chk_greatest⟩
  refine fun q hq => by
      simp only [List.mem_cons, List.not_mem_nil, or_false] at hq
      subst hq
      exact fun _ _ _ _ _ _ us ws h1 h2 => match us, ws, h1, h2 with | [], [_], _, _ => rfl
theorem is__law_pool (X : K.In h) (G : h.Ns mainGlobals mg) (c : He.SaysD fa fn K) : DefIs K mg defs consts bl tab 5 "_law_pool" ["script"] [] := by
  obtain ⟨fd, F⟩ := c.def_ 5 rfl
  refine ⟨_, fd, _, _, _, _, N__law_pool, b__law_pool, F, sc__law_pool, He.glo_ok X G (c.fact 5 (f := .glo "_law_pool") rfl), fun _ _ _ _ _ _ us hl => match us, hl with | [_], _ => rfl, fun q hq => by simp at hq, rfl, chk__law_pool⟩
theorem is__law_draw (X : K.In h) (G : h.Ns mainGlobals mg) (c : He.SaysD fa fn K) : DefIs K mg defs consts bl tab 6 "_law_draw" ["pool", "many"] [] := by
  obtain ⟨fd, F⟩ := c.def_ 6 rfl
  refine ⟨_, fd, _, _, _, _, N__law_draw, b__law_draw, F, sc__law_draw, He.glo_ok X G (c.fact 6 (f := .glo "_law_draw") rfl), fun _ _ _ _ _ _ us hl => match us, hl with | [_, _], _ => rfl, fun q hq => by simp at hq, rfl, chk__law_draw⟩
theorem is__law_shuffled (X : K.In h) (G : h.Ns mainGlobals mg) (c : He.SaysD fa fn K) : DefIs K mg defs consts bl tab 7 "_law_shuffled" ["pool", "row"] [] := by
  obtain ⟨fd, F⟩ := c.def_ 7 rfl
  refine ⟨_, fd, _, _, _, _, N__law_shuffled, b__law_shuffled, F, sc__law_shuffled, He.glo_ok X G (c.fact 7 (f := .glo "_law_shuffled") rfl), fun _ _ _ _ _ _ us hl => match us, hl with | [_, _], _ => rfl, fun q hq => by simp at hq, rfl, chk__law_shuffled⟩
theorem is__law_same (X : K.In h) (G : h.Ns mainGlobals mg) (c : He.SaysD fa fn K) : DefIs K mg defs consts bl tab 8 "_law_same" ["told", "due"] [] := by
  obtain ⟨fd, F⟩ := c.def_ 8 rfl
  refine ⟨_, fd, _, _, _, _, N__law_same, b__law_same, F, sc__law_same, He.glo_ok X G (c.fact 8 (f := .glo "_law_same") rfl), fun _ _ _ _ _ _ us hl => match us, hl with | [_, _], _ => rfl, fun q hq => by simp at hq, rfl, chk__law_same⟩
theorem is__law_names (X : K.In h) (G : h.Ns mainGlobals mg) (c : He.SaysD fa fn K) : DefIs K mg defs consts bl tab 9 "_law_names" ["pool", "many"] [] := by
  obtain ⟨fd, F⟩ := c.def_ 9 rfl
  refine ⟨_, fd, _, _, _, _, N__law_names, b__law_names, F, sc__law_names, He.glo_ok X G (c.fact 9 (f := .glo "_law_names") rfl), fun _ _ _ _ _ _ us hl => match us, hl with | [_, _], _ => rfl, fun q hq => by simp at hq, rfl, chk__law_names⟩
theorem is__law_some (X : K.In h) (G : h.Ns mainGlobals mg) (c : He.SaysD fa fn K) : DefIs K mg defs consts bl tab 10 "_law_some" ["pool", "things", "odds"] [] := by
  obtain ⟨fd, F⟩ := c.def_ 10 rfl
  refine ⟨_, fd, _, _, _, _, N__law_some, b__law_some, F, sc__law_some, He.glo_ok X G (c.fact 10 (f := .glo "_law_some") rfl), fun _ _ _ _ _ _ us hl => match us, hl with | [_, _, _], _ => rfl, fun q hq => by simp at hq, rfl, chk__law_some⟩
theorem is__law_two (X : K.In h) (G : h.Ns mainGlobals mg) (c : He.SaysD fa fn K) : DefIs K mg defs consts bl tab 11 "_law_two" ["pool", "things", "odds"] [] := by
  obtain ⟨fd, F⟩ := c.def_ 11 rfl
  refine ⟨_, fd, _, _, _, _, N__law_two, b__law_two, F, sc__law_two, He.glo_ok X G (c.fact 11 (f := .glo "_law_two") rfl), fun _ _ _ _ _ _ us hl => match us, hl with | [_, _, _], _ => rfl, fun q hq => by simp at hq, rfl, chk__law_two⟩
theorem is__law_part (X : K.In h) (G : h.Ns mainGlobals mg) (c : He.SaysD fa fn K) : DefIs K mg defs consts bl tab 12 "_law_part" ["pool", "roles", "rights"] [] := by
  obtain ⟨fd, F⟩ := c.def_ 12 rfl
  refine ⟨_, fd, _, _, _, _, N__law_part, b__law_part, F, sc__law_part, He.glo_ok X G (c.fact 12 (f := .glo "_law_part") rfl), fun _ _ _ _ _ _ us hl => match us, hl with | [_, _, _], _ => rfl, fun q hq => by simp at hq, rfl, chk__law_part⟩
theorem is__law_book (X : K.In h) (G : h.Ns mainGlobals mg) (c : He.SaysD fa fn K) : DefIs K mg defs consts bl tab 13 "_law_book" ["pool", "commands"] [] := by
  obtain ⟨fd, F⟩ := c.def_ 13 rfl
  refine ⟨_, fd, _, _, _, _, N__law_book, b__law_book, F, sc__law_book, He.glo_ok X G (c.fact 13 (f := .glo "_law_book") rfl), fun _ _ _ _ _ _ us hl => match us, hl with | [_, _], _ => rfl, fun q hq => by simp at hq, rfl, chk__law_book⟩
theorem is__law_starts (X : K.In h) (G : h.Ns mainGlobals mg) (c : He.SaysD fa fn K) : DefIs K mg defs consts bl tab 14 "_law_starts" ["book"] [] := by
  obtain ⟨fd, F⟩ := c.def_ 14 rfl
  refine ⟨_, fd, _, _, _, _, N__law_starts, b__law_starts, F, sc__law_starts, He.glo_ok X G (c.fact 14 (f := .glo "_law_starts") rfl), fun _ _ _ _ _ _ us hl => match us, hl with | [_], _ => rfl, fun q hq => by simp at hq, rfl, chk__law_starts⟩
theorem is__law_within (X : K.In h) (G : h.Ns mainGlobals mg) (c : He.SaysD fa fn K) : DefIs K mg defs consts bl tab 15 "_law_within" ["one", "other"] [] := by
  obtain ⟨fd, F⟩ := c.def_ 15 rfl
  refine ⟨_, fd, _, _, _, _, N__law_within, b__law_within, F, sc__law_within, He.glo_ok X G (c.fact 15 (f := .glo "_law_within") rfl), fun _ _ _ _ _ _ us hl => match us, hl with | [_, _], _ => rfl, fun q hq => by simp at hq, rfl, chk__law_within⟩
theorem is__law_greatest (X : K.In h) (G : h.Ns mainGlobals mg) (c : He.SaysD fa fn K) : DefIs K mg defs consts bl tab 16 "_law_greatest" ["standings"] [] := by
  obtain ⟨fd, F⟩ := c.def_ 16 rfl
  refine ⟨_, fd, _, _, _, _, N__law_greatest, b__law_greatest, F, sc__law_greatest, He.glo_ok X G (c.fact 16 (f := .glo "_law_greatest") rfl), fun _ _ _ _ _ _ us hl => match us, hl with | [_], _ => rfl, fun q hq => by simp at hq, rfl, chk__law_greatest⟩
theorem is__law_drawn (X : K.In h) (G : h.Ns mainGlobals mg) (c : He.SaysD fa fn K) : DefIs K mg defs consts bl tab 17 "_law_drawn" ["pool", "book"] [] := by
  obtain ⟨fd, F⟩ := c.def_ 17 rfl
  refine ⟨_, fd, _, _, _, _, N__law_drawn, b__law_drawn, F, sc__law_drawn, He.glo_ok X G (c.fact 17 (f := .glo "_law_drawn") rfl), fun _ _ _ _ _ _ us hl => match us, hl with | [_, _], _ => rfl, fun q hq => by simp at hq, rfl, chk__law_drawn⟩
theorem is_law (X : K.In h) (G : h.Ns mainGlobals mg) (c : He.SaysD fa fn K) : DefIs K mg defs consts bl tab 18 "law" ["script"] [] := by
  obtain ⟨fd, F⟩ := c.def_ 18 rfl
  refine ⟨_, fd, _, _, _, _, N_law, b_law, F, sc_law, He.glo_ok X G (c.fact 18 (f := .glo "law") rfl), fun _ _ _ _ _ _ us hl => match us, hl with | [_], _ => rfl, fun q hq => by simp at hq, rfl, chk_law⟩
theorem defs_ok (X : K.In h) (G : h.Ns mainGlobals mg) (c : He.SaysD fa fn K) : ∀ (j : Nat) x ps kp, defs[j]? = some (x, ps, kp) → DefIs K mg defs consts bl tab j x ps kp := by
  intro j x ps kp e
  match j, e with
  | 0, e => cases e; exact is_has_all X G c
  | 1, e => cases e; exact is_start_standing X G c
  | 2, e => cases e; exact is_start_standings X G c
  | 3, e => cases e; exact is_is_within X G c
  | 4, e => cases e; exact is_greatest X G c
  | 5, e => cases e; exact is__law_pool X G c
  | 6, e => cases e; exact is__law_draw X G c
  | 7, e => cases e; exact is__law_shuffled X G c
  | 8, e => cases e; exact is__law_same X G c
  | 9, e => cases e; exact is__law_names X G c
  | 10, e => cases e; exact is__law_some X G c
  | 11, e => cases e; exact is__law_two X G c
  | 12, e => cases e; exact is__law_part X G c
  | 13, e => cases e; exact is__law_book X G c
  | 14, e => cases e; exact is__law_starts X G c
  | 15, e => cases e; exact is__law_within X G c
  | 16, e => cases e; exact is__law_greatest X G c
  | 17, e => cases e; exact is__law_drawn X G c
  | 18, e => cases e; exact is_law X G c
  | j + 19, e => simp [defs] at e
theorem free_ok (X : K.In h) (G : h.Ns mainGlobals mg) (c : He.SaysD fa fn K) : ∀ x ∈ bl, mg x = none := by
  intro x hx
  simp only [bl, List.mem_cons, List.not_mem_nil, or_false] at hx
  rcases hx with rfl | rfl | rfl | rfl | rfl | rfl | rfl | rfl | rfl | rfl | rfl | rfl | rfl
  · exact He.free_ok X G (c.fact 19 (f := .free "abs") rfl)
  · exact He.free_ok X G (c.fact 20 (f := .free "all") rfl)
  · exact He.free_ok X G (c.fact 21 (f := .free "bool") rfl)
  · exact He.free_ok X G (c.fact 22 (f := .free "int") rfl)
  · exact He.free_ok X G (c.fact 23 (f := .free "isinstance") rfl)
  · exact He.free_ok X G (c.fact 24 (f := .free "len") rfl)
  · exact He.free_ok X G (c.fact 25 (f := .free "list") rfl)
  · exact He.free_ok X G (c.fact 26 (f := .free "range") rfl)
  · exact He.free_ok X G (c.fact 27 (f := .free "set") rfl)
  · exact He.free_ok X G (c.fact 28 (f := .free "sorted") rfl)
  · exact He.free_ok X G (c.fact 29 (f := .free "str") rfl)
  · exact He.free_ok X G (c.fact 30 (f := .free "tuple") rfl)
  · exact He.free_ok X G (c.fact 31 (f := .free "zip") rfl)
end
end Kk05

set_option Elab.async false
set_option linter.all false
set_option maxRecDepth 100000
set_option maxHeartbeats 0
namespace Kk05
open PySem PySem.Spec PyProof.Rows L2 Ev
abbrev hk : PySem.W.Hook := He.hookD 4 fa fn
def ob (s : PySem.W.SharedT) : He.AlD := He.obsDG 4 fa fn (HandSHeadRun.getT s)
theorem ob_eq (s : PySem.W.SharedT) : ob s = hk.obs s.abs := He.obsDG_eq (HandSHeadRun.getT_eq s)
def loose : List PySem.Str := ["has_all", "start_standing", "start_standings", "is_within", "greatest", "_law_pool", "_law_draw", "_law_shuffled", "_law_same", "_law_names", "_law_some", "_law_two", "_law_part", "_law_book", "_law_starts", "_law_within", "_law_greatest", "_law_drawn"]
theorem run (w : World) : HandSHeadRun.RunEq R (PySem.W.view R.prog [21]) hk ob 2000 loose w := by
  intro os
  kernel_rfl
end Kk05
open PySem PySem.W PySem.Calls PyProof.Rows
theorem k05_holds (T : ∀ ns : List Int, ns.length ≤ 63 → ∃ ah, Ev.G Kk05.tab (fun _ => .non) 40 18 [.ref 0] (Ev.scr ns) = .ok (.bl true) ah) : PySem.Challenge.rw_eachownmay_k05_standings.Holds := by
  w_on; o_law
  refine HandSHeadRun.head_any (r := OpenLaw.row PySem.Challenge.rw_eachownmay_k05_standings) (q := view (OpenLaw.row PySem.Challenge.rw_eachownmay_k05_standings).prog [21]) (H := Kk05.hk) (ob := Kk05.ob) (M := 2000) (loose := Kk05.loose) (d := HandSHeadRun.topDef (OpenLaw.row PySem.Challenge.rw_eachownmay_k05_standings).prog 21) (kwd := []) Kk05.ob_eq
    (by kernel_rfl) (fun s => by kernel_rfl) Kk05.run (by kernel_rfl) (by kernel_rfl) (by kernel_rfl) (by rfl) (by first | assumption | decide +kernel) (by decide +kernel) ⟨rfl, rfl, rfl, rfl, rfl, by decide +kernel⟩ ?hw ?hc
  case hw => w_witness2
  case hc =>
    refine Ev.law_end (l := PySem.Challenge.rw_eachownmay_k05_standings) (defs := Kk05.defs) (consts := Kk05.consts) (bl := Kk05.bl) (tab := Kk05.tab) (κ := fun _ => .non) (j := 18) (x := "law") (kp := []) rfl (by kernel_rfl) (by kernel_rfl) rfl ?_ T
    intro w mg h Y G
    obtain ⟨K, KX, c⟩ := Y
    exact ⟨K, KX, Kk05.defs_ok KX G c, fun K' j x e => by simp [Kk05.consts] at e, Kk05.free_ok KX G c⟩

set_option Elab.async false
set_option linter.all false
set_option maxRecDepth 100000
set_option maxHeartbeats 2000000
set_option autoImplicit false
namespace Ev
open PySem L2
section
variable {κ : Nat → D} (k : Nat)
noncomputable abbrev g5 (κ : Nat → D) (k : Nat) := G Kk05.tab κ k
theorem e6 : g5 κ (k + 1) 6 = defM 2 5 (semSs (g5 κ k) κ (drawB 22695739 146009 16217 2147481751 16)) := rfl
theorem k5draw : DrawOk (g5 κ (k + 1) 6) := by rw [e6]; exact draw_ok (by decide) (by decide) (by decide) (by decide) (by decide) (by decide) (by decide) (by decide)
theorem e0 : g5 κ (k + 1) 0 = defM 2 3 (semSs (g5 κ k) κ hasallB) := rfl
theorem k5hasall : HasAllOk (g5 κ (k + 1) 0) := by rw [e0]; exact hasall_ok
theorem e1 : g5 κ (k + 1) 1 = defM 2 7 (semSs (g5 κ k) κ ssB) := rfl
theorem k5ss : SsOk (g5 κ (k + 1) 1) := by rw [e1]; exact ss_ok
theorem e2 : g5 κ (k + 1) 2 = defM 1 2 (semSs (g5 κ k) κ stsB) := rfl
theorem k5sts : StsOk (g5 κ (k + 2) 2) := by rw [e2]; exact sts_ok (k5ss k)
theorem e3 : g5 κ (k + 1) 3 = defM 2 2 (semSs (g5 κ k) κ iswB) := rfl
theorem k5isw : WthOk (g5 κ (k + 2) 3) := by rw [e3]; exact isw_ok (k5hasall k)
theorem e4 : g5 κ (k + 1) 4 = defM 1 4 (semSs (g5 κ k) κ grtB) := rfl
theorem k5grt : GrtOk (g5 κ (k + 3) 4) := by rw [e4]; exact grt_ok (k5isw k)
theorem e5 : g5 κ (k + 1) 5 = defM 1 2 (semSs (g5 κ k) κ (poolB 40289)) := rfl
theorem k5pool : PoolMk (g5 κ (k + 1) 5) := by rw [e5]; exact pool_mk (by decide) (by decide)
theorem e7 : g5 κ (k + 1) 7 = defM 2 5 (semSs (g5 κ k) κ shufB) := rfl
theorem k5shuf : ShufOk (g5 κ (k + 2) 7) := by rw [e7]; exact shuf_ok (k5draw k)
theorem e8 : g5 κ (k + 1) 8 = defM 2 6 (semSs (g5 κ k) κ sameB) := rfl
theorem k5same : SameOk (g5 κ (k + 1) 8) := by rw [e8]; exact same_ok
theorem e9 : g5 κ (k + 1) 9 = defM 2 3 (semSs (g5 κ k) κ namesB) := rfl
theorem k5names : NamesOk (g5 κ (k + 3) 9) := by rw [e9]; exact names_ok (k5shuf k)
theorem e10 : g5 κ (k + 1) 10 = defM 3 4 (semSs (g5 κ k) κ someB) := rfl
theorem k5some : SomeOk (g5 κ (k + 2) 10) := by rw [e10]; exact some_ok (k5draw k)
theorem e13 : g5 κ (k + 1) 13 = defM 2 17 (semSs (g5 κ k) κ bookB) := rfl
theorem k5book : BookOk (g5 κ (k + 4) 13) := by rw [e13]; exact book_ok (k5draw (k + 2)) (k5shuf (k + 1)) (k5names k) (k5some (k + 1))
theorem e14 : g5 κ (k + 1) 14 = defM 1 11 (semSs (g5 κ k) κ lstB) := rfl
theorem k5lst : StsOk (g5 κ (k + 1) 14) := by rw [e14]; exact lst_ok
theorem e15 : g5 κ (k + 1) 15 = defM 2 3 (semSs (g5 κ k) κ lwB) := rfl
theorem k5lw : WthOk (g5 κ (k + 1) 15) := by rw [e15]; exact lw_ok
theorem e16 : g5 κ (k + 1) 16 = defM 1 5 (semSs (g5 κ k) κ lgrB) := rfl
theorem k5lgr : GrtOk (g5 κ (k + 2) 16) := by rw [e16]; exact lgr_ok (k5lw k)
theorem e17 : g5 κ (k + 1) 17 = defM 2 12 (semSs (g5 κ k) κ drawnB) := rfl
theorem k5drawn : DrawnOk (g5 κ (k + 3) 17) := by rw [e17]; exact drawn_ok (k5draw (k + 1)) (k5some k)
theorem e18 : g5 κ (k + 1) 18 = defM 1 12 (semSs (g5 κ k) κ lawB) := rfl
theorem k5law : LawOk (g5 κ (k + 5)) := ⟨k5isw (k + 3), k5sts (k + 3), k5grt (k + 2), k5pool (k + 4), k5draw (k + 4), k5same (k + 4), k5book (k + 1), k5lst (k + 4), k5lw (k + 4), k5lgr (k + 3), k5drawn (k + 2)⟩
end
theorem k05_T (ns : List Int) (_ : ns.length ≤ 63) : ∃ ah, G Kk05.tab (fun _ => .non) 40 18 [.ref 0] (scr ns) = .ok (.bl true) ah := by
  have h : Run (g5 (fun _ => .non) 40 18 [.ref 0]) (scr ns) fun d _ => d = .bl true := by
    rw [e18 39]; exact law_turn (k5law 34) ns
  obtain ⟨d, ah, e, hd⟩ := h.out
  subst hd
  exact ⟨ah, e⟩
end Ev
theorem PySem.Challenge.cw_eachownmay_k05_standings_holds : PySem.Challenge.rw_eachownmay_k05_standings.Holds :=
  k05_holds Ev.k05_T

