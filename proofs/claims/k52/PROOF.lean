import PyProof.Rows.All
import Wide.All
import OpenK.AllK
import Wide.FinOn
import KE.KStateDown
import HandS.ForMost
import HandS.WordsExc
import HandS.Defaults
import HandS.Wide
import HandS.TupAny
import HandS.Deep
import HandS.IsInst
import HandS.SortInts
import HandS.SortRule
import HandS.Flow
import HandS.More
import HandS.Zip
import HandS.DictComp
import HandS.Style
import HandS.ExcOwn
import HandS.Head0
import HandS.Head1
import HandS.Head2
import HandS.HeadEnd
import HandS.HeadHook1
import HandS.HeadHook2
import Lean
import PySem.Challenge.RW_numberedapart_k52_heaps_in_one_room
set_option Elab.async false
set_option linter.all false
set_option maxRecDepth 100000
set_option maxHeartbeats 0
namespace M
open PySem PySem.Spec PyProof.Rows L2

inductive D where
  | non | bl (b : Bool) | int (i : Int) | str (x : Str)
  | tup (xs : List D) | lst (xs : List D) | dct (tk : Bool) (ks us : List D) | obj (l : Nat) | fn (i : Nat)

structure Wo where
  φ : Nat → Addr
  F : Addr → Prop

def keyK : D → Option Key
  | .int i => some (.inl i)
  | .str x => some (.inr x)
  | _ => none
def keyKs : List D → Option (List Key)
  | [] => some []
  | d :: ds => match keyK d, keyKs ds with
    | some k, some ks => some (k :: ks)
    | _, _ => none
def keyT : D → Option (List Key)
  | .tup ds => keyKs ds
  | _ => none

/-- a dict at p: keys as data, values as V -/
def DKV (H : Hp) (p : Addr) (tk : Bool) (ks : List D) (vs : List V) : Prop :=
  if tk then ∃ kvs : List (List Key × V), H p = some (.dT kvs) ∧ ks.map keyT = kvs.map (fun q => some q.1) ∧ vs = kvs.map (·.2)
  else ∃ kvs : List (Key × V), H p = some (.dK kvs) ∧ ks.map keyK = kvs.map (fun q => some q.1) ∧ vs = kvs.map (·.2)

section
variable (fa : Nat → Option Addr) (W : Wo) (N : Nat) (H : Hp)
mutual
def RD : D → V → Prop
  | .non, v => v = .non
  | .bl b, v => v = .bl b
  | .int i, v => v = .int i
  | .str x, v => v = .str x
  | .tup ds, v => ∃ p vs, v = .ref p ∧ H p = some (.tup vs) ∧ RDs ds vs
  | .lst ds, v => ∃ p vs, v = .ref p ∧ Rd H p (.lst vs) ∧ ¬ W.F p ∧ RDs ds vs
  | .dct tk ks us, v => ∃ p vs, v = .ref p ∧ DKV H p tk ks vs ∧ ¬ W.F p ∧ RDs us vs
  | .obj l, v => l < N ∧ v = .ref (W.φ l)
  | .fn i, v => ∃ a, fa i = some a ∧ v = .ref a
def RDs : List D → List V → Prop
  | [], vs => vs = []
  | d :: ds, vs => ∃ v ws, vs = v :: ws ∧ RD d v ∧ RDs ds ws
end
end

inductive Cell where
  | lst (ds : List D)
  | dct (tk : Bool) (ks us : List D)

abbrev Mem := List Cell
structure Ex where
  cls : Nat
  args : List D

inductive Out (α : Type) where
  | ok (a : α) (μ : Mem)
  | exc (x : Ex) (μ : Mem)
  | bad
def Out.bind {α β : Type} (o : Out α) (k : α → Mem → Out β) : Out β :=
  match o with
  | .ok a μ => k a μ
  | .exc x μ => .exc x μ
  | .bad => .bad
@[simp] theorem Out.bind_ok {α β : Type} {a : α} {μ : Mem} {k : α → Mem → Out β} : (Out.ok a μ).bind k = k a μ := rfl
@[simp] theorem Out.bind_exc {α β : Type} {x : Ex} {μ : Mem} {k : α → Mem → Out β} : (Out.exc x μ).bind k = .exc x μ := rfl
@[simp] theorem Out.bind_bad {α β : Type} {k : α → Mem → Out β} : (Out.bad).bind k = .bad := rfl

section
variable (fa : Nat → Option Addr)
def CellOk (W : Wo) (N : Nat) (H : Hp) (p : Addr) : Cell → Prop
  | .lst ds => ∃ vs, H p = some (.lst vs) ∧ RDs fa W N H ds vs
  | .dct tk ks us => ∃ vs, DKV H p tk ks vs ∧ RDs fa W N H us vs
structure HR (W : Wo) (μ : Mem) (H : Hp) : Prop where
  cells : ∀ l c, μ[l]? = some c → CellOk fa W μ.length H (W.φ l) c
  inj : ∀ i j, i < μ.length → j < μ.length → W.φ i = W.φ j → i = j
  own : ∀ l, l < μ.length → W.F (W.φ l)
  trk : ∀ p, W.F p → H p ≠ none
structure Ext (W : Wo) (n : Nat) (H : Hp) (W' : Wo) (n' : Nat) (H' : Hp) : Prop where
  le : n ≤ n'
  phi : ∀ l, l < n → W'.φ l = W.φ l
  sub : ∀ p, W.F p → W'.F p
  new : ∀ p, W'.F p → W.F p ∨ H p = none
  fresh : ∀ l, n ≤ l → l < n' → H (W'.φ l) = none
  dom : ∀ p, H p ≠ none → H' p ≠ none
  keep : ∀ p o, H p = some o → (∀ l, l < n → W.φ l ≠ p) → H' p = some o
end
theorem Ext.refl {W : Wo} {n : Nat} {H : Hp} : Ext W n H W n H :=
  ⟨Nat.le_refl _, fun _ _ => rfl, fun _ h => h, fun _ h => .inl h, fun l h1 h2 => absurd h2 (by omega), fun _ h => h, fun _ _ h _ => h⟩
theorem Ext.trans {W W1 W2 : Wo} {n n1 n2 : Nat} {H H1 H2 : Hp} (a : Ext W n H W1 n1 H1) (b : Ext W1 n1 H1 W2 n2 H2) : Ext W n H W2 n2 H2 where
  le := Nat.le_trans a.le b.le
  phi := fun l h => (b.phi l (Nat.lt_of_lt_of_le h a.le)).trans (a.phi l h)
  sub := fun p h => b.sub p (a.sub p h)
  new := fun p h => by
    rcases b.new p h with h | h
    · exact a.new p h
    · by_cases e : H p = none
      · exact .inr e
      · exact absurd h (a.dom p e)
  fresh := fun l h1 h2 => by
    by_cases h : l < n1
    · rw [b.phi l h]; exact a.fresh l h1 h
    · have := b.fresh l (Nat.le_of_not_lt h) h2
      by_cases e : H (W2.φ l) = none
      · exact e
      · exact absurd this (a.dom _ e)
  dom := fun p h => b.dom p (a.dom p h)
  keep := fun p o h hn => by
    refine b.keep p o (a.keep p o h hn) fun l hl e => ?_
    by_cases hl2 : l < n
    · exact hn l hl2 ((a.phi l hl2).symm.trans e)
    · have := a.fresh l (Nat.le_of_not_lt hl2) hl
      rw [e, h] at this; cases this

section
variable {fa : Nat → Option Addr}
theorem CellOk.mutb {W : Wo} {N : Nat} {H : Hp} {p : Addr} {c : Cell} (h : CellOk fa W N H p c) : Mut (H p) := by
  cases c with
  | lst ds => obtain ⟨vs, e, _⟩ := h; rw [e]; trivial
  | dct tk ks us =>
    obtain ⟨vs, e, _⟩ := h
    unfold DKV at e
    split at e
    · obtain ⟨_, e, _⟩ := e; rw [e]; trivial
    · obtain ⟨_, e, _⟩ := e; rw [e]; trivial
theorem HR.mutb {W : Wo} {μ : Mem} {H : Hp} (h : HR fa W μ H) {l : Nat} (hl : l < μ.length) : Mut (H (W.φ l)) :=
  (h.cells l μ[l] (List.getElem?_eq_getElem hl)).mutb
theorem HR.ne_of {W : Wo} {μ : Mem} {H : Hp} (h : HR fa W μ H) {p : Addr} {o : HO} (e : H p = some o) (hm : ¬ Mut (some o)) : ∀ l, l < μ.length → W.φ l ≠ p := fun l hl e' => by
  have := h.mutb hl
  rw [e', e] at this
  exact hm this
theorem HR.ne_F {W : Wo} {μ : Mem} {H : Hp} (h : HR fa W μ H) {p : Addr} (e : ¬ W.F p) : ∀ l, l < μ.length → W.φ l ≠ p := fun l hl e' => e (e' ▸ h.own l hl)
theorem Rd.some {H : Hp} {p : Addr} {u : HO} (h : Rd H p u) : ∃ o, H p = some o := by
  rcases h with h | ⟨o, h⟩ <;> exact ⟨_, h⟩
theorem Ext.notF {W W' : Wo} {n n' : Nat} {H H' : Hp} (x : Ext W n H W' n' H') {p : Addr} (hF : ¬ W.F p) (h : ∃ o, H p = some o) : ¬ W'.F p := fun hF' => by
  rcases x.new p hF' with h' | h'
  · exact hF h'
  · obtain ⟨o, e⟩ := h; rw [h'] at e; cases e
theorem Ext.rd {W W' : Wo} {n n' : Nat} {H H' : Hp} (x : Ext W n H W' n' H') {p : Addr} {u : HO} (h : Rd H p u) (hn : ∀ l, l < n → W.φ l ≠ p) : Rd H' p u := by
  rcases h with h | ⟨o, h⟩
  · exact .inl (x.keep p _ h hn)
  · exact .inr ⟨o, x.keep p _ h hn⟩
theorem DKV.rd {H H' : Hp} {p : Addr} {tk : Bool} {ks : List D} {vs : List V} (h : DKV H p tk ks vs) (k : ∀ u, H p = some u → H' p = some u) : DKV H' p tk ks vs := by
  unfold DKV at h ⊢
  split
  · rename_i e; rw [if_pos e] at h
    obtain ⟨kvs, e1, e2⟩ := h
    exact ⟨kvs, k _ e1, e2⟩
  · rename_i e; rw [if_neg e] at h
    obtain ⟨kvs, e1, e2⟩ := h
    exact ⟨kvs, k _ e1, e2⟩
theorem DKV.some {H : Hp} {p : Addr} {tk : Bool} {ks : List D} {vs : List V} (h : DKV H p tk ks vs) : ∃ o, H p = some o := by
  unfold DKV at h
  split at h
  · obtain ⟨kvs, e, _⟩ := h; exact ⟨_, e⟩
  · obtain ⟨kvs, e, _⟩ := h; exact ⟨_, e⟩
mutual
theorem RD.mono {W W' : Wo} {μ : Mem} {n' : Nat} {H H' : Hp} (hr : HR fa W μ H) (x : Ext W μ.length H W' n' H') : ∀ (d : D) (v : V), RD fa W μ.length H d v → RD fa W' n' H' d v
  | .non, v, h => h
  | .bl _, v, h => h
  | .int _, v, h => h
  | .str _, v, h => h
  | .tup ds, v, h => by
    obtain ⟨p, vs, e, h1, h2⟩ := h
    exact ⟨p, vs, e, x.keep p _ h1 (hr.ne_of h1 fun z => z), RDs.mono hr x ds vs h2⟩
  | .lst ds, v, h => by
    obtain ⟨p, vs, e, h1, h2, h3⟩ := h
    exact ⟨p, vs, e, x.rd h1 (hr.ne_F h2), x.notF h2 (Rd.some h1), RDs.mono hr x ds vs h3⟩
  | .dct tk ks us, v, h => by
    obtain ⟨p, vs, e, h1, h2, h3⟩ := h
    exact ⟨p, vs, e, h1.rd fun u hu => x.keep p u hu (hr.ne_F h2), x.notF h2 h1.some, RDs.mono hr x us vs h3⟩
  | .obj l, v, h => ⟨Nat.lt_of_lt_of_le h.1 x.le, by rw [x.phi l h.1]; exact h.2⟩
  | .fn i, v, h => h
theorem RDs.mono {W W' : Wo} {μ : Mem} {n' : Nat} {H H' : Hp} (hr : HR fa W μ H) (x : Ext W μ.length H W' n' H') : ∀ (ds : List D) (vs : List V), RDs fa W μ.length H ds vs → RDs fa W' n' H' ds vs
  | [], vs, h => h
  | d :: ds, vs, h => by
    obtain ⟨v, ws, e, h1, h2⟩ := h
    exact ⟨v, ws, e, RD.mono hr x d v h1, RDs.mono hr x ds ws h2⟩
end
end
end M
namespace M
open PySem PySem.Spec PyProof.Rows L2

/-- the module's facts that the relation leans on: where the defs stand, where the error classes stand, the fields of each -/
structure GA where
  fa : Nat → Option Addr
  ca : Nat → Option Addr
  cn : Nat → List Str

section
variable (G : GA)
abbrev Ra : Wo → Nat → Hp → D → V → Prop := RD G.fa
abbrev Rs : Wo → Nat → Hp → List D → List V → Prop := RDs G.fa
abbrev HRg := HR G.fa
def RX (W : Wo) (N : Nat) (H : Hp) (x : Ex) (c : Value) (dx : Option Addr) : Prop :=
  ∃ C, G.ca x.cls = some C ∧ c = .ref C ∧ (if (G.cn x.cls).isEmpty then dx = none else
    ∃ d vs, dx = some d ∧ H d = some (.xd ((G.cn x.cls).zip vs)) ∧ vs.length = (G.cn x.cls).length ∧ RDs G.fa W N H x.args vs)

abbrev XW := Ex → Wo → Mem → Hp → Prop
def Post {α β : Type} (R : Wo → Nat → Hp → α → β → Prop) (W : Wo) (μ : Mem) (H : Hp) (Q : β → Hp → Prop) (XQ : XW) : Out α → Prop
  | .ok a μ' => ∀ b W' H', Ext W μ.length H W' μ'.length H' → HR G.fa W' μ' H' → R W' μ'.length H' a b → Q b H'
  | .exc x μ' => ∀ W' H', Ext W μ.length H W' μ'.length H' → HR G.fa W' μ' H' → XQ x W' μ' H'
  | .bad => False
end
section
variable {G : GA} {α β α' β' : Type} {R : Wo → Nat → Hp → α → β → Prop} {R' : Wo → Nat → Hp → α' → β' → Prop}
theorem Post.rebase {W W1 : Wo} {μ μ1 : Mem} {H H1 : Hp} {Q : β → Hp → Prop} {XQ : XW} {o : Out α} (x : Ext W μ.length H W1 μ1.length H1) (h : Post G R W μ H Q XQ o) : Post G R W1 μ1 H1 Q XQ o := by
  cases o with
  | ok a μ' => exact fun b W' H' x' hr r => h b W' H' (x.trans x') hr r
  | exc e μ' => exact fun W' H' x' hr => h W' H' (x.trans x') hr
  | bad => exact h
theorem Post.bind {W : Wo} {μ : Mem} {H : Hp} {Q : β → Hp → Prop} {Q' : β' → Hp → Prop} {XQ : XW} {o : Out α} {k : α → Mem → Out α'} (h : Post G R' W μ H Q' XQ (o.bind k))
    (f : ∀ a μ1 b W1 H1, o = .ok a μ1 → Ext W μ.length H W1 μ1.length H1 → HR G.fa W1 μ1 H1 → R W1 μ1.length H1 a b → Post G R' W1 μ1 H1 Q' XQ (k a μ1) → Q b H1) : Post G R W μ H Q XQ o := by
  cases o with
  | ok a μ' => exact fun b W' H' x hr r => f a μ' b W' H' rfl x hr r (Post.rebase x h)
  | exc e μ' => exact h
  | bad => exact h
end

/-! ### slots -/
def RS (G : GA) (W : Wo) (N : Nat) (H : Hp) (δ : List (Option D)) (σ : L2.St) : Prop :=
  δ.length = σ.length ∧ ∀ (i : Nat) (d : D), δ[i]? = some (some d) → ∃ v, σ[i]? = some (some v) ∧ RD G.fa W N H d v
theorem RS.mono {G : GA} {W W' : Wo} {μ : Mem} {n' : Nat} {H H' : Hp} {δ : List (Option D)} {σ : L2.St} (hr : HR G.fa W μ H) (x : Ext W μ.length H W' n' H') (h : RS G W μ.length H δ σ) : RS G W' n' H' δ σ :=
  ⟨h.1, fun i d e => let ⟨v, e1, r⟩ := h.2 i d e; ⟨v, e1, RD.mono hr x d v r⟩⟩
theorem RS.set {G : GA} {W : Wo} {N : Nat} {H : Hp} {δ : List (Option D)} {σ : L2.St} (h : RS G W N H δ σ) {d : D} {v : V} (r : RD G.fa W N H d v) (i : Nat) : RS G W N H (δ.set i (some d)) (σ.set i (some v)) := by
  refine ⟨by simpa using h.1, fun j e he => ?_⟩
  by_cases hj : i = j
  · subst hj
    have hl : i < δ.length := by
      have := List.getElem?_eq_some_iff.mp he
      obtain ⟨q, _⟩ := this
      simpa using q
    rw [List.getElem?_set_self hl] at he
    cases he
    exact ⟨v, List.getElem?_set_self (by rw [← h.1]; exact hl), r⟩
  · rw [List.getElem?_set_ne hj] at he
    obtain ⟨w, e1, r1⟩ := h.2 j e he
    exact ⟨w, by rw [List.getElem?_set_ne hj]; exact e1, r1⟩
theorem RS.wipe {G : GA} {W : Wo} {N : Nat} {H : Hp} {δ : List (Option D)} {σ : L2.St} (h : RS G W N H δ σ) (i : Nat) : RS G W N H (δ.set i none) (σ.set i none) := by
  refine ⟨by simpa using h.1, fun j e he => ?_⟩
  by_cases hj : i = j
  · subst hj
    have hl : i < δ.length := by
      have := List.getElem?_eq_some_iff.mp he
      obtain ⟨q, _⟩ := this
      simpa using q
    rw [List.getElem?_set_self hl] at he
    cases he
  · rw [List.getElem?_set_ne hj] at he
    obtain ⟨w, e1, r1⟩ := h.2 j e he
    exact ⟨w, by rw [List.getElem?_set_ne hj]; exact e1, r1⟩

theorem if_true_of {p : Prop} [Decidable p] {A B : Prop} (h : p) (a : A) : if p then A else B := by rw [if_pos h]; exact a
theorem if_false_of {p : Prop} [Decidable p] {A B : Prop} (h : ¬ p) (b : B) : if p then A else B := by rw [if_neg h]; exact b

/-! ### judgements -/
abbrev Sg := List (Option D)
/-- what is wished of exceptions at the slots σ -/
def XQ (G : GA) (Wx : WX) (σ : L2.St) : XW := fun x W' μ' H' => ∀ c dx, RX G W' μ'.length H' x c dx → Wx c dx σ H'
def SE (G : GA) (X : Cx) (Wx : WX) (e : Expr) (f : Sg → Mem → Out D) : Prop :=
  ∃ t, PE X e t ∧ ∀ σ H W μ δ Q, HR G.fa W μ H → RS G W μ.length H δ σ → Post G (RD G.fa) W μ H Q (XQ G Wx σ) (f δ μ) → t σ H Q
def SA (G : GA) (X : Cx) (Wx : WX) (es : List Expr) (f : Sg → Mem → Out (List D)) : Prop :=
  ∃ t, PA X es t ∧ ∀ σ H W μ δ Q, HR G.fa W μ H → RS G W μ.length H δ σ → Post G (RDs G.fa) W μ H Q (XQ G Wx σ) (f δ μ) → t σ H Q
def RB : Wo → Nat → Hp → Bool → Bool → Prop := fun _ _ _ a b => a = b
def STt (G : GA) (X : Cx) (Wx : WX) (e : Expr) (f : Sg → Mem → Out Bool) : Prop :=
  ∃ t, PT X e t ∧ ∀ σ H W μ δ Q, HR G.fa W μ H → RS G W μ.length H δ σ → Post G RB W μ H Q (XQ G Wx σ) (f δ μ) → t σ H Q
def STw (G : GA) (X : Cx) (Wx : WX) (e : Expr) (f : Sg → Mem → Out Bool) : Prop :=
  ∃ t, PW X e t ∧ ∀ σ H W μ δ Q, HR G.fa W μ H → RS G W μ.length H δ σ → Post G RB W μ H Q (XQ G Wx σ) (f δ μ) → t σ H Q
theorem STw.pt {G : GA} {X : Cx} {Wx : WX} {e : Expr} {f : Sg → Mem → Out Bool} (h : STw G X Wx e f) : STt G X Wx e f := let ⟨t, p, q⟩ := h; ⟨t, p.pt, q⟩

def ofO (o : Option D) (μ : Mem) : Out D := match o with
  | some d => .ok d μ
  | none => .bad
@[simp] theorem ofO_some {d : D} {μ : Mem} : ofO (some d) μ = .ok d μ := rfl
@[simp] theorem ofO_none {μ : Mem} : ofO none μ = .bad := rfl

section
variable {G : GA} {X : Cx} {Wx : WX} {a b c e : Expr} {fa fb fc : Sg → Mem → Out D} {pos : Pos}

/-! ### leaves -/
def evVar (i : Nat) : Sg → Mem → Out D := fun δ μ => match δ[i]? with
  | some (some d) => .ok d μ
  | _ => .bad
theorem se_var {i : Nat} {x : Str} (hN : X.N[i]? = some x) (hv : Vis X.env.scope x) (hd : (x == ("__debug__" : Str)) = false) (hcd : (x == ("__classdict__" : Str)) = false) : SE G X Wx (.Name x pos) (evVar i) := by
  refine ⟨_, pe_var hN hv hd hcd, fun σ H W μ δ Q hr rs h => ?_⟩
  unfold evVar at h
  cases e : δ[i]? with
  | none => rw [e] at h; exact h.elim
  | some o =>
    cases o with
    | none => rw [e] at h; exact h.elim
    | some d =>
      rw [e] at h
      obtain ⟨v, e1, r⟩ := rs.2 i d e
      exact ⟨v, e1, h v W H .refl hr r⟩
/-- a constant -/
theorem se_const {d : D} {v : V} (p : PE X e (tC v)) (r : ∀ W N H, RD G.fa W N H d v) : SE G X Wx e (fun _ μ => .ok d μ) :=
  ⟨_, p, fun σ H W μ δ Q hr rs h => h v W H .refl hr (r _ _ _)⟩

/-! ### operators by values -/
def OpS (G : GA) (X : Cx) (f : Value → Value → Sem Value) (g : D → D → Mem → Option D) : Prop :=
  ∃ r, OpR X f r ∧ ∀ a b d x y W μ H (Q : VK), HR G.fa W μ H → RD G.fa W μ.length H a x → RD G.fa W μ.length H b y → g a b μ = some d →
    (∀ v W' H', Ext W μ.length H W' μ.length H' → HR G.fa W' μ H' → RD G.fa W' μ.length H' d v → Q v H') → r x y H Q
def evBin (g : D → D → Mem → Option D) (fa fb : Sg → Mem → Out D) : Sg → Mem → Out D := fun δ μ => (fa δ μ).bind fun a μ1 => (fb δ μ1).bind fun b μ2 => ofO (g a b μ2) μ2
theorem post_ofO {W : Wo} {μ : Mem} {H : Hp} {Q : VK} {Y : XW} {o : Option D} (h : Post G (RD G.fa) W μ H Q Y (ofO o μ)) :
    ∃ d, o = some d ∧ ∀ v W' H', Ext W μ.length H W' μ.length H' → HR G.fa W' μ H' → RD G.fa W' μ.length H' d v → Q v H' := by
  cases o with
  | none => exact h.elim
  | some d => exact ⟨d, rfl, h⟩
theorem two_of {r : R2} {ta tb : TE} {g : D → D → Mem → Option D}
    (ho : ∀ a b d x y W μ H (Q : VK), HR G.fa W μ H → RD G.fa W μ.length H a x → RD G.fa W μ.length H b y → g a b μ = some d →
      (∀ v W' H', Ext W μ.length H W' μ.length H' → HR G.fa W' μ H' → RD G.fa W' μ.length H' d v → Q v H') → r x y H Q)
    (ha : ∀ σ H W μ δ Q, HR G.fa W μ H → RS G W μ.length H δ σ → Post G (RD G.fa) W μ H Q (XQ G Wx σ) (fa δ μ) → ta σ H Q)
    (hb : ∀ σ H W μ δ Q, HR G.fa W μ H → RS G W μ.length H δ σ → Post G (RD G.fa) W μ H Q (XQ G Wx σ) (fb δ μ) → tb σ H Q)
    {σ : L2.St} {H : Hp} {W : Wo} {μ : Mem} {δ : Sg} {Q : VK} (hr : HR G.fa W μ H) (rs : RS G W μ.length H δ σ) (h : Post G (RD G.fa) W μ H Q (XQ G Wx σ) (evBin g fa fb δ μ)) : tOp r ta tb σ H Q := by
  refine ha σ H W μ δ _ hr rs (Post.bind h fun a μ1 x W1 H1 _ x1 hr1 r1 h1 => ?_)
  refine hb σ H1 W1 μ1 δ _ hr1 (rs.mono hr x1) (Post.bind h1 fun b μ2 y W2 H2 _ x2 hr2 r2 h2 => ?_)
  obtain ⟨d, e, q⟩ := post_ofO h2
  exact ho a b d x y W2 μ2 H2 Q hr2 (RD.mono hr1 x2 a x r1) r2 e q
theorem se_op {op : Operator} {g : D → D → Mem → Option D} (ho : OpS G X (binaryOp op) g) (ha : SE G X Wx a fa) (hb : SE G X Wx b fb) : SE G X Wx (.BinOp a op b pos) (evBin g fa fb) := by
  obtain ⟨r, p, q⟩ := ho
  obtain ⟨ta, pa, qa⟩ := ha
  obtain ⟨tb, pb, qb⟩ := hb
  exact ⟨_, pe_op p pa pb, fun σ H W μ δ Q hr rs h => two_of q qa qb hr rs h⟩
theorem se_cmp {op : CmpOp} {g : D → D → Mem → Option D} (ho : OpS G X (compareOp op) g) (ha : SE G X Wx a fa) (hb : SE G X Wx b fb) (hm : behindInMarks op b = false) : SE G X Wx (.Compare a [op] [b] pos) (evBin g fa fb) := by
  obtain ⟨r, p, q⟩ := ho
  obtain ⟨ta, pa, qa⟩ := ha
  obtain ⟨tb, pb, qb⟩ := hb
  exact ⟨_, pe_cmpR p pa pb hm, fun σ H W μ δ Q hr rs h => two_of q qa qb hr rs h⟩
/-- a value that is a bool, as a test -/
def evB (f : Sg → Mem → Out D) : Sg → Mem → Out Bool := fun δ μ => (f δ μ).bind fun d μ1 => match d with
  | .bl b => .ok b μ1
  | _ => .bad
theorem tb_of {t : TE} {f : Sg → Mem → Out D} (h : ∀ σ H W μ δ Q, HR G.fa W μ H → RS G W μ.length H δ σ → Post G (RD G.fa) W μ H Q (XQ G Wx σ) (f δ μ) → t σ H Q) {σ : L2.St} {H : Hp} {W : Wo} {μ : Mem} {δ : Sg} {Q : Bool → Hp → Prop}
    (hr : HR G.fa W μ H) (rs : RS G W μ.length H δ σ) (hp : Post G RB W μ H Q (XQ G Wx σ) (evB f δ μ)) : t σ H (fun x H1 => ∃ k, x = .bl k ∧ Q k H1) := by
  refine h σ H W μ δ _ hr rs (Post.bind hp fun d μ1 x W1 H1 _ x1 hr1 r1 h1 => ?_)
  cases d with
  | bl b => exact ⟨b, r1, h1 b W1 H1 .refl hr1 rfl⟩
  | _ => exact h1.elim
theorem st_cmp {op : CmpOp} {g : D → D → Mem → Option D} (ho : OpS G X (compareOp op) g) (ha : SE G X Wx a fa) (hb : SE G X Wx b fb) (hm : behindInMarks op b = false) : STt G X Wx (.Compare a [op] [b] pos) (evB (evBin g fa fb)) := by
  obtain ⟨r, p, q⟩ := ho
  obtain ⟨ta, pa, qa⟩ := ha
  obtain ⟨tb, pb, qb⟩ := hb
  exact ⟨_, pt_cmpR p pa pb hm, fun σ H W μ δ Q hr rs h => tb_of (fun σ H W μ δ Q hr rs h => two_of q qa qb hr rs h) hr rs h⟩

/-! ### chains a < b < c -/
def evChain (g g' : D → D → Mem → Option D) (fa fb fc : Sg → Mem → Out D) : Sg → Mem → Out D := fun δ μ => (fa δ μ).bind fun a μ1 => (fb δ μ1).bind fun b μ2 => match g a b μ2 with
  | some (.bl true) => (fc δ μ2).bind fun c μ3 => ofO (g' b c μ3) μ3
  | some (.bl false) => .ok (.bl false) μ2
  | _ => .bad
theorem chain_of {r r' : R2} {ta tb tc : TE} {g g' : D → D → Mem → Option D}
    (ho : ∀ a b d x y W μ H (Q : VK), HR G.fa W μ H → RD G.fa W μ.length H a x → RD G.fa W μ.length H b y → g a b μ = some d →
      (∀ v W' H', Ext W μ.length H W' μ.length H' → HR G.fa W' μ H' → RD G.fa W' μ.length H' d v → Q v H') → r x y H Q)
    (ho' : ∀ a b d x y W μ H (Q : VK), HR G.fa W μ H → RD G.fa W μ.length H a x → RD G.fa W μ.length H b y → g' a b μ = some d →
      (∀ v W' H', Ext W μ.length H W' μ.length H' → HR G.fa W' μ H' → RD G.fa W' μ.length H' d v → Q v H') → r' x y H Q)
    (ha : ∀ σ H W μ δ Q, HR G.fa W μ H → RS G W μ.length H δ σ → Post G (RD G.fa) W μ H Q (XQ G Wx σ) (fa δ μ) → ta σ H Q)
    (hb : ∀ σ H W μ δ Q, HR G.fa W μ H → RS G W μ.length H δ σ → Post G (RD G.fa) W μ H Q (XQ G Wx σ) (fb δ μ) → tb σ H Q)
    (hc : ∀ σ H W μ δ Q, HR G.fa W μ H → RS G W μ.length H δ σ → Post G (RD G.fa) W μ H Q (XQ G Wx σ) (fc δ μ) → tc σ H Q)
    {σ : L2.St} {H : Hp} {W : Wo} {μ : Mem} {δ : Sg} {Q : VK} (hr : HR G.fa W μ H) (rs : RS G W μ.length H δ σ) (h : Post G (RD G.fa) W μ H Q (XQ G Wx σ) (evChain g g' fa fb fc δ μ)) : tChain r r' ta tb tc σ H Q := by
  refine ha σ H W μ δ _ hr rs (Post.bind h fun a μ1 x W1 H1 _ x1 hr1 r1 h1 => ?_)
  refine hb σ H1 W1 μ1 δ _ hr1 (rs.mono hr x1) (Post.bind h1 fun b μ2 y W2 H2 _ x2 hr2 r2 h2 => ?_)
  have ra := RD.mono hr1 x2 a x r1
  have rs2 := (rs.mono hr x1).mono hr1 x2
  cases e : g a b μ2 with
  | none => rw [e] at h2; exact h2.elim
  | some d =>
    refine ho a b d x y W2 μ2 H2 _ hr2 ra r2 e fun v W3 H3 x3 hr3 r3 => ?_
    have h3 := Post.rebase x3 h2
    rw [e] at h3
    cases d with
    | bl k =>
      refine ⟨k, r3, ?_⟩
      cases k with
      | true =>
        refine if_true_of rfl ?_
        refine hc σ H3 W3 μ2 δ _ hr3 (rs2.mono hr2 x3) (Post.bind h3 fun c μ4 z W4 H4 _ x4 hr4 r4 h4 => ?_)
        obtain ⟨d, e', q⟩ := post_ofO h4
        exact ho' b c d y z W4 μ4 H4 Q hr4 (RD.mono hr3 x4 b y (RD.mono hr2 x3 b y r2)) r4 e' q
      | false => exact if_false_of Bool.false_ne_true (h3 (.bl false) W3 H3 .refl hr3 rfl)
    | _ => exact h3.elim
theorem se_chain {op op' : CmpOp} {g g' : D → D → Mem → Option D} (ho : OpS G X (compareOp op) g) (ho' : OpS G X (compareOp op') g') (ha : SE G X Wx a fa) (hb : SE G X Wx b fb) (hc : SE G X Wx c fc) (hm : behindInMarks op' c = false) : SE G X Wx (.Compare a [op, op'] [b, c] pos) (evChain g g' fa fb fc) := by
  obtain ⟨r, p, q⟩ := ho
  obtain ⟨r', p', q'⟩ := ho'
  obtain ⟨ta, pa, qa⟩ := ha
  obtain ⟨tb, pb, qb⟩ := hb
  obtain ⟨tc, pc, qc⟩ := hc
  exact ⟨_, pe_chain p p' pa pb pc hm, fun σ H W μ δ Q hr rs h => chain_of q q' qa qb qc hr rs h⟩
end
end M
namespace M
open PySem PySem.Spec PyProof.Rows L2

/-! ### lists of data -/
section
variable {fa : Nat → Option Addr} {W : Wo} {N : Nat} {H : Hp}
theorem RDs.length : ∀ {ds : List D} {vs : List V}, RDs fa W N H ds vs → vs.length = ds.length
  | [], vs, h => by rw [h]; rfl
  | d :: ds, vs, h => by obtain ⟨v, ws, e, _, h2⟩ := h; rw [e, List.length_cons, List.length_cons, RDs.length h2]
theorem RDs.get : ∀ {ds : List D} {vs : List V} {i : Nat} {d : D}, RDs fa W N H ds vs → ds[i]? = some d → ∃ v, vs[i]? = some v ∧ RD fa W N H d v
  | [], vs, i, d, h, e => by simp at e
  | d' :: ds, vs, 0, d, h, e => by
    obtain ⟨v, ws, e2, h1, h2⟩ := h
    simp at e; subst e; exact ⟨v, by rw [e2]; rfl, h1⟩
  | d' :: ds, vs, i + 1, d, h, e => by
    obtain ⟨v, ws, e2, h1, h2⟩ := h
    obtain ⟨v2, e3, r⟩ := RDs.get h2 (i := i) (d := d) (by simpa using e)
    exact ⟨v2, by rw [e2]; simpa using e3, r⟩
theorem RDs.append : ∀ {ds es : List D} {vs ws : List V}, RDs fa W N H ds vs → RDs fa W N H es ws → RDs fa W N H (ds ++ es) (vs ++ ws)
  | [], es, vs, ws, h, h' => by rw [h]; exact h'
  | d :: ds, es, vs, ws, h, h' => by
    obtain ⟨v, us, e, h1, h2⟩ := h
    exact ⟨v, us ++ ws, by rw [e]; rfl, h1, RDs.append h2 h'⟩
theorem RDs.one {d : D} {v : V} (h : RD fa W N H d v) : RDs fa W N H [d] [v] := ⟨v, [], rfl, h, rfl⟩
theorem RDs.take : ∀ {ds : List D} {vs : List V} (n : Nat), RDs fa W N H ds vs → RDs fa W N H (ds.take n) (vs.take n)
  | _, _, 0, _ => by simp [RDs]
  | [], vs, n + 1, h => by rw [h]; simp [RDs]
  | d :: ds, vs, n + 1, h => by
    obtain ⟨v, us, e, h1, h2⟩ := h
    exact ⟨v, us.take n, by rw [e]; rfl, h1, RDs.take n h2⟩
theorem RDs.drop : ∀ {ds : List D} {vs : List V} (n : Nat), RDs fa W N H ds vs → RDs fa W N H (ds.drop n) (vs.drop n)
  | _, _, 0, h => h
  | [], vs, n + 1, h => by rw [h]; simp [RDs]
  | d :: ds, vs, n + 1, h => by
    obtain ⟨v, us, e, h1, h2⟩ := h
    rw [e]; exact RDs.drop n h2
theorem RDs.nil_iff {ds : List D} {vs : List V} (h : RDs fa W N H ds vs) : vs = [] ↔ ds = [] := by
  have := h.length
  constructor
  · intro e; subst e; exact List.length_eq_zero_iff.mp (by simpa using this.symm)
  · intro e; subst e; exact h
def intsOf : List D → Option (List Int)
  | [] => some []
  | .int i :: r => (intsOf r).map (i :: ·)
  | _ => none
theorem ints_rd : ∀ {ds : List D} {vs : List V} {ns : List Int}, RDs fa W N H ds vs → intsOf ds = some ns → vs = ns.map V.int
  | [], vs, ns, h, e => by simp [intsOf] at e; subst e; exact h
  | d :: ds, vs, ns, h, e => by
    obtain ⟨v, us, e2, h1, h2⟩ := h
    cases d with
    | int i =>
      unfold intsOf at e
      cases q : intsOf ds with
      | none => rw [q] at e; cases e
      | some ms =>
        rw [q] at e; cases e
        rw [e2, ints_rd h2 q, show v = .int i from h1]; rfl
    | _ => unfold intsOf at e; cases e
theorem intsOf_map (ns : List Int) : intsOf (ns.map D.int) = some ns := by
  induction ns with
  | nil => rfl
  | cons n r ih => simp [intsOf, ih]
theorem RDs_ints (ns : List Int) : RDs fa W N H (ns.map D.int) (ns.map V.int) := by
  induction ns with
  | nil => rfl
  | cons n r ih => exact ⟨_, _, rfl, rfl, ih⟩
def boolsOf : List D → Option (List Bool)
  | [] => some []
  | .bl i :: r => (boolsOf r).map (i :: ·)
  | _ => none
theorem bools_rd : ∀ {ds : List D} {vs : List V} {ns : List Bool}, RDs fa W N H ds vs → boolsOf ds = some ns → vs = ns.map V.bl
  | [], vs, ns, h, e => by simp [boolsOf] at e; subst e; exact h
  | d :: ds, vs, ns, h, e => by
    obtain ⟨v, us, e2, h1, h2⟩ := h
    cases d with
    | bl i =>
      unfold boolsOf at e
      cases q : boolsOf ds with
      | none => rw [q] at e; cases e
      | some ms =>
        rw [q] at e; cases e
        rw [e2, bools_rd h2 q, show v = .bl i from h1]; rfl
    | _ => unfold boolsOf at e; cases e

/-! ### what a value is -/
def seqL (μ : Mem) : D → Option (List D)
  | .lst ds => some ds
  | .obj l => match μ[l]? with
    | some (.lst ds) => some ds
    | _ => none
  | _ => none
def seqT : D → Option (List D)
  | .tup ds => some ds
  | _ => none
end
section
variable {fa : Nat → Option Addr} {W : Wo} {μ : Mem} {H : Hp}
theorem seqL_rd (hr : HR fa W μ H) {a : D} {x : V} (r : RD fa W μ.length H a x) {ds : List D} (e : seqL μ a = some ds) : ∃ p vs, x = .ref p ∧ Rd H p (.lst vs) ∧ RDs fa W μ.length H ds vs := by
  cases a with
  | lst es =>
    cases e
    obtain ⟨p, vs, e1, h1, _, h3⟩ := r
    exact ⟨p, vs, e1, h1, h3⟩
  | obj l =>
    unfold seqL at e
    cases q : μ[l]? with
    | none => simp [q] at e
    | some c =>
      cases c with
      | lst es =>
        simp only [q] at e
        cases e
        obtain ⟨vs, h1, h2⟩ := hr.cells l _ q
        exact ⟨_, vs, r.2, .inl h1, h2⟩
      | dct tk ks us => simp [q] at e
  | _ => cases e
theorem seqT_rd {a : D} {x : V} {N : Nat} (r : RD fa W N H a x) {ds : List D} (e : seqT a = some ds) : ∃ p vs, x = .ref p ∧ H p = some (.tup vs) ∧ RDs fa W N H ds vs := by
  cases a with
  | tup es => cases e; exact r
  | _ => cases e

/-! ### new things -/
theorem HR.notF (hr : HR fa W μ H) {p : Addr} (hp : H p = none) : ¬ W.F p := fun h => hr.trk p h hp
theorem ext_upd (hr : HR fa W μ H) {p : Addr} (hp : H p = none) (o : HO) : Ext W μ.length H W μ.length (upd H p o) where
  le := Nat.le_refl _
  phi := fun _ _ => rfl
  sub := fun _ h => h
  new := fun _ h => .inl h
  fresh := fun l h1 h2 => absurd h2 (by omega)
  dom := fun q h => by
    by_cases e : q = p
    · subst e; rw [upd_same]; simp
    · rw [upd_ne e]; exact h
  keep := fun q u h _ => by
    have e : q ≠ p := fun z => by rw [z, hp] at h; cases h
    rw [upd_ne e]; exact h
theorem CellOk.upd_new (hr : HR fa W μ H) {p : Addr} (hp : H p = none) (o : HO) {q : Addr} {c : Cell} (h : CellOk fa W μ.length H q c) : CellOk fa W μ.length (upd H p o) q c := by
  have hq : q ≠ p := fun z => by
    have := h.mutb
    rw [z, hp] at this
    exact this
  cases c with
  | lst ds =>
    obtain ⟨vs, e, r⟩ := h
    exact ⟨vs, by rw [upd_ne hq]; exact e, RDs.mono hr (ext_upd hr hp o) ds vs r⟩
  | dct tk ks us =>
    obtain ⟨vs, e, r⟩ := h
    exact ⟨vs, e.rd fun u z => by rw [upd_ne hq]; exact z, RDs.mono hr (ext_upd hr hp o) us vs r⟩
theorem hr_upd (hr : HR fa W μ H) {p : Addr} (hp : H p = none) (o : HO) : HR fa W μ (upd H p o) where
  cells := fun l c e => (hr.cells l c e).upd_new hr hp o
  inj := hr.inj
  own := hr.own
  trk := fun q h => (ext_upd hr hp o).dom q (hr.trk q h)
theorem new_tup (hr : HR fa W μ H) {ds : List D} {vs : List V} (r : RDs fa W μ.length H ds vs) {p : Addr} (hp : H p = none) : RD fa W μ.length (upd H p (.tup vs)) (.tup ds) (.ref p) :=
  ⟨p, vs, rfl, upd_same, RDs.mono hr (ext_upd hr hp _) ds vs r⟩
theorem new_lst (hr : HR fa W μ H) {ds : List D} {vs : List V} (r : RDs fa W μ.length H ds vs) {p : Addr} (hp : H p = none) : RD fa W μ.length (upd H p (.lst vs)) (.lst ds) (.ref p) :=
  ⟨p, vs, rfl, .inl upd_same, hr.notF hp, RDs.mono hr (ext_upd hr hp _) ds vs r⟩
end

/-! ### data of any depth, for == and in -/
mutual
def toP : D → Option PyData
  | .non => some .none
  | .bl b => some (.bool b)
  | .int i => some (.int i)
  | .str x => some (.str x)
  | .tup ds => (toPs ds).map .tuple
  | .lst ds => (toPs ds).map .list
  | .dct _ _ _ => none
  | .obj _ => none
  | .fn _ => none
def toPs : List D → Option (List PyData)
  | [] => some []
  | d :: ds => match toP d, toPs ds with
    | some p, some ps => some (p :: ps)
    | _, _ => none
end
def toPm (μ : Mem) (d : D) : Option PyData := match d with
  | .obj l => match μ[l]? with
    | some (.lst ds) => (toPs ds).map .list
    | _ => none
  | d => toP d
section
variable {fa : Nat → Option Addr} {W : Wo} {H : Hp} {K : PySem.W.Frag}
mutual
theorem toP_dp {N : Nat} : ∀ (d : D) (v : V) (p : PyData), RD fa W N H d v → toP d = some p → Dp K H v p
  | .non, v, p, r, e => by cases e; rw [show v = .non from r]; exact .non
  | .bl b, v, p, r, e => by cases e; rw [show v = .bl b from r]; exact .bl b
  | .int b, v, p, r, e => by cases e; rw [show v = .int b from r]; exact .int b
  | .str b, v, p, r, e => by cases e; rw [show v = .str b from r]; exact .str b
  | .tup ds, v, p, r, e => by
    obtain ⟨a, vs, e1, h1, h2⟩ := r
    unfold toP at e
    cases q : toPs ds with
    | none => rw [q] at e; cases e
    | some ps => rw [q] at e; cases e; rw [e1]; exact .tup (SqT.of h1) (toPs_dp ds vs ps h2 q)
  | .lst ds, v, p, r, e => by
    obtain ⟨a, vs, e1, h1, _, h2⟩ := r
    unfold toP at e
    cases q : toPs ds with
    | none => rw [q] at e; cases e
    | some ps => rw [q] at e; cases e; rw [e1]; exact .lst (.inl h1) (toPs_dp ds vs ps h2 q)
  | .dct _ _ _, v, p, r, e => by unfold toP at e; cases e
  | .obj _, v, p, r, e => by unfold toP at e; cases e
  | .fn _, v, p, r, e => by unfold toP at e; cases e
theorem toPs_dp {N : Nat} : ∀ (ds : List D) (vs : List V) (ps : List PyData), RDs fa W N H ds vs → toPs ds = some ps → DpAll K H vs ps
  | [], vs, ps, r, e => by cases e; rw [show vs = [] from r]; exact .nil
  | d :: ds, vs, ps, r, e => by
    obtain ⟨v, us, e1, h1, h2⟩ := r
    unfold toPs at e
    cases q : toP d with
    | none => simp [q] at e
    | some p =>
      cases q2 : toPs ds with
      | none => simp [q, q2] at e
      | some qs =>
        simp only [q, q2] at e
        cases e
        rw [e1]
        exact .cons (toP_dp d v p h1 q) (toPs_dp ds us qs h2 q2)
end
theorem toPm_dp {μ : Mem} (hr : HR fa W μ H) {d : D} {v : V} {p : PyData} (r : RD fa W μ.length H d v) (e : toPm μ d = some p) : Dp K H v p := by
  cases d with
  | obj l =>
    unfold toPm at e
    cases q : μ[l]? with
    | none => simp [q] at e
    | some c =>
      cases c with
      | lst ds =>
        simp only [q] at e
        obtain ⟨vs, h1, h2⟩ := hr.cells l _ q
        cases q2 : toPs ds with
        | none => rw [q2] at e; cases e
        | some ps => rw [q2] at e; cases e; rw [r.2]; exact .lst (SqL.of h1) (toPs_dp ds vs ps h2 q2)
      | dct _ _ _ => simp [q] at e
  | _ => exact toP_dp _ v p r e
end

/-! ### operators -/
def mulOk (i j : Int) : Bool := decide (-(2 ^ 64) < i ∧ i < 2 ^ 64) || decide (-(2 ^ 64) < j ∧ j < 2 ^ 64)
def addD (a b : D) (μ : Mem) : Option D := match a, b with
  | .int i, .int j => some (.int (i + j))
  | .str x, .str y => if x.length + y.length ≤ sizeLine then some (.str (x ++ y)) else none
  | .tup xs, .tup ys => if xs.length + ys.length ≤ sizeLine then some (.tup (xs ++ ys)) else none
  | a, b => match seqL μ a, seqL μ b with
    | some xs, some ys => if xs.length + ys.length ≤ sizeLine then some (.lst (xs ++ ys)) else none
    | _, _ => none
def subD (a b : D) (_ : Mem) : Option D := match a, b with
  | .int i, .int j => some (.int (i - j))
  | _, _ => none
def mulD (a b : D) (_ : Mem) : Option D := match a, b with
  | .int i, .int j => if mulOk i j then some (.int (i * j)) else none
  | _, _ => none
def fdivD (a b : D) (_ : Mem) : Option D := match a, b with
  | .int i, .int j => if 0 < j ∧ j < 1073741824 then some (.int (i / j)) else none
  | _, _ => none
def modD (a b : D) (_ : Mem) : Option D := match a, b with
  | .int i, .int j => if 0 < j then some (.int (i % j)) else none
  | _, _ => none
def powD (a b : D) (_ : Mem) : Option D := match a, b with
  | .int i, .int j => if 0 ≤ j ∧ j ≤ 1000000 ∧ i.natAbs < 2 ^ 64 then some (.int (i ^ j.toNat)) else none
  | _, _ => none
def eqvD (a b : D) (μ : Mem) : Option Bool := match toPm μ a, toPm μ b with
  | some p, some q => if SeqAt.shaped p && SeqAt.shaped q then some (PyData.eqv p q) else none
  | _, _ => none
def eqD (a b : D) (μ : Mem) : Option D := (eqvD a b μ).map .bl
def neD (a b : D) (μ : Mem) : Option D := (eqvD a b μ).map fun k => .bl (!k)
def tints : D → Option (List Int)
  | .tup ds => intsOf ds
  | _ => none
def ltD (a b : D) (_ : Mem) : Option D := match a, b with
  | .int i, .int j => some (.bl (decide (i < j)))
  | a, b => match tints a, tints b with
    | some ns, some ms => some (.bl (HT.lexLt ns ms))
    | _, _ => none
def cmpI (f : Int → Int → Bool) (a b : D) (_ : Mem) : Option D := match a, b with
  | .int i, .int j => some (.bl (f i j))
  | _, _ => none
def isD (neg : Bool) (a b : D) (_ : Mem) : Option D := match b with
  | .non => some (.bl (if neg then (match a with | .non => false | _ => true) else (match a with | .non => true | _ => false)))
  | _ => none
def inD (neg : Bool) (a b : D) (μ : Mem) : Option D := match toPm μ a, toPm μ b with
  | some d, some (.list ds) => if SeqAt.shaped d && SeqAt.shaped (.list ds) then some (.bl (if neg then !(ds.any fun z => PyData.eqv z d) else ds.any fun z => PyData.eqv z d)) else none
  | _, _ => none
section
variable {G : GA} {X : Cx}
theorem OpS.int {f : Value → Value → Sem Value} {C : Int → Int → Prop} [∀ i j, Decidable (C i j)] {g : Int → Int → V} {gd : Int → Int → D} (ho : OpR X f (rI C g)) (hg : ∀ i j W N H, RD G.fa W N H (gd i j) (g i j)) :
    OpS G X f (fun a b _ => match a, b with | .int i, .int j => if C i j then some (gd i j) else none | _, _ => none) := by
  refine ⟨_, ho, fun a b d x y W μ H Q hr ra rb e q => ?_⟩
  cases a with
  | int i =>
    cases b with
    | int j =>
      simp only at e
      by_cases h : C i j
      · rw [if_pos h] at e; cases e
        exact ⟨i, j, ra, rb, h, q _ W H .refl hr (hg _ _ _ _ _)⟩
      · rw [if_neg h] at e; cases e
    | _ => cases e
  | _ => cases e
theorem OpS.int0 {f : Value → Value → Sem Value} {g : Int → Int → V} {gd : Int → Int → D} (ho : OpR X f (rI0 g)) (hg : ∀ i j W N H, RD G.fa W N H (gd i j) (g i j)) :
    OpS G X f (fun a b _ => match a, b with | .int i, .int j => some (gd i j) | _, _ => none) := by
  refine ⟨_, ho, fun a b d x y W μ H Q hr ra rb e q => ?_⟩
  cases a with
  | int i =>
    cases b with
    | int j => cases e; exact ⟨i, j, ra, rb, q _ W H .refl hr (hg _ _ _ _ _)⟩
    | _ => cases e
  | _ => cases e
theorem ops_sub : OpS G X (binaryOp .Sub) subD := OpS.int0 op_sub fun _ _ _ _ _ => rfl
theorem ops_mul : OpS G X (binaryOp .Mult) mulD := by
  refine ⟨_, op_mul, fun a b d x y W μ H Q hr ra rb e q => ?_⟩
  cases a with
  | int i =>
    cases b with
    | int j =>
      simp only [mulD] at e
      by_cases h : mulOk i j = true
      · rw [if_pos h] at e; cases e
        refine ⟨i, j, ra, rb, ?_, q _ W H .refl hr rfl⟩
        unfold mulOk at h
        simpa [CMul] using h
      · rw [if_neg h] at e; cases e
    | _ => cases e
  | _ => cases e
theorem ops_fdiv : OpS G X (binaryOp .FloorDiv) fdivD := by
  letI : ∀ i j, Decidable (CDiv i j) := fun i j => inferInstanceAs (Decidable (0 < j ∧ j < 1073741824))
  exact OpS.int (gd := fun i j => .int (i / j)) op_fdiv fun _ _ _ _ _ => rfl
theorem ops_mod : OpS G X (binaryOp .Mod) modD := OpS.int op_mod fun _ _ _ _ _ => rfl
theorem ops_pow : OpS G X (binaryOp .Pow) powD := by
  letI : ∀ i j, Decidable (CPow i j) := fun i j => inferInstanceAs (Decidable (0 ≤ j ∧ j ≤ 1000000 ∧ i.natAbs < 2 ^ 64))
  exact OpS.int (gd := fun i j => .int (i ^ j.toNat)) op_pow fun _ _ _ _ _ => rfl
theorem ops_cmp {op : CmpOp} {f : Int → Int → Bool} (ho : OpR X (compareOp op) (rI0 fun i j => .bl (f i j))) : OpS G X (compareOp op) (cmpI f) := OpS.int0 ho fun _ _ _ _ _ => rfl
theorem ops_eq (hu : X.A.units + 64 < cLine) : OpS G X (compareOp .Eq) eqD := by
  refine ⟨_, op_eqD hu, fun a b d x y W μ H Q hr ra rb e q => ?_⟩
  unfold eqD eqvD at e
  cases e1 : toPm μ a with
  | none => simp [e1] at e
  | some p1 =>
    cases e2 : toPm μ b with
    | none => simp [e1, e2] at e
    | some p2 =>
      simp only [e1, e2] at e
      split at e
      · rename_i hs
        cases e
        rw [Bool.and_eq_true] at hs
        exact ⟨p1, p2, toPm_dp hr ra e1, toPm_dp hr rb e2, hs.1, hs.2, q _ W H .refl hr rfl⟩
      · cases e
theorem ops_ne (hu : X.A.units + 64 < cLine) : OpS G X (compareOp .NotEq) neD := by
  refine ⟨_, op_neD hu, fun a b d x y W μ H Q hr ra rb e q => ?_⟩
  unfold neD eqvD at e
  cases e1 : toPm μ a with
  | none => simp [e1] at e
  | some p1 =>
    cases e2 : toPm μ b with
    | none => simp [e1, e2] at e
    | some p2 =>
      simp only [e1, e2] at e
      split at e
      · rename_i hs
        cases e
        rw [Bool.and_eq_true] at hs
        exact ⟨p1, p2, toPm_dp hr ra e1, toPm_dp hr rb e2, hs.1, hs.2, q _ W H .refl hr rfl⟩
      · cases e
theorem ops_is : OpS G X (compareOp .Is) (isD false) := by
  refine ⟨_, op_isN, fun a b d x y W μ H Q hr ra rb e q => ?_⟩
  cases b with
  | non =>
    refine ⟨rb, q _ W H .refl hr ?_⟩
    cases e
    cases a <;> simp only [RD] at ra ⊢ <;> first
      | (subst ra; simp)
      | (obtain ⟨_, _, rfl, _⟩ := ra; simp)
      | (obtain ⟨_, rfl⟩ := ra; simp)
      | (obtain ⟨_, _, _, rfl, _⟩ := ra; simp)
      | (obtain ⟨_, _, rfl⟩ := ra; simp)
  | _ => cases e
theorem ops_isnot : OpS G X (compareOp .IsNot) (isD true) := by
  refine ⟨_, op_notN, fun a b d x y W μ H Q hr ra rb e q => ?_⟩
  cases b with
  | non =>
    refine ⟨rb, q _ W H .refl hr ?_⟩
    cases e
    cases a <;> simp only [RD] at ra ⊢ <;> first
      | (subst ra; simp)
      | (obtain ⟨_, _, rfl, _⟩ := ra; simp)
      | (obtain ⟨_, rfl⟩ := ra; simp)
      | (obtain ⟨_, _, _, rfl, _⟩ := ra; simp)
      | (obtain ⟨_, _, rfl⟩ := ra; simp)
  | _ => cases e
/-- list + list, each tracked or frozen -/
def rCatR : R2 := fun x y H Q => ∃ l b xs zs, x = .ref l ∧ y = .ref b ∧ Rd H l (.lst xs) ∧ Rd H b (.lst zs) ∧ xs.length + zs.length ≤ sizeLine ∧ ∀ p, H p = none → Q (.ref p) (upd H p (.lst (xs ++ zs)))
theorem op_catR : OpR X (binaryOp .Add) rCatR := by
  intro pins s σ H x y v u Q I rx ry h
  obtain ⟨l, b, xs, zs, rfl, rfl, hH, hB, hz, q⟩ := h
  cases rx
  cases ry
  obtain ⟨z, its, n, r, e⟩ := hH.ok I.hok
  obtain ⟨z2, its2, n2, r2, e2⟩ := hB.ok I.hok
  have l1 := r.length
  have l2 := r2.length
  refine PySem.P.add_list e e2 ?_ (by rw [List.size_toArray, List.size_toArray]; omega)
  have ea : its.toArray ++ its2.toArray = (its ++ its2).toArray := by simp
  rw [ea]
  exact ⟨.ref _, _, I.lnew (t' := s.toks) (r.append r2) (by rw [List.length_append]; omega), rfl, q _ I.fresh⟩
theorem ops_add : OpS G X (binaryOp .Add) addD := by
  refine ⟨_, (op_add.or op_add_str).or (op_catA.or op_catR), fun a b d x y W μ H Q hr ra rb e q => ?_⟩
  have lists : (match seqL μ a, seqL μ b with
      | some xs, some ys => if xs.length + ys.length ≤ sizeLine then some (.lst (xs ++ ys)) else none
      | _, _ => none) = some d → rCatR x y H Q := fun e => by
    cases e1 : seqL μ a with
    | none => simp [e1] at e
    | some xs =>
      cases e2 : seqL μ b with
      | none => simp [e1, e2] at e
      | some ys =>
        simp only [e1, e2] at e
        split at e
        · rename_i hz
          cases e
          obtain ⟨p1, vs1, x1, h1, r1⟩ := seqL_rd hr ra e1
          obtain ⟨p2, vs2, x2, h2, r2⟩ := seqL_rd hr rb e2
          refine ⟨p1, p2, vs1, vs2, x1, x2, h1, h2, by rw [r1.length, r2.length]; exact hz, fun p hp => ?_⟩
          exact q _ W _ (ext_upd hr hp _) (hr_upd hr hp _) (new_lst hr (r1.append r2) hp)
        · cases e
  cases a with
  | int i =>
    cases b with
    | int j => cases e; exact .inl (.inl ⟨i, j, ra, rb, q _ W H .refl hr rfl⟩)
    | _ => exact .inr (.inr (lists e))
  | str i =>
    cases b with
    | str j =>
      simp only [addD] at e
      split at e
      · rename_i hz
        cases e
        exact .inl (.inr ⟨i, j, ra, rb, hz, q _ W H .refl hr rfl⟩)
      · cases e
    | _ => exact .inr (.inr (lists e))
  | tup xs =>
    cases b with
    | tup ys =>
      simp only [addD] at e
      split at e
      · rename_i hz
        cases e
        obtain ⟨p1, vs1, x1, h1, r1⟩ := ra
        obtain ⟨p2, vs2, x2, h2, r2⟩ := rb
        refine .inr (.inl ⟨p1, p2, vs1, vs2, x1, x2, SqT.of h1, SqT.of h2, by rw [r1.length, r2.length]; exact hz, fun e0 => ?_, fun _ e0 => ?_, fun _ _ p hp => ?_⟩)
        · have := r1.nil_iff.mp e0
          subst this
          exact q _ W H .refl hr ⟨p2, vs2, rfl, h2, by simpa using r2⟩
        · have := r2.nil_iff.mp e0
          subst this
          exact q _ W H .refl hr ⟨p1, vs1, rfl, h1, by simpa using r1⟩
        · exact q _ W _ (ext_upd hr hp _) (hr_upd hr hp _) (new_tup hr (r1.append r2) hp)
      · cases e
    | _ => exact .inr (.inr (lists e))
  | _ => exact .inr (.inr (lists (by cases b <;> exact e)))
theorem ops_in (hu : X.A.units + 65 < cLine) : OpS G X (compareOp .In) (inD false) := by
  refine ⟨_, op_inD hu, fun a b d x y W μ H Q hr ra rb e q => ?_⟩
  unfold inD at e
  cases e1 : toPm μ a with
  | none => simp [e1] at e
  | some p1 =>
    cases e2 : toPm μ b with
    | none => simp [e1, e2] at e
    | some p2 =>
      cases p2 with
      | list ds =>
        simp only [e1, e2] at e
        split at e
        · rename_i hs
          cases e
          rw [Bool.and_eq_true] at hs
          exact ⟨p1, ds, toPm_dp hr ra e1, toPm_dp hr rb e2, hs.1, hs.2, q _ W H .refl hr rfl⟩
        · cases e
      | _ => simp [e1, e2] at e
theorem ops_notin (hu : X.A.units + 65 < cLine) : OpS G X (compareOp .NotIn) (inD true) := by
  refine ⟨_, op_notInD hu, fun a b d x y W μ H Q hr ra rb e q => ?_⟩
  unfold inD at e
  cases e1 : toPm μ a with
  | none => simp [e1] at e
  | some p1 =>
    cases e2 : toPm μ b with
    | none => simp [e1, e2] at e
    | some p2 =>
      cases p2 with
      | list ds =>
        simp only [e1, e2] at e
        split at e
        · rename_i hs
          cases e
          rw [Bool.and_eq_true] at hs
          exact ⟨p1, ds, toPm_dp hr ra e1, toPm_dp hr rb e2, hs.1, hs.2, q _ W H .refl hr rfl⟩
        · cases e
      | _ => simp [e1, e2] at e
theorem ops_lt (hu : X.A.units < cLine) : OpS G X (compareOp .Lt) ltD := by
  refine ⟨_, op_lt.or (op_ltT hu), fun a b d x y W μ H Q hr ra rb e q => ?_⟩
  have tups : (match tints a, tints b with
      | some ns, some ms => some (D.bl (HT.lexLt ns ms))
      | _, _ => none) = some d → rLtT X.K x y H Q := fun e => by
    cases e1 : tints a with
    | none => simp [e1] at e
    | some ns =>
      cases e2 : tints b with
      | none => simp [e1, e2] at e
      | some ms =>
        simp only [e1, e2] at e
        cases e
        cases a with
        | tup xs =>
          cases b with
          | tup ys =>
            obtain ⟨p1, vs1, x1, h1, r1⟩ := ra
            obtain ⟨p2, vs2, x2, h2, r2⟩ := rb
            have f1 := ints_rd r1 e1
            have f2 := ints_rd r2 e2
            subst f1 f2
            exact ⟨p1, p2, ns, ms, x1, x2, SqT.of h1, SqT.of h2, q _ W H .refl hr rfl⟩
          | _ => cases e2
        | _ => cases e1
  cases a with
  | int i =>
    cases b with
    | int j => cases e; exact .inl ⟨i, j, ra, rb, q _ W H .refl hr rfl⟩
    | _ => exact .inr (tups e)
  | _ => exact .inr (tups (by cases b <;> exact e))
end
end M
namespace M
open PySem PySem.Spec PyProof.Rows L2

/-! ### truth -/
def dctOf (μ : Mem) : D → Option (Bool × List D × List D)
  | .dct tk ks us => some (tk, ks, us)
  | .obj l => match μ[l]? with
    | some (.dct tk ks us) => some (tk, ks, us)
    | _ => none
  | _ => none
def tru (μ : Mem) : D → Option Bool
  | .non => some false
  | .bl b => some b
  | .int i => some (i != 0)
  | .str x => if x.length ≤ sizeLine then some ((x.length : Int) != 0) else none
  | .tup ds => some (!ds.isEmpty)
  | d => match seqL μ d with
    | some ds => some (!ds.isEmpty)
    | none => none
theorem isEmpty_of_len {α β : Type} {a : List α} {b : List β} (h : a.length = b.length) : a.isEmpty = b.isEmpty := by
  cases a <;> cases b <;> simp at h ⊢
section
variable {G : GA} {X : Cx} {Wx : WX} {a b c e : Expr} {fa fb fc : Sg → Mem → Out D} {pos : Pos}
theorem tru_rd {W : Wo} {μ : Mem} {H : Hp} {d : D} {v : V} {k : Bool} (hr : HR G.fa W μ H) (r : RD G.fa W μ.length H d v) (e : tru μ d = some k) : TruV X.K v H k := by
  have lists : ∀ ds, seqL μ d = some ds → TruV X.K v H (!ds.isEmpty) := fun ds e => by
    obtain ⟨p, vs, e1, h1, r1⟩ := seqL_rd hr r e
    subst e1
    exact .inl ⟨vs, .inl h1, by rw [isEmpty_of_len r1.length]⟩
  cases d with
  | non => cases e; rw [show v = .non from r]; rfl
  | bl b => cases e; rw [show v = .bl _ from r]; rfl
  | int i => cases e; rw [show v = .int i from r]; rfl
  | str x =>
    simp only [tru] at e
    split at e
    · rename_i h; cases e; rw [show v = .str x from r]; exact ⟨h, rfl⟩
    · cases e
  | tup ds =>
    cases e
    obtain ⟨p, vs, e1, h1, r1⟩ := r
    subst e1
    exact .inr (.inl ⟨vs, SqT.of h1, by rw [isEmpty_of_len r1.length]⟩)
  | lst ds => exact lists ds rfl |> fun h => by cases e; exact h
  | obj l =>
    simp only [tru] at e
    cases q : seqL μ (.obj l) with
    | none => simp [q] at e
    | some ds => simp only [q] at e; cases e; exact lists ds q
  | _ => cases e

/-! ### tests -/
def evT (f : Sg → Mem → Out D) : Sg → Mem → Out Bool := fun δ μ => (f δ μ).bind fun d μ1 => match tru μ1 d with
  | some b => .ok b μ1
  | none => .bad
theorem st_val (he : SE G X Wx a fa) (hp : ∀ whole, isTrue a X.env whole = (do let v ← whole; standAt a.pos; holding [v] (truthy v))) : STt G X Wx a (evT fa) := by
  obtain ⟨t, p, q⟩ := he
  refine ⟨_, pt_truth p hp, fun σ H W μ δ Q hr rs h => ?_⟩
  refine q σ H W μ δ _ hr rs (Post.bind h fun d μ1 x W1 H1 _ x1 hr1 r1 h1 => ?_)
  cases e : tru μ1 d with
  | none => simp only [e] at h1; exact h1.elim
  | some k =>
    simp only [e] at h1
    exact ⟨k, tru_rd hr1 r1 e, h1 k W1 H1 .refl hr1 rfl⟩
def evAndT (fa fb : Sg → Mem → Out Bool) : Sg → Mem → Out Bool := fun δ μ => (fa δ μ).bind fun a μ1 => if a then fb δ μ1 else .ok false μ1
def evOrT (fa fb : Sg → Mem → Out Bool) : Sg → Mem → Out Bool := fun δ μ => (fa δ μ).bind fun a μ1 => if a then .ok true μ1 else fb δ μ1
def evNotT (fa : Sg → Mem → Out Bool) : Sg → Mem → Out Bool := fun δ μ => (fa δ μ).bind fun a μ1 => .ok (!a) μ1
variable {ga gb : Sg → Mem → Out Bool} {rest : List Expr}
theorem stw_one_and (ha : STt G X Wx a ga) : STw G X Wx (.BoolOp .And [a] pos) ga := let ⟨t, p, q⟩ := ha; ⟨t, pw_and1 p, q⟩
theorem stw_one_or (ha : STt G X Wx a ga) : STw G X Wx (.BoolOp .Or [a] pos) ga := let ⟨t, p, q⟩ := ha; ⟨t, pw_or1 p, q⟩
theorem stw_and (ha : STt G X Wx a ga) (hb : STw G X Wx (.BoolOp .And (b :: rest) pos) gb) : STw G X Wx (.BoolOp .And (a :: b :: rest) pos) (evAndT ga gb) := by
  obtain ⟨ta, pa, qa⟩ := ha
  obtain ⟨tb, pb, qb⟩ := hb
  refine ⟨_, pw_and pa pb, fun σ H W μ δ Q hr rs h => ?_⟩
  refine qa σ H W μ δ _ hr rs (Post.bind h fun k μ1 k' W1 H1 _ x1 hr1 r1 h1 => ?_)
  cases (show k = k' from r1)
  cases k with
  | true => exact if_true_of rfl (qb σ H1 W1 μ1 δ Q hr1 (rs.mono hr x1) h1)
  | false => exact if_false_of Bool.false_ne_true (h1 false W1 H1 .refl hr1 rfl)
theorem stw_or (ha : STt G X Wx a ga) (hb : STw G X Wx (.BoolOp .Or (b :: rest) pos) gb) : STw G X Wx (.BoolOp .Or (a :: b :: rest) pos) (evOrT ga gb) := by
  obtain ⟨ta, pa, qa⟩ := ha
  obtain ⟨tb, pb, qb⟩ := hb
  refine ⟨_, pw_or pa pb, fun σ H W μ δ Q hr rs h => ?_⟩
  refine qa σ H W μ δ _ hr rs (Post.bind h fun k μ1 k' W1 H1 _ x1 hr1 r1 h1 => ?_)
  cases (show k = k' from r1)
  cases k with
  | true => exact if_true_of rfl (h1 true W1 H1 .refl hr1 rfl)
  | false => exact if_false_of Bool.false_ne_true (qb σ H1 W1 μ1 δ Q hr1 (rs.mono hr x1) h1)
theorem st_not (ha : STt G X Wx a ga) : STt G X Wx (.UnaryOp .Not a pos) (evNotT ga) := by
  obtain ⟨ta, pa, qa⟩ := ha
  refine ⟨_, pt_not pa, fun σ H W μ δ Q hr rs h => ?_⟩
  refine qa σ H W μ δ _ hr rs (Post.bind h fun k μ1 k' W1 H1 _ x1 hr1 r1 h1 => ?_)
  cases (show k = k' from r1)
  exact h1 (!k) W1 H1 .refl hr1 rfl

/-! ### and, or, not, if-else as values -/
def evAnd (fa fb : Sg → Mem → Out D) : Sg → Mem → Out D := fun δ μ => (fa δ μ).bind fun a μ1 => match tru μ1 a with
  | some true => fb δ μ1
  | some false => .ok a μ1
  | none => .bad
def evOr (fa fb : Sg → Mem → Out D) : Sg → Mem → Out D := fun δ μ => (fa δ μ).bind fun a μ1 => match tru μ1 a with
  | some true => .ok a μ1
  | some false => fb δ μ1
  | none => .bad
def evNot (fa : Sg → Mem → Out D) : Sg → Mem → Out D := fun δ μ => (fa δ μ).bind fun a μ1 => match tru μ1 a with
  | some k => .ok (.bl (!k)) μ1
  | none => .bad
theorem se_one {op : BoolOp} (h : SE G X Wx a fa) : SE G X Wx (.BoolOp op [a] pos) fa := let ⟨t, p, q⟩ := h; ⟨t, pe_one p, q⟩
theorem se_and (ha : SE G X Wx a fa) (hb : SE G X Wx (.BoolOp .And (b :: rest) pos) fb) : SE G X Wx (.BoolOp .And (a :: b :: rest) pos) (evAnd fa fb) := by
  obtain ⟨ta, pa, qa⟩ := ha
  obtain ⟨tb, pb, qb⟩ := hb
  refine ⟨_, pe_andT pa pb, fun σ H W μ δ Q hr rs h => ?_⟩
  refine qa σ H W μ δ _ hr rs (Post.bind h fun d μ1 v W1 H1 _ x1 hr1 r1 h1 => ?_)
  cases e : tru μ1 d with
  | none => simp only [e] at h1; exact h1.elim
  | some k =>
    simp only [e] at h1
    refine ⟨k, tru_rd hr1 r1 e, ?_⟩
    cases k with
    | true => exact if_true_of rfl (qb σ H1 W1 μ1 δ Q hr1 (rs.mono hr x1) h1)
    | false => exact if_false_of Bool.false_ne_true (h1 v W1 H1 .refl hr1 r1)
theorem se_or (ha : SE G X Wx a fa) (hb : SE G X Wx (.BoolOp .Or (b :: rest) pos) fb) : SE G X Wx (.BoolOp .Or (a :: b :: rest) pos) (evOr fa fb) := by
  obtain ⟨ta, pa, qa⟩ := ha
  obtain ⟨tb, pb, qb⟩ := hb
  refine ⟨_, pe_orT pa pb, fun σ H W μ δ Q hr rs h => ?_⟩
  refine qa σ H W μ δ _ hr rs (Post.bind h fun d μ1 v W1 H1 _ x1 hr1 r1 h1 => ?_)
  cases e : tru μ1 d with
  | none => simp only [e] at h1; exact h1.elim
  | some k =>
    simp only [e] at h1
    refine ⟨k, tru_rd hr1 r1 e, ?_⟩
    cases k with
    | true => exact if_true_of rfl (h1 v W1 H1 .refl hr1 r1)
    | false => exact if_false_of Bool.false_ne_true (qb σ H1 W1 μ1 δ Q hr1 (rs.mono hr x1) h1)
theorem se_not (ha : SE G X Wx a fa) : SE G X Wx (.UnaryOp .Not a pos) (evNot fa) := by
  obtain ⟨ta, pa, qa⟩ := ha
  refine ⟨_, pe_notT pa, fun σ H W μ δ Q hr rs h => ?_⟩
  refine qa σ H W μ δ _ hr rs (Post.bind h fun d μ1 v W1 H1 _ x1 hr1 r1 h1 => ?_)
  cases e : tru μ1 d with
  | none => simp only [e] at h1; exact h1.elim
  | some k =>
    simp only [e] at h1
    exact ⟨k, tru_rd hr1 r1 e, h1 _ W1 H1 .refl hr1 rfl⟩
def evIf (gc : Sg → Mem → Out Bool) (fa fb : Sg → Mem → Out D) : Sg → Mem → Out D := fun δ μ => (gc δ μ).bind fun k μ1 => if k then fa δ μ1 else fb δ μ1
theorem se_if {gc : Sg → Mem → Out Bool} (hc : STt G X Wx c gc) (ha : SE G X Wx a fa) (hb : SE G X Wx b fb) : SE G X Wx (.IfExp c a b pos) (evIf gc fa fb) := by
  obtain ⟨tc, pc, qc⟩ := hc
  obtain ⟨ta, pa, qa⟩ := ha
  obtain ⟨tb, pb, qb⟩ := hb
  refine ⟨_, pe_ifExp pc pa pb, fun σ H W μ δ Q hr rs h => ?_⟩
  refine qc σ H W μ δ _ hr rs (Post.bind h fun k μ1 k' W1 H1 _ x1 hr1 r1 h1 => ?_)
  cases (show k = k' from r1)
  cases k with
  | true => exact if_true_of rfl (qa σ H1 W1 μ1 δ Q hr1 (rs.mono hr x1) h1)
  | false => exact if_false_of Bool.false_ne_true (qb σ H1 W1 μ1 δ Q hr1 (rs.mono hr x1) h1)
/-- -a -/
def negD : D → Option D
  | .int i => some (.int (-i))
  | _ => none
def evUn (g : D → Option D) (fa : Sg → Mem → Out D) : Sg → Mem → Out D := fun δ μ => (fa δ μ).bind fun a μ1 => ofO (g a) μ1
theorem se_neg (ha : SE G X Wx a fa) : SE G X Wx (.UnaryOp .USub a pos) (evUn negD fa) := by
  obtain ⟨ta, pa, qa⟩ := ha
  refine ⟨_, pe_un un_neg pa, fun σ H W μ δ Q hr rs h => ?_⟩
  refine qa σ H W μ δ _ hr rs (Post.bind h fun d μ1 v W1 H1 _ x1 hr1 r1 h1 => ?_)
  cases d with
  | int i => exact ⟨i, r1, h1 _ W1 H1 .refl hr1 rfl⟩
  | _ => exact h1.elim

/-! ### argument lists, displays -/
def evNil : Sg → Mem → Out (List D) := fun _ μ => .ok [] μ
def evCons (fa : Sg → Mem → Out D) (fr : Sg → Mem → Out (List D)) : Sg → Mem → Out (List D) := fun δ μ => (fa δ μ).bind fun a μ1 => (fr δ μ1).bind fun r μ2 => .ok (a :: r) μ2
theorem sa_nil : SA G X Wx [] evNil := ⟨_, pa_nil, fun σ H W μ δ Q hr rs h => h [] W H .refl hr rfl⟩
theorem sa_cons {es : List Expr} {fr : Sg → Mem → Out (List D)} (ha : SE G X Wx e fa) (hb : SA G X Wx es fr) (hs : starEach (e :: es) X.env = (false, eval e X.env) :: starEach es X.env) : SA G X Wx (e :: es) (evCons fa fr) := by
  obtain ⟨ta, pa, qa⟩ := ha
  obtain ⟨tb, pb, qb⟩ := hb
  refine ⟨_, pa_cons pa pb hs, fun σ H W μ δ Q hr rs h => ?_⟩
  refine qa σ H W μ δ _ hr rs (Post.bind h fun d μ1 v W1 H1 _ x1 hr1 r1 h1 => ?_)
  refine qb σ H1 W1 μ1 δ _ hr1 (rs.mono hr x1) (Post.bind h1 fun ds μ2 vs W2 H2 _ x2 hr2 r2 h2 => ?_)
  exact h2 (v :: vs) W2 H2 .refl hr2 ⟨v, vs, rfl, RD.mono hr1 x2 d v r1, r2⟩
def evTup (fr : Sg → Mem → Out (List D)) : Sg → Mem → Out D := fun δ μ => (fr δ μ).bind fun ds μ1 => if ds.length ≤ 1000 then .ok (.tup ds) μ1 else .bad
def evLst (fr : Sg → Mem → Out (List D)) : Sg → Mem → Out D := fun δ μ => (fr δ μ).bind fun ds μ1 => if ds.length ≤ 1000 then .ok (.lst ds) μ1 else .bad
def evMl (fr : Sg → Mem → Out (List D)) : Sg → Mem → Out D := fun δ μ => (fr δ μ).bind fun ds μ1 => if ds.length ≤ 1000 then .ok (.obj μ1.length) (μ1 ++ [.lst ds]) else .bad
theorem line_1000 {n : Nat} (h : n ≤ 1000) : n ≤ sizeLine := by rw [sizeLine_eq]; omega
theorem se_tup {es : List Expr} {fr : Sg → Mem → Out (List D)} {k : Nat} (h : SA G X Wx es fr) : SE G X Wx (.Tuple es k pos) (evTup fr) := by
  obtain ⟨t, p, q⟩ := h
  refine ⟨_, pe_tup p, fun σ H W μ δ Q hr rs h => ?_⟩
  refine q σ H W μ δ _ hr rs (Post.bind h fun ds μ1 vs W1 H1 _ x1 hr1 r1 h1 => ?_)
  split at h1
  · rename_i hl
    exact ⟨by rw [r1.length]; exact line_1000 hl, fun p hp => h1 _ W1 _ (ext_upd hr1 hp _) (hr_upd hr1 hp _) (new_tup hr1 r1 hp)⟩
  · exact h1.elim
theorem se_lst {es : List Expr} {fr : Sg → Mem → Out (List D)} (h : SA G X Wx es fr) : SE G X Wx (.List es pos) (evLst fr) := by
  obtain ⟨t, p, q⟩ := h
  refine ⟨_, pe_lst p, fun σ H W μ δ Q hr rs h => ?_⟩
  refine q σ H W μ δ _ hr rs (Post.bind h fun ds μ1 vs W1 H1 _ x1 hr1 r1 h1 => ?_)
  split at h1
  · rename_i hl
    exact ⟨by rw [r1.length]; exact line_1000 hl, fun p hp => h1 _ W1 _ (ext_upd hr1 hp _) (hr_upd hr1 hp _) (new_lst hr1 r1 hp)⟩
  · exact h1.elim
/-! a new object of one's own -/
def addW (W : Wo) (n : Nat) (p : Addr) : Wo := ⟨fun l => if l = n then p else W.φ l, fun q => W.F q ∨ q = p⟩
theorem ext_add {fa : Nat → Option Addr} {W : Wo} {μ : Mem} {H : Hp} (hr : HR fa W μ H) {p : Addr} (hp : H p = none) (o : HO) (c : Cell) : Ext W μ.length H (addW W μ.length p) (μ ++ [c]).length (upd H p o) where
  le := by simp
  phi := fun l h => by show (if l = μ.length then p else W.φ l) = W.φ l; rw [if_neg (by omega)]
  sub := fun q h => .inl h
  new := fun q h => by
    rcases h with h | h
    · exact .inl h
    · exact .inr (by rw [h]; exact hp)
  fresh := fun l h1 h2 => by
    have : l = μ.length := by simp at h2; omega
    show H (if l = μ.length then p else W.φ l) = none
    rw [if_pos this]; exact hp
  dom := (ext_upd hr hp o).dom
  keep := (ext_upd hr hp o).keep
theorem hr_add {fa : Nat → Option Addr} {W : Wo} {μ : Mem} {H : Hp} (hr : HR fa W μ H) {p : Addr} (hp : H p = none) {o : HO} {c : Cell}
    (ok : CellOk fa (addW W μ.length p) (μ ++ [c]).length (upd H p o) p c) : HR fa (addW W μ.length p) (μ ++ [c]) (upd H p o) where
  cells := fun l c' e => by
    by_cases hl : l = μ.length
    · subst hl
      rw [List.getElem?_append_right (Nat.le_refl _)] at e
      simp at e; subst e
      show CellOk fa _ _ _ (if μ.length = μ.length then p else W.φ μ.length) c
      rw [if_pos rfl]; exact ok
    · have hlt : l < μ.length := by
        have := (List.getElem?_eq_some_iff.mp e).1
        simp at this; omega
      rw [List.getElem?_append_left hlt] at e
      show CellOk fa _ _ _ (if l = μ.length then p else W.φ l) c'
      rw [if_neg hl]
      have h := hr.cells l c' e
      have x := ext_add hr hp o c
      have hq : W.φ l ≠ p := fun z => by
        have := hr.mutb hlt
        rw [z, hp] at this
        exact this
      cases c' with
      | lst ds => obtain ⟨vs, e1, r⟩ := h; exact ⟨vs, by rw [upd_ne hq]; exact e1, RDs.mono hr x ds vs r⟩
      | dct tk ks us => obtain ⟨vs, e1, r⟩ := h; exact ⟨vs, e1.rd fun u z => by rw [upd_ne hq]; exact z, RDs.mono hr x us vs r⟩
  inj := fun i j hi hj e => by
    have e : (if i = μ.length then p else W.φ i) = if j = μ.length then p else W.φ j := e
    simp at hi hj
    have ne : ∀ l, l < μ.length → W.φ l ≠ p := fun l hl z => by
      have := hr.mutb hl
      rw [z, hp] at this
      exact this
    by_cases h1 : i = μ.length
    · by_cases h2 : j = μ.length
      · omega
      · rw [if_pos h1, if_neg h2] at e
        exact absurd e.symm (ne j (by omega))
    · by_cases h2 : j = μ.length
      · rw [if_neg h1, if_pos h2] at e
        exact absurd e (ne i (by omega))
      · rw [if_neg h1, if_neg h2] at e
        exact hr.inj i j (by omega) (by omega) e
  own := fun l hl => by
    show W.F (if l = μ.length then p else W.φ l) ∨ (if l = μ.length then p else W.φ l) = p
    by_cases h1 : l = μ.length
    · rw [if_pos h1]; exact .inr rfl
    · rw [if_neg h1]; simp at hl; exact .inl (hr.own l (by omega))
  trk := fun q h => by
    rcases h with h | h
    · exact (ext_upd hr hp o).dom q (hr.trk q h)
    · rw [h, upd_same]; simp
theorem rd_add {fa : Nat → Option Addr} {W : Wo} {μ : Mem} {H : Hp} {p : Addr} {c : Cell} : RD fa (addW W μ.length p) (μ ++ [c]).length H (.obj μ.length) (.ref p) :=
  ⟨by simp, by show V.ref p = .ref (if μ.length = μ.length then p else W.φ μ.length); rw [if_pos rfl]⟩
theorem se_ml {es : List Expr} {fr : Sg → Mem → Out (List D)} (h : SA G X Wx es fr) : SE G X Wx (.List es pos) (evMl fr) := by
  obtain ⟨t, p, q⟩ := h
  refine ⟨_, pe_lst p, fun σ H W μ δ Q hr rs h => ?_⟩
  refine q σ H W μ δ _ hr rs (Post.bind h fun ds μ1 vs W1 H1 _ x1 hr1 r1 h1 => ?_)
  split at h1
  · rename_i hl
    refine ⟨by rw [r1.length]; exact line_1000 hl, fun p hp => h1 _ _ _ (ext_add hr1 hp _ _) (hr_add hr1 hp ?_) rd_add⟩
    exact ⟨vs, upd_same, RDs.mono hr1 (ext_add hr1 hp _ _) ds vs r1⟩
  · exact h1.elim

/-! ### a[i] -/
def dget (ks us : List D) (k : D) : Option D := match ks, us with
  | a :: ks, u :: us => if keyK a = keyK k then some u else dget ks us k
  | _, _ => none
def idxD (a b : D) (μ : Mem) : Option D := match b with
  | .int i => match seqL μ a with
    | some ds => atI ds i
    | none => match a with
      | .tup ds => atI ds i
      | .str z => if z.length ≤ sizeLine then (atI z.cps.toList i).map fun c => .str ⟨#[c]⟩ else none
      | _ => none
  | _ => none
theorem atI_rd {fa : Nat → Option Addr} {W : Wo} {N : Nat} {H : Hp} {ds : List D} {vs : List V} {i : Int} {d : D} (r : RDs fa W N H ds vs) (e : atI ds i = some d) : ∃ v, atI vs i = some v ∧ RD fa W N H d v := by
  unfold atI at e ⊢
  rw [r.length]
  cases q : ixN ds.length i with
  | none => simp [q] at e
  | some j =>
    simp only [q, Option.bind_some] at e ⊢
    exact r.get e
theorem se_ix (ha : SE G X Wx a fa) (hb : SE G X Wx b fb) (hs : PlainIx b) : SE G X Wx (.Subscript a b pos) (evBin idxD fa fb) := by
  obtain ⟨ta, pa, qa⟩ := ha
  obtain ⟨tb, pb, qb⟩ := hb
  refine ⟨_, pe_ix ix_seq pa pb hs, fun σ H W μ δ Q hr rs h => two_of (fun a b d x y W μ H Q hr ra rb e q => ?_) qa qb hr rs h⟩
  cases b with
  | int i =>
    unfold idxD at e
    cases q1 : seqL μ a with
    | some ds =>
      simp only [q1] at e
      obtain ⟨p, vs, e1, h1, r1⟩ := seqL_rd hr ra q1
      obtain ⟨v, e2, r2⟩ := atI_rd r1 e
      exact .inl ⟨p, vs, i, v, e1, rb, .inl h1, e2, q v W H .refl hr r2⟩
    | none =>
      simp only [q1] at e
      cases a with
      | tup ds =>
        obtain ⟨p, vs, e1, h1, r1⟩ := ra
        obtain ⟨v, e2, r2⟩ := atI_rd r1 e
        exact .inr (.inl ⟨p, vs, i, v, e1, rb, SqT.of h1, e2, q v W H .refl hr r2⟩)
      | str z =>
        simp only at e
        split at e
        · rename_i hz
          cases q2 : atI z.cps.toList i with
          | none => rw [q2] at e; cases e
          | some c =>
            rw [q2] at e; cases e
            exact .inr (.inr ⟨z, i, c, ra, rb, hz, q2, q _ W H .refl hr rfl⟩)
        · cases e
      | _ => cases e
  | _ => cases e

/-! ### a[lo:hi] -/
def partD : D → Option (Option Int)
  | .int i => some (some i)
  | .non => none
  | _ => none
def SO (G : GA) (X : Cx) (Wx : WX) (e : Option Expr) (f : Sg → Mem → Out (Option Int)) : Prop :=
  ∃ t, PO X e t ∧ ∀ σ H W μ δ Q, HR G.fa W μ H → RS G W μ.length H δ σ → Post G (fun _ _ _ a b => a = b) W μ H Q (XQ G Wx σ) (f δ μ) → t σ H Q
def evNoP : Sg → Mem → Out (Option Int) := fun _ μ => .ok none μ
def evP (f : Sg → Mem → Out D) : Sg → Mem → Out (Option Int) := fun δ μ => (f δ μ).bind fun d μ1 => match d with
  | .int i => .ok (some i) μ1
  | _ => .bad
theorem so_none : SO G X Wx none evNoP := ⟨_, po_none, fun σ H W μ δ Q hr rs h => h none W H .refl hr rfl⟩
theorem so_some (ha : SE G X Wx a fa) : SO G X Wx (some a) (evP fa) := by
  obtain ⟨ta, pa, qa⟩ := ha
  refine ⟨_, po_some pa, fun σ H W μ δ Q hr rs h => ?_⟩
  refine qa σ H W μ δ _ hr rs (Post.bind h fun d μ1 v W1 H1 _ x1 hr1 r1 h1 => ?_)
  cases d with
  | int i => exact ⟨i, r1, h1 _ W1 H1 .refl hr1 rfl⟩
  | _ => exact h1.elim
def cutD (ds : List D) (lo hi : Option Int) : List D := (ds.drop (HT.sIx ds.length 0 lo)).take (HT.sIx ds.length ds.length hi - HT.sIx ds.length 0 lo)
def slD (a : D) (lo hi : Option Int) (μ : Mem) : Option D := match a with
  | .tup ds => some (.tup (cutD ds lo hi))
  | .str z => if z.length ≤ sizeLine then some (.str (cutS z lo hi)) else none
  | a => (seqL μ a).map fun ds => .lst (cutD ds lo hi)
def evSl (fa : Sg → Mem → Out D) (fl fh : Sg → Mem → Out (Option Int)) : Sg → Mem → Out D := fun δ μ => (fa δ μ).bind fun a μ1 => (fl δ μ1).bind fun lo μ2 => (fh δ μ2).bind fun hi μ3 => ofO (slD a lo hi μ3) μ3
theorem cut_rd {fa : Nat → Option Addr} {W : Wo} {N : Nat} {H : Hp} {ds : List D} {vs : List V} (lo hi : Option Int) (r : RDs fa W N H ds vs) : RDs fa W N H (cutD ds lo hi) (cutV vs lo hi) := by
  unfold cutD cutV
  rw [r.length]
  exact (r.drop _).take _
theorem se_sl {lo hi : Option Expr} {fl fh : Sg → Mem → Out (Option Int)} {p2 : Pos} (ha : SE G X Wx a fa) (hl : SO G X Wx lo fl) (hh : SO G X Wx hi fh) : SE G X Wx (.Subscript a (.Slice lo hi none p2) pos) (evSl fa fl fh) := by
  obtain ⟨ta, pa, qa⟩ := ha
  obtain ⟨tl, pl, ql⟩ := hl
  obtain ⟨th, ph, qh⟩ := hh
  refine ⟨_, pe_slice (sl_tupA.or (sl_str.or sl_list)) pa pl ph, fun σ H W μ δ Q hr rs h => ?_⟩
  refine qa σ H W μ δ _ hr rs (Post.bind h fun a μ1 x W1 H1 _ x1 hr1 r1 h1 => ?_)
  refine ql σ H1 W1 μ1 δ _ hr1 (rs.mono hr x1) (Post.bind h1 fun lo μ2 lo' W2 H2 _ x2 hr2 r2 h2 => ?_)
  refine qh σ H2 W2 μ2 δ _ hr2 ((rs.mono hr x1).mono hr1 x2) (Post.bind h2 fun hi μ3 hi' W3 H3 _ x3 hr3 r3 h3 => ?_)
  cases (show lo = lo' from r2)
  cases (show hi = hi' from r3)
  obtain ⟨d, e, q⟩ := post_ofO h3
  have ra := RD.mono hr2 x3 a x (RD.mono hr1 x2 a x r1)
  have lists : (seqL μ3 a).map (fun ds => D.lst (cutD ds lo hi)) = some d → rSlL X.K x lo hi H3 Q := fun e => by
    cases q1 : seqL μ3 a with
    | none => rw [q1] at e; cases e
    | some ds =>
      rw [q1] at e; cases e
      obtain ⟨p, vs, e1, h1, r1⟩ := seqL_rd hr3 ra q1
      exact ⟨p, vs, e1, .inl h1, fun l hl => q _ W3 _ (ext_upd hr3 hl _) (hr_upd hr3 hl _) (new_lst hr3 (cut_rd lo hi r1) hl)⟩
  cases a with
  | tup ds =>
    cases e
    obtain ⟨p, vs, e1, h1, r1⟩ := ra
    refine .inl ⟨p, vs, e1, SqT.of h1, fun hw => ?_, fun _ l hl => q _ W3 _ (ext_upd hr3 hl _) (hr_upd hr3 hl _) (new_tup hr3 (cut_rd lo hi r1) hl)⟩
    refine q _ W3 H3 .refl hr3 ⟨p, vs, rfl, h1, ?_⟩
    rw [r1.length] at hw
    have : cutD ds lo hi = ds := by
      unfold cutD
      rw [hw.1, hw.2]
      simp
    rw [this]; exact r1
  | str z =>
    simp only [slD] at e
    split at e
    · rename_i hz; cases e
      exact .inr (.inl ⟨z, ra, hz, q _ W3 H3 .refl hr3 rfl⟩)
    · cases e
  | _ => exact .inr (.inr (lists e))

/-! ### a call of a def -/
abbrev FS := List D → Mem → Out D
def XQE (G : GA) (E : XK) : XW := fun x W' μ' H' => ∀ c dx, RX G W' μ'.length H' x c dx → E c dx H'
def spOf (G : GA) (ar : Nat) (f : FS) : Sp := fun vs H Q E => vs.length = ar ∧ ∃ W μ ds, HR G.fa W μ H ∧ RDs G.fa W μ.length H ds vs ∧ Post G (RD G.fa) W μ H Q (XQE G E) (f ds μ)
/-- the def named x keeps the function f, at level n -/
def FnS (G : GA) (X : Cx) (n : Nat) (x : Str) (ar : Nat) (f : FS) : Prop :=
  ∃ fad fd ps, FnOk X.prog X.w X.K X.mg X.base (L2.CX X.prog X.w) n fad fd ps (spOf G ar f) ∧ X.mg x = some (.ref fad) ∧ PySem.W.keepIn X.K (.ref fad) = true ∧ Binds X.K fd ps []
def evCall (f : FS) (fr : Sg → Mem → Out (List D)) : Sg → Mem → Out D := fun δ μ => (fr δ μ).bind fun ds μ1 => f ds μ1
theorem se_call {n ar : Nat} {x : Str} {f : FS} {es : List Expr} {fr : Sg → Mem → Out (List D)} {p : Pos} (F : FnS G X n x ar f) (hr : Room n X.A) (hg : Gl X x) (tk : Takes X Wx) (ha : SA G X Wx (e :: es) fr)
    (hdb : (x == ("__debug__" : Str)) = false) (he : starEach (e :: es) X.env = (false, eval e X.env) :: starEach es X.env) (hpl : (backTo pos (starEach es X.env)).any (·.1) = false) (har : (e :: es).length = ar) (hlen : ∀ δ μ ds μ1, fr δ μ = .ok ds μ1 → ds.length = (e :: es).length) :
    SE G X Wx (.Call (.Name x p) (e :: es) [] pos) (evCall f fr) := by
  obtain ⟨fad, fd, ps, ok, hm, hk, hb⟩ := F
  obtain ⟨t, pa, qa⟩ := ha
  refine ⟨_, pe_callS ok hr hg hm hk hb (fun σ => passAt tk σ) pa hdb he hpl, fun σ H W μ δ Q hr0 rs h => ?_⟩
  refine qa σ H W μ δ _ hr0 rs (Post.bind h fun ds μ1 vs W1 H1 eo x1 hr1 r1 h1 => ?_)
  exact ⟨by rw [r1.length, hlen δ μ ds μ1 eo, har], W1, μ1, ds, hr1, r1, h1⟩

/-! ### a built-in -/
def CallS (G : GA) (X : Cx) (f : Value) (g : List D → Mem → Option D) : Prop :=
  ∃ r, CallR X f r ∧ ∀ ds d vs W μ H (Q : VK), HR G.fa W μ H → RDs G.fa W μ.length H ds vs → g ds μ = some d →
    (∀ v W' H', Ext W μ.length H W' μ.length H' → HR G.fa W' μ H' → RD G.fa W' μ.length H' d v → Q v H') → r vs H Q
def evBlt (g : List D → Mem → Option D) (fr : Sg → Mem → Out (List D)) : Sg → Mem → Out D := fun δ μ => (fr δ μ).bind fun ds μ1 => ofO (g ds μ1) μ1
theorem se_blt {id : String} {x : Str} {g : List D → Mem → Option D} {es : List Expr} {fr : Sg → Mem → Out (List D)} {p : Pos} (hc : CallS G X (.builtin id) g) (hg : Gl X x) (hm : X.mg x = none) (hv : bootBuiltins x = some (.builtin id)) (ha : SA G X Wx (e :: es) fr)
    (hn : x ≠ "__name__") (hdb : (x == ("__debug__" : Str)) = false) (he : starEach (e :: es) X.env = (false, eval e X.env) :: starEach es X.env) (hpl : (backTo pos (starEach es X.env)).any (·.1) = false) :
    SE G X Wx (.Call (.Name x p) (e :: es) [] pos) (evBlt g fr) := by
  obtain ⟨r, pc, qc⟩ := hc
  obtain ⟨t, pa, qa⟩ := ha
  refine ⟨_, pe_callB pc hg hm hv pa hn hdb he hpl, fun σ H W μ δ Q hr0 rs h => ?_⟩
  refine qa σ H W μ δ _ hr0 rs (Post.bind h fun ds μ1 vs W1 H1 eo x1 hr1 r1 h1 => ?_)
  obtain ⟨d, e, q⟩ := post_ofO h1
  exact qc ds d vs W1 μ1 H1 Q hr1 r1 e q
theorem se_bty {T : String} {x : Str} {g : List D → Mem → Option D} {es : List Expr} {fr : Sg → Mem → Out (List D)} {p : Pos} (hc : CallS G X (.type T) g) (hg : Gl X x) (hm : X.mg x = none) (hv : bootBuiltins x = some (.type T)) (ha : SA G X Wx (e :: es) fr)
    (hn : x ≠ "__name__") (hdb : (x == ("__debug__" : Str)) = false) (he : starEach (e :: es) X.env = (false, eval e X.env) :: starEach es X.env) (hpl : (backTo pos (starEach es X.env)).any (·.1) = false) :
    SE G X Wx (.Call (.Name x p) (e :: es) [] pos) (evBlt g fr) := by
  obtain ⟨r, pc, qc⟩ := hc
  obtain ⟨t, pa, qa⟩ := ha
  refine ⟨_, pe_callTy pc hg hm hv pa hn hdb he hpl, fun σ H W μ δ Q hr0 rs h => ?_⟩
  refine qa σ H W μ δ _ hr0 rs (Post.bind h fun ds μ1 vs W1 H1 eo x1 hr1 r1 h1 => ?_)
  obtain ⟨d, e, q⟩ := post_ofO h1
  exact qc ds d vs W1 μ1 H1 Q hr1 r1 e q
end
end M
namespace M
open PySem PySem.Spec PyProof.Rows L2 SrtO

/-! ### sorted of a tuple -/
section
variable {prog : Program} {w : World} {A : Around} {E : Value → Shared → Prop} {s : Shared}
theorem col_tup {t : Addr} {us : List Value} {Q : List Value → Shared → Prop} (ht : s.heap.IsTuple t us.toArray) (hz : us.length ≤ sizeLine)
    (h : Q us { s with heap := (s.heap.push (seqObj "list" #[] 0)).update s.heap.objs.size (Obj.mapSeq (· ++ us.toArray)) }) : wpAny (model prog w) A (collect (.ref t)) Q E s := by
  obtain ⟨ob, e1, e2, m, e3⟩ := id ht
  unfold collect
  refine wpAny_bind (wpAny_runValue (codeAny_builtin entry_proto_collect' (show wpAny _ _ (do again (.builtin "list.__iadd__" ⟨[← newList [], .ref t], []⟩)) _ _ s from wpAny_bind (wpAny_newList (wpAny_pure ⟨Code.quiet_builtin _ (by decide +kernel), codeAny_builtin entry_list_iadd' ?_⟩)))))
  show wpAny _ _ (Builtin.List.listExtendWith (.ref s.heap.objs.size) (.ref t) (.ref s.heap.objs.size)) _ _ { s with heap := s.heap.push (seqObj "list" #[] 0) }
  unfold Builtin.List.listExtendWith
  have e1' : (s.heap.push (seqObj "list" #[] 0)).get? t = some ob := Heap.get?_push_of_some _ e1
  have l0 : (s.heap.push (seqObj "list" #[] 0)).get? s.heap.objs.size = some (seqObj "list" #[] 0) := Heap.get?_push_size _ rfl
  refine wpAny_bind (wpAny_typeOf (T := "tuple") ⟨ob, e1', e2⟩ ?_)
  have ty : (Value.type "tuple" == Value.type "tuple") = true := by rfl
  rw [if_pos (by rw [ty]; simp)]
  refine wpAny_bind (listItems_at e1' e3 (wpAny_bind (listItems_at (xs := #[]) (n := 0) l0 rfl ?_)))
  rw [if_neg (by simp)]
  refine wpAny_bind (listUpdate_at (xs := #[]) (n := 0) l0 rfl (wpAny_pure ?_) (Nat.zero_le _) (by show (#[] ++ us.toArray).size ≤ sizeLine + 1; simp only [Array.size_append, List.size_toArray, List.length_nil]; omega))
  show wpAny (model prog w) A (do let o ← load s.heap.objs.size; match o.data with
      | .seq xs _ => pure xs.toList
      | _ => unsupported "internal:collect") Q E { s with heap := (s.heap.push (seqObj "list" #[] 0)).update s.heap.objs.size (Obj.mapSeq (· ++ us.toArray)) }
  refine wpAny_bind (wpAny_load (get?_update_seq l0 _) ?_)
  show wpAny _ _ (pure ((#[] : Array Value) ++ us.toArray).toList) Q E _
  rw [show ((#[] : Array Value) ++ us.toArray).toList = us by simp]
  exact wpAny_pure h
theorem srt_tup {t : Addr} {us : List Value} {lv : Value → Value → Bool} {Q : Value → Shared → Prop} (O : Swo lv) (ht : s.heap.IsTuple t us.toArray) (hz : us.length ≤ sizeLine)
    (hS : 2 ≤ us.length → ∀ (h₁ : Heap) (a : Addr), h₁.get? a = some (seqObj "list" us.toArray 0) → (∀ b o, s.heap.get? b = some o → b ≠ a ∧ h₁.get? b = some o) → SortableO prog w A.in1.in1 { s with heap := h₁ } a us lv)
    (h : ∀ out : List Value, Srtd lv out → Stb lv out us → Q (.ref (s.heap.objs.size + 1)) { s with heap := sortedAll s.heap us out.toArray }) : wpAny (model prog w) A (call (.builtin "sorted") [.ref t]) Q E s := by
  refine Calls.call_function_entry kind_sorted plain_sorted entry_sorted (args_sorted1 _) ?_
  unfold Builtin.«sorted»
  refine wpAny_bind (m := checkCount "sorted" 1 1 _) (wpAny_pure (wpAny_bind (col_tup ht hz (wpAny_bind (wpAny_newList ?_ hz)))))
  have sz : ((s.heap.push (seqObj "list" #[] 0)).update s.heap.objs.size (Obj.mapSeq (· ++ us.toArray))).objs.size = s.heap.objs.size + 1 := by rw [Heap.size_update, size_push']
  have hL : (((s.heap.push (seqObj "list" #[] 0)).update s.heap.objs.size (Obj.mapSeq (· ++ us.toArray))).push (seqObj "list" us.toArray 0)).get? (s.heap.objs.size + 1) = some (seqObj "list" us.toArray 0) := by rw [← sz]; exact Heap.get?_push_size _ rfl
  have old : ∀ b o, s.heap.get? b = some o → b ≠ s.heap.objs.size + 1 ∧ (((s.heap.push (seqObj "list" #[] 0)).update s.heap.objs.size (Obj.mapSeq (· ++ us.toArray))).push (seqObj "list" us.toArray 0)).get? b = some o := fun b o q => by
    have lt : b < s.heap.objs.size := Heap.lt_size q
    exact ⟨Nat.ne_of_lt (Nat.lt_succ_of_lt lt), Heap.get?_push_of_some _ (by rw [Heap.get?_update_ne _ _ _ _ (Nat.ne_of_lt lt)]; exact Heap.get?_push_of_some _ q)⟩
  show wpAny _ _ _ _ _ { s with heap := ((s.heap.push (seqObj "list" #[] 0)).update s.heap.objs.size (Obj.mapSeq (· ++ us.toArray))).push (seqObj "list" us.toArray 0) }
  rw [sz]
  exact wpAny_bind (wpAny_holding (wpAny_call_entry slot_list_sort ⟨_, hL, rfl⟩ entry_list_sort (list_sort_ord O hL hz (fun h2 => hS h2 _ _ hL old) fun out hs hb => ⟨_, rfl, wpAny_pure ⟨_, rfl, h out hs hb⟩⟩) (args_list_sort _)))
end
/-- sorted(t), t a tuple of ints -/
def rSrtTI (K : PySem.W.Frag) : List V → Hp → VK → Prop := fun vs H Q => ∃ (a : Addr) (ns : List Int), vs = [V.ref a] ∧ SqT K H a (ns.map V.int) ∧ ∀ (ns' : List Int) (p : Addr), ns'.Perm ns → ns'.Pairwise (· ≤ ·) → H p = none → Q (.ref p) (upd H p (.lst (ns'.map V.int)))
/-- .. of pairs of ints -/
def rSrtTP (K : PySem.W.Frag) : List V → Hp → VK → Prop := fun vs H Q => ∃ (a : Addr) (xs : List V) (k : V → Int × Int), vs = [V.ref a] ∧ SqT K H a xs ∧ (∀ x ∈ xs, ∃ t, x = V.ref t ∧ H t = some (.tup [.int (k x).1, .int (k x).2])) ∧
  ∀ ys p, Srtd (ltP k) ys → Stb (ltP k) ys xs → H p = none → Q (.ref p) (upd H p (.lst ys))
section
variable {X : Cx}
theorem cr_srtTI : CallR X (.builtin "sorted") (rSrtTI X.K) := by
  intro pins s σ H vs us Q I r h
  obtain ⟨a, ns, rfl, hs, q⟩ := h
  obtain ⟨its, rv, hl, hz⟩ := I.tuple hs
  rw [Vals.ref1 r]
  have hi := rv.ints
  refine srt_tup swo_int (show s.heap.IsTuple a its.toArray from hl) (by rw [← rv.length]; exact hz) (fun h2 h₁ a' _ _ => ints_sortable hi h2) fun out h1 h2 => ?_
  obtain ⟨k1, k2, k3⟩ := ints_out hi h1 h2
  obtain ⟨ep, he⟩ := PyProof.Rows.sortedAll_at s.heap its out.toArray
  have hlen : ((out.map iv).map V.int).length ≤ sizeLine := by rw [List.length_map, k2.length_eq]; rw [List.length_map] at hz; exact hz
  exact ⟨.ref _, upd H (s.heap.objs.size + 1) (.lst ((out.map iv).map V.int)), I.laid (t' := s.toks) (fun _ _ => PyProof.Rows.sortedAll_old) (Nat.le_succ _) ⟨hlen, out, ep, vals_of_ints k1, he⟩, rfl, q _ _ k2 k3 (I.hok.fresh (Nat.le_succ _))⟩
theorem cr_srtTP : CallR X (.builtin "sorted") (rSrtTP X.K) := by
  intro pins s σ H vs us Q I r h
  obtain ⟨a, xs, k, rfl, hs, hx, q⟩ := h
  obtain ⟨its, rv, hl, hz⟩ := I.tuple hs
  rw [Vals.ref1 r]
  obtain ⟨e1, e2⟩ := refs_back rv fun x m => let ⟨t, e, _⟩ := hx x m; ⟨t, e⟩
  have hp : ∀ v ∈ its, Srt.IsPair s.heap v (k (backV v)).1 (k (backV v)).2 := fun v hv => by
    obtain ⟨t, rfl⟩ := e2 v hv
    obtain ⟨t', e, ht⟩ := hx (V.ref t) (by rw [e1]; exact List.mem_map.mpr ⟨_, hv, rfl⟩)
    cases e
    obtain ⟨_, its2, r2, o, ho, hc, n, hd⟩ := I.hok _ _ ht
    obtain ⟨u1, u2, rfl, ⟨t1, rfl⟩, ⟨t2, rfl⟩⟩ := vals2 r2
    exact ⟨t, o, t1, t2, n, rfl, ho, hc, hd⟩
  refine srt_tup (swo_lex fun u => k (backV u)) (show s.heap.IsTuple a its.toArray from hl) (by rw [← rv.length]; exact hz) (fun h2 h₁ b hb kk => ?_) fun out h1 h2 => ?_
  · refine pairs_sortableO (s := { s with heap := h₁ }) (by omega) (fun v hm => (hp v hm).keeps fun b o e _ => (kk b o e).2) fun o e c => ?_
    cases (e.symm.trans hb : some o = some (seqObj "list" its.toArray 0))
    exact absurd (Value.type.inj c) (by decide)
  · have h3 : ∀ u ∈ out, ∃ a, u = Value.ref a := fun u hu => e2 u (h2.perm.mem_iff.mp hu)
    obtain ⟨n, hn⟩ := PyProof.Rows.sortedAll_at s.heap its out.toArray
    have hb : Stb (ltP k) (out.map backV) xs := by rw [e1]; exact Stb.map (ltP_swo k) backV h2
    exact ⟨.ref _, upd H (s.heap.objs.size + 1) (.lst (out.map backV)), I.laid (t' := s.toks) (fun _ _ => PyProof.Rows.sortedAll_old) (Nat.le_succ _) ⟨by rw [hb.len]; exact hz, out, n, vals_back h3, hn⟩, rfl, q _ _ (srtd_map h1) hb (I.hok.fresh (Nat.le_succ _))⟩
end
end M
namespace M
open PySem PySem.Spec PyProof.Rows L2

/-! ### sorting -/
def insI (x : Int) : List Int → List Int
  | [] => [x]
  | y :: r => if x ≤ y then x :: y :: r else y :: insI x r
def sortI : List Int → List Int
  | [] => []
  | x :: r => insI x (sortI r)
theorem insI_perm (x : Int) : ∀ l, (insI x l).Perm (x :: l)
  | [] => .refl _
  | y :: r => by
    unfold insI
    split
    · exact .refl _
    · exact ((insI_perm x r).cons y).trans (.swap x y r)
theorem sortI_perm : ∀ l, (sortI l).Perm l
  | [] => .refl _
  | x :: r => (insI_perm x _).trans ((sortI_perm r).cons x)
theorem insI_sorted (x : Int) : ∀ l : List Int, l.Pairwise (· ≤ ·) → (insI x l).Pairwise (· ≤ ·)
  | [], _ => by simp [insI]
  | y :: r, h => by
    unfold insI
    have h' := List.pairwise_cons.mp h
    split
    · rename_i hxy
      refine List.pairwise_cons.mpr ⟨fun z hz => ?_, h⟩
      rcases List.mem_cons.mp hz with e | hz
      · rw [e]; exact hxy
      · exact Int.le_trans hxy (h'.1 z hz)
    · refine List.pairwise_cons.mpr ⟨fun z hz => ?_, insI_sorted x r h'.2⟩
      rcases List.mem_cons.mp ((insI_perm x r).mem_iff.mp hz) with e | hz
      · rw [e]; omega
      · exact h'.1 z hz
theorem sortI_sorted : ∀ l : List Int, (sortI l).Pairwise (· ≤ ·)
  | [] => by simp [sortI]
  | x :: r => insI_sorted x _ (sortI_sorted r)
theorem sortI_uniq {l m : List Int} (p : m.Perm l) (s : m.Pairwise (· ≤ ·)) : m = sortI l :=
  List.Perm.eq_of_pairwise (fun a b _ _ h1 h2 => Int.le_antisymm h1 h2) s (sortI_sorted l) (p.trans (sortI_perm l).symm)
def leP (p q : Int × Int) : Bool := decide (p.1 < q.1) || (decide (p.1 = q.1) && decide (p.2 ≤ q.2))
theorem leP_iff {p q : Int × Int} : leP p q = true ↔ p.1 < q.1 ∨ (p.1 = q.1 ∧ p.2 ≤ q.2) := by simp [leP]
def insP (x : Int × Int) : List (Int × Int) → List (Int × Int)
  | [] => [x]
  | y :: r => if leP x y = true then x :: y :: r else y :: insP x r
def sortP : List (Int × Int) → List (Int × Int)
  | [] => []
  | x :: r => insP x (sortP r)
theorem insP_perm (x : Int × Int) : ∀ l, (insP x l).Perm (x :: l)
  | [] => .refl _
  | y :: r => by
    unfold insP
    split
    · exact .refl _
    · exact ((insP_perm x r).cons y).trans (.swap x y r)
theorem sortP_perm : ∀ l, (sortP l).Perm l
  | [] => .refl _
  | x :: r => (insP_perm x _).trans ((sortP_perm r).cons x)
theorem insP_sorted (x : Int × Int) : ∀ l : List (Int × Int), l.Pairwise (fun a b => leP a b = true) → (insP x l).Pairwise (fun a b => leP a b = true)
  | [], _ => by simp [insP]
  | y :: r, h => by
    unfold insP
    have h' := List.pairwise_cons.mp h
    split
    · rename_i hxy
      refine List.pairwise_cons.mpr ⟨fun z hz => ?_, h⟩
      rcases List.mem_cons.mp hz with e | hz
      · rw [e]; exact hxy
      · have a := leP_iff.mp hxy
        have b := leP_iff.mp (h'.1 z hz)
        exact leP_iff.mpr (by omega)
    · rename_i hxy
      refine List.pairwise_cons.mpr ⟨fun z hz => ?_, insP_sorted x r h'.2⟩
      rcases List.mem_cons.mp ((insP_perm x r).mem_iff.mp hz) with e | hz
      · rw [e]
        have hn : ¬ (x.1 < y.1 ∨ (x.1 = y.1 ∧ x.2 ≤ y.2)) := fun q => hxy (leP_iff.mpr q)
        exact leP_iff.mpr (by omega)
      · exact h'.1 z hz
theorem sortP_sorted : ∀ l : List (Int × Int), (sortP l).Pairwise (fun a b => leP a b = true)
  | [] => by simp [sortP]
  | x :: r => insP_sorted x _ (sortP_sorted r)
theorem sortP_uniq {l m : List (Int × Int)} (p : m.Perm l) (s : m.Pairwise (fun a b => leP a b = true)) : m = sortP l :=
  List.Perm.eq_of_pairwise (fun a b _ _ h1 h2 => by
    have := leP_iff.mp h1
    have := leP_iff.mp h2
    exact Prod.ext (by omega) (by omega)) s (sortP_sorted l) (p.trans (sortP_perm l).symm)
def pairD (p : Int × Int) : D := .tup [.int p.1, .int p.2]
def pairsOf : List D → Option (List (Int × Int))
  | [] => some []
  | .tup [.int i, .int j] :: r => (pairsOf r).map ((i, j) :: ·)
  | _ => none
theorem pairsOf_map (ps : List (Int × Int)) : pairsOf (ps.map pairD) = some ps := by
  induction ps with
  | nil => rfl
  | cons p r ih =>
    rw [List.map_cons]
    unfold pairD
    simp only [pairsOf]
    rw [show (List.map (fun p : Int × Int => D.tup [D.int p.1, D.int p.2]) r) = r.map pairD from rfl, ih]; rfl
theorem pairsOf_inv : ∀ {ds : List D} {ps : List (Int × Int)}, pairsOf ds = some ps → ds = ps.map pairD
  | [], ps, e => by simp [pairsOf] at e; subst e; rfl
  | d :: ds, ps, e => by
    unfold pairsOf at e
    split at e
    · rename_i h; cases h
    · rename_i i j r h
      cases h
      cases q : pairsOf ds with
      | none => rw [q] at e; cases e
      | some qs =>
        rw [q] at e; cases e
        rw [List.map_cons, pairsOf_inv q]; rfl
    · cases e
theorem intsOf_inv : ∀ {ds : List D} {ns : List Int}, intsOf ds = some ns → ds = ns.map D.int
  | [], ns, e => by simp [intsOf] at e; subst e; rfl
  | d :: ds, ns, e => by
    cases d with
    | int i =>
      unfold intsOf at e
      cases q : intsOf ds with
      | none => rw [q] at e; cases e
      | some ms => rw [q] at e; cases e; rw [List.map_cons, intsOf_inv q]
    | _ => unfold intsOf at e; cases e
def keyP (H : Hp) : V → Int × Int
  | .ref t => match H t with
    | some (.tup [.int i, .int j]) => (i, j)
    | _ => (0, 0)
  | _ => (0, 0)

/-! ### what the built-ins give -/
def sortedD (ds : List D) (μ : Mem) : Option D := match ds with
  | [.tup es] => match intsOf es with
    | some ns => some (.lst ((sortI ns).map .int))
    | none => match pairsOf es with
      | some ps => some (.lst ((sortP ps).map pairD))
      | none => none
  | [a] => match seqL μ a with
    | some es => match intsOf es with
      | some ns => some (.lst ((sortI ns).map .int))
      | none => match pairsOf es with
        | some ps => some (.lst ((sortP ps).map pairD))
        | none => none
    | none => match dctOf μ a with
      | some (false, ks, _) => match intsOf ks with
        | some ns => if ns.length < 64 then some (.lst ((sortI ns).map .int)) else none
        | none => none
      | _ => none
  | _ => none
def lenD (ds : List D) (μ : Mem) : Option D := match ds with
  | [.tup es] => some (.int es.length)
  | [.str x] => if x.length ≤ sizeLine then some (.int x.length) else none
  | [a] => match seqL μ a with
    | some es => some (.int es.length)
    | none => match dctOf μ a with
      | some (false, ks, _) => some (.int ks.length)
      | _ => none
  | _ => none
def absD (ds : List D) (_ : Mem) : Option D := match ds with
  | [.int i] => some (.int (if i < 0 then -i else i))
  | _ => none
def intD (ds : List D) (_ : Mem) : Option D := match ds with
  | [.int i] => some (.int i)
  | [.bl k] => some (.int (if k then 1 else 0))
  | _ => none
def on1 (g : List D → Option D) (ds : List D) (μ : Mem) : Option D := match ds with
  | [a] => match seqL μ a with
    | some es => g es
    | none => none
  | _ => none
def sumD : List D → Mem → Option D := on1 fun es => (intsOf es).map fun ns => .int ns.sum
def allD : List D → Mem → Option D := on1 fun es => (boolsOf es).map fun ns => .bl (ns.all id)
def anyD : List D → Mem → Option D := on1 fun es => (boolsOf es).map fun ns => .bl (ns.any id)
def tupleD (ds : List D) (μ : Mem) : Option D := match ds with
  | [.tup es] => some (.tup es)
  | [a] => (seqL μ a).map .tup
  | _ => none
def listD (ds : List D) (μ : Mem) : Option D := match ds with
  | [.tup es] => some (.lst es)
  | [a] => (seqL μ a).map .lst
  | _ => none
def maxI : List Int → Option Int
  | [] => none
  | x :: r => some (r.foldl (fun a b => if b > a then b else a) x)
def minI : List Int → Option Int
  | [] => none
  | x :: r => some (r.foldl (fun a b => if b < a then b else a) x)
def maxD (ds : List D) (μ : Mem) : Option D := match ds with
  | [.int i, .int j] => some (.int (if j > i then j else i))
  | [a] => match seqL μ a with
    | some es => match intsOf es with
      | some ns => (maxI ns).map .int
      | none => none
    | none => none
  | _ => none
def minD (ds : List D) (μ : Mem) : Option D := match ds with
  | [.int i, .int j] => some (.int (if j < i then j else i))
  | [a] => match seqL μ a with
    | some es => match intsOf es with
      | some ns => (minI ns).map .int
      | none => none
    | none => none
  | _ => none
theorem maxI_spec {ns : List Int} {m : Int} (h : maxI ns = some m) : m ∈ ns ∧ ∀ y ∈ ns, y ≤ m := by
  cases ns with
  | nil => cases h
  | cons x r =>
    cases h
    induction r generalizing x with
    | nil => simp
    | cons y r ih =>
      rw [List.foldl_cons]
      obtain ⟨h1, h2⟩ := ih (if y > x then y else x)
      have h0 := h2 _ (List.mem_cons_self ..)
      have hx : x ≤ (if y > x then y else x) := by split <;> omega
      have hy : y ≤ (if y > x then y else x) := by split <;> omega
      refine ⟨?_, fun z hz => ?_⟩
      · rcases List.mem_cons.mp h1 with e | e
        · rw [e]; split <;> simp
        · simp [e]
      · rcases List.mem_cons.mp hz with e | e
        · rw [e]; exact Int.le_trans hx h0
        · rcases List.mem_cons.mp e with e | e
          · rw [e]; exact Int.le_trans hy h0
          · exact h2 z (List.mem_cons_of_mem _ e)
theorem minI_spec {ns : List Int} {m : Int} (h : minI ns = some m) : m ∈ ns ∧ ∀ y ∈ ns, m ≤ y := by
  cases ns with
  | nil => cases h
  | cons x r =>
    cases h
    induction r generalizing x with
    | nil => simp
    | cons y r ih =>
      rw [List.foldl_cons]
      obtain ⟨h1, h2⟩ := ih (if y < x then y else x)
      have h0 := h2 _ (List.mem_cons_self ..)
      have hx : (if y < x then y else x) ≤ x := by split <;> omega
      have hy : (if y < x then y else x) ≤ y := by split <;> omega
      refine ⟨?_, fun z hz => ?_⟩
      · rcases List.mem_cons.mp h1 with e | e
        · rw [e]; split <;> simp
        · simp [e]
      · rcases List.mem_cons.mp hz with e | e
        · rw [e]; exact Int.le_trans h0 hx
        · rcases List.mem_cons.mp e with e | e
          · rw [e]; exact Int.le_trans h0 hy
          · exact h2 z (List.mem_cons_of_mem _ e)
theorem CallR.or {X : Cx} {f : Value} {r r' : List V → Hp → VK → Prop} (h : CallR X f r) (h' : CallR X f r') : CallR X f (fun xs H Q => r xs H Q ∨ r' xs H Q) := by
  intro pins s σ H xs us Q I rx q
  rcases q with q | q
  · exact h pins s σ H xs us Q I rx q
  · exact h' pins s σ H xs us Q I rx q
section
variable {G : GA} {X : Cx}
theorem dctOf_rd {fa : Nat → Option Addr} {W : Wo} {μ : Mem} {H : Hp} (hr : HR fa W μ H) {a : D} {x : V} (r : RD fa W μ.length H a x) {tk : Bool} {ks us : List D} (e : dctOf μ a = some (tk, ks, us)) :
    ∃ p vs, x = .ref p ∧ DKV H p tk ks vs ∧ RDs fa W μ.length H us vs := by
  cases a with
  | dct _ _ _ =>
    cases e
    obtain ⟨p, vs, e1, h1, _, h3⟩ := r
    exact ⟨p, vs, e1, h1, h3⟩
  | obj l =>
    unfold dctOf at e
    cases q : μ[l]? with
    | none => simp [q] at e
    | some c =>
      cases c with
      | lst es => simp [q] at e
      | dct tk' ks' us' =>
        simp only [q] at e
        cases e
        obtain ⟨vs, h1, h2⟩ := hr.cells l _ q
        exact ⟨_, vs, r.2, h1, h2⟩
  | _ => cases e
theorem dct_rd {fa : Nat → Option Addr} {W : Wo} {μ : Mem} {H : Hp} (hr : HR fa W μ H) {a : D} {x : V} (r : RD fa W μ.length H a x) {ks us : List D} (e : dctOf μ a = some (false, ks, us)) :
    ∃ p, ∃ kvs : List (Key × V), x = .ref p ∧ H p = some (.dK kvs) ∧ ks.map keyK = kvs.map (fun q => some q.1) ∧ RDs fa W μ.length H us (kvs.map (·.2)) := by
  obtain ⟨p, vs, e1, h1, h2⟩ := dctOf_rd hr r e
  obtain ⟨kvs, h3, h4, h5⟩ := h1
  subst h5
  exact ⟨p, kvs, e1, h3, h4, h2⟩
theorem rds1 {fa : Nat → Option Addr} {W : Wo} {N : Nat} {H : Hp} {d : D} {vs : List V} (h : RDs fa W N H [d] vs) : ∃ v, vs = [v] ∧ RD fa W N H d v := by
  obtain ⟨v, ws, e, h1, h2⟩ := h
  rw [show ws = [] from h2] at e
  exact ⟨v, e, h1⟩
theorem rds2 {fa : Nat → Option Addr} {W : Wo} {N : Nat} {H : Hp} {d e : D} {vs : List V} (h : RDs fa W N H [d, e] vs) : ∃ v w, vs = [v, w] ∧ RD fa W N H d v ∧ RD fa W N H e w := by
  obtain ⟨v, ws, q, h1, h2⟩ := h
  obtain ⟨w, rfl, h3⟩ := rds1 h2
  exact ⟨v, w, q, h1, h3⟩
/-- on one argument that is a list -/
theorem cs_list {f : Value} {r : List V → Hp → VK → Prop} (ho : CallR X f r) {g : List D → Option D}
    (h : ∀ es d p vs W μ H (Q : VK), HR G.fa W μ H → Rd H p (.lst vs) → RDs G.fa W μ.length H es vs → g es = some d →
      (∀ v W' H', Ext W μ.length H W' μ.length H' → HR G.fa W' μ H' → RD G.fa W' μ.length H' d v → Q v H') → r [.ref p] H Q) :
    CallS G X f (on1 g) := by
  refine ⟨r, ho, fun ds d vs W μ H Q hr rs e q => ?_⟩
  unfold on1 at e
  split at e
  · rename_i a
    obtain ⟨v, rfl, ra⟩ := rds1 rs
    cases e1 : seqL μ a with
    | none => rw [e1] at e; cases e
    | some es =>
      rw [e1] at e
      obtain ⟨p, vs, rfl, h1, r1⟩ := seqL_rd hr ra e1
      exact h es d p vs W μ H Q hr h1 r1 e q
  · cases e
theorem cs_sum (hc : X.calm = true) : CallS G X (.builtin "sum") sumD := by
  refine cs_list (cr_sum hc) fun es d p vs W μ H Q hr h1 r1 e q => ?_
  cases e1 : intsOf es with
  | none => rw [e1] at e; cases e
  | some ns =>
    rw [e1] at e; cases e
    have := ints_rd r1 e1
    subst this
    exact ⟨p, ns, rfl, .inl h1, q _ W H .refl hr rfl⟩
theorem cs_all (hc : X.calm = true) : CallS G X (.builtin "all") allD := by
  refine cs_list (cr_all hc) fun es d p vs W μ H Q hr h1 r1 e q => ?_
  cases e1 : boolsOf es with
  | none => rw [e1] at e; cases e
  | some ns =>
    rw [e1] at e; cases e
    have := bools_rd r1 e1
    subst this
    exact ⟨p, ns, rfl, .inl h1, q _ W H .refl hr rfl⟩
theorem cs_any (hc : X.calm = true) : CallS G X (.builtin "any") anyD := by
  refine cs_list (cr_any hc) fun es d p vs W μ H Q hr h1 r1 e q => ?_
  cases e1 : boolsOf es with
  | none => rw [e1] at e; cases e
  | some ns =>
    rw [e1] at e; cases e
    have := bools_rd r1 e1
    subst this
    exact ⟨p, ns, rfl, .inl h1, q _ W H .refl hr rfl⟩
theorem cs_abs : CallS G X (.builtin "abs") absD := by
  refine ⟨_, call_abs, fun ds d vs W μ H Q hr rs e q => ?_⟩
  unfold absD at e
  split at e
  · rename_i i
    cases e
    obtain ⟨v, rfl, ra⟩ := rds1 rs
    exact ⟨i, by rw [show v = .int i from ra], q _ W H .refl hr rfl⟩
  · cases e
theorem cs_int : CallS G X (.type "int") intD := by
  refine ⟨_, call_int1, fun ds d vs W μ H Q hr rs e q => ?_⟩
  unfold intD at e
  split at e
  · rename_i i
    cases e
    obtain ⟨v, rfl, ra⟩ := rds1 rs
    exact .inl ⟨i, by rw [show v = .int i from ra], q _ W H .refl hr rfl⟩
  · rename_i k
    cases e
    obtain ⟨v, rfl, ra⟩ := rds1 rs
    exact .inr ⟨k, by rw [show v = .bl k from ra], q _ W H .refl hr rfl⟩
  · cases e
theorem cs_len : CallS G X (.builtin "len") lenD := by
  refine ⟨_, CallR.or call_len call_lenD, fun ds d vs W μ H Q hr rs e q => ?_⟩
  unfold lenD at e
  split at e
  · cases e
    obtain ⟨v, rfl, ra⟩ := rds1 rs
    obtain ⟨p, vs, rfl, h1, r1⟩ := ra
    exact .inl ⟨_, _, rfl, .inr ⟨vs, SqT.of h1, r1.length.symm⟩, q _ W H .refl hr rfl⟩
  · split at e
    · rename_i hz
      cases e
      obtain ⟨v, rfl, ra⟩ := rds1 rs
      rw [show v = .str _ from ra]
      exact .inl ⟨_, _, rfl, ⟨hz, rfl⟩, q _ W H .refl hr rfl⟩
    · cases e
  · rename_i a _ _
    obtain ⟨v, rfl, ra⟩ := rds1 rs
    cases e1 : seqL μ a with
    | some es =>
      simp only [e1] at e
      cases e
      obtain ⟨p, vs, rfl, h1, r1⟩ := seqL_rd hr ra e1
      exact .inl ⟨_, _, rfl, .inl ⟨vs, .inl h1, r1.length.symm⟩, q _ W H .refl hr rfl⟩
    | none =>
      simp only [e1] at e
      cases e2 : dctOf μ a with
      | none => simp [e2] at e
      | some t =>
        obtain ⟨tk, ks, us⟩ := t
        cases tk with
        | true => simp [e2] at e
        | false =>
          simp only [e2] at e
          cases e
          obtain ⟨p, kvs, rfl, h3, h4, h5⟩ := dct_rd hr ra e2
          have hl : ks.length = kvs.length := by
            have := congrArg List.length h4
            simpa using this
          exact .inr ⟨_, kvs, rfl, h3, by rw [← hl]; exact q _ W H .refl hr rfl⟩
  · cases e
end
end M
namespace M
open PySem PySem.Spec PyProof.Rows L2
section
variable {G : GA} {X : Cx}
theorem cs_tuple : CallS G X (.type "tuple") tupleD := by
  refine ⟨_, call_tuple_of, fun ds d vs W μ H Q hr rs e q => ?_⟩
  unfold tupleD at e
  split at e
  · cases e
    obtain ⟨v, rfl, ra⟩ := rds1 rs
    obtain ⟨p, vs, rfl, h1, r1⟩ := ra
    exact ⟨p, vs, rfl, .inr ⟨SqT.of h1, q _ W H .refl hr ⟨p, vs, rfl, h1, r1⟩⟩⟩
  · rename_i a _
    obtain ⟨v, rfl, ra⟩ := rds1 rs
    cases e1 : seqL μ a with
    | none => rw [e1] at e; cases e
    | some es =>
      rw [e1] at e; cases e
      obtain ⟨p, vs, rfl, h1, r1⟩ := seqL_rd hr ra e1
      exact ⟨p, vs, rfl, .inl ⟨.inl h1, fun l hl => q _ W _ (ext_upd hr hl _) (hr_upd hr hl _) (new_tup hr r1 hl)⟩⟩
  · cases e
theorem cs_listT : CallS G X (.type "list") listD := by
  refine ⟨_, call_list_of, fun ds d vs W μ H Q hr rs e q => ?_⟩
  unfold listD at e
  split at e
  · cases e
    obtain ⟨v, rfl, ra⟩ := rds1 rs
    obtain ⟨p, vs, rfl, h1, r1⟩ := ra
    exact ⟨p, vs, rfl, .inr (SqT.of h1), fun l hl => q _ W _ (ext_upd hr hl _) (hr_upd hr hl _) (new_lst hr r1 hl)⟩
  · rename_i a _
    obtain ⟨v, rfl, ra⟩ := rds1 rs
    cases e1 : seqL μ a with
    | none => rw [e1] at e; cases e
    | some es =>
      rw [e1] at e; cases e
      obtain ⟨p, vs, rfl, h1, r1⟩ := seqL_rd hr ra e1
      exact ⟨p, vs, rfl, .inl (.inl h1), fun l hl => q _ W _ (ext_upd hr hl _) (hr_upd hr hl _) (new_lst hr r1 hl)⟩
  · cases e
theorem ints_back {fa : Nat → Option Addr} {W : Wo} {N : Nat} {H : Hp} (ns : List Int) : RDs fa W N H (ns.map D.int) (ns.map V.int) := RDs_ints ns
theorem pair_key {fa : Nat → Option Addr} {W : Wo} {N : Nat} {H : Hp} : ∀ {ps : List (Int × Int)} {vs : List V}, RDs fa W N H (ps.map pairD) vs →
    vs.map (keyP H) = ps ∧ ∀ x ∈ vs, ∃ t, x = .ref t ∧ H t = some (.tup [.int (keyP H x).1, .int (keyP H x).2])
  | [], vs, h => by rw [show vs = [] from h]; exact ⟨rfl, fun x hx => nomatch hx⟩
  | p :: ps, vs, h => by
    obtain ⟨v, ws, e, h1, h2⟩ := h
    subst e
    obtain ⟨a1, a2⟩ := pair_key h2
    obtain ⟨t, us, e1, h3, h4⟩ := h1
    subst e1
    have : us = [.int p.1, .int p.2] := by
      obtain ⟨w1, w2, e, r1, r2⟩ := rds2 h4
      rw [e, show w1 = .int p.1 from r1, show w2 = .int p.2 from r2]
    subst this
    have hk : keyP H (.ref t) = p := by simp only [keyP, h3]
    refine ⟨by rw [List.map_cons, hk, a1], fun x hx => ?_⟩
    rcases List.mem_cons.mp hx with e | hx
    · rw [e, hk]; exact ⟨t, rfl, h3⟩
    · exact a2 x hx
theorem pair_back {fa : Nat → Option Addr} {W : Wo} {N : Nat} {H : Hp} : ∀ {vs : List V}, (∀ x ∈ vs, ∃ t, x = .ref t ∧ H t = some (.tup [.int (keyP H x).1, .int (keyP H x).2])) → RDs fa W N H ((vs.map (keyP H)).map pairD) vs
  | [], _ => rfl
  | v :: vs, h => by
    refine ⟨v, vs, rfl, ?_, pair_back fun x hx => h x (List.mem_cons_of_mem _ hx)⟩
    obtain ⟨t, e, ht⟩ := h v (List.mem_cons_self ..)
    exact ⟨t, _, e, ht, ⟨_, _, rfl, rfl, ⟨_, _, rfl, rfl, rfl⟩⟩⟩
theorem cs_sorted (hc : X.calm = true) : CallS G X (.builtin "sorted") sortedD := by
  refine ⟨_, CallR.or (CallR.or cr_sortedI (CallR.or cr_sortedPO (call_sortedDI hc))) (CallR.or cr_srtTI cr_srtTP), fun ds d vs W μ H Q hr rs e q => ?_⟩
  unfold sortedD at e
  split at e
  · rename_i es
    obtain ⟨v, rfl, ra⟩ := rds1 rs
    obtain ⟨p, vs, rfl, h1, r1⟩ := ra
    cases e2 : intsOf es with
    | some ns =>
      simp only [e2] at e
      cases e
      have := ints_rd r1 e2
      subst this
      refine .inr <| .inl ⟨p, ns, rfl, SqT.of h1, fun ns' l hp hs hl => ?_⟩
      rw [sortI_uniq hp hs]
      exact q _ W _ (ext_upd hr hl _) (hr_upd hr hl _) (new_lst hr (RDs_ints _) hl)
    | none =>
      simp only [e2] at e
      cases e3 : pairsOf es with
      | none => rw [e3] at e; cases e
      | some ps =>
        simp only [e3] at e
        cases e
        have := pairsOf_inv e3
        subst this
        obtain ⟨k1, k2⟩ := pair_key r1
        refine .inr <| .inr ⟨p, vs, keyP H, rfl, SqT.of h1, k2, fun ys l hs hb hl => ?_⟩
        have hp : ys.Perm vs := hb.perm
        have hy : ∀ x ∈ ys, ∃ t, x = V.ref t ∧ H t = some (.tup [.int (keyP H x).1, .int (keyP H x).2]) := fun x hx => k2 x (hp.mem_iff.mp hx)
        have hsort : ys.map (keyP H) = sortP ps := by
          refine sortP_uniq (k1 ▸ hp.map _) (List.pairwise_map.mpr (hs.imp fun {x y} h => ?_))
          have := SrtO.lexB_no.mp h
          exact leP_iff.mpr (by omega)
        rw [← hsort] at q
        exact q _ W _ (ext_upd hr hl _) (hr_upd hr hl _) (new_lst hr (pair_back hy) hl)
  · rename_i a _
    obtain ⟨v, rfl, ra⟩ := rds1 rs
    cases e1 : seqL μ a with
    | some es =>
      simp only [e1] at e
      obtain ⟨p, vs, rfl, h1, r1⟩ := seqL_rd hr ra e1
      cases e2 : intsOf es with
      | some ns =>
        simp only [e2] at e
        cases e
        have := ints_rd r1 e2
        subst this
        refine .inl <| .inl ⟨p, ns, rfl, .inl h1, fun ns' l hp hs hl => ?_⟩
        rw [sortI_uniq hp hs]
        exact q _ W _ (ext_upd hr hl _) (hr_upd hr hl _) (new_lst hr (RDs_ints _) hl)
      | none =>
        simp only [e2] at e
        cases e3 : pairsOf es with
        | none => rw [e3] at e; cases e
        | some ps =>
          simp only [e3] at e
          cases e
          have := pairsOf_inv e3
          subst this
          obtain ⟨k1, k2⟩ := pair_key r1
          refine .inl <| .inr (.inl ⟨p, vs, keyP H, rfl, .inl h1, k2, fun ys l hs hb hl => ?_⟩)
          have hp : ys.Perm vs := hb.perm
          have hy : ∀ x ∈ ys, ∃ t, x = V.ref t ∧ H t = some (.tup [.int (keyP H x).1, .int (keyP H x).2]) := fun x hx => k2 x (hp.mem_iff.mp hx)
          have hsort : ys.map (keyP H) = sortP ps := by
            refine sortP_uniq (k1 ▸ hp.map _) (List.pairwise_map.mpr (hs.imp fun {x y} h => ?_))
            have := SrtO.lexB_no.mp h
            exact leP_iff.mpr (by omega)
          rw [← hsort] at q
          exact q _ W _ (ext_upd hr hl _) (hr_upd hr hl _) (new_lst hr (pair_back hy) hl)
    | none =>
      simp only [e1] at e
      cases e2 : dctOf μ a with
      | none => simp [e2] at e
      | some t =>
        obtain ⟨tk, ks, us⟩ := t
        cases tk with
        | true => simp [e2] at e
        | false =>
          simp only [e2] at e
          cases e3 : intsOf ks with
          | none => simp [e3] at e
          | some ns =>
            simp only [e3] at e
            split at e
            · rename_i hz
              cases e
              obtain ⟨p, kvs, rfl, h3, h4, h5⟩ := dct_rd hr ra e2
              have hk : kvs.map (·.1) = ns.map Sum.inl := by
                have e4 := intsOf_inv e3
                subst e4
                have : (kvs.map (·.1)).map some = (ns.map (Sum.inl : Int → Key)).map some := by
                  rw [List.map_map, List.map_map]
                  have h4' : List.map (keyK ∘ D.int) ns = kvs.map (fun q => some q.1) := by rw [← h4, List.map_map]
                  exact h4'.symm
                exact List.map_inj_right (fun _ _ h => Option.some.inj h) |>.mp this
              refine .inl <| .inr (.inr ⟨p, kvs, ns, rfl, .inl h3, hk, hz, fun ys l hp hs hl => ?_⟩)
              rw [sortI_uniq hp hs]
              exact q _ W _ (ext_upd hr hl _) (hr_upd hr hl _) (new_lst hr (RDs_ints _) hl)
            · cases e
  · cases e
theorem cs_max (hc : X.calm = true) : CallS G X (.builtin "max") maxD := by
  refine ⟨_, CallR.or (call_max2 hc) (cr_max hc), fun ds d vs W μ H Q hr rs e q => ?_⟩
  unfold maxD at e
  split at e
  · cases e
    obtain ⟨v, w, rfl, r1, r2⟩ := rds2 rs
    exact .inl ⟨_, _, by rw [show v = .int _ from r1, show w = .int _ from r2], q _ W H .refl hr rfl⟩
  · rename_i a
    obtain ⟨v, rfl, ra⟩ := rds1 rs
    cases e1 : seqL μ a with
    | none => simp [e1] at e
    | some es =>
      simp only [e1] at e
      obtain ⟨p, vs, rfl, h1, r1⟩ := seqL_rd hr ra e1
      cases e2 : intsOf es with
      | none => simp [e2] at e
      | some ns =>
        simp only [e2] at e
        cases e3 : maxI ns with
        | none => simp [e3] at e
        | some m =>
          simp only [e3] at e
          cases e
          have := ints_rd r1 e2
          subst this
          obtain ⟨a1, a2⟩ := maxI_spec e3
          refine .inr ⟨p, ns, rfl, .inl h1, List.length_pos_of_mem a1, fun m' b1 b2 => ?_⟩
          have : m' = m := Int.le_antisymm (a2 m' b1) (b2 m a1)
          rw [this]
          exact q _ W H .refl hr rfl
  · cases e
theorem cs_min (hc : X.calm = true) : CallS G X (.builtin "min") minD := by
  refine ⟨_, CallR.or (call_min2 hc) (cr_min hc), fun ds d vs W μ H Q hr rs e q => ?_⟩
  unfold minD at e
  split at e
  · cases e
    obtain ⟨v, w, rfl, r1, r2⟩ := rds2 rs
    exact .inl ⟨_, _, by rw [show v = .int _ from r1, show w = .int _ from r2], q _ W H .refl hr rfl⟩
  · rename_i a
    obtain ⟨v, rfl, ra⟩ := rds1 rs
    cases e1 : seqL μ a with
    | none => simp [e1] at e
    | some es =>
      simp only [e1] at e
      obtain ⟨p, vs, rfl, h1, r1⟩ := seqL_rd hr ra e1
      cases e2 : intsOf es with
      | none => simp [e2] at e
      | some ns =>
        simp only [e2] at e
        cases e3 : minI ns with
        | none => simp [e3] at e
        | some m =>
          simp only [e3] at e
          cases e
          have := ints_rd r1 e2
          subst this
          obtain ⟨a1, a2⟩ := minI_spec e3
          refine .inr ⟨p, ns, rfl, .inl h1, List.length_pos_of_mem a1, fun m' b1 b2 => ?_⟩
          have : m' = m := Int.le_antisymm (b2 m a1) (a2 m' b1)
          rw [this]
          exact q _ W H .refl hr rfl
  · cases e

/-! ### isinstance -/
inductive Ty where
  | int | bool | str | tup | lst | dct
  deriving DecidableEq
def Ty.nm : Ty → String
  | .int => "int" | .bool => "bool" | .str => "str" | .tup => "tuple" | .lst => "list" | .dct => "dict"
def tyOf (μ : Mem) : D → Option (Option Ty)
  | .non => some none
  | .bl _ => some (some .bool)
  | .int _ => some (some .int)
  | .str _ => some (some .str)
  | .tup _ => some (some .tup)
  | .lst _ => some (some .lst)
  | .dct _ _ _ => some (some .dct)
  | .obj l => match μ[l]? with
    | some (.lst _) => some (some .lst)
    | some (.dct _ _ _) => some (some .dct)
    | none => none
  | .fn _ => none
def oty : Option Ty → String
  | none => "NoneType"
  | some t => t.nm
def isTy (a : Option Ty) (b : Ty) : Bool := match a with
  | none => false
  | some a => decide (a = b) || (decide (a = .bool) && decide (b = .int))
theorem isTy_kit (a : Option Ty) (b : Ty) : kitB (oty a) b.nm = some (isTy a b) := by
  cases a with
  | none => cases b <;> decide +kernel
  | some a => cases a <;> cases b <;> decide +kernel
def evIs (b : Ty) (fa : Sg → Mem → Out D) : Sg → Mem → Out D := fun δ μ => (fa δ μ).bind fun a μ1 => match tyOf μ1 a with
  | some t => .ok (.bl (isTy t b)) μ1
  | none => .bad
theorem DKV.ty {K : PySem.W.Frag} {H : Hp} {p : Addr} {tk : Bool} {ks : List D} {vs : List V} (h : DKV H p tk ks vs) : TyX K H (.ref p) (.type "dict") := by
  unfold DKV at h
  split at h
  · obtain ⟨kvs, e, _⟩ := h; exact .base (.dT e)
  · obtain ⟨kvs, e, _⟩ := h; exact .base (.dK e)
theorem tyOf_rd {fa : Nat → Option Addr} {W : Wo} {μ : Mem} {H : Hp} {K : PySem.W.Frag} (hr : HR fa W μ H) {a : D} {x : V} (r : RD fa W μ.length H a x) {t : Option Ty} (e : tyOf μ a = some t) : TyX K H x (.type (oty t)) := by
  cases a with
  | non => cases e; rw [show x = .non from r]; exact .base .non
  | bl b => cases e; rw [show x = .bl b from r]; exact .base (.bl b)
  | int b => cases e; rw [show x = .int b from r]; exact .base (.int b)
  | str b => cases e; rw [show x = .str b from r]; exact .base (.str b)
  | tup ds => cases e; obtain ⟨p, vs, rfl, h, _⟩ := r; exact .base (.tup h)
  | lst ds =>
    cases e
    obtain ⟨p, vs, rfl, h, _⟩ := r
    rcases h with h | ⟨o, h⟩
    · exact .base (.lst h)
    · exact .base (.frz h)
  | dct tk ks us => cases e; obtain ⟨p, vs, rfl, h, _⟩ := r; exact h.ty
  | obj l =>
    unfold tyOf at e
    cases q : μ[l]? with
    | none => simp [q] at e
    | some c =>
      have hc := hr.cells l _ q
      rw [r.2]
      cases c with
      | lst ds => simp only [q] at e; cases e; obtain ⟨vs, h, _⟩ := hc; exact .base (.lst h)
      | dct tk ks us => simp only [q] at e; cases e; obtain ⟨vs, h, _⟩ := hc; exact h.ty
  | fn _ => cases e
theorem boot_ty : ∀ b : Ty, bootBuiltins (Str.ofString b.nm) = some (.type b.nm) := by
  intro b; cases b <;> decide +kernel
theorem se_is {Wx : WX} {a : Expr} {f : Sg → Mem → Out D} {b : Ty} {p p2 pos : Pos} (ha : SE G X Wx a f) (hg : Gl X "isinstance") (hm : X.mg "isinstance" = none) (hg2 : Gl X (Str.ofString b.nm)) (hm2 : X.mg (Str.ofString b.nm) = none)
    (hs1 : starEach [a, .Name (Str.ofString b.nm) p2] X.env = (false, eval a X.env) :: starEach [.Name (Str.ofString b.nm) p2] X.env) :
    SE G X Wx (.Call (.Name "isinstance" p) [a, .Name (Str.ofString b.nm) p2] [] pos) (evIs b f) := by
  obtain ⟨t, pa, qa⟩ := ha
  have pn : PE X (.Name (Str.ofString b.nm) p2) (tC (.ty b.nm)) := by
    refine pe_bltn (v := .ty b.nm) hg2 hm2 (boot_ty b) rfl ?_ ?_
    · cases b <;> decide +kernel
    · cases b <;> decide +kernel
  refine ⟨_, pe_callB call_isi hg hm (by decide +kernel) (pa_cons pa (pa_cons pn pa_nil (by rfl)) hs1) (by decide) (by decide) hs1 (by rfl), fun σ H W μ δ Q hr0 rs h => ?_⟩
  refine qa σ H W μ δ _ hr0 rs (Post.bind h fun d μ1 v W1 H1 _ x1 hr1 r1 h1 => ?_)
  cases e : tyOf μ1 d with
  | none => simp only [e] at h1; exact h1.elim
  | some ty =>
    simp only [e] at h1
    exact ⟨v, .ty b.nm, .type (oty ty), .type b.nm, isTy ty b, rfl, .ty _, tyOf_rd hr1 r1 e, isTy_kit ty b, h1 _ W1 H1 .refl hr1 rfl⟩
end
end M
namespace M
open PySem PySem.Spec PyProof.Rows L2

/-! ### equal data -/
mutual
def beqD : D → D → Bool
  | .non, .non => true
  | .bl a, .bl b => a == b
  | .int a, .int b => a == b
  | .str a, .str b => a == b
  | .tup a, .tup b => beqDs a b
  | .lst a, .lst b => beqDs a b
  | .dct k a b, .dct l c d => k == l && beqDs a c && beqDs b d
  | .obj a, .obj b => a == b
  | .fn a, .fn b => a == b
  | _, _ => false
def beqDs : List D → List D → Bool
  | [], [] => true
  | a :: as, b :: bs => beqD a b && beqDs as bs
  | _, _ => false
end
mutual
theorem beqD_eq : ∀ {a b : D}, beqD a b = true → a = b
  | .non, b, h => by cases b <;> first | rfl | cases h
  | .bl a, b, h => by cases b <;> first | (simp [beqD] at h; rw [h]) | cases h
  | .int a, b, h => by cases b <;> first | (simp [beqD] at h; rw [h]) | cases h
  | .str a, b, h => by cases b <;> first | (simp [beqD] at h; rw [h]) | cases h
  | .obj a, b, h => by cases b <;> first | (simp [beqD] at h; rw [h]) | cases h
  | .fn a, b, h => by cases b <;> first | (simp [beqD] at h; rw [h]) | cases h
  | .tup a, b, h => by cases b <;> first | (simp only [beqD] at h; rw [beqDs_eq h]) | cases h
  | .lst a, b, h => by cases b <;> first | (simp only [beqD] at h; rw [beqDs_eq h]) | cases h
  | .dct k a c, b, h => by
    cases b <;> first
      | (simp only [beqD, Bool.and_eq_true, beq_iff_eq] at h; rw [h.1.1, beqDs_eq h.1.2, beqDs_eq h.2])
      | cases h
theorem beqDs_eq : ∀ {a b : List D}, beqDs a b = true → a = b
  | [], b, h => by cases b <;> first | rfl | cases h
  | a :: as, b, h => by
    cases b with
    | nil => cases h
    | cons b bs =>
      simp only [beqDs, Bool.and_eq_true] at h
      rw [beqD_eq h.1, beqDs_eq h.2]
end
mutual
theorem beqD_refl : ∀ a : D, beqD a a = true
  | .non => rfl
  | .bl a => by simp [beqD]
  | .int a => by simp [beqD]
  | .str a => by simp [beqD]
  | .obj a => by simp [beqD]
  | .fn a => by simp [beqD]
  | .tup a => by simp only [beqD]; exact beqDs_refl a
  | .lst a => by simp only [beqD]; exact beqDs_refl a
  | .dct k a b => by simp only [beqD, beqDs_refl a, beqDs_refl b]; simp
theorem beqDs_refl : ∀ a : List D, beqDs a a = true
  | [] => rfl
  | a :: as => by simp only [beqDs, beqD_refl a, beqDs_refl as]; rfl
end

/-! ### a thing of one's own is changed -/
section
variable {fa : Nat → Option Addr} {W : Wo} {N : Nat} {H : Hp} {p : Addr} {o : HO}
mutual
theorem RD.updF (hF : W.F p) (ht : ∀ xs, H p ≠ some (.tup xs)) : ∀ (d : D) (v : V), RD fa W N H d v → RD fa W N (upd H p o) d v
  | .non, v, h => h
  | .bl _, v, h => h
  | .int _, v, h => h
  | .str _, v, h => h
  | .tup ds, v, h => by
    obtain ⟨q, vs, e, h1, h2⟩ := h
    exact ⟨q, vs, e, by rw [upd_ne (show q ≠ p from fun z => ht vs (z ▸ h1))]; exact h1, RDs.updF hF ht ds vs h2⟩
  | .lst ds, v, h => by
    obtain ⟨q, vs, e, h1, h2, h3⟩ := h
    have hq : q ≠ p := fun z => h2 (z ▸ hF)
    refine ⟨q, vs, e, ?_, h2, RDs.updF hF ht ds vs h3⟩
    rcases h1 with h1 | ⟨u, h1⟩
    · exact .inl (by rw [upd_ne hq]; exact h1)
    · exact .inr ⟨u, by rw [upd_ne hq]; exact h1⟩
  | .dct tk ks us, v, h => by
    obtain ⟨q, vs, e, h1, h2, h3⟩ := h
    have hq : q ≠ p := fun z => h2 (z ▸ hF)
    exact ⟨q, vs, e, h1.rd fun u z => by rw [upd_ne hq]; exact z, h2, RDs.updF hF ht us vs h3⟩
  | .obj l, v, h => h
  | .fn i, v, h => h
theorem RDs.updF (hF : W.F p) (ht : ∀ xs, H p ≠ some (.tup xs)) : ∀ (ds : List D) (vs : List V), RDs fa W N H ds vs → RDs fa W N (upd H p o) ds vs
  | [], vs, h => h
  | d :: ds, vs, h => by
    obtain ⟨v, ws, e, h1, h2⟩ := h
    exact ⟨v, ws, e, RD.updF hF ht d v h1, RDs.updF hF ht ds ws h2⟩
end
theorem CellOk.updF (hF : W.F p) (ht : ∀ xs, H p ≠ some (.tup xs)) {q : Addr} (hq : q ≠ p) {c : Cell} (h : CellOk fa W N H q c) : CellOk fa W N (upd H p o) q c := by
  cases c with
  | lst ds => obtain ⟨vs, e, r⟩ := h; exact ⟨vs, by rw [upd_ne hq]; exact e, RDs.updF hF ht ds vs r⟩
  | dct tk ks us => obtain ⟨vs, e, r⟩ := h; exact ⟨vs, e.rd fun u z => by rw [upd_ne hq]; exact z, RDs.updF hF ht us vs r⟩
end
theorem upd_dom {H : Hp} {p : Addr} {o : HO} (q : Addr) (h : H q ≠ none) : upd H p o q ≠ none := by
  by_cases e : q = p
  · subst e; rw [upd_same]; simp
  · rw [upd_ne e]; exact h
/-- a cell is changed -/
theorem mut_cell {fa : Nat → Option Addr} {W : Wo} {μ : Mem} {H : Hp} (hr : HR fa W μ H) {l : Nat} (hl : l < μ.length) {o : HO} {c : Cell} (ok : CellOk fa W μ.length (upd H (W.φ l) o) (W.φ l) c) :
    HR fa W (μ.set l c) (upd H (W.φ l) o) ∧ Ext W μ.length H W (μ.set l c).length (upd H (W.φ l) o) := by
  have hF := hr.own l hl
  have ht : ∀ xs, H (W.φ l) ≠ some (.tup xs) := fun xs e => by
    have := hr.mutb hl
    rw [e] at this; exact this
  refine ⟨⟨fun j c' e => ?_, fun i j hi hj e => hr.inj i j (by simpa using hi) (by simpa using hj) e, fun j hj => hr.own j (by simpa using hj), fun q h => upd_dom q (hr.trk q h)⟩, ⟨by simp, fun _ _ => rfl, fun _ h => h, fun _ h => .inl h, fun j h1 h2 => absurd h2 (by simp; omega), fun q h => upd_dom q h, fun q u h hn => ?_⟩⟩
  · rw [List.length_set]
    by_cases hj : l = j
    · subst hj
      rw [List.getElem?_set_self hl] at e
      cases e; exact ok
    · rw [List.getElem?_set_ne hj] at e
      have hlt : j < μ.length := (List.getElem?_eq_some_iff.mp e).1
      exact (hr.cells j c' e).updF hF ht fun z => hj (hr.inj l j hl hlt z.symm)
  · rw [upd_ne (Ne.symm (hn l hl))]; exact h
/-- a list that is being made (at D): it stands among the changing things, but in no cell -/
def Wo.wF (W : Wo) (p : Addr) : Wo := ⟨W.φ, fun q => W.F q ∨ q = p⟩
theorem hr_wF {fa : Nat → Option Addr} {W : Wo} {μ : Mem} {H : Hp} (hr : HR fa W μ H) {p : Addr} (hp : H p = none) (o : HO) : HR fa (Wo.wF W p) μ (upd H p o) := by
  have a := hr_upd hr hp o
  have x : Ext W μ.length (upd H p o) (Wo.wF W p) μ.length (upd H p o) → True := fun _ => trivial
  have mono : ∀ (d : List D) (v : List V), RDs fa W μ.length H d v → RDs fa (Wo.wF W p) μ.length (upd H p o) d v := fun d v r =>
    RDs.mono hr (W' := Wo.wF W p) ⟨Nat.le_refl _, fun _ _ => rfl, fun _ h => .inl h, fun q h => by
      rcases h with h | h
      · exact .inl h
      · exact .inr (by rw [h]; exact hp), fun l h1 h2 => absurd h2 (by omega), (ext_upd hr hp o).dom, (ext_upd hr hp o).keep⟩ d v r
  refine ⟨fun l c e => ?_, hr.inj, fun l hl => .inl (hr.own l hl), fun q h => ?_⟩
  · have h := hr.cells l c e
    have hq : W.φ l ≠ p := fun z => by
      have := h.mutb
      rw [z, hp] at this
      exact this
    show CellOk fa (Wo.wF W p) μ.length (upd H p o) (W.φ l) c
    cases c with
    | lst ds => obtain ⟨vs, e1, r⟩ := h; exact ⟨vs, by rw [upd_ne hq]; exact e1, mono ds vs r⟩
    | dct tk ks us => obtain ⟨vs, e1, r⟩ := h; exact ⟨vs, e1.rd fun u z => by rw [upd_ne hq]; exact z, mono us vs r⟩
  · rcases h with h | h
    · exact upd_dom q (hr.trk q h)
    · rw [h, upd_same]; simp
theorem ext_wF {fa : Nat → Option Addr} {W : Wo} {μ : Mem} {H : Hp} (hr : HR fa W μ H) {p : Addr} (hp : H p = none) (o : HO) : Ext W μ.length H (Wo.wF W p) μ.length (upd H p o) :=
  ⟨Nat.le_refl _, fun _ _ => rfl, fun _ h => .inl h, fun q h => by
      rcases h with h | h
      · exact .inl h
      · exact .inr (by rw [h]; exact hp), fun l h1 h2 => absurd h2 (by omega), (ext_upd hr hp o).dom, (ext_upd hr hp o).keep⟩
/-- .. is changed -/
theorem hr_step {fa : Nat → Option Addr} {W : Wo} {μ : Mem} {H : Hp} (hr : HR fa W μ H) {p : Addr} {o : HO} (hF : W.F p) (ht : ∀ xs, H p ≠ some (.tup xs)) (hn : ∀ l, l < μ.length → W.φ l ≠ p) : HR fa W μ (upd H p o) :=
  ⟨fun l c e => (hr.cells l c e).updF hF ht (hn l (List.getElem?_eq_some_iff.mp e).1), hr.inj, hr.own, fun q h => upd_dom q (hr.trk q h)⟩
/-- .. is done -/
def Wo.nF (W : Wo) (p : Addr) : Wo := ⟨W.φ, fun q => W.F q ∧ q ≠ p⟩
section
variable {fa : Nat → Option Addr} {W : Wo} {N : Nat} {H : Hp} {p : Addr}
mutual
theorem RD.nF : ∀ (d : D) (v : V), RD fa W N H d v → RD fa (Wo.nF W p) N H d v
  | .non, v, h => h
  | .bl _, v, h => h
  | .int _, v, h => h
  | .str _, v, h => h
  | .tup ds, v, h => by obtain ⟨q, vs, e, h1, h2⟩ := h; exact ⟨q, vs, e, h1, RDs.nF ds vs h2⟩
  | .lst ds, v, h => by obtain ⟨q, vs, e, h1, h2, h3⟩ := h; exact ⟨q, vs, e, h1, fun z => h2 z.1, RDs.nF ds vs h3⟩
  | .dct tk ks us, v, h => by obtain ⟨q, vs, e, h1, h2, h3⟩ := h; exact ⟨q, vs, e, h1, fun z => h2 z.1, RDs.nF us vs h3⟩
  | .obj l, v, h => h
  | .fn i, v, h => h
theorem RDs.nF : ∀ (ds : List D) (vs : List V), RDs fa W N H ds vs → RDs fa (Wo.nF W p) N H ds vs
  | [], vs, h => h
  | d :: ds, vs, h => by obtain ⟨v, ws, e, h1, h2⟩ := h; exact ⟨v, ws, e, RD.nF d v h1, RDs.nF ds ws h2⟩
end
end
theorem hr_nF {fa : Nat → Option Addr} {W : Wo} {μ : Mem} {H : Hp} (hr : HR fa W μ H) {p : Addr} (hn : ∀ l, l < μ.length → W.φ l ≠ p) : HR fa (Wo.nF W p) μ H :=
  ⟨fun l c e => by
    have h := hr.cells l c e
    cases c with
    | lst ds => obtain ⟨vs, e1, r⟩ := h; exact ⟨vs, e1, RDs.nF ds vs r⟩
    | dct tk ks us => obtain ⟨vs, e1, r⟩ := h; exact ⟨vs, e1, RDs.nF us vs r⟩, hr.inj, fun l hl => ⟨hr.own l hl, hn l hl⟩, fun q h => hr.trk q h.1⟩

/-! ### what is walked -/
/-- the items, and the cells that must stay as they are while it is walked -/
structure Src where
  items : List D
  gd : List (Nat × List D)
def gOk (μ : Mem) : List (Nat × List D) → Bool
  | [] => true
  | (l, ds) :: r => (match μ[l]? with
    | some (.lst es) => beqDs es ds
    | _ => false) && gOk μ r
theorem gOk_at {μ : Mem} : ∀ {gd : List (Nat × List D)} {l : Nat} {ds : List D}, gOk μ gd = true → (l, ds) ∈ gd → μ[l]? = some (.lst ds)
  | (l', ds') :: r, l, ds, h, hm => by
    simp only [gOk, Bool.and_eq_true] at h
    rcases List.mem_cons.mp hm with e | hm
    · cases e
      have h1 := h.1
      split at h1
      · rename_i es q
        rw [q, beqDs_eq h1]
      · cases h1
    · exact gOk_at h.2 hm
/-- J walks the items in every later state in which the guarded cells are as they were -/
def Yields (G : GA) (W : Wo) (n : Nat) (H : Hp) (J : It) (s : Src) : Prop :=
  ∀ (W' : Wo) (μ' : Mem) (H' : Hp), Ext W n H W' μ'.length H' → HR G.fa W' μ' H' → gOk μ' s.gd = true → ∀ i,
    (∀ d, s.items[i]? = some d → J.go i H' ∧ ∀ x H'', J.yld i H' x H'' → Ext W' μ'.length H' W' μ'.length H'' ∧ HR G.fa W' μ' H'' ∧ RD G.fa W' μ'.length H'' d x) ∧ (s.items.length ≤ i → J.stop i H')
def SI (G : GA) (X : Cx) (Wx : WX) (tg iter : Expr) (f : Sg → Mem → Out Src) : Prop :=
  ∃ t, PI X tg iter t ∧ ∀ σ H W μ δ (R : It → Hp → Prop), HR G.fa W μ H → RS G W μ.length H δ σ →
    Post G (fun W' n' H' s J => Yields G W' n' H' J s) W μ H R (XQ G Wx σ) (f δ μ) → t σ H R
section
variable {G : GA} {X : Cx} {Wx : WX} {a b e tg : Expr} {fa fb : Sg → Mem → Out D} {pos : Pos}
theorem rds_ix {fa : Nat → Option Addr} {W : Wo} {N : Nat} {H : Hp} {ds : List D} {vs : List V} (r : RDs fa W N H ds vs) {i : Nat} {d : D} (e : ds[i]? = some d) {x : V} (hx : ∀ xs, xs = vs → xs[i]? = some x) : RD fa W N H d x := by
  obtain ⟨v, e1, r1⟩ := r.get e
  have := hx vs rfl
  rw [e1] at this; cases this
  exact r1
theorem yields_lst {W : Wo} {μ : Mem} {H : Hp} (hr : HR G.fa W μ H) {K : PySem.W.Frag} {p : Addr} {vs : List V} {ds : List D} (h1 : Rd H p (.lst vs)) (hF : ¬ W.F p) (r : RDs G.fa W μ.length H ds vs) : Yields G W μ.length H (Itl K p) ⟨ds, []⟩ := by
  intro W' μ' H' x hr' _ i
  have h2 := x.rd h1 (hr.ne_F hF)
  have r2 := RDs.mono hr x ds vs r
  refine ⟨fun d e => ?_, fun hi => ⟨vs, .inl h2, by rw [r.length]; exact hi⟩⟩
  obtain ⟨v, e1, _⟩ := r.get e
  refine ⟨⟨vs, v, .inl h2, e1⟩, fun y H'' hy => ?_⟩
  obtain ⟨eH, hy⟩ := hy
  subst eH
  exact ⟨.refl, hr', rds_ix r2 e fun xs ex => by rw [ex]; exact hy vs (.inl h2)⟩
theorem yields_tup {W : Wo} {μ : Mem} {H : Hp} (hr : HR G.fa W μ H) {K : PySem.W.Frag} {p : Addr} {vs : List V} {ds : List D} (h1 : H p = some (.tup vs)) (r : RDs G.fa W μ.length H ds vs) : Yields G W μ.length H (Itt K p) ⟨ds, []⟩ := by
  intro W' μ' H' x hr' _ i
  have h2 := x.keep p _ h1 (hr.ne_of h1 fun z => z)
  have r2 := RDs.mono hr x ds vs r
  refine ⟨fun d e => ?_, fun hi => ⟨vs, SqT.of h2, by rw [r.length]; exact hi⟩⟩
  obtain ⟨v, e1, _⟩ := r.get e
  refine ⟨⟨vs, v, SqT.of h2, e1⟩, fun y H'' hy => ?_⟩
  obtain ⟨eH, hy⟩ := hy
  subst eH
  exact ⟨.refl, hr', rds_ix r2 e fun xs ex => by rw [ex]; exact hy vs (SqT.of h2)⟩
theorem yields_obj {W : Wo} {μ : Mem} {H : Hp} {K : PySem.W.Frag} {l : Nat} {ds : List D} (hl : l < μ.length) : Yields G W μ.length H (Itl K (W.φ l)) ⟨ds, [(l, ds)]⟩ := by
  intro W' μ' H' x hr' hg i
  have hc := gOk_at hg (List.mem_cons_self ..)
  obtain ⟨vs, h2, r2⟩ := hr'.cells l _ hc
  rw [x.phi l hl] at h2
  refine ⟨fun d e => ?_, fun hi => ⟨vs, SqL.of h2, by rw [r2.length]; exact hi⟩⟩
  obtain ⟨v, e1, _⟩ := r2.get e
  refine ⟨⟨vs, v, SqL.of h2, e1⟩, fun y H'' hy => ?_⟩
  obtain ⟨eH, hy⟩ := hy
  subst eH
  exact ⟨.refl, hr', rds_ix r2 e fun xs ex => by rw [ex]; exact hy vs (SqL.of h2)⟩
theorem rds_two {fa : Nat → Option Addr} {W : Wo} {N : Nat} {H : Hp} {a b : D} {v w : V} (g1 : RD fa W N H a v) (g2 : RD fa W N H b w) : RDs fa W N H [a, b] [v, w] := ⟨v, [w], rfl, g1, ⟨w, [], rfl, g2, rfl⟩⟩
/-- a list or a tuple, whichever it is -/
def iAny (K : PySem.W.Frag) (tl : TE) : TI := fun σ H R => tl σ H fun x H1 => ∃ a, x = .ref a ∧ (((∃ xs, SqL K H1 a xs) ∧ R (Itl K a) H1) ∨ ((∃ xs, SqT K H1 a xs) ∧ R (Itt K a) H1))
theorem pi_any {l : Expr} {tl : TE} (hl : PE X l tl) : PI X tg l (iAny X.K tl) := by
  refine ⟨fun pins s σ H R I h => ?_⟩
  refine thn (hl.run pins s σ H _ I h) fun v s1 ⟨x, H1, I1, r1, q1⟩ => ?_
  obtain ⟨a, e, q1⟩ := q1
  subst e
  cases r1
  rcases q1 with ⟨⟨xs, hq⟩, q⟩ | ⟨⟨xs, hq⟩, q⟩
  · obtain ⟨its, rv, p, hz⟩ := I1.list hq
    refine wpAny_pyIter_list p.isList ?_
    refine ⟨s1.heap.objs.size, [s1.heap.objs.size], _, _, H1, rfl, I1.kept (t' := s1.toks) fun b o e => Heap.get?_push_of_some _ e, turn_list a _, ⟨_, Heap.get?_push_size _ rfl, rfl, rfl⟩, fun b hb => ?_, q⟩
    have e : b = s1.heap.objs.size := by simpa using hb
    subst e
    exact I1.fpOk (Nat.le_refl _) (I1.hok.fresh (Nat.le_refl _))
  · obtain ⟨its, rv, p, hz⟩ := I1.tuple hq
    refine wpAny_pyIter_tuple (show s1.heap.IsTuple a its.toArray from p) ?_
    refine ⟨s1.heap.objs.size, [s1.heap.objs.size], _, _, H1, rfl, I1.kept (t' := s1.toks) fun b o e => Heap.get?_push_of_some _ e, turn_tuple a _, ⟨_, Heap.get?_push_size _ rfl, rfl, rfl⟩, fun b hb => ?_, q⟩
    have e : b = s1.heap.objs.size := by simpa using hb
    subst e
    exact I1.fpOk (Nat.le_refl _) (I1.hok.fresh (Nat.le_refl _))
def srcOf (μ : Mem) : D → Option Src
  | .tup ds => some ⟨ds, []⟩
  | .lst ds => some ⟨ds, []⟩
  | .obj l => match μ[l]? with
    | some (.lst ds) => some ⟨ds, [(l, ds)]⟩
    | _ => none
  | _ => none
def evSrc (f : Sg → Mem → Out D) : Sg → Mem → Out Src := fun δ μ => (f δ μ).bind fun d μ1 => match srcOf μ1 d with
  | some s => .ok s μ1
  | none => .bad
theorem si_any (ha : SE G X Wx a fa) : SI G X Wx tg a (evSrc fa) := by
  obtain ⟨t, pa, qa⟩ := ha
  refine ⟨_, pi_any pa, fun σ H W μ δ R hr rs h => ?_⟩
  refine qa σ H W μ δ _ hr rs (Post.bind h fun d μ1 x W1 H1 _ x1 hr1 r1 h1 => ?_)
  cases d with
  | tup ds =>
    obtain ⟨p, vs, e1, h2, r2⟩ := r1
    exact ⟨p, e1, .inr ⟨⟨vs, SqT.of h2⟩, h1 _ W1 H1 .refl hr1 (yields_tup hr1 h2 r2)⟩⟩
  | lst ds =>
    obtain ⟨p, vs, e1, h2, h3, r2⟩ := r1
    exact ⟨p, e1, .inl ⟨⟨vs, .inl h2⟩, h1 _ W1 H1 .refl hr1 (yields_lst hr1 h2 h3 r2)⟩⟩
  | obj l =>
    simp only [srcOf] at h1
    cases q : μ1[l]? with
    | none => simp only [q] at h1; exact h1.elim
    | some c =>
      cases c with
      | lst ds =>
        simp only [q] at h1
        obtain ⟨vs, h2, r2⟩ := hr1.cells l _ q
        exact ⟨_, r1.2, .inl ⟨⟨vs, SqL.of h2⟩, h1 _ W1 H1 .refl hr1 (yields_obj r1.1)⟩⟩
      | dct _ _ _ => simp only [q] at h1; exact h1.elim
  | _ => exact h1.elim
def rngI (lo : Int) : Nat → List D
  | 0 => []
  | n + 1 => .int lo :: rngI (lo + 1) n
theorem rngI_get : ∀ (n : Nat) (lo : Int) (i : Nat), (rngI lo n)[i]? = if i < n then some (.int (lo + i)) else none
  | 0, lo, i => by simp [rngI]
  | n + 1, lo, 0 => by simp [rngI]
  | n + 1, lo, i + 1 => by
    show (rngI (lo + 1) n)[i]? = _
    rw [rngI_get n (lo + 1) i]
    by_cases h : i < n
    · rw [if_pos h, if_pos (by omega)]; congr 2; omega
    · rw [if_neg h, if_neg (by omega)]
theorem rngI_len : ∀ (n : Nat) (lo : Int), (rngI lo n).length = n
  | 0, _ => rfl
  | n + 1, lo => by show (rngI (lo + 1) n).length + 1 = n + 1; rw [rngI_len n]
theorem yields_rng {W : Wo} {μ : Mem} {H : Hp} (lo : Int) (n : Nat) : Yields G W μ.length H (Itr lo n) ⟨rngI lo n, []⟩ := by
  intro W' μ' H' x hr' _ i
  refine ⟨fun d e => ?_, fun hi => by rw [rngI_len] at hi; exact hi⟩
  rw [rngI_get] at e
  split at e
  · rename_i hi
    cases e
    refine ⟨hi, fun y H'' hy => ?_⟩
    obtain ⟨e1, e2⟩ := hy
    subst e1
    exact ⟨.refl, hr', e2⟩
  · cases e
def rOk (i : Int) : Bool := decide (-(2 ^ 62) ≤ i ∧ i < 2 ^ 62)
def evR1 (fr : Sg → Mem → Out (List D)) : Sg → Mem → Out Src := fun δ μ => (fr δ μ).bind fun ds μ1 => match ds with
  | [.int j] => if rOk j then .ok ⟨rngI 0 j.toNat, []⟩ μ1 else .bad
  | _ => .bad
def evR2 (fr : Sg → Mem → Out (List D)) : Sg → Mem → Out Src := fun δ μ => (fr δ μ).bind fun ds μ1 => match ds with
  | [.int i, .int j] => if rOk i && rOk j then .ok ⟨rngI i (j - i).toNat, []⟩ μ1 else .bad
  | _ => .bad
theorem si_r1 {p : Pos} {fr : Sg → Mem → Out (List D)} (hg : Gl X "range") (hm : X.mg "range" = none) (ha : SA G X Wx [a] fr) (hs : starEach [a] X.env = [(false, eval a X.env)]) : SI G X Wx tg (.Call (.Name "range" p) [a] [] pos) (evR1 fr) := by
  obtain ⟨t, pa, qa⟩ := ha
  refine ⟨_, pi_range1 hg hm pa hs, fun σ H W μ δ R hr rs h => ?_⟩
  refine qa σ H W μ δ _ hr rs (Post.bind h fun ds μ1 vs W1 H1 _ x1 hr1 r1 h1 => ?_)
  split at h1
  · rename_i j _
    split at h1
    · rename_i hj
      unfold rOk at hj
      have hj := of_decide_eq_true hj
      obtain ⟨v, rfl, rv⟩ := rds1 r1
      exact ⟨j, by rw [show v = .int j from rv], hj.1, hj.2, h1 _ W1 H1 .refl hr1 (yields_rng 0 j.toNat)⟩
    · exact h1.elim
  · exact h1.elim
theorem si_r2 {p : Pos} {fr : Sg → Mem → Out (List D)} (hg : Gl X "range") (hm : X.mg "range" = none) (ha : SA G X Wx [a, b] fr) (hs : starEach [a, b] X.env = [(false, eval a X.env), (false, eval b X.env)]) (hs2 : starEach [b] X.env = [(false, eval b X.env)]) :
    SI G X Wx tg (.Call (.Name "range" p) [a, b] [] pos) (evR2 fr) := by
  obtain ⟨t, pa, qa⟩ := ha
  refine ⟨_, pi_range2 hg hm pa hs hs2, fun σ H W μ δ R hr rs h => ?_⟩
  refine qa σ H W μ δ _ hr rs (Post.bind h fun ds μ1 vs W1 H1 _ x1 hr1 r1 h1 => ?_)
  split at h1
  · rename_i i j _
    split at h1
    · rename_i hj
      rw [Bool.and_eq_true] at hj
      obtain ⟨h3, h4⟩ := hj
      unfold rOk at h3 h4
      have h3 := of_decide_eq_true h3
      have h4 := of_decide_eq_true h4
      obtain ⟨v, w, rfl, rv, rw'⟩ := rds2 r1
      exact ⟨i, j, by rw [show v = .int i from rv, show w = .int j from rw'], ⟨h3.1, h3.2, h4.1, h4.2⟩, h1 _ W1 H1 .refl hr1 (yields_rng i (j - i).toNat)⟩
    · exact h1.elim
  · exact h1.elim
/-! zip of two lists, of two tuples -/
def zipD : List D → List D → List D
  | a :: as, b :: bs => .tup [a, b] :: zipD as bs
  | _, _ => []
theorem zipD_get : ∀ (as bs : List D) (i : Nat) (d : D), (zipD as bs)[i]? = some d → ∃ a b, as[i]? = some a ∧ bs[i]? = some b ∧ d = .tup [a, b]
  | [], bs, i, d, h => by simp [zipD] at h
  | a :: as, [], i, d, h => by simp [zipD] at h
  | a :: as, b :: bs, 0, d, h => by simp [zipD] at h; exact ⟨a, b, rfl, rfl, h.symm⟩
  | a :: as, b :: bs, i + 1, d, h => by
    obtain ⟨x, y, h1, h2, h3⟩ := zipD_get as bs i d (by simpa [zipD] using h)
    exact ⟨x, y, by simpa using h1, by simpa using h2, h3⟩
theorem zipD_len : ∀ (as bs : List D), (zipD as bs).length = min as.length bs.length
  | [], bs => by simp [zipD]
  | a :: as, [] => by simp [zipD]
  | a :: as, b :: bs => by simp [zipD, zipD_len as bs]
theorem yields_zipT {W : Wo} {μ : Mem} {H : Hp} (hr : HR G.fa W μ H) {K : PySem.W.Frag} {p q : Addr} {vs ws : List V} {ds es : List D} (h1 : H p = some (.tup vs)) (h2 : H q = some (.tup ws)) (r1 : RDs G.fa W μ.length H ds vs) (r2 : RDs G.fa W μ.length H es ws) :
    Yields G W μ.length H (RZ.ItzT K p q) ⟨zipD ds es, []⟩ := by
  intro W' μ' H' x hr' _ i
  have k1 := x.keep p _ h1 (hr.ne_of h1 fun z => z)
  have k2 := x.keep q _ h2 (hr.ne_of h2 fun z => z)
  have m1 := RDs.mono hr x ds vs r1
  have m2 := RDs.mono hr x es ws r2
  refine ⟨fun d e => ?_, fun hi => ⟨vs, ws, SqT.of k1, SqT.of k2, ?_⟩⟩
  · obtain ⟨a, b, e1, e2, rfl⟩ := zipD_get _ _ _ _ e
    obtain ⟨v, f1, g1⟩ := m1.get e1
    obtain ⟨w, f2, g2⟩ := m2.get e2
    refine ⟨⟨vs, ws, v, w, SqT.of k1, SqT.of k2, f1, f2⟩, fun y H'' hy => ?_⟩
    obtain ⟨T, x', y', ey, hT, eH, hx, hy'⟩ := hy
    have e3 := hx vs (SqT.of k1)
    have e4 := hy' ws (SqT.of k2)
    rw [f1] at e3; cases e3
    rw [f2] at e4; cases e4
    subst eH ey
    exact ⟨ext_upd hr' hT _, hr_upd hr' hT _, new_tup hr' (rds_two g1 g2) hT⟩
  · show vs.length ≤ i ∨ ws.length ≤ i
    rw [show (⟨zipD ds es, []⟩ : Src).items = zipD ds es from rfl, zipD_len] at hi
    rw [r1.length, r2.length]; omega
theorem yields_zipL {W : Wo} {μ : Mem} {H : Hp} (hr : HR G.fa W μ H) {K : PySem.W.Frag} {p q : Addr} {vs ws : List V} {ds es : List D} (h1 : Rd H p (.lst vs)) (hF1 : ¬ W.F p) (h2 : Rd H q (.lst ws)) (hF2 : ¬ W.F q) (r1 : RDs G.fa W μ.length H ds vs) (r2 : RDs G.fa W μ.length H es ws) :
    Yields G W μ.length H (Itz K p q) ⟨zipD ds es, []⟩ := by
  intro W' μ' H' x hr' _ i
  have k1 := x.rd h1 (hr.ne_F hF1)
  have k2 := x.rd h2 (hr.ne_F hF2)
  have m1 := RDs.mono hr x ds vs r1
  have m2 := RDs.mono hr x es ws r2
  refine ⟨fun d e => ?_, fun hi => ⟨vs, ws, .inl k1, .inl k2, ?_⟩⟩
  · obtain ⟨a, b, e1, e2, rfl⟩ := zipD_get _ _ _ _ e
    obtain ⟨v, f1, g1⟩ := m1.get e1
    obtain ⟨w, f2, g2⟩ := m2.get e2
    refine ⟨⟨vs, ws, v, w, .inl k1, .inl k2, f1, f2⟩, fun y H'' hy => ?_⟩
    obtain ⟨T, x', y', ey, hT, eH, hx, hy'⟩ := hy
    have e3 := hx vs (.inl k1)
    have e4 := hy' ws (.inl k2)
    rw [f1] at e3; cases e3
    rw [f2] at e4; cases e4
    subst eH ey
    exact ⟨ext_upd hr' hT _, hr_upd hr' hT _, new_tup hr' (rds_two g1 g2) hT⟩
  · show vs.length ≤ i ∨ ws.length ≤ i
    rw [show (⟨zipD ds es, []⟩ : Src).items = zipD ds es from rfl, zipD_len] at hi
    rw [r1.length, r2.length]; omega
def evZip (fr : Sg → Mem → Out (List D)) : Sg → Mem → Out Src := fun δ μ => (fr δ μ).bind fun ds μ1 => match ds with
  | [.tup as, .tup bs] => .ok ⟨zipD as bs, []⟩ μ1
  | [.lst as, .lst bs] => .ok ⟨zipD as bs, []⟩ μ1
  | _ => .bad
theorem si_zip {p tpos : Pos} {elts : List Expr} {kk : Nat} {fr : Sg → Mem → Out (List D)} (hg : Gl X "zip") (hm : X.mg "zip" = none) (ha : SA G X Wx [a, b] fr) (hs : starEach [a, b] X.env = (false, eval a X.env) :: starEach [b] X.env) (hpl : (backTo pos (starEach [b] X.env)).any (·.1) = false) :
    SI G X Wx (.Tuple elts kk tpos) (.Call (.Name "zip" p) [a, b] [] pos) (evZip fr) := by
  obtain ⟨t, pa, qa⟩ := ha
  refine ⟨_, RZ.pi_zipA hg hm pa hs hpl, fun σ H W μ δ R hr rs h => ?_⟩
  refine qa σ H W μ δ _ hr rs (Post.bind h fun ds μ1 vs W1 H1 _ x1 hr1 r1 h1 => ?_)
  split at h1
  · obtain ⟨v, w, rfl, rv, rw'⟩ := rds2 r1
    obtain ⟨p1, xs, rfl, h2, r2⟩ := rv
    obtain ⟨p2, ys, rfl, h3, r3⟩ := rw'
    exact ⟨p1, p2, xs, ys, rfl, .inr ⟨SqT.of h2, SqT.of h3, h1 _ W1 H1 .refl hr1 (yields_zipT hr1 h2 h3 r2 r3)⟩⟩
  · obtain ⟨v, w, rfl, rv, rw'⟩ := rds2 r1
    obtain ⟨p1, xs, rfl, h2, f2, r2⟩ := rv
    obtain ⟨p2, ys, rfl, h3, f3, r3⟩ := rw'
    exact ⟨p1, p2, xs, ys, rfl, .inl ⟨.inl h2, .inl h3, h1 _ W1 H1 .refl hr1 (yields_zipL hr1 h2 f2 h3 f3 r2 r3)⟩⟩
  · exact h1.elim
end
end M
namespace M
open PySem PySem.Spec PyProof.Rows L2

/-! ### canonical readings -/
def tSem (G : GA) (Wx : WX) (f : Sg → Mem → Out D) : TE := fun σ H Q => ∃ W μ δ, HR G.fa W μ H ∧ RS G W μ.length H δ σ ∧ Post G (RD G.fa) W μ H Q (XQ G Wx σ) (f δ μ)
def bSem (G : GA) (Wx : WX) (f : Sg → Mem → Out Bool) : TT := fun σ H Q => ∃ W μ δ, HR G.fa W μ H ∧ RS G W μ.length H δ σ ∧ Post G RB W μ H Q (XQ G Wx σ) (f δ μ)
section
variable {G : GA} {X : Cx} {Wx : WX} {e : Expr}
theorem SE.pe {f : Sg → Mem → Out D} (h : SE G X Wx e f) : PE X e (tSem G Wx f) := by
  obtain ⟨t, p, q⟩ := h
  exact ⟨fun pins s σ H Q I ⟨W, μ, δ, hr, rs, hp⟩ => p.run pins s σ H Q I (q σ H W μ δ Q hr rs hp)⟩
theorem STt.pt {f : Sg → Mem → Out Bool} (h : STt G X Wx e f) : PT X e (bSem G Wx f) := by
  obtain ⟨t, p, q⟩ := h
  exact ⟨fun pins s σ H Q I ⟨W, μ, δ, hr, rs, hp⟩ => p.run pins s σ H Q I (q σ H W μ δ Q hr rs hp)⟩
end
def Wx0 : WX := fun _ _ _ _ => False

/-! ### targets -/
inductive Tg where
  | name (i : Nat) | tup (ts : List Tg)
mutual
def asgT : Tg → D → Sg → Option Sg
  | .name i, d, δ => some (δ.set i (some d))
  | .tup ts, d, δ => match d with
    | .tup ds => asgTs ts ds δ
    | _ => none
def asgTs : List Tg → List D → Sg → Option Sg
  | [], ds, δ => match ds with
    | [] => some δ
    | _ => none
  | t :: ts, ds, δ => match ds with
    | d :: ds => match asgT t d δ with
      | some δ' => asgTs ts ds δ'
      | none => none
    | [] => none
end
mutual
def slotsT : Tg → List Nat
  | .name i => [i]
  | .tup ts => slotsTs ts
def slotsTs : List Tg → List Nat
  | [] => []
  | t :: ts => slotsT t ++ slotsTs ts
end
def SameBut (ts : List Nat) (σ σ' : L2.St) : Prop := σ'.length = σ.length ∧ ∀ i, i ∉ ts → σ'[i]? = σ[i]?
def gSem (G : GA) (ts : List Nat) (g : D → Sg → Option Sg) : TG := fun v σ H Q => ∃ W μ δ d δ', HR G.fa W μ H ∧ RD G.fa W μ.length H d v ∧ RS G W μ.length H δ σ ∧ g d δ = some δ' ∧ ∀ σ', RS G W μ.length H δ' σ' → SameBut ts σ σ' → Q σ' H
def gSems (G : GA) (ts : List Nat) (g : List D → Sg → Option Sg) : TGs := fun vs σ H Q => ∃ W μ δ ds δ', HR G.fa W μ H ∧ RDs G.fa W μ.length H ds vs ∧ RS G W μ.length H δ σ ∧ g ds δ = some δ' ∧ ∀ σ', RS G W μ.length H δ' σ' → SameBut ts σ σ' → Q σ' H
def SG (G : GA) (X : Cx) (tg : Expr) (t : Tg) : Prop := PG X tg (gSem G (slotsT t) (asgT t))
def SGs (G : GA) (X : Cx) (tg : List Expr) (ts : List Tg) : Prop := PGs X tg (gSems G (slotsTs ts) (asgTs ts))
section
variable {G : GA} {X : Cx} {pos : Pos}
theorem PG.imp {tg : Expr} {t t' : TG} (h : PG X tg t) (i : ∀ v σ H Q, t' v σ H Q → t v σ H Q) : PG X tg t' := ⟨fun pins s σ H v u Q I r q => h.run pins s σ H v u Q I r (i _ _ _ _ q)⟩
theorem PGs.imp {tg : List Expr} {t t' : TGs} (h : PGs X tg t) (i : ∀ v σ H Q, t' v σ H Q → t v σ H Q) : PGs X tg t' := ⟨fun pins s σ H v u Q I r q => h.run pins s σ H v u Q I r (i _ _ _ _ q)⟩
theorem sg_name {i : Nat} {x : Str} (hN : X.N.Nodup) (hi : X.N[i]? = some x) (hx : Loc X.env.scope x) (hf : X.fn x = true ∨ X.env.scope.names.lookup x = some .local) : SG G X (.Name x pos) (.name i) := by
  refine PG.imp (pg_name hN hi hx hf) fun v σ H Q h => ?_
  obtain ⟨W, μ, δ, d, δ', hr, r, rs, e, q⟩ := h
  cases e
  refine q _ (rs.set r i) ⟨by simp, fun j hj => ?_⟩
  have : i ≠ j := fun z => hj (by simp [slotsT, z])
  rw [List.getElem?_set_ne this]
theorem sgs_nil : SGs G X [] [] := by
  refine PGs.imp pgs_nil fun v σ H Q h => ?_
  obtain ⟨W, μ, δ, ds, δ', hr, r, rs, e, q⟩ := h
  cases ds with
  | nil => cases e; exact ⟨r, q σ rs ⟨rfl, fun _ _ => rfl⟩⟩
  | cons _ _ => cases e
theorem sgs_cons {e : Expr} {es : List Expr} {t : Tg} {ts : List Tg} (h1 : SG G X e t) (h2 : SGs G X es ts) (hs : (assignEach (e :: es) X.env).map (·.2) = assign e X.env :: (assignEach es X.env).map (·.2)) : SGs G X (e :: es) (t :: ts) := by
  refine PGs.imp (pgs_cons h1 h2 hs) fun v σ H Q h => ?_
  obtain ⟨W, μ, δ, ds, δ', hr, r, rs, e, q⟩ := h
  cases ds with
  | nil => cases e
  | cons d ds =>
    obtain ⟨w, ws, ev, r1, r2⟩ := r
    unfold asgTs at e
    cases e1 : asgT t d δ with
    | none => simp [e1] at e
    | some δ1 =>
      simp only [e1] at e
      refine ⟨w, ws, ev, W, μ, δ, d, δ1, hr, r1, rs, e1, fun σ1 rs1 sb1 => ⟨W, μ, δ1, ds, δ', hr, r2, rs1, e, fun σ2 rs2 sb2 => q σ2 rs2 ⟨sb2.1.trans sb1.1, fun i hi => ?_⟩⟩⟩
      rw [slotsTs, List.mem_append, not_or] at hi
      rw [sb2.2 i hi.2, sb1.2 i hi.1]
theorem sg_tup {es : List Expr} {k : Nat} {ts : List Tg} (hc : X.calm = true) (h : SGs G X es ts) (hl : ts.length = es.length) (hn : (assignEach es X.env).length = es.length) (hst : (assignEach es X.env).findIdx? (·.1) = none) : SG G X (.Tuple es k pos) (.tup ts) := by
  refine PG.imp (pg_tup (n := es.length) hc h hn hst) fun v σ H Q h => ?_
  obtain ⟨W, μ, δ, d, δ', hr, r, rs, e, q⟩ := h
  cases d with
  | tup ds =>
    obtain ⟨p, vs, e1, h1, r1⟩ := r
    refine ⟨p, vs, e1, SqT.of h1, ?_, W, μ, δ, ds, δ', hr, r1, rs, e, q⟩
    rw [r1.length, ← hl]
    have : ∀ (ts : List Tg) (ds : List D) (δ δ' : Sg), asgTs ts ds δ = some δ' → ds.length = ts.length := by
      intro ts
      induction ts with
      | nil => intro ds δ δ' e; cases ds with
        | nil => rfl
        | cons _ _ => cases e
      | cons t ts ih =>
        intro ds δ δ' e
        cases ds with
        | nil => cases e
        | cons d ds =>
          unfold asgTs at e
          cases e1 : asgT t d δ with
          | none => simp [e1] at e
          | some δ1 => simp only [e1] at e; rw [List.length_cons, List.length_cons, ih ds δ1 δ' e]
    exact this ts ds δ δ' e
  | _ => cases e
end

/-! ### comprehensions -/
def wipeD (δ : Sg) : List Nat → Sg
  | [] => δ
  | v :: vs => (wipeD δ vs).set v none
theorem RS.wipes {G : GA} {W : Wo} {N : Nat} {H : Hp} {δ : Sg} {σ : L2.St} (h : RS G W N H δ σ) : ∀ vs, RS G W N H (wipeD δ vs) (L2.wipe σ vs)
  | [] => h
  | v :: vs => (RS.wipes h vs).wipe v
theorem wipe_ix (σ : L2.St) : ∀ (vs : List Nat) (i : Nat), (L2.wipe σ vs)[i]? = if i ∈ vs then (if i < σ.length then some none else none) else σ[i]?
  | [], i => by simp [L2.wipe]
  | v :: vs, i => by
    show ((L2.wipe σ vs).set v none)[i]? = _
    by_cases h : v = i
    · subst h
      rw [if_pos (List.mem_cons_self ..)]
      by_cases hl : v < σ.length
      · rw [List.getElem?_set_self (by rw [wipe_length]; exact hl), if_pos hl]
      · rw [if_neg hl, List.getElem?_eq_none (by simpa [wipe_length] using Nat.le_of_not_lt hl)]
    · rw [List.getElem?_set_ne h, wipe_ix σ vs i]
      have : (i ∈ v :: vs) ↔ i ∈ vs := by simp [Ne.symm h]
      by_cases hi : i ∈ vs
      · rw [if_pos hi, if_pos (this.mpr hi)]
      · rw [if_neg hi, if_neg (fun z => hi (this.mp z))]
theorem wipe_same {σ σ' : L2.St} {ts vs : List Nat} (h : SameBut ts (L2.wipe σ vs) σ') (hs : ∀ i ∈ ts, i ∈ vs) : L2.wipe σ' vs = L2.wipe σ vs := by
  refine List.ext_getElem? fun i => ?_
  rw [wipe_ix, wipe_ix]
  have hl : σ'.length = σ.length := by rw [h.1, wipe_length]
  by_cases hi : i ∈ vs
  · rw [if_pos hi, if_pos hi, hl]
  · rw [if_neg hi, if_neg hi, h.2 i fun z => hi (hs i z), wipe_ix, if_neg hi]
def Out.noX {α : Type} : Out α → Out α
  | .exc _ _ => .bad
  | o => o
@[simp] theorem Out.noX_ok {α : Type} {a : α} {μ : Mem} : (Out.ok a μ).noX = .ok a μ := rfl
def lcLoop (gd : List (Nat × List D)) (g : D → Sg → Option Sg) (ft : Sg → Mem → Out Bool) (fe : Sg → Mem → Out D) (δ : Sg) : List D → List D → Mem → Out (List D)
  | [], acc, μ => if gOk μ gd then .ok acc μ else .bad
  | d :: r, acc, μ => if gOk μ gd then
      match g d δ with
      | some δ1 => (ft δ1 μ).noX.bind fun b μ1 => if b then (fe δ1 μ1).noX.bind fun y μ2 => if acc.length < 16777216 then lcLoop gd g ft fe δ r (acc ++ [y]) μ2 else .bad else lcLoop gd g ft fe δ r acc μ1
      | none => .bad
    else .bad
/-- a thing just made: a value, or an object of its own -/
def finC (mu : Bool) (c : Cell) (μ : Mem) : Out D := if mu then .ok (.obj μ.length) (μ ++ [c]) else match c with
  | .lst ds => .ok (.lst ds) μ
  | .dct tk ks us => .ok (.dct tk ks us) μ
def evLc (mu : Bool) (src : Sg → Mem → Out Src) (t : Tg) (ft : Sg → Mem → Out Bool) (fe : Sg → Mem → Out D) (own : List Nat) : Sg → Mem → Out D := fun δ μ =>
  (src δ μ).bind fun s μ1 => (lcLoop s.gd (asgT t) ft fe (wipeD δ own) s.items [] μ1).bind fun acc μ2 => finC mu (.lst acc) μ2
theorem Ext.updD {W W' : Wo} {n n' : Nat} {H H' : Hp} {p : Addr} {o : HO} (x : Ext W n H W' n' H') (hp : H p = none) : Ext W n H W' n' (upd H' p o) :=
  ⟨x.le, x.phi, x.sub, x.new, x.fresh, fun q h => upd_dom q (x.dom q h), fun q u h hn => by rw [upd_ne (fun z => by rw [z, hp] at h; cases h)]; exact x.keep q u h hn⟩
/-- where a thing is made at Dd from the state (W1, μ1, H1): how far it is -/
structure Making (G : GA) (W1 : Wo) (μ1 : Mem) (H1 : Hp) (Dd : Addr) (W : Wo) (μ : Mem) (H : Hp) (c : Cell) : Prop where
  hr : HR G.fa W μ H
  ext : Ext W1 μ1.length H1 W μ.length H
  F : W.F Dd
  no : ∀ l, l < μ.length → W.φ l ≠ Dd
  ok : CellOk G.fa W μ.length H Dd c
theorem CellOk.some {fa : Nat → Option Addr} {W : Wo} {N : Nat} {H : Hp} {p : Addr} {c : Cell} (h : CellOk fa W N H p c) : ∃ o, H p = some o := by
  cases c with
  | lst ds => obtain ⟨vs, e, _⟩ := h; exact ⟨_, e⟩
  | dct tk ks us => obtain ⟨vs, e, _⟩ := h; exact e.some
theorem CellOk.noTup {fa : Nat → Option Addr} {W : Wo} {N : Nat} {H : Hp} {p : Addr} {c : Cell} (h : CellOk fa W N H p c) : ∀ xs, H p ≠ Option.some (.tup xs) := fun xs e => by
  have := h.mutb
  rw [e] at this; exact this
theorem Making.step {G : GA} {W1 : Wo} {μ1 : Mem} {H1 : Hp} {Dd : Addr} {W : Wo} {μ : Mem} {H : Hp} {c : Cell} (m : Making G W1 μ1 H1 Dd W μ H c) {W' : Wo} {μ' : Mem} {H' : Hp} (x : Ext W μ.length H W' μ'.length H') (hr' : HR G.fa W' μ' H') : Making G W1 μ1 H1 Dd W' μ' H' c := by
  refine ⟨hr', m.ext.trans x, x.sub _ m.F, fun l hl e => ?_, ?_⟩
  · by_cases h : l < μ.length
    · exact m.no l h ((x.phi l h).symm.trans e)
    · have := x.fresh l (Nat.le_of_not_lt h) hl
      obtain ⟨o, eo⟩ := m.ok.some
      rw [e, eo] at this; cases this
  · have ok := m.ok
    cases c with
    | lst ds => obtain ⟨vs, e, r⟩ := ok; exact ⟨vs, x.keep _ _ e m.no, RDs.mono m.hr x ds vs r⟩
    | dct tk ks us => obtain ⟨vs, e, r⟩ := ok; exact ⟨vs, e.rd fun u z => x.keep _ _ z m.no, RDs.mono m.hr x us vs r⟩
theorem Making.upd_to {G : GA} {W1 : Wo} {μ1 : Mem} {H1 : Hp} {Dd : Addr} {W : Wo} {μ : Mem} {H : Hp} {c c' : Cell} (m : Making G W1 μ1 H1 Dd W μ H c) (h0 : H1 Dd = none) {o : HO} (ok : CellOk G.fa W μ.length (upd H Dd o) Dd c') : Making G W1 μ1 H1 Dd W μ (upd H Dd o) c' :=
  ⟨hr_step m.hr m.F m.ok.noTup m.no, m.ext.updD h0, m.F, m.no, ok⟩
theorem Making.push {G : GA} {W1 : Wo} {μ1 : Mem} {H1 : Hp} {Dd : Addr} {W : Wo} {μ : Mem} {H : Hp} {acc : List D} (m : Making G W1 μ1 H1 Dd W μ H (.lst acc)) (h0 : H1 Dd = none) {y : D} {v : V} (ry : RD G.fa W μ.length H y v) :
    ∃ vs, H Dd = some (.lst vs) ∧ vs.length = acc.length ∧ Making G W1 μ1 H1 Dd W μ (upd H Dd (.lst (vs ++ [v]))) (.lst (acc ++ [y])) := by
  obtain ⟨vs, e, r⟩ := id m.ok
  exact ⟨vs, e, r.length, m.upd_to h0 ⟨_, upd_same, (RDs.updF m.F m.ok.noTup acc vs r).append (RDs.one (RD.updF m.F m.ok.noTup y v ry))⟩⟩
theorem Making.start {G : GA} {W1 : Wo} {μ1 : Mem} {H1 : Hp} {Dd : Addr} (hr : HR G.fa W1 μ1 H1) (h0 : H1 Dd = none) {o : HO} {c : Cell} (ok : CellOk G.fa (Wo.wF W1 Dd) μ1.length (upd H1 Dd o) Dd c) : Making G W1 μ1 H1 Dd (Wo.wF W1 Dd) μ1 (upd H1 Dd o) c :=
  ⟨hr_wF hr h0 _, ext_wF hr h0 _, .inr rfl, fun l hl e => by
    have := hr.mutb hl
    have e' : W1.φ l = Dd := e
    rw [e', h0] at this; exact this, ok⟩
section
variable {fa : Nat → Option Addr} {W : Wo} {N : Nat} {H : Hp} {p : Addr}
mutual
theorem RD.adW (hF : W.F p) : ∀ (d : D) (v : V), RD fa W N H d v → RD fa (addW W N p) (N + 1) H d v
  | .non, v, h => h
  | .bl _, v, h => h
  | .int _, v, h => h
  | .str _, v, h => h
  | .tup ds, v, h => by obtain ⟨q, vs, e, h1, h2⟩ := h; exact ⟨q, vs, e, h1, RDs.adW hF ds vs h2⟩
  | .lst ds, v, h => by
    obtain ⟨q, vs, e, h1, h2, h3⟩ := h
    exact ⟨q, vs, e, h1, fun z => by
      rcases z with z | z
      · exact h2 z
      · exact h2 (z ▸ hF), RDs.adW hF ds vs h3⟩
  | .dct tk ks us, v, h => by
    obtain ⟨q, vs, e, h1, h2, h3⟩ := h
    exact ⟨q, vs, e, h1, fun z => by
      rcases z with z | z
      · exact h2 z
      · exact h2 (z ▸ hF), RDs.adW hF us vs h3⟩
  | .obj l, v, h => ⟨Nat.lt_succ_of_lt h.1, by
    show v = .ref (if l = N then p else W.φ l)
    rw [if_neg (Nat.ne_of_lt h.1)]; exact h.2⟩
  | .fn i, v, h => h
theorem RDs.adW (hF : W.F p) : ∀ (ds : List D) (vs : List V), RDs fa W N H ds vs → RDs fa (addW W N p) (N + 1) H ds vs
  | [], vs, h => h
  | d :: ds, vs, h => by obtain ⟨v, ws, e, h1, h2⟩ := h; exact ⟨v, ws, e, RD.adW hF d v h1, RDs.adW hF ds ws h2⟩
end
theorem CellOk.adW (hF : W.F p) {q : Addr} {c : Cell} (h : CellOk fa W N H q c) : CellOk fa (addW W N p) (N + 1) H q c := by
  cases c with
  | lst ds => obtain ⟨vs, e, r⟩ := h; exact ⟨vs, e, RDs.adW hF ds vs r⟩
  | dct tk ks us => obtain ⟨vs, e, r⟩ := h; exact ⟨vs, e, RDs.adW hF us vs r⟩
end
theorem Making.done {G : GA} {W1 : Wo} {μ1 : Mem} {H1 : Hp} {Dd : Addr} {W : Wo} {μ : Mem} {H : Hp} {c : Cell} {mu : Bool} {Q : VK} {Y : XW} (m : Making G W1 μ1 H1 Dd W μ H c) (hr : HR G.fa W1 μ1 H1) (h0 : H1 Dd = none)
    (h : Post G (RD G.fa) W1 μ1 H1 Q Y (finC mu c μ)) : Q (.ref Dd) H := by
  unfold finC at h
  cases mu with
  | true =>
    rw [if_pos rfl] at h
    refine h (.ref Dd) (addW W μ.length Dd) H ⟨?_, fun l hl => ?_, fun p hp => .inl (m.ext.sub p hp), fun p hp => ?_, fun l h1 h2 => ?_, m.ext.dom, m.ext.keep⟩ ⟨fun l c' e => ?_, fun i j hi hj e => ?_, fun l hl => ?_, fun q hq => ?_⟩ rd_add
    · rw [List.length_append]; exact Nat.le_trans m.ext.le (Nat.le_add_right _ _)
    · show (if l = μ.length then Dd else W.φ l) = W1.φ l
      have := m.ext.le
      rw [if_neg (by omega)]; exact m.ext.phi l hl
    · rcases hp with hp | hp
      · exact m.ext.new p hp
      · exact .inr (by rw [hp]; exact h0)
    · show H1 (if l = μ.length then Dd else W.φ l) = none
      by_cases hl : l = μ.length
      · rw [if_pos hl]; exact h0
      · rw [if_neg hl]; simp at h2; exact m.ext.fresh l h1 (by omega)
    · show CellOk G.fa (addW W μ.length Dd) (μ ++ [c]).length H (if l = μ.length then Dd else W.φ l) c'
      rw [List.length_append]
      by_cases hl : l = μ.length
      · subst hl
        rw [List.getElem?_append_right (Nat.le_refl _)] at e
        simp at e; subst e
        rw [if_pos rfl]; exact m.ok.adW m.F
      · have hlt : l < μ.length := by
          have := (List.getElem?_eq_some_iff.mp e).1
          simp at this; omega
        rw [List.getElem?_append_left hlt] at e
        rw [if_neg hl]; exact (m.hr.cells l c' e).adW m.F
    · have e : (if i = μ.length then Dd else W.φ i) = if j = μ.length then Dd else W.φ j := e
      simp at hi hj
      by_cases h1 : i = μ.length
      · by_cases h2 : j = μ.length
        · omega
        · rw [if_pos h1, if_neg h2] at e
          exact absurd e.symm (m.no j (by omega))
      · by_cases h2 : j = μ.length
        · rw [if_neg h1, if_pos h2] at e
          exact absurd e (m.no i (by omega))
        · rw [if_neg h1, if_neg h2] at e
          exact m.hr.inj i j (by omega) (by omega) e
    · show W.F (if l = μ.length then Dd else W.φ l) ∨ (if l = μ.length then Dd else W.φ l) = Dd
      by_cases h1 : l = μ.length
      · rw [if_pos h1]; exact .inr rfl
      · rw [if_neg h1]; simp at hl; exact .inl (m.hr.own l (by omega))
    · rcases hq with hq | hq
      · exact m.hr.trk q hq
      · obtain ⟨o, e⟩ := m.ok.some
        rw [hq, e]; simp
  | false =>
    rw [if_neg Bool.false_ne_true] at h
    have ex : Ext W1 μ1.length H1 (Wo.nF W Dd) μ.length H := ⟨m.ext.le, m.ext.phi, fun p h => ⟨m.ext.sub p h, fun z => hr.trk p h (z ▸ h0)⟩, fun p h => m.ext.new p h.1, m.ext.fresh, m.ext.dom, m.ext.keep⟩
    have ok := m.ok
    cases c with
    | lst ds =>
      obtain ⟨vs, e, r⟩ := ok
      exact h (.ref Dd) _ H ex (hr_nF m.hr m.no) ⟨Dd, vs, rfl, .inl e, fun z => z.2 rfl, RDs.nF ds vs r⟩
    | dct tk ks us =>
      obtain ⟨vs, e, r⟩ := ok
      exact h (.ref Dd) _ H ex (hr_nF m.hr m.no) ⟨Dd, vs, rfl, e, fun z => z.2 rfl, RDs.nF us vs r⟩
section
variable {G : GA} {X : Cx} {Wx : WX} {pos : Pos}
theorem post_noX {α β : Type} {R : Wo → Nat → Hp → α → β → Prop} {α' β' : Type} {R' : Wo → Nat → Hp → α' → β' → Prop} {W W1 : Wo} {μ μ1 : Mem} {H H1 : Hp} {Q : β → Hp → Prop} {Q' : β' → Hp → Prop} {Y Y' : XW} {o : Out α} {k : α → Mem → Out α'}
    (h : Post G R' W1 μ1 H1 Q' Y' (o.noX.bind k))
    (f : ∀ a μ2 b W2 H2, Ext W μ.length H W2 μ2.length H2 → HR G.fa W2 μ2 H2 → R W2 μ2.length H2 a b → Post G R' W1 μ1 H1 Q' Y' (k a μ2) → Q b H2) : Post G R W μ H Q Y o := by
  cases o with
  | ok a μ2 => exact fun b W2 H2 x hr r => f a μ2 b W2 H2 x hr r h
  | exc x μ2 => exact h.elim
  | bad => exact h.elim
theorem lc_tests {e : Expr} {ft : Sg → Mem → Out Bool} (h : STt G X Wx e ft) : PTs X [e] (bSem G Wx ft) := pts_one h.pt
def evYes : Sg → Mem → Out Bool := fun _ μ => .ok true μ
theorem lc_notests : PTs X [] (bSem G Wx evYes) := by
  have p := pts_nil (X := X)
  exact ⟨fun pins s σ H Q I ⟨W, μ, δ, hr, rs, hp⟩ => p.run pins s σ H Q I (hp true W H .refl hr rfl)⟩
/-- the reading of a list comprehension -/
theorem lc_of {mu : Bool} {wi : TI} {t : Tg} {ft : Sg → Mem → Out Bool} {fe : Sg → Mem → Out D} {src : Sg → Mem → Out Src} {vs : List Nat} (hsub : ∀ i ∈ slotsT t, i ∈ vs)
    (qi : ∀ σ H W μ δ (R : It → Hp → Prop), HR G.fa W μ H → RS G W μ.length H δ σ → Post G (fun W' n' H' s J => Yields G W' n' H' J s) W μ H R (XQ G Wx σ) (src δ μ) → wi σ H R)
    {σ : L2.St} {H : Hp} {W : Wo} {μ : Mem} {δ : Sg} {Q : VK} (hr : HR G.fa W μ H) (rs : RS G W μ.length H δ σ) (h : Post G (RD G.fa) W μ H Q (XQ G Wx σ) (evLc mu src t ft fe vs δ μ)) :
    tLc wi (gSem G (slotsT t) (asgT t)) (bSem G Wx0 ft) (tSem G Wx0 fe) vs σ H Q := by
  refine qi σ H W μ δ _ hr rs (Post.bind h fun s μ1 J W1 H1 _ x1 hr1 yl h1 => ?_)
  intro Dd h0
  have rs1 := rs.mono hr x1
  refine ⟨fun i m H' => m = s.items.length - i ∧ i ≤ s.items.length ∧ ∃ W' μ' acc, Making G W1 μ1 H1 Dd W' μ' H' (.lst acc) ∧
      Post G (RD G.fa) W1 μ1 H1 Q (XQ G Wx σ) ((lcLoop s.gd (asgT t) ft fe (wipeD δ vs) (s.items.drop i) acc μ').bind fun acc μ2 => finC mu (.lst acc) μ2),
    ⟨_, rfl, Nat.zero_le _, _, μ1, [], Making.start hr1 h0 ⟨[], upd_same, rfl⟩, by simpa using h1⟩, ?_⟩
  rintro i m H2 ⟨rfl, hi, W2, μ2, acc, mk, hp⟩
  have gk : gOk μ2 s.gd = true := by
    cases q : s.items.drop i with
    | nil =>
      rw [q] at hp
      unfold lcLoop at hp
      split at hp
      · assumption
      · exact hp.elim
    | cons d r =>
      rw [q] at hp
      unfold lcLoop at hp
      split at hp
      · assumption
      · exact hp.elim
  have yi := yl W2 μ2 H2 mk.ext mk.hr gk i
  by_cases hlt : i < s.items.length
  · have ed : s.items[i]? = some s.items[i] := List.getElem?_eq_getElem hlt
    obtain ⟨go, yld⟩ := yi.1 _ ed
    have edrop : s.items.drop i = s.items[i] :: s.items.drop (i + 1) := List.drop_eq_getElem_cons hlt
    rw [edrop] at hp
    unfold lcLoop at hp
    rw [if_pos gk] at hp
    refine .inr ⟨go, fun H' => i + 1 ≤ s.items.length ∧ ∃ W' μ' acc, Making G W1 μ1 H1 Dd W' μ' H' (.lst acc) ∧
      Post G (RD G.fa) W1 μ1 H1 Q (XQ G Wx σ) ((lcLoop s.gd (asgT t) ft fe (wipeD δ vs) (s.items.drop (i + 1)) acc μ').bind fun acc μ2 => finC mu (.lst acc) μ2),
      fun H' q => ⟨s.items.length - (i + 1), by omega, rfl, q⟩, fun x H3 hy => ?_⟩
    obtain ⟨x3, hr3, rd3⟩ := yld x H3 hy
    have mk3 := mk.step x3 hr3
    cases ea : asgT t s.items[i] (wipeD δ vs) with
    | none => simp only [ea] at hp; exact hp.elim
    | some δ1 =>
      simp only [ea] at hp
      refine ⟨W2, μ2, wipeD δ vs, s.items[i], δ1, hr3, rd3, (rs1.mono hr1 mk3.ext).wipes vs, ea, fun σ2 rs2 sb => ⟨wipe_same sb hsub, W2, μ2, δ1, hr3, rs2, ?_⟩⟩
      have hp' : Post G (RD G.fa) W1 μ1 H1 Q (XQ G Wx σ) ((ft δ1 μ2).noX.bind fun b μ3 => ((if b then (fe δ1 μ3).noX.bind fun y μ4 => if acc.length < 16777216 then lcLoop s.gd (asgT t) ft fe (wipeD δ vs) (s.items.drop (i + 1)) (acc ++ [y]) μ4 else .bad
          else lcLoop s.gd (asgT t) ft fe (wipeD δ vs) (s.items.drop (i + 1)) acc μ3).bind fun acc μ2 => finC mu (.lst acc) μ2)) := by
        revert hp
        cases ft δ1 μ2 <;> exact fun h => h
      refine post_noX hp' fun b μ4 b' W4 H4 x4 hr4 eb hp4 => ?_
      cases (show b = b' from eb)
      have mk4 := mk3.step x4 hr4
      cases b with
      | false =>
        refine if_false_of Bool.false_ne_true ⟨hlt, W4, μ4, acc, mk4, ?_⟩
        exact hp4
      | true =>
        refine if_true_of rfl ⟨W4, μ4, δ1, hr4, rs2.mono hr3 x4, ?_⟩
        have hp5 : Post G (RD G.fa) W1 μ1 H1 Q (XQ G Wx σ) ((fe δ1 μ4).noX.bind fun y μ5 => ((if acc.length < 16777216 then lcLoop s.gd (asgT t) ft fe (wipeD δ vs) (s.items.drop (i + 1)) (acc ++ [y]) μ5 else .bad).bind fun acc μ2 => finC mu (.lst acc) μ2)) := by
          revert hp4
          rw [if_pos rfl]
          cases fe δ1 μ4 <;> exact fun h => h
        refine post_noX hp5 fun y μ6 v W6 H6 x6 hr6 ry hp6 => ?_
        have mk6 := mk4.step x6 hr6
        obtain ⟨ws, e1, e2, mk7⟩ := mk6.push h0 ry
        split at hp6
        · rename_i hl
          exact ⟨ws, e1, by rw [e2, sizeLine_eq]; exact hl, hlt, W6, μ6, acc ++ [y], mk7, hp6⟩
        · exact hp6.elim
  · have e : i = s.items.length := by omega
    subst e
    refine .inl ⟨yi.2 (Nat.le_refl _), ?_⟩
    rw [List.drop_length] at hp
    unfold lcLoop at hp
    rw [if_pos gk] at hp
    exact mk.done hr1 h0 hp
theorem se_lc {mu : Bool} {elt tg iter : Expr} {ifs : List Expr} {scope : Scope} {own : List (Str × Nat)} {src : Sg → Mem → Out Src} {t : Tg} {ft : Sg → Mem → Out Bool} {fe : Sg → Mem → Out D} (hc : X.calm = true) (hN : X.N.Nodup) (hi : SI G X Wx tg iter src) (ok : BlkOk X.N X.env.scope scope own)
    (hg : ∀ (s : Shared) (H : Hp) (C : Addr) (cl : List (Str × Addr)) (fp : List Addr), SG G (X.blk s H scope (compEnvC scope cl C X.env) fp) tg t)
    (ht : ∀ (s : Shared) (H : Hp) (C : Addr) (cl : List (Str × Addr)) (fp : List Addr), PTs (X.blk s H scope (compEnvC scope cl C X.env) fp) ifs (bSem G Wx0 ft))
    (he : ∀ (s : Shared) (H : Hp) (C : Addr) (cl : List (Str × Addr)) (fp : List Addr), SE G (X.blk s H scope (compEnvC scope cl C X.env) fp) Wx0 elt fe)
    (hs : ∀ x, foldedSetIterable iter X.env x = pure x) (hsub : ∀ i ∈ slotsT t, i ∈ own.map (·.2)) : SE G X Wx (.ListComp elt [⟨tg, iter, ifs, 0⟩] scope pos) (evLc mu src t ft fe (own.map (·.2))) := by
  obtain ⟨wi, pi, qi⟩ := hi
  exact ⟨_, pe_lc hc hN pi ok hg ht (fun s H C cl fp => (he s H C cl fp).pe) hs, fun σ H W μ δ Q hr rs h => lc_of hsub qi hr rs h⟩
end
end M
namespace M
open PySem PySem.Spec PyProof.Rows L2

/-! ### dicts as data -/
def keyOk (tk : Bool) (k : D) : Bool := if tk then (keyT k).isSome else (keyK k).isSome
def dgetD : List D → List D → D → Option D
  | a :: ks, u :: us, k => if beqD a k then some u else dgetD ks us k
  | _, _, _ => none
def dhasD : List D → D → Bool
  | [], _ => false
  | a :: ks, k => beqD a k || dhasD ks k
def dsetD : List D → List D → D → D → List D
  | a :: ks, u :: us, k, v => (if beqD a k then v else u) :: dsetD ks us k v
  | _, _, _, _ => []
def dputD (ks us : List D) (k v : D) : List D × List D := if dhasD ks k then (ks, dsetD ks us k v) else (ks ++ [k], us ++ [v])

theorem keyK_inj {a b : D} {k : Key} (h1 : keyK a = some k) (h2 : keyK b = some k) : a = b := by
  cases a <;> simp [keyK] at h1 <;> cases b <;> simp [keyK] at h2 <;> (subst h1; simp at h2; try rw [h2])
theorem keyKs_inj : ∀ {as bs : List D} {k : List Key}, keyKs as = some k → keyKs bs = some k → as = bs
  | [], bs, k, h1, h2 => by
    cases h1
    cases bs with
    | nil => rfl
    | cons b bs =>
      unfold keyKs at h2
      cases q : keyK b with
      | none => simp [q] at h2
      | some x => cases q2 : keyKs bs <;> simp [q, q2] at h2
  | a :: as, bs, k, h1, h2 => by
    unfold keyKs at h1
    cases q : keyK a with
    | none => simp [q] at h1
    | some x =>
      cases q2 : keyKs as with
      | none => simp [q, q2] at h1
      | some y =>
        simp only [q, q2] at h1
        cases h1
        cases bs with
        | nil => simp [keyKs] at h2
        | cons b bs =>
          unfold keyKs at h2
          cases p : keyK b with
          | none => simp [p] at h2
          | some x' =>
            cases p2 : keyKs bs with
            | none => simp [p, p2] at h2
            | some y' =>
              simp only [p, p2] at h2
              have h3 := Option.some.inj h2
              injection h3 with h3 h4
              subst h3 h4
              rw [keyK_inj q p, keyKs_inj q2 p2]
theorem keyT_inj {a b : D} {k : List Key} (h1 : keyT a = some k) (h2 : keyT b = some k) : a = b := by
  cases a <;> simp [keyT] at h1
  cases b <;> simp [keyT] at h2
  rw [keyKs_inj h1 h2]
theorem beq_key {κ : Type} [DecidableEq κ] {f : D → Option κ} (inj : ∀ {a b : D} {k : κ}, f a = some k → f b = some k → a = b) {a b : D} {k l : κ} (h1 : f a = some k) (h2 : f b = some l) : beqD a b = decide (k = l) := by
  by_cases e : k = l
  · subst e
    rw [inj h1 h2, beqD_refl]; simp
  · rw [decide_eq_false e]
    cases q : beqD a b with
    | false => rfl
    | true =>
      have := beqD_eq q
      subst this
      rw [h1] at h2
      exact absurd (Option.some.inj h2) e
section
variable {fa : Nat → Option Addr} {W : Wo} {N : Nat} {H : Hp} {κ : Type} [DecidableEq κ] {f : D → Option κ}
theorem dget_of (inj : ∀ {a b : D} {k : κ}, f a = some k → f b = some k → a = b) {k : D} {key : κ} (hk : f k = some key) : ∀ {ks us : List D} {kvs : List (κ × V)}, ks.map f = kvs.map (fun q => some q.1) → RDs fa W N H us (kvs.map (·.2)) →
    (∀ u, dgetD ks us k = some u → ∃ v, valV kvs key = some v ∧ RD fa W N H u v) ∧ (dgetD ks us k = none → valV kvs key = none) ∧ (dhasD ks k = (valV kvs key).isSome)
  | [], us, [], e, r => ⟨fun u h => by simp [dgetD] at h, fun _ => rfl, rfl⟩
  | [], us, p :: kvs, e, r => by simp at e
  | a :: ks, us, [], e, r => by simp at e
  | a :: ks, us, p :: kvs, e, r => by
    simp only [List.map_cons, List.cons.injEq] at e
    have hl := r.length
    cases us with
    | nil => simp at hl
    | cons u us =>
      obtain ⟨v, ws, e1, r1, r2⟩ := r
      simp only [List.map_cons, List.cons.injEq] at e1
      obtain ⟨e1, e2⟩ := e1
      subst e1 e2
      have hb : beqD a k = decide (p.1 = key) := beq_key inj e.1 hk
      obtain ⟨i1, i2, i3⟩ := dget_of inj hk e.2 r2
      by_cases h : p.1 = key
      · have hb' : beqD a k = true := by rw [hb]; exact decide_eq_true h
        rw [valV_pos h]
        refine ⟨fun w hw => ?_, fun hw => ?_, ?_⟩
        · unfold dgetD at hw; rw [if_pos hb'] at hw; cases hw; exact ⟨_, rfl, r1⟩
        · unfold dgetD at hw; rw [if_pos hb'] at hw; cases hw
        · unfold dhasD; rw [hb']; rfl
      · have hb' : beqD a k = false := by rw [hb]; exact decide_eq_false h
        rw [valV_neg h]
        refine ⟨fun w hw => ?_, fun hw => ?_, ?_⟩
        · unfold dgetD at hw; rw [if_neg (by rw [hb']; exact Bool.false_ne_true)] at hw; exact i1 w hw
        · unfold dgetD at hw; rw [if_neg (by rw [hb']; exact Bool.false_ne_true)] at hw; exact i2 hw
        · unfold dhasD; rw [hb', i3]; rfl
theorem dset_of (inj : ∀ {a b : D} {k : κ}, f a = some k → f b = some k → a = b) {k : D} {key : κ} (hk : f k = some key) {d : D} {v : V} (rd : RD fa W N H d v) : ∀ {ks us : List D} {kvs : List (κ × V)}, ks.map f = kvs.map (fun q => some q.1) → RDs fa W N H us (kvs.map (·.2)) →
    RDs fa W N H (dsetD ks us k d) ((kvs.map fun kv => if kv.1 = key then (kv.1, v) else kv).map (·.2)) ∧ ks.map f = (kvs.map fun kv => if kv.1 = key then (kv.1, v) else kv).map (fun q => some q.1)
  | [], us, [], e, r => ⟨rfl, rfl⟩
  | [], us, p :: kvs, e, r => by simp at e
  | a :: ks, us, [], e, r => by simp at e
  | a :: ks, us, p :: kvs, e, r => by
    simp only [List.map_cons, List.cons.injEq] at e
    have hl := r.length
    cases us with
    | nil => simp at hl
    | cons u us =>
      obtain ⟨w, ws, e1, r1, r2⟩ := r
      simp only [List.map_cons, List.cons.injEq] at e1
      obtain ⟨e1, e2⟩ := e1
      subst e1 e2
      have hb : beqD a k = decide (p.1 = key) := beq_key inj e.1 hk
      obtain ⟨i1, i2⟩ := dset_of inj hk rd e.2 r2
      by_cases h : p.1 = key
      · have hb' : beqD a k = true := by rw [hb]; exact decide_eq_true h
        refine ⟨⟨v, _, ?_, ?_, i1⟩, ?_⟩
        · simp only [List.map_cons, if_pos h]
        · rw [if_pos hb']; exact rd
        · simp only [List.map_cons, if_pos h, e.1, ← i2]
      · have hb' : ¬ beqD a k = true := by rw [hb, decide_eq_false h]; exact Bool.false_ne_true
        refine ⟨⟨p.2, _, ?_, ?_, i1⟩, ?_⟩
        · simp only [List.map_cons, if_neg h]
        · rw [if_neg hb']; exact r1
        · simp only [List.map_cons, if_neg h, e.1, ← i2]
theorem dput_of (inj : ∀ {a b : D} {k : κ}, f a = some k → f b = some k → a = b) {k : D} {key : κ} (hk : f k = some key) {d : D} {v : V} (rd : RD fa W N H d v) {ks us : List D} {kvs : List (κ × V)} (e : ks.map f = kvs.map (fun q => some q.1)) (r : RDs fa W N H us (kvs.map (·.2))) :
    RDs fa W N H (dputD ks us k d).2 ((putK kvs key v).map (·.2)) ∧ (dputD ks us k d).1.map f = (putK kvs key v).map (fun q => some q.1) := by
  have h3 := (dget_of (W := W) (N := N) (H := H) inj hk e r).2.2
  unfold dputD putK
  rw [h3, valV_any]
  cases valV kvs key with
  | some x =>
    rw [if_pos (show (some x).isSome = true from rfl), if_pos (show (some x).isSome = true from rfl)]
    exact dset_of inj hk rd e r
  | none =>
    rw [if_neg (show ¬ (none : Option V).isSome = true from Bool.false_ne_true), if_neg (show ¬ (none : Option V).isSome = true from Bool.false_ne_true)]
    refine ⟨?_, ?_⟩
    · rw [List.map_append]; exact r.append (RDs.one rd)
    · rw [List.map_append, List.map_append, e]; simp [hk]
end
theorem keyK_rd {fa : Nat → Option Addr} {W : Wo} {N : Nat} {H : Hp} {k : D} {y : V} {key : Key} (r : RD fa W N H k y) (h : keyK k = some key) : y = kV key := by
  cases k <;> simp [keyK] at h
  · subst h; exact r
  · subst h; exact r
theorem keyKs_rd {fa : Nat → Option Addr} {W : Wo} {N : Nat} {H : Hp} : ∀ {ks : List D} {ys : List V} {keys : List Key}, RDs fa W N H ks ys → keyKs ks = some keys → ys = keys.map kV
  | [], ys, keys, r, h => by cases h; exact r
  | a :: as, ys, keys, r, h => by
    obtain ⟨v, ws, e, r1, r2⟩ := r
    unfold keyKs at h
    cases q : keyK a with
    | none => simp [q] at h
    | some x =>
      cases q2 : keyKs as with
      | none => simp [q, q2] at h
      | some z =>
        simp only [q, q2] at h
        cases h
        rw [e, keyK_rd r1 q, keyKs_rd r2 q2]; rfl
/-- a[k] of a dict -/
theorem dget_rd {fa : Nat → Option Addr} {W : Wo} {N : Nat} {H : Hp} {p : Addr} {tk : Bool} {ks us : List D} {vs : List V} {k : D} {y : V} (h : DKV H p tk ks vs) (r : RDs fa W N H us vs) (rk : RD fa W N H k y) (ok : keyOk tk k = true) :
    ∃ o, DGet H p y o ∧ (∀ u, dgetD ks us k = some u → ∃ v, o = some v ∧ RD fa W N H u v) ∧ (dgetD ks us k = none → o = none) ∧ dhasD ks k = o.isSome := by
  cases tk with
  | false =>
    obtain ⟨kvs, h1, h2, h3⟩ := h
    subst h3
    unfold keyOk at ok
    rw [if_neg Bool.false_ne_true] at ok
    obtain ⟨key, hk⟩ := Option.isSome_iff_exists.mp ok
    obtain ⟨i1, i2, i3⟩ := dget_of keyK_inj hk h2 r
    rw [keyK_rd rk hk]
    exact ⟨_, DGet.k h1, i1, i2, i3⟩
  | true =>
    obtain ⟨kvs, h1, h2, h3⟩ := h
    subst h3
    unfold keyOk at ok
    rw [if_pos rfl] at ok
    obtain ⟨key, hk⟩ := Option.isSome_iff_exists.mp ok
    obtain ⟨i1, i2, i3⟩ := dget_of keyT_inj hk h2 r
    cases k with
    | tup ds =>
      obtain ⟨q, ws, e, h4, h5⟩ := rk
      have := keyKs_rd h5 hk
      subst this
      rw [e]
      exact ⟨_, DGet.t h1 h4, i1, i2, i3⟩
    | _ => cases hk
theorem dput_rd {fa : Nat → Option Addr} {W : Wo} {μ : Mem} {H : Hp} (hr : HR fa W μ H) {l : Nat} {tk : Bool} {ks us : List D} {k d : D} {y v : V} (hc : μ[l]? = some (.dct tk ks us)) (rk : RD fa W μ.length H k y) (rd : RD fa W μ.length H d v) (ok : keyOk tk k = true) (hlen : ks.length < 16777216) :
    ∃ H', DPut H (W.φ l) y v H' ∧ HR fa W (μ.set l (.dct tk (dputD ks us k d).1 (dputD ks us k d).2)) H' ∧ Ext W μ.length H W (μ.set l (.dct tk (dputD ks us k d).1 (dputD ks us k d).2)).length H' := by
  have hl := (List.getElem?_eq_some_iff.mp hc).1
  obtain ⟨vs, h, r⟩ := hr.cells l _ hc
  have hF := hr.own l hl
  have ht : ∀ xs, H (W.φ l) ≠ some (.tup xs) := fun xs e => by
    have := hr.mutb hl
    rw [e] at this; exact this
  cases tk with
  | false =>
    obtain ⟨kvs, h1, h2, h3⟩ := h
    subst h3
    unfold keyOk at ok
    rw [if_neg Bool.false_ne_true] at ok
    obtain ⟨key, hk⟩ := Option.isSome_iff_exists.mp ok
    obtain ⟨i1, i2⟩ := dput_of keyK_inj hk rd h2 r
    have hlk : kvs.length < sizeLine := by
      have := congrArg List.length h2
      simp at this
      rw [← this, sizeLine_eq]; exact hlen
    rw [keyK_rd rk hk]
    have m := mut_cell hr hl (o := .dK (putK kvs key v)) (c := .dct false (dputD ks us k d).1 (dputD ks us k d).2) ⟨_, ⟨_, upd_same, i2, rfl⟩, RDs.updF hF ht _ _ i1⟩
    exact ⟨_, DPut.k h1 hlk, m.1, m.2⟩
  | true =>
    obtain ⟨kvs, h1, h2, h3⟩ := h
    subst h3
    unfold keyOk at ok
    rw [if_pos rfl] at ok
    obtain ⟨key, hk⟩ := Option.isSome_iff_exists.mp ok
    obtain ⟨i1, i2⟩ := dput_of keyT_inj hk rd h2 r
    have hlk : kvs.length < sizeLine := by
      have := congrArg List.length h2
      simp at this
      rw [← this, sizeLine_eq]; exact hlen
    cases k with
    | tup ds =>
      obtain ⟨q, ws, e, h4, h5⟩ := rk
      have := keyKs_rd h5 hk
      subst this
      rw [e]
      have m := mut_cell hr hl (o := .dT (putK kvs key v)) (c := .dct true (dputD ks us (.tup ds) d).1 (dputD ks us (.tup ds) d).2) ⟨_, ⟨_, upd_same, i2, rfl⟩, RDs.updF hF ht _ _ i1⟩
      exact ⟨_, DPut.t h1 h4 hlk, m.1, m.2⟩
    | _ => cases hk
section
variable {G : GA} {X : Cx} {Wx : WX} {a b e : Expr} {fa fb : Sg → Mem → Out D} {pos : Pos}
/-- {} -/
def evD0 (tk : Bool) : Sg → Mem → Out D := fun _ μ => .ok (.obj μ.length) (μ ++ [.dct tk [] []])
theorem se_d0 (tk : Bool) : SE G X Wx (.Dict [] [] pos) (evD0 tk) := by
  cases tk with
  | false =>
    refine ⟨_, pe_dnewK, fun σ H W μ δ Q hr rs h => fun p hp => h _ _ _ (ext_add hr hp _ _) (hr_add hr hp ?_) rd_add⟩
    exact ⟨[], ⟨[], upd_same, rfl, rfl⟩, rfl⟩
  | true =>
    refine ⟨_, pe_dnewT, fun σ H W μ δ Q hr rs h => fun p hp => h _ _ _ (ext_add hr hp _ _) (hr_add hr hp ?_) rd_add⟩
    exact ⟨[], ⟨[], upd_same, rfl, rfl⟩, rfl⟩
/-- a[k], whatever a is -/
def ixD (a b : D) (μ : Mem) : Option D := match dctOf μ a with
  | some (tk, ks, us) => if keyOk tk b then dgetD ks us b else none
  | none => idxD a b μ
def rIxD : R2 := fun x y H Q => ∃ a v, x = .ref a ∧ DGet H a y (some v) ∧ Q v H
theorem ix_dict (hu : X.A.units + 1 < cLine) : IxR X rIxD := by
  intro value slice pins s σ H x y v u Q I rx ry h hs
  obtain ⟨a, z, rfl, g, q⟩ := h
  cases rx
  have hT := dict_typeIs I g
  unfold subscriptTail
  refine wpAny_bind ?_
  rw [getitemInPython_of_ne hT.not_modules]
  refine wpAny_bind (wpAny_specialOf hT PySem.F.slot_dict_getitem.lookup ?_)
  have fin : wpAny (model X.prog X.w) X.A (subscripted slice false (.ref a) u) (fun r s₃ => wpAny (model X.prog X.w) X.A (letTemporaryGo value (.ref a) r >>= fun _ => pure r) (EP X pins σ Q) X.xe s₃) X.xe s := by
    rw [hs]
    exact wpAny_operating (wpAny_mono (d_getItem hu I g ry fun w' s3 I3 rw' => (⟨z, H, I3, rw', q⟩ : EP X pins σ Q w' s3)) (fun r s₃ h₃ => wpAny_bind (wpAny_letTemporaryGo (wpAny_pure h₃))) fun _ _ x => x)
  first
    | exact wpAny_pure (wpAny_bind fin)
    | exact wpAny_bind (wpAny_pure (wpAny_bind fin))
    | exact wpAny_bind fin
theorem seq_ix {W : Wo} {μ : Mem} {H : Hp} {Q : VK} {a b d : D} {x y : V} (hr : HR G.fa W μ H) (ra : RD G.fa W μ.length H a x) (rb : RD G.fa W μ.length H b y) (e : idxD a b μ = some d)
    (q : ∀ v W' H', Ext W μ.length H W' μ.length H' → HR G.fa W' μ H' → RD G.fa W' μ.length H' d v → Q v H') : rIx X.K x y H Q := by
  cases b with
  | int i =>
    unfold idxD at e
    cases q1 : seqL μ a with
    | some ds =>
      simp only [q1] at e
      obtain ⟨p, vs, e1, h1, r1⟩ := seqL_rd hr ra q1
      obtain ⟨v, e2, r2⟩ := atI_rd r1 e
      exact .inl ⟨p, vs, i, v, e1, rb, .inl h1, e2, q v W H .refl hr r2⟩
    | none =>
      simp only [q1] at e
      cases a with
      | tup ds =>
        obtain ⟨p, vs, e1, h1, r1⟩ := ra
        obtain ⟨v, e2, r2⟩ := atI_rd r1 e
        exact .inr (.inl ⟨p, vs, i, v, e1, rb, SqT.of h1, e2, q v W H .refl hr r2⟩)
      | str z =>
        simp only at e
        split at e
        · rename_i hz
          cases q2 : atI z.cps.toList i with
          | none => rw [q2] at e; cases e
          | some c =>
            rw [q2] at e; cases e
            exact .inr (.inr ⟨z, i, c, ra, rb, hz, q2, q _ W H .refl hr rfl⟩)
        · cases e
      | _ => cases e
  | _ => cases e
theorem se_ixA (hu : X.A.units + 1 < cLine) (ha : SE G X Wx a fa) (hb : SE G X Wx b fb) (hs : PlainIx b) : SE G X Wx (.Subscript a b pos) (evBin ixD fa fb) := by
  obtain ⟨ta, pa, qa⟩ := ha
  obtain ⟨tb, pb, qb⟩ := hb
  refine ⟨_, pe_ix (ix_seq.or (ix_dict hu)) pa pb hs, fun σ H W μ δ Q hr rs h => two_of (fun a b d x y W μ H Q hr ra rb e q => ?_) qa qb hr rs h⟩
  unfold ixD at e
  cases e1 : dctOf μ a with
  | none => simp only [e1] at e; exact .inl (seq_ix hr ra rb e q)
  | some t =>
    obtain ⟨tk, ks, us⟩ := t
    simp only [e1] at e
    split at e
    · rename_i ok
      obtain ⟨p, vs, rfl, h1, r1⟩ := dctOf_rd hr ra e1
      obtain ⟨o, g, i1, _⟩ := dget_rd h1 r1 rb ok
      obtain ⟨v, rfl, rv⟩ := i1 d e
      exact .inr ⟨p, v, rfl, g, q v W H .refl hr rv⟩
    · cases e
/-! k in d, and in a list of data -/
theorem op_inDict (hu : X.A.units + 1 < cLine) : OpR X (compareOp .In) (fun y x H Q => ∃ a o, x = .ref a ∧ DGet H a y o ∧ Q (.bl o.isSome) H) := by
  intro pins s σ H y x u v Q I ry rx h
  obtain ⟨a, o, rfl, g, q⟩ := h
  cases rx
  exact d_in hu I g ry fun s3 I3 => ⟨.bl o.isSome, H, I3, rfl, q⟩
theorem op_notInDict (hu : X.A.units + 1 < cLine) : OpR X (compareOp .NotIn) (fun y x H Q => ∃ a o, x = .ref a ∧ DGet H a y o ∧ Q (.bl (!o.isSome)) H) := by
  intro pins s σ H y x u v Q I ry rx h
  obtain ⟨a, o, rfl, g, q⟩ := h
  cases rx
  exact d_notIn hu I g ry fun s3 I3 => ⟨.bl (!o.isSome), H, I3, rfl, q⟩
def inA (neg : Bool) (a b : D) (μ : Mem) : Option D := match dctOf μ b with
  | some (tk, ks, _) => if keyOk tk a then some (.bl (if neg then !dhasD ks a else dhasD ks a)) else none
  | none => inD neg a b μ
theorem ops_inA (hu : X.A.units + 65 < cLine) : OpS G X (compareOp .In) (inA false) := by
  obtain ⟨r, p, q⟩ := ops_in (G := G) (X := X) hu
  refine ⟨_, p.or (op_inDict (by omega)), fun a b d x y W μ H Q hr ra rb e k => ?_⟩
  unfold inA at e
  cases e1 : dctOf μ b with
  | none => simp only [e1] at e; exact .inl (q a b d x y W μ H Q hr ra rb e k)
  | some t =>
    obtain ⟨tk, ks, us⟩ := t
    simp only [e1] at e
    split at e
    · rename_i ok
      cases e
      obtain ⟨p, vs, rfl, h1, r1⟩ := dctOf_rd hr rb e1
      obtain ⟨o, g, _, _, i3⟩ := dget_rd h1 r1 ra ok
      exact .inr ⟨p, o, rfl, g, k _ W H .refl hr (by rw [i3]; rfl)⟩
    · cases e
theorem ops_notinA (hu : X.A.units + 65 < cLine) : OpS G X (compareOp .NotIn) (inA true) := by
  obtain ⟨r, p, q⟩ := ops_notin (G := G) (X := X) hu
  refine ⟨_, p.or (op_notInDict (by omega)), fun a b d x y W μ H Q hr ra rb e k => ?_⟩
  unfold inA at e
  cases e1 : dctOf μ b with
  | none => simp only [e1] at e; exact .inl (q a b d x y W μ H Q hr ra rb e k)
  | some t =>
    obtain ⟨tk, ks, us⟩ := t
    simp only [e1] at e
    split at e
    · rename_i ok
      cases e
      obtain ⟨p, vs, rfl, h1, r1⟩ := dctOf_rd hr rb e1
      obtain ⟨o, g, _, _, i3⟩ := dget_rd h1 r1 ra ok
      exact .inr ⟨p, o, rfl, g, k _ W H .refl hr (by rw [i3]; rfl)⟩
    · cases e

/-! ### methods of built-in types -/
def MthS (G : GA) (X : Cx) (id : String) (g : D → List D → Mem → Option (D × Mem)) : Prop :=
  ∃ r, MtR X id r ∧ ∀ a ds d μ' x vs W μ H (Q : VK), HR G.fa W μ H → RD G.fa W μ.length H a x → RDs G.fa W μ.length H ds vs → g a ds μ = some (d, μ') →
    (∀ v W' H', Ext W μ.length H W' μ'.length H' → HR G.fa W' μ' H' → RD G.fa W' μ'.length H' d v → Q v H') → r x vs H Q
inductive MT where
  | lst | dct | str
def MT.nm : MT → String
  | .lst => "list" | .dct => "dict" | .str => "str"
def isMT (t : MT) (μ : Mem) (a : D) : Bool := match t with
  | .lst => (seqL μ a).isSome
  | .dct => (dctOf μ a).isSome
  | .str => match a with
    | .str _ => true
    | _ => false
theorem isMT_rd {W : Wo} {μ : Mem} {H : Hp} (hr : HR G.fa W μ H) {t : MT} {a : D} {x : V} (ra : RD G.fa W μ.length H a x) (h : isMT t μ a = true) : tyV X.K t.nm x H := by
  cases t with
  | lst =>
    obtain ⟨ds, e⟩ := Option.isSome_iff_exists.mp h
    obtain ⟨p, vs, rfl, h1, _⟩ := seqL_rd hr ra e
    exact .inl ⟨rfl, vs, .inl h1⟩
  | dct =>
    obtain ⟨⟨tk, ks, us⟩, e⟩ := Option.isSome_iff_exists.mp h
    obtain ⟨p, vs, rfl, h1, _⟩ := dctOf_rd hr ra e
    refine .inr (.inr (.inl ⟨rfl, ?_⟩))
    unfold DKV at h1
    split at h1
    · obtain ⟨kvs, h1, _⟩ := h1; exact .inr ⟨kvs, h1⟩
    · obtain ⟨kvs, h1, _⟩ := h1; exact .inl ⟨kvs, h1⟩
  | str =>
    cases a with
    | str z => rw [show x = .str z from ra]; rfl
    | _ => cases h
def evMth (t : MT) (g : D → List D → Mem → Option (D × Mem)) (fo : Sg → Mem → Out D) (fr : Sg → Mem → Out (List D)) : Sg → Mem → Out D := fun δ μ =>
  (fo δ μ).bind fun a μ1 => if isMT t μ1 a then (fr δ μ1).bind fun ds μ2 => match g a ds μ2 with
    | some (d, μ') => .ok d μ'
    | none => .bad
  else .bad
theorem mth_end {W : Wo} {μ : Mem} {H : Hp} {Q : VK} {Y : XW} {o : Option (D × Mem)} (h : Post G (RD G.fa) W μ H Q Y (match o with
    | some (d, μ') => Out.ok d μ'
    | none => Out.bad)) : ∃ d μ', o = some (d, μ') ∧ ∀ v W' H', Ext W μ.length H W' μ'.length H' → HR G.fa W' μ' H' → RD G.fa W' μ'.length H' d v → Q v H' := by
  cases o with
  | none => exact h.elim
  | some p => obtain ⟨d, μ'⟩ := p; exact ⟨d, μ', rfl, h⟩
theorem se_mth0 {t : MT} {id : String} {name : Str} {apos : Pos} {g : D → List D → Mem → Option (D × Mem)} (pa : PlainAttrs t.nm) (slot : Slot t.nm name id) (hty : typeOf (.builtin id) = pure (.type "method_descriptor")) (hm : MthS G X id g) (ho : SE G X Wx a fa)
    (hbase : attributeBase a name X.env (eval a X.env) = eval a X.env) (hline : (apos.endLine == pos.line) = true) : SE G X Wx (.Call (.Attribute a name apos) [] [] pos) (evMth t g fa evNil) := by
  obtain ⟨r, pm, qm⟩ := hm
  obtain ⟨ta, pta, qa⟩ := ho
  refine ⟨_, pe_bm0 pa slot hty pm pta hbase hline, fun σ H W μ δ Q hr rs h => ?_⟩
  refine qa σ H W μ δ _ hr rs (Post.bind h fun d μ1 x W1 H1 _ x1 hr1 r1 h1 => ?_)
  split at h1
  · rename_i ht
    refine ⟨isMT_rd hr1 r1 ht, ?_⟩
    obtain ⟨d', μ', e, q⟩ := mth_end (o := g d [] μ1) h1
    exact qm d [] d' μ' x [] W1 μ1 H1 Q hr1 r1 rfl e q
  · exact h1.elim
theorem se_mth {t : MT} {id : String} {name : Str} {apos : Pos} {es : List Expr} {fr : Sg → Mem → Out (List D)} {g : D → List D → Mem → Option (D × Mem)} (pa : PlainAttrs t.nm) (slot : Slot t.nm name id) (hty : typeOf (.builtin id) = pure (.type "method_descriptor")) (hm : MthS G X id g) (ho : SE G X Wx a fa) (ha : SA G X Wx (e :: es) fr)
    (hbase : attributeBase a name X.env (eval a X.env) = eval a X.env)
    (hfew : ((backTo pos (starEach (e :: es) X.env)).all (fun x => !x.1) && (backToKw pos (keywordEach [] X.env)).all (fun x => x.1.isSome)
      && decide ((e :: es).length + ([] : List Keyword).length + (if ([] : List Keyword).isEmpty then 0 else 1) < 30)) = true)
    (hline : (apos.endLine == pos.line) = true) (hs : starEach (e :: es) X.env = (false, eval e X.env) :: starEach es X.env) (hplain : (backTo pos (starEach es X.env)).any (·.1) = false) :
    SE G X Wx (.Call (.Attribute a name apos) (e :: es) [] pos) (evMth t g fa fr) := by
  obtain ⟨r, pm, qm⟩ := hm
  obtain ⟨ta, pta, qa⟩ := ho
  obtain ⟨tr, ptr, qr⟩ := ha
  refine ⟨_, pe_bm pa slot hty pm pta ptr hbase hfew hline hs hplain, fun σ H W μ δ Q hr rs h => ?_⟩
  refine qa σ H W μ δ _ hr rs (Post.bind h fun d μ1 x W1 H1 _ x1 hr1 r1 h1 => ?_)
  split at h1
  · rename_i ht
    refine ⟨isMT_rd hr1 r1 ht, ?_⟩
    refine qr σ H1 W1 μ1 δ _ hr1 (rs.mono hr x1) (Post.bind h1 fun ds μ2 vs W2 H2 _ x2 hr2 r2 h2 => ?_)
    obtain ⟨d', μ', e, q⟩ := mth_end (o := g d ds μ2) h2
    exact qm d ds d' μ' x vs W2 μ2 H2 Q hr2 (RD.mono hr1 x2 d x r1) r2 e q
  · exact h1.elim
/-! append, pop, get -/
def mAppend (a : D) (ds : List D) (μ : Mem) : Option (D × Mem) := match a, ds with
  | .obj l, [d] => match μ[l]? with
    | some (.lst es) => if es.length < 16777216 then some (.non, μ.set l (.lst (es ++ [d]))) else none
    | _ => none
  | _, _ => none
theorem mth_append : MthS G X "list.append" mAppend := by
  refine ⟨_, mt_append, fun a ds d μ' x vs W μ H Q hr ra rs e q => ?_⟩
  unfold mAppend at e
  split at e
  · rename_i l dd
    cases e1 : μ[l]? with
    | none => simp [e1] at e
    | some c =>
      cases c with
      | dct _ _ _ => simp [e1] at e
      | lst es =>
        simp only [e1] at e
        split at e
        · rename_i hz
          cases e
          obtain ⟨v, rfl, rv⟩ := rds1 rs
          have hl := (List.getElem?_eq_some_iff.mp e1).1
          obtain ⟨ws, h1, r1⟩ := hr.cells l _ e1
          have hF := hr.own l hl
          have ht : ∀ xs, H (W.φ l) ≠ some (.tup xs) := fun xs z => by rw [h1] at z; cases z
          have m := mut_cell hr hl (o := .lst (ws ++ [v])) (c := .lst (es ++ [dd])) ⟨_, upd_same, (RDs.updF hF ht _ _ r1).append (RDs.one (RD.updF hF ht _ _ rv))⟩
          exact ⟨_, ws, v, ra.2, rfl, h1, by rw [r1.length, sizeLine_eq]; exact hz, q .non W _ m.2 m.1 rfl⟩
        · cases e
  · cases e
theorem mt_get2 (hu : X.A.units + 1 < cLine) : MtR X "dict.get" (fun x xs H Q => ∃ a y z o, x = .ref a ∧ xs = [y, z] ∧ DGet H a y o ∧ Q (o.getD z) H) := by
  intro pins s σ H x xs v us Q I rx rs h
  obtain ⟨a, y, z, o, rfl, rfl, g, q⟩ := h
  cases rx
  obtain ⟨u1, u2, rfl, r1, r2⟩ := vals2 rs
  exact d_get2 hu I g r1 r2 fun w' s3 I3 rw' => ⟨_, H, I3, rw', q⟩
def mGet (a : D) (ds : List D) (μ : Mem) : Option (D × Mem) := match ds with
  | [k, z] => match dctOf μ a with
    | some (tk, ks, us) => if keyOk tk k then some ((dgetD ks us k).getD z, μ) else none
    | none => none
  | _ => none
theorem mth_get (hu : X.A.units + 1 < cLine) : MthS G X "dict.get" mGet := by
  refine ⟨_, mt_get2 hu, fun a ds d μ' x vs W μ H Q hr ra rs e q => ?_⟩
  unfold mGet at e
  split at e
  · rename_i k z
    cases e1 : dctOf μ a with
    | none => simp [e1] at e
    | some t =>
      obtain ⟨tk, ks, us⟩ := t
      simp only [e1] at e
      split at e
      · rename_i ok
        cases e
        obtain ⟨y, w, rfl, ry, rz⟩ := rds2 rs
        obtain ⟨p, ws, rfl, h1, r1⟩ := dctOf_rd hr ra e1
        obtain ⟨o, g, i1, i2, _⟩ := dget_rd h1 r1 ry ok
        refine ⟨p, y, w, o, rfl, rfl, g, q _ W H .refl hr ?_⟩
        cases e2 : dgetD ks us k with
        | none => rw [i2 e2]; exact rz
        | some u => obtain ⟨v, rfl, rv⟩ := i1 u e2; exact rv
      · cases e
  · cases e
end
end M
namespace M
open PySem PySem.Spec PyProof.Rows L2

/-! ### dict comprehensions -/
def dcLoop (gd : List (Nat × List D)) (g : D → Sg → Option Sg) (ft : Sg → Mem → Out Bool) (fk fv : Sg → Mem → Out D) (δ : Sg) : List D → List D × List D → Mem → Out (List D × List D)
  | [], acc, μ => if gOk μ gd then .ok acc μ else .bad
  | d :: r, acc, μ => if gOk μ gd then
      match g d δ with
      | some δ1 => (ft δ1 μ).noX.bind fun b μ1 => if b then (fk δ1 μ1).noX.bind fun k μ2 => (fv δ1 μ2).noX.bind fun v μ3 =>
          if acc.1.length < 16777216 && (keyK k).isSome then dcLoop gd g ft fk fv δ r (dputD acc.1 acc.2 k v) μ3 else .bad else dcLoop gd g ft fk fv δ r acc μ1
      | none => .bad
    else .bad
def evDc (mu : Bool) (src : Sg → Mem → Out Src) (t : Tg) (ft : Sg → Mem → Out Bool) (fk fv : Sg → Mem → Out D) (own : List Nat) : Sg → Mem → Out D := fun δ μ =>
  (src δ μ).bind fun s μ1 => (dcLoop s.gd (asgT t) ft fk fv (wipeD δ own) s.items ([], []) μ1).bind fun acc μ2 => finC mu (.dct false acc.1 acc.2) μ2
section
variable {G : GA} {X : Cx} {Wx : WX} {pos : Pos}
theorem Making.put {W1 : Wo} {μ1 : Mem} {H1 : Hp} {Dd : Addr} {W : Wo} {μ : Mem} {H : Hp} {ks us : List D} (m : Making G W1 μ1 H1 Dd W μ H (.dct false ks us)) (h0 : H1 Dd = none) {k d : D} {y v : V} (rk : RD G.fa W μ.length H k y) (rd : RD G.fa W μ.length H d v) (ok : (keyK k).isSome = true) :
    ∃ kvs key, y = kV key ∧ H Dd = some (.dK kvs) ∧ kvs.length = ks.length ∧ Making G W1 μ1 H1 Dd W μ (upd H Dd (.dK (putK kvs key v))) (.dct false (dputD ks us k d).1 (dputD ks us k d).2) := by
  obtain ⟨vs, ⟨kvs, h1, h2, h3⟩, r⟩ := id m.ok
  subst h3
  obtain ⟨key, hk⟩ := Option.isSome_iff_exists.mp ok
  obtain ⟨i1, i2⟩ := dput_of keyK_inj hk rd h2 r
  refine ⟨kvs, key, keyK_rd rk hk, h1, ?_, m.upd_to h0 ⟨_, ⟨_, upd_same, i2, rfl⟩, RDs.updF m.F m.ok.noTup _ _ i1⟩⟩
  have := congrArg List.length h2
  simpa using this.symm
theorem dc_of {mu : Bool} {wi : TI} {t : Tg} {ft : Sg → Mem → Out Bool} {fk fv : Sg → Mem → Out D} {src : Sg → Mem → Out Src} {vs : List Nat} (hsub : ∀ i ∈ slotsT t, i ∈ vs)
    (qi : ∀ σ H W μ δ (R : It → Hp → Prop), HR G.fa W μ H → RS G W μ.length H δ σ → Post G (fun W' n' H' s J => Yields G W' n' H' J s) W μ H R (XQ G Wx σ) (src δ μ) → wi σ H R)
    {σ : L2.St} {H : Hp} {W : Wo} {μ : Mem} {δ : Sg} {Q : VK} (hr : HR G.fa W μ H) (rs : RS G W μ.length H δ σ) (h : Post G (RD G.fa) W μ H Q (XQ G Wx σ) (evDc mu src t ft fk fv vs δ μ)) :
    tDc wi (gSem G (slotsT t) (asgT t)) (bSem G Wx0 ft) (tSem G Wx0 fk) (tSem G Wx0 fv) vs σ H Q := by
  refine qi σ H W μ δ _ hr rs (Post.bind h fun s μ1 J W1 H1 _ x1 hr1 yl h1 => ?_)
  intro Dd h0
  have rs1 := rs.mono hr x1
  refine ⟨fun i m H' => m = s.items.length - i ∧ i ≤ s.items.length ∧ ∃ W' μ' acc, Making G W1 μ1 H1 Dd W' μ' H' (.dct false acc.1 acc.2) ∧
      Post G (RD G.fa) W1 μ1 H1 Q (XQ G Wx σ) ((dcLoop s.gd (asgT t) ft fk fv (wipeD δ vs) (s.items.drop i) acc μ').bind fun acc μ2 => finC mu (.dct false acc.1 acc.2) μ2),
    ⟨_, rfl, Nat.zero_le _, _, μ1, ([], []), Making.start hr1 h0 (c := .dct false [] []) ⟨[], ⟨[], upd_same, rfl, rfl⟩, rfl⟩, by simpa using h1⟩, ?_⟩
  rintro i m H2 ⟨rfl, hi, W2, μ2, acc, mk, hp⟩
  have gk : gOk μ2 s.gd = true := by
    cases q : s.items.drop i with
    | nil =>
      rw [q] at hp
      unfold dcLoop at hp
      split at hp
      · assumption
      · exact hp.elim
    | cons d r =>
      rw [q] at hp
      unfold dcLoop at hp
      split at hp
      · assumption
      · exact hp.elim
  have yi := yl W2 μ2 H2 mk.ext mk.hr gk i
  by_cases hlt : i < s.items.length
  · have ed : s.items[i]? = some s.items[i] := List.getElem?_eq_getElem hlt
    obtain ⟨go, yld⟩ := yi.1 _ ed
    have edrop : s.items.drop i = s.items[i] :: s.items.drop (i + 1) := List.drop_eq_getElem_cons hlt
    rw [edrop] at hp
    unfold dcLoop at hp
    rw [if_pos gk] at hp
    refine .inr ⟨go, fun H' => i + 1 ≤ s.items.length ∧ ∃ W' μ' acc, Making G W1 μ1 H1 Dd W' μ' H' (.dct false acc.1 acc.2) ∧
      Post G (RD G.fa) W1 μ1 H1 Q (XQ G Wx σ) ((dcLoop s.gd (asgT t) ft fk fv (wipeD δ vs) (s.items.drop (i + 1)) acc μ').bind fun acc μ2 => finC mu (.dct false acc.1 acc.2) μ2),
      fun H' q => ⟨s.items.length - (i + 1), by omega, rfl, q⟩, fun x H3 hy => ?_⟩
    obtain ⟨x3, hr3, rd3⟩ := yld x H3 hy
    have mk3 := mk.step x3 hr3
    cases ea : asgT t s.items[i] (wipeD δ vs) with
    | none => simp only [ea] at hp; exact hp.elim
    | some δ1 =>
      simp only [ea] at hp
      refine ⟨W2, μ2, wipeD δ vs, s.items[i], δ1, hr3, rd3, (rs1.mono hr1 mk3.ext).wipes vs, ea, fun σ2 rs2 sb => ⟨wipe_same sb hsub, W2, μ2, δ1, hr3, rs2, ?_⟩⟩
      have hp' : Post G (RD G.fa) W1 μ1 H1 Q (XQ G Wx σ) ((ft δ1 μ2).noX.bind fun b μ3 => ((if b then (fk δ1 μ3).noX.bind fun k μ4 => (fv δ1 μ4).noX.bind fun v μ5 =>
          if acc.1.length < 16777216 && (keyK k).isSome then dcLoop s.gd (asgT t) ft fk fv (wipeD δ vs) (s.items.drop (i + 1)) (dputD acc.1 acc.2 k v) μ5 else .bad
          else dcLoop s.gd (asgT t) ft fk fv (wipeD δ vs) (s.items.drop (i + 1)) acc μ3).bind fun acc μ2 => finC mu (.dct false acc.1 acc.2) μ2)) := by
        revert hp
        cases ft δ1 μ2 <;> exact fun h => h
      refine post_noX hp' fun b μ4 b' W4 H4 x4 hr4 eb hp4 => ?_
      cases (show b = b' from eb)
      have mk4 := mk3.step x4 hr4
      cases b with
      | false => exact if_false_of Bool.false_ne_true ⟨hlt, W4, μ4, acc, mk4, hp4⟩
      | true =>
        refine if_true_of rfl ⟨W4, μ4, δ1, hr4, rs2.mono hr3 x4, ?_⟩
        have hp5 : Post G (RD G.fa) W1 μ1 H1 Q (XQ G Wx σ) ((fk δ1 μ4).noX.bind fun k μ4 => (((fv δ1 μ4).noX.bind fun v μ5 =>
          if acc.1.length < 16777216 && (keyK k).isSome then dcLoop s.gd (asgT t) ft fk fv (wipeD δ vs) (s.items.drop (i + 1)) (dputD acc.1 acc.2 k v) μ5 else .bad).bind fun acc μ2 => finC mu (.dct false acc.1 acc.2) μ2)) := by
          revert hp4
          rw [if_pos rfl]
          cases fk δ1 μ4 <;> exact fun h => h
        refine post_noX hp5 fun k μ6 y W6 H6 x6 hr6 rk hp6 => ⟨W6, μ6, δ1, hr6, (rs2.mono hr3 x4).mono hr4 x6, ?_⟩
        have mk6 := mk4.step x6 hr6
        have hp7 : Post G (RD G.fa) W1 μ1 H1 Q (XQ G Wx σ) ((fv δ1 μ6).noX.bind fun v μ5 =>
          ((if acc.1.length < 16777216 && (keyK k).isSome then dcLoop s.gd (asgT t) ft fk fv (wipeD δ vs) (s.items.drop (i + 1)) (dputD acc.1 acc.2 k v) μ5 else .bad).bind fun acc μ2 => finC mu (.dct false acc.1 acc.2) μ2)) := by
          revert hp6
          cases fv δ1 μ6 <;> exact fun h => h
        refine post_noX hp7 fun v μ8 z W8 H8 x8 hr8 rz hp8 => ?_
        have mk8 := mk6.step x8 hr8
        split at hp8
        · rename_i hl
          rw [Bool.and_eq_true, decide_eq_true_eq] at hl
          obtain ⟨kvs, key, e1, e2, e3, mk9⟩ := mk8.put h0 (RD.mono hr6 x8 k y rk) rz hl.2
          exact ⟨kvs, key, e1, e2, by rw [e3, sizeLine_eq]; exact hl.1, hlt, W8, μ8, _, mk9, hp8⟩
        · exact hp8.elim
  · have e : i = s.items.length := by omega
    subst e
    refine .inl ⟨yi.2 (Nat.le_refl _), ?_⟩
    rw [List.drop_length] at hp
    unfold dcLoop at hp
    rw [if_pos gk] at hp
    exact mk.done hr1 h0 hp
variable {kx vx elt tg iter : Expr} {ifs : List Expr} {scope : Scope} {own : List (Str × Nat)} {src : Sg → Mem → Out Src} {t : Tg} {ft : Sg → Mem → Out Bool} {fk fv fe : Sg → Mem → Out D}
theorem se_dc {mu : Bool} (hc : X.calm = true) (hN : X.N.Nodup) (hi : SI G X Wx tg iter src) (ok : BlkOk X.N X.env.scope scope own)
    (hg : ∀ (s : Shared) (H : Hp) (C : Addr) (cl : List (Str × Addr)) (fp : List Addr), SG G (X.blk s H scope (compEnvC scope cl C X.env) fp) tg t)
    (ht : ∀ (s : Shared) (H : Hp) (C : Addr) (cl : List (Str × Addr)) (fp : List Addr), PTs (X.blk s H scope (compEnvC scope cl C X.env) fp) ifs (bSem G Wx0 ft))
    (hk : ∀ (s : Shared) (H : Hp) (C : Addr) (cl : List (Str × Addr)) (fp : List Addr), SE G (X.blk s H scope (compEnvC scope cl C X.env) fp) Wx0 kx fk)
    (he : ∀ (s : Shared) (H : Hp) (C : Addr) (cl : List (Str × Addr)) (fp : List Addr), SE G (X.blk s H scope (compEnvC scope cl C X.env) fp) Wx0 vx fv)
    (hs : ∀ x, foldedSetIterable iter X.env x = pure x) (hsub : ∀ i ∈ slotsT t, i ∈ own.map (·.2)) : SE G X Wx (.DictComp kx vx [⟨tg, iter, ifs, 0⟩] scope pos) (evDc mu src t ft fk fv (own.map (·.2))) := by
  obtain ⟨wi, pi, qi⟩ := hi
  exact ⟨_, pe_dc hc hN pi ok hg ht (fun s H C cl fp => (hk s H C cl fp).pe) (fun s H C cl fp => (he s H C cl fp).pe) hs, fun σ H W μ δ Q hr rs h => dc_of hsub qi hr rs h⟩
end

/-! ### statements -/
inductive Fl where
  | nx (δ : Sg) | rt (d : D) | bk (δ : Sg) | ct (δ : Sg) | xc (x : Ex) (δ : Sg)
abbrev SF := Sg → Mem → Out Fl
def PostS (G : GA) (W : Wo) (μ : Mem) (H : Hp) (D : Ends) (Wx : WX) : Out Fl → Prop
  | .ok f μ' => ∀ W' H', Ext W μ.length H W' μ'.length H' → HR G.fa W' μ' H' → match f with
    | .nx δ' => ∀ σ', RS G W' μ'.length H' δ' σ' → D.nx σ' H'
    | .rt d => ∀ v, RD G.fa W' μ'.length H' d v → D.rt v H'
    | .bk δ' => ∀ σ', RS G W' μ'.length H' δ' σ' → D.bk σ' H'
    | .ct δ' => ∀ σ', RS G W' μ'.length H' δ' σ' → D.ct σ' H'
    | .xc x δ' => ∀ σ', RS G W' μ'.length H' δ' σ' → ∀ c dx, RX G W' μ'.length H' x c dx → Wx c dx σ' H'
  | _ => False
theorem PostS.rebase {G : GA} {W W1 : Wo} {μ μ1 : Mem} {H H1 : Hp} {D : Ends} {Wx : WX} {o : Out Fl} (x : Ext W μ.length H W1 μ1.length H1) (h : PostS G W μ H D Wx o) : PostS G W1 μ1 H1 D Wx o := by
  cases o with
  | ok f μ' => exact fun W' H' x' hr => h W' H' (x.trans x') hr
  | exc _ _ => exact h
  | bad => exact h
def SS (G : GA) (X : Cx) (Wx : WX) (st : Stmt) (f : SF) : Prop :=
  ∃ t, PS X st t ∧ ∀ σ H W μ δ D, HR G.fa W μ H → RS G W μ.length H δ σ → PostS G W μ H D Wx (f δ μ) → t D σ H
def SSs (G : GA) (X : Cx) (Wx : WX) (st : List Stmt) (f : SF) : Prop :=
  ∃ t, PSs X st t ∧ ∀ σ H W μ δ D, HR G.fa W μ H → RS G W μ.length H δ σ → PostS G W μ H D Wx (f δ μ) → t D σ H
/-- an expression's value into a statement -/
def evX {α : Type} (f : Sg → Mem → Out α) (k : α → SF) : SF := fun δ μ => match f δ μ with
  | .ok d μ1 => k d δ μ1
  | .exc x μ1 => .ok (.xc x δ) μ1
  | .bad => .bad
section
variable {G : GA} {X : Cx} {Wx : WX} {pos : Pos} {a b e : Expr} {fa fb fe : Sg → Mem → Out D}
theorem PostS.expr {α β : Type} {R : Wo → Nat → Hp → α → β → Prop} {f : Sg → Mem → Out α} {k : α → SF} {W : Wo} {μ : Mem} {H : Hp} {D : Ends} {δ : Sg} {σ : L2.St} {Q : β → Hp → Prop} (hr : HR G.fa W μ H) (rs : RS G W μ.length H δ σ) (h : PostS G W μ H D Wx (evX f k δ μ))
    (c : ∀ d μ1 v W1 H1, Ext W μ.length H W1 μ1.length H1 → HR G.fa W1 μ1 H1 → R W1 μ1.length H1 d v → RS G W1 μ1.length H1 δ σ → PostS G W1 μ1 H1 D Wx (k d δ μ1) → Q v H1) : Post G R W μ H Q (XQ G Wx σ) (f δ μ) := by
  unfold evX at h
  cases e : f δ μ with
  | ok d μ1 =>
    rw [e] at h
    exact fun v W1 H1 x1 hr1 r1 => c d μ1 v W1 H1 x1 hr1 r1 (rs.mono hr x1) (PostS.rebase x1 h)
  | exc x μ1 =>
    rw [e] at h
    exact fun W1 H1 x1 hr1 c dx rx => h W1 H1 x1 hr1 σ (rs.mono hr x1) c dx rx
  | bad => rw [e] at h; exact h
/-! blocks -/
def evSkip : SF := fun δ μ => .ok (.nx δ) μ
def evSeq (f g : SF) : SF := fun δ μ => match f δ μ with
  | .ok (.nx δ1) μ1 => g δ1 μ1
  | o => o
theorem sss_nil : SSs G X Wx [] evSkip := ⟨_, pss_nil, fun σ H W μ δ D hr rs h => h W H .refl hr σ rs⟩
theorem sss_cons {st : Stmt} {rest : List Stmt} {f g : SF} (h1 : SS G X Wx st f) (h2 : SSs G X Wx rest g) : SSs G X Wx (st :: rest) (evSeq f g) := by
  obtain ⟨t1, p1, q1⟩ := h1
  obtain ⟨t2, p2, q2⟩ := h2
  refine ⟨_, pss_cons p1 p2, fun σ H W μ δ D hr rs h => q1 σ H W μ δ _ hr rs ?_⟩
  unfold evSeq at h
  cases e : f δ μ with
  | ok fl μ1 =>
    rw [e] at h
    intro W1 H1 x1 hr1
    cases fl with
    | nx δ1 => exact fun σ1 rs1 => q2 σ1 H1 W1 μ1 δ1 D hr1 rs1 (PostS.rebase x1 h)
    | rt d => exact h W1 H1 x1 hr1
    | bk δ1 => exact h W1 H1 x1 hr1
    | ct δ1 => exact h W1 H1 x1 hr1
    | xc x δ1 => exact h W1 H1 x1 hr1
  | exc _ _ => rw [e] at h; exact h
  | bad => rw [e] at h; exact h
theorem ss_pass : SS G X Wx (.Pass pos) evSkip := ⟨_, ps_pass, fun σ H W μ δ D hr rs h => h W H .refl hr σ rs⟩
theorem ss_break : SS G X Wx (.Break pos) (fun δ μ => .ok (.bk δ) μ) := ⟨_, ps_break, fun σ H W μ δ D hr rs h => h W H .refl hr σ rs⟩
theorem ss_cont : SS G X Wx (.Continue pos) (fun δ μ => .ok (.ct δ) μ) := ⟨_, ps_continue, fun σ H W μ δ D hr rs h => h W H .refl hr σ rs⟩
theorem ss_never {st : Stmt} : SS G X Wx st (fun _ _ => .bad) := ⟨_, ps_never, fun σ H W μ δ D hr rs h => h.elim⟩
theorem ss_expr (ha : SE G X Wx a fa) (hs : swapsWith a none pos.line X.env = pure false) : SS G X Wx (.Expr a pos) (evX fa fun _ => evSkip) := by
  obtain ⟨t, p, q⟩ := ha
  exact ⟨_, ps_expr p hs, fun σ H W μ δ D hr rs h => q σ H W μ δ _ hr rs (PostS.expr hr rs h fun d μ1 v W1 H1 x1 hr1 r1 rs1 h1 => h1 W1 H1 .refl hr1 σ rs1)⟩
theorem ss_ret (ha : SE G X Wx a fa) : SS G X Wx (.Return (some a) pos) (evX fa fun d _ μ => .ok (.rt d) μ) := by
  obtain ⟨t, p, q⟩ := ha
  exact ⟨_, ps_ret p, fun σ H W μ δ D hr rs h => q σ H W μ δ _ hr rs (PostS.expr hr rs h fun d μ1 v W1 H1 x1 hr1 r1 rs1 h1 => h1 W1 H1 .refl hr1 v r1)⟩
theorem ss_retN : SS G X Wx (.Return none pos) (fun _ μ => .ok (.rt .non) μ) := ⟨_, ps_retN, fun σ H W μ δ D hr rs h => h W H .refl hr .non rfl⟩
theorem ss_if {sa sb : List Stmt} {ft : Sg → Mem → Out Bool} {f g : SF} (hc : STt G X Wx a ft) (h1 : SSs G X Wx sa f) (h2 : SSs G X Wx sb g) : SS G X Wx (.If a sa sb pos) (evX ft fun k => if k then f else g) := by
  obtain ⟨tc, pc, qc⟩ := hc
  obtain ⟨t1, p1, q1⟩ := h1
  obtain ⟨t2, p2, q2⟩ := h2
  refine ⟨_, ps_if pc p1 p2, fun σ H W μ δ D hr rs h => qc σ H W μ δ _ hr rs (PostS.expr (R := RB) hr rs h fun k μ1 k' W1 H1 x1 hr1 r1 rs1 h1 => ?_)⟩
  cases (show k = k' from r1)
  cases k with
  | true => exact if_true_of rfl (q1 σ H1 W1 μ1 δ D hr1 rs1 h1)
  | false => exact if_false_of Bool.false_ne_true (q2 σ H1 W1 μ1 δ D hr1 rs1 h1)
/-! stores -/
def evSet (t : Tg) (d : D) : SF := fun δ μ => match asgT t d δ with
  | some δ' => .ok (.nx δ') μ
  | none => .bad
theorem ss_set {i : Nat} {x : Str} {pos' : Pos} (hN : X.N.Nodup) (hi : X.N[i]? = some x) (hx : Loc X.env.scope x) (ha : SE G X Wx a fa) (hs : swapsWith a (some (.Name x pos')) pos.line X.env = pure false) (hf : X.fn x = true ∨ X.env.scope.names.lookup x = some .local) :
    SS G X Wx (.Assign [.Name x pos'] a pos) (evX fa (evSet (.name i))) := by
  obtain ⟨t, p, q⟩ := ha
  exact ⟨_, ps_set hN hi hx p hs hf, fun σ H W μ δ D hr rs h => q σ H W μ δ _ hr rs (PostS.expr hr rs h fun d μ1 v W1 H1 x1 hr1 r1 rs1 h1 => h1 W1 H1 .refl hr1 _ (rs1.set r1 i))⟩
theorem ss_asg {tg : Expr} {t : Tg} (hg : SG G X tg t) (ha : SE G X Wx a fa) (hs : swapsWithSole [tg] a pos.line X.env = pure false) (hw : swappedStores [tg] a X.env = pure none)
    (h1 : (assignEach [tg] X.env).map (·.2) = [assign tg X.env]) : SS G X Wx (.Assign [tg] a pos) (evX fa (evSet t)) := by
  obtain ⟨ta, p, q⟩ := ha
  refine ⟨_, ps_asg p hg hs hw h1, fun σ H W μ δ D hr rs h => q σ H W μ δ _ hr rs (PostS.expr hr rs h fun d μ1 v W1 H1 x1 hr1 r1 rs1 h1 => ?_)⟩
  unfold evSet at h1
  cases e : asgT t d δ with
  | none => simp only [e] at h1; exact h1.elim
  | some δ' =>
    simp only [e] at h1
    exact ⟨W1, μ1, δ, d, δ', hr1, r1, rs1, e, fun σ' rs' _ => h1 W1 H1 .refl hr1 σ' rs'⟩
/-- a, b = x, y -/
def evPar (is : List Nat) (ds : List D) : SF := fun δ μ => match is, ds with
  | [i, j], [d, e] => .ok (.nx ((δ.set i (some d)).set j (some e))) μ
  | [i, j, l], [d, e, f] => .ok (.nx (((δ.set i (some d)).set j (some e)).set l (some f))) μ
  | _, _ => .bad
theorem ss_par2 {i j : Nat} {x y : Str} {fr : Sg → Mem → Out (List D)} {px py pt : Pos} {kt k2 pt2} (hc : X.calm = true) (hN : X.N.Nodup) (hi : X.N[i]? = some x) (hj : X.N[j]? = some y) (hij : i ≠ j)
    (hx : X.env.scope.names.lookup x = some .local) (hy : X.env.scope.names.lookup y = some .local) (ha : SA G X Wx [a, b] fr)
    (hw : swappedStores [.Tuple [.Name x px, .Name y py] kt pt] (.Tuple [a, b] k2 pt2) X.env = pure (some [x, y])) :
    SS G X Wx (.Assign [.Tuple [.Name x px, .Name y py] kt pt] (.Tuple [a, b] k2 pt2) pos) (evX fr (evPar [i, j])) := by
  obtain ⟨t, p, q⟩ := ha
  refine ⟨_, ps_par hc hN hi hj hij hx hy p hw, fun σ H W μ δ D hr rs h => q σ H W μ δ _ hr rs (PostS.expr hr rs h fun ds μ1 vs W1 H1 x1 hr1 r1 rs1 h1 => ?_)⟩
  unfold evPar at h1
  split at h1
  · rename_i e1
    cases e1
    obtain ⟨v, w, rfl, rv, rw'⟩ := rds2 r1
    exact ⟨v, w, rfl, h1 W1 H1 .refl hr1 _ ((rs1.set rv _).set rw' _)⟩
  · rename_i e1; cases e1
  · exact h1.elim
theorem ss_par3 {i j l : Nat} {x y z : Str} {c : Expr} {fr : Sg → Mem → Out (List D)} {px py pz pt : Pos} {kt k2 pt2} (hc : X.calm = true) (hN : X.N.Nodup) (hi : X.N[i]? = some x) (hj : X.N[j]? = some y) (hl : X.N[l]? = some z) (hij : i ≠ j) (hil : i ≠ l) (hjl : j ≠ l)
    (hx : X.env.scope.names.lookup x = some .local) (hy : X.env.scope.names.lookup y = some .local) (hz : X.env.scope.names.lookup z = some .local) (ha : SA G X Wx [a, b, c] fr)
    (hw : swappedStores [.Tuple [.Name x px, .Name y py, .Name z pz] kt pt] (.Tuple [a, b, c] k2 pt2) X.env = pure (some [x, y, z])) :
    SS G X Wx (.Assign [.Tuple [.Name x px, .Name y py, .Name z pz] kt pt] (.Tuple [a, b, c] k2 pt2) pos) (evX fr (evPar [i, j, l])) := by
  obtain ⟨t, p, q⟩ := ha
  refine ⟨_, ps_par3 hc hN hi hj hl hij hil hjl hx hy hz p hw, fun σ H W μ δ D hr rs h => q σ H W μ δ _ hr rs (PostS.expr hr rs h fun ds μ1 vs W1 H1 x1 hr1 r1 rs1 h1 => ?_)⟩
  unfold evPar at h1
  split at h1
  · rename_i e1; cases e1
  · rename_i e1
    cases e1
    obtain ⟨v, ws, rfl, rv, r2⟩ := r1
    obtain ⟨w, u, rfl, rw', ru⟩ := rds2 r2
    exact ⟨v, w, u, rfl, h1 W1 H1 .refl hr1 _ (((rs1.set rv _).set rw' _).set ru _)⟩
  · exact h1.elim
end
end M
namespace M
open PySem PySem.Spec PyProof.Rows L2

/-! ### a[i] = v -/
def setIx (o i v : D) (μ : Mem) : Option Mem := match o with
  | .obj l => match μ[l]? with
    | some (.lst ds) => match i with
      | .int k => match ixN ds.length k with
        | some j => some (μ.set l (.lst (ds.set j v)))
        | none => none
      | _ => none
    | some (.dct tk ks us) => if keyOk tk i && decide (ks.length < 16777216) then some (μ.set l (.dct tk (dputD ks us i v).1 (dputD ks us i v).2)) else none
    | none => none
  | _ => none
def rSetD : TSet := fun o i v H Q => ∃ a H', o = .ref a ∧ DPut H a i v H' ∧ Q H'
section
variable {G : GA} {X : Cx} {Wx : WX} {pos : Pos} {o i e : Expr} {fo fi fe : Sg → Mem → Out D}
theorem PSet.or {t t' : TSet} (h : PSet X t) (h' : PSet X t') : PSet X (fun o i v H Q => t o i v H Q ∨ t' o i v H Q) := by
  intro pins s σ H o i v ov iv u Q I ro ri rv q
  rcases q with q | q
  · exact h pins s σ H o i v ov iv u Q I ro ri rv q
  · exact h' pins s σ H o i v ov iv u Q I ro ri rv q
theorem set_dict (hu : X.A.units + 1 < cLine) : PSet X rSetD := by
  intro pins s σ H o i v ov iv u Q I ro ri rv h
  obtain ⟨a, H', rfl, g, q⟩ := h
  cases ro
  exact d_setItem hu I g ri rv fun s' I' => ⟨H', I', q⟩
theorem RDs.setI {fa : Nat → Option Addr} {W : Wo} {N : Nat} {H : Hp} {d : D} {v : V} (r : RD fa W N H d v) : ∀ {ds : List D} {vs : List V} (j : Nat), RDs fa W N H ds vs → RDs fa W N H (ds.set j d) (vs.set j v)
  | [], vs, j, h => by rw [h]; simp [RDs]
  | a :: ds, vs, 0, h => by obtain ⟨w, ws, e, h1, h2⟩ := h; exact ⟨v, ws, by rw [e]; rfl, r, h2⟩
  | a :: ds, vs, j + 1, h => by obtain ⟨w, ws, e, h1, h2⟩ := h; exact ⟨w, ws.set j v, by rw [e]; rfl, h1, RDs.setI r j h2⟩
theorem setIx_rd {W : Wo} {μ : Mem} {H : Hp} {a b d : D} {x y v : V} {μ' : Mem} (hr : HR G.fa W μ H) (ra : RD G.fa W μ.length H a x) (rb : RD G.fa W μ.length H b y) (rd : RD G.fa W μ.length H d v) (e : setIx a b d μ = some μ') :
    ∃ H', (∀ Q : Hp → Prop, Q H' → rSetL x y v H Q ∨ rSetD x y v H Q) ∧ HR G.fa W μ' H' ∧ Ext W μ.length H W μ'.length H' := by
  unfold setIx at e
  cases a with
  | obj l =>
    simp only at e
    cases e1 : μ[l]? with
    | none => simp [e1] at e
    | some c =>
      have hl := (List.getElem?_eq_some_iff.mp e1).1
      cases c with
      | lst ds =>
        simp only [e1] at e
        cases b with
        | int k =>
          simp only at e
          cases e2 : ixN ds.length k with
          | none => simp [e2] at e
          | some j =>
            simp only [e2] at e
            cases e
            obtain ⟨ws, h1, r1⟩ := hr.cells l _ e1
            have hF := hr.own l hl
            have ht : ∀ xs, H (W.φ l) ≠ some (.tup xs) := fun xs z => by rw [h1] at z; cases z
            have m := mut_cell hr hl (o := .lst (ws.set j v)) (c := .lst (ds.set j d)) ⟨_, upd_same, RDs.setI (RD.updF hF ht _ _ rd) j (RDs.updF hF ht _ _ r1)⟩
            exact ⟨_, fun Q q => .inl ⟨_, ws, k, j, ra.2, rb, h1, by rw [r1.length]; exact e2, q⟩, m.1, m.2⟩
        | _ => cases e
      | dct tk ks us =>
        simp only [e1] at e
        split at e
        · rename_i ok
          rw [Bool.and_eq_true, decide_eq_true_eq] at ok
          cases e
          obtain ⟨H', g, h1, h2⟩ := dput_rd hr e1 rb rd ok.1 ok.2
          exact ⟨H', fun Q q => .inr ⟨_, H', ra.2, g, q⟩, h1, h2⟩
        · cases e
  | _ => cases e
def evSetIx (o i v : D) : SF := fun δ μ => match setIx o i v μ with
  | some μ' => .ok (.nx δ) μ'
  | none => .bad
theorem ss_sub {pos' : Pos} (hu : X.A.units + 1 < cLine) (ho : SE G X Wx o fo) (hi : SE G X Wx i fi) (he : SE G X Wx e fe)
    (hta : ∀ v, assign (.Subscript o i pos') X.env v = (do
      let ov ← holding [v] (eval o X.env)
      let iv ← holding [v, ov] (eval i X.env)
      standAt pos'
      holding [v, ov, iv] (setItem ov iv v)
      release [v, ov, iv] [])) :
    SS G X Wx (.Assign [.Subscript o i pos'] e pos) (evX fe fun v => evX fo fun a => evX fi fun b => evSetIx a b v) := by
  obtain ⟨to, po, qo⟩ := ho
  obtain ⟨ti, pi, qi⟩ := hi
  obtain ⟨te, pe, qe⟩ := he
  have hsw : swapsWithSole [.Subscript o i pos'] e pos.line X.env = pure false := by
    show swapsWith e (some (.Subscript o i pos')) pos.line X.env = pure false
    unfold swapsWith
    cases e <;> rfl
  refine ⟨_, ps_asg pe (pg_sub po pi (PSet.or set_list (set_dict hu)) hta) hsw, fun σ H W μ δ D hr rs h => ?_⟩
  refine qe σ H W μ δ _ hr rs (PostS.expr hr rs h fun v μ1 z W1 H1 x1 hr1 r1 rs1 h1 => ?_)
  refine qo σ H1 W1 μ1 δ _ hr1 rs1 (PostS.expr hr1 rs1 h1 fun a μ2 x W2 H2 x2 hr2 r2 rs2 h2 => ?_)
  refine qi σ H2 W2 μ2 δ _ hr2 rs2 (PostS.expr hr2 rs2 h2 fun b μ3 y W3 H3 x3 hr3 r3 rs3 h3 => ?_)
  unfold evSetIx at h3
  cases e1 : setIx a b v μ3 with
  | none => simp only [e1] at h3; exact h3.elim
  | some μ4 =>
    simp only [e1] at h3
    obtain ⟨H4, k, hr4, x4⟩ := setIx_rd hr3 (RD.mono hr2 x3 a x r2) r3 (RD.mono hr2 x3 v z (RD.mono hr1 x2 v z r1)) e1
    exact k _ (h3 W3 H4 x4 hr4 σ (rs3.mono hr3 x4))

/-! ### x += e -/
def AugS (G : GA) (X : Cx) (op : Operator) (g : D → D → Mem → Option (D × Mem)) : Prop :=
  ∃ t, PIp X op t ∧ ∀ a b d μ' x y W μ H (Q : VK), HR G.fa W μ H → RD G.fa W μ.length H a x → RD G.fa W μ.length H b y → g a b μ = some (d, μ') →
    (∀ v W' H', Ext W μ.length H W' μ'.length H' → HR G.fa W' μ' H' → RD G.fa W' μ'.length H' d v → Q v H') → t x y H Q
/-- list += list, the left one an object of one's own -/
def rExtR : R2 := fun x y H Q => ∃ l b xs zs, x = .ref l ∧ y = .ref b ∧ H l = some (.lst xs) ∧ Rd H b (.lst zs) ∧ xs.length + zs.length ≤ sizeLine ∧ Q (.ref l) (upd H l (.lst (xs ++ zs)))
theorem iop_extR : OpR X (inplaceOp .Add) rExtR := by
  intro pins s σ H x y v u Q I rx ry h
  obtain ⟨l, b, xs, zs, rfl, rfl, hH, hB, hz, q⟩ := h
  cases rx
  cases ry
  obtain ⟨z, its, n, r, hl, e⟩ := I.lstM hH
  obtain ⟨z2, its2, n2, r2, e2⟩ := hB.ok I.hok
  have hl1 := r.length
  have hl2 := r2.length
  have hsz : its.toArray.size + its2.toArray.size ≤ sizeLine := by rw [List.size_toArray, List.size_toArray]; omega
  have hlong : ¬ (!its.toArray.isEmpty && Builtin.List.listTooLong (its.toArray.size + its2.toArray.size)) = true := by
    rw [notLongL hsz, Bool.and_false]
    exact Bool.false_ne_true
  refine iadd_road ⟨_, e, rfl⟩ ⟨_, e2, rfl⟩ (call_meets PySem.F.slot_list_iadd ⟨_, e, rfl⟩ PySem.F.entry_list_iadd (PySem.F.args_list_iadd_2 _ _)
    (AutoSeq1.list___iadd___list_list_0 l its.toArray n b its2.toArray n2 hlong (by first | omega | (simp only [List.size_toArray]; omega)) (by first | omega | (simp only [List.size_toArray]; omega))) ⟨e, e2, ?_⟩)
  refine ⟨.ref l, _, I.lset (its' := its ++ its2) (t' := s.toks) hH e (by simp) (r.append r2) ?_, rfl, q⟩
  rw [List.length_append]
  omega
def extD (a b : D) (μ : Mem) : Option (D × Mem) := match a with
  | .obj l => match μ[l]? with
    | some (.lst es) => match seqL μ b with
      | some fs => if es.length + fs.length ≤ 16777216 then some (.obj l, μ.set l (.lst (es ++ fs))) else none
      | none => none
    | _ => none
  | _ => none
def augAdd (a b : D) (μ : Mem) : Option (D × Mem) := match a, b with
  | .int i, .int j => some (.int (i + j), μ)
  | .str x, .str y => if x.length + y.length ≤ sizeLine then some (.str (x ++ y), μ) else none
  | a, b => extD a b μ
def augI (f : Int → Int → Int) (a b : D) (μ : Mem) : Option (D × Mem) := match a, b with
  | .int i, .int j => some (.int (f i j), μ)
  | _, _ => none
theorem aug_sub : AugS G X .Sub (augI fun i j => i - j) := by
  refine ⟨_, ip_sub, fun a b d μ' x y W μ H Q hr ra rb e q => ?_⟩
  cases a with
  | int i =>
    cases b with
    | int j => cases e; exact ⟨i, j, ra, rb, q _ W H .refl hr rfl⟩
    | _ => cases e
  | _ => cases e
theorem aug_add : AugS G X .Add augAdd := by
  refine ⟨_, (iop_add.or iop_add_str).or iop_extR, fun a b d μ' x y W μ H Q hr ra rb e q => ?_⟩
  have lists : extD a b μ = some (d, μ') → rExtR x y H Q := fun e => by
    unfold extD at e
    split at e
    · rename_i l _
      cases e1 : μ[l]? with
      | none => simp [e1] at e
      | some c =>
        cases c with
        | dct _ _ _ => simp [e1] at e
        | lst es =>
          simp only [e1] at e
          cases e2 : seqL μ b with
          | none => simp [e2] at e
          | some fs =>
            simp only [e2] at e
            split at e
            · rename_i hz
              cases e
              have hl := (List.getElem?_eq_some_iff.mp e1).1
              obtain ⟨ws, h1, r1⟩ := hr.cells l _ e1
              obtain ⟨p2, vs2, x2, h2, r2⟩ := seqL_rd hr rb e2
              have hF := hr.own l hl
              have ht : ∀ xs, H (W.φ l) ≠ some (.tup xs) := fun xs z => by rw [h1] at z; cases z
              have m := mut_cell hr hl (o := .lst (ws ++ vs2)) (c := .lst (es ++ fs)) ⟨_, upd_same, (RDs.updF hF ht _ _ r1).append (RDs.updF hF ht _ _ r2)⟩
              exact ⟨_, p2, ws, vs2, ra.2, x2, h1, h2, by rw [r1.length, r2.length, sizeLine_eq]; exact hz, q (.ref (W.φ l)) W _ m.2 m.1 ⟨by rw [List.length_set]; exact hl, rfl⟩⟩
            · cases e
    · cases e
  cases a with
  | int i =>
    cases b with
    | int j => cases e; exact .inl (.inl ⟨i, j, ra, rb, q _ W H .refl hr rfl⟩)
    | _ => exact .inr (lists e)
  | str i =>
    cases b with
    | str j =>
      simp only [augAdd] at e
      split at e
      · rename_i hz
        cases e
        exact .inl (.inr ⟨i, j, ra, rb, hz, q _ W H .refl hr rfl⟩)
      · cases e
    | _ => exact .inr (lists e)
  | _ => exact .inr (lists (by cases b <;> exact e))
def evAug (i : Nat) (g : D → D → Mem → Option (D × Mem)) (fe : Sg → Mem → Out D) : SF := fun δ μ => match δ[i]? with
  | some (some a) => evX fe (fun b δ μ1 => match g a b μ1 with
    | some (d, μ2) => .ok (.nx (δ.set i (some d))) μ2
    | none => .bad) δ μ
  | _ => .bad
theorem ss_aug {j : Nat} {x : Str} {pos' : Pos} {op : Operator} {g : D → D → Mem → Option (D × Mem)} (hN : X.N.Nodup) (hi : X.N[j]? = some x) (hx : Loc X.env.scope x) (ha : AugS G X op g) (he : SE G X Wx e fe) (hf : X.fn x = true ∨ X.env.scope.names.lookup x = some .local) :
    SS G X Wx (.AugAssign (.Name x pos') op e pos) (evAug j g fe) := by
  obtain ⟨t, pt, qt⟩ := ha
  obtain ⟨te, pe, qe⟩ := he
  refine ⟨_, ps_aug hN hi hx pe pt hf, fun σ H W μ δ D hr rs h => ?_⟩
  unfold evAug at h
  cases e0 : δ[j]? with
  | none => simp only [e0] at h; exact h.elim
  | some oo =>
    cases oo with
    | none => simp only [e0] at h; exact h.elim
    | some a =>
      simp only [e0] at h
      obtain ⟨x0, ex, r0⟩ := rs.2 j a e0
      refine ⟨x0, ex, qe σ H W μ δ _ hr rs (PostS.expr hr rs h fun b μ1 y W1 H1 x1 hr1 r1 rs1 h1 => ?_)⟩
      cases e1 : g a b μ1 with
      | none => simp only [e1] at h1; exact h1.elim
      | some p =>
        obtain ⟨d, μ2⟩ := p
        simp only [e1] at h1
        exact qt a b d μ2 x0 y W1 μ1 H1 _ hr1 (RD.mono hr x1 a x0 r0) r1 e1 fun v W2 H2 x2 hr2 r2 => h1 W2 H2 x2 hr2 _ ((rs1.mono hr1 x2).set r2 j)
/-! a[i] += e -/
def rGetL (K : PySem.W.Frag) : V → V → Hp → VK → Prop := rIxL K
theorem get_list : PGet X (rIxL X.K) := by
  intro pins s σ H x y v u Q I rx ry h
  obtain ⟨p, xs, i, z, rfl, rfl, hq, he, q⟩ := h
  cases rx
  obtain ⟨t, rfl⟩ := ry
  obtain ⟨its, r, pl, hz⟩ := I.list hq
  obtain ⟨j, h1, h2, h3, h4, h5⟩ := atI_get he
  obtain ⟨w, ew, rw'⟩ := r.get h2
  have hl := r.length
  have hn := line63
  have fin : EP X pins σ Q w s := ⟨z, H, I, rw', q⟩
  by_cases h0 : 0 ≤ i
  · have hj : i.toNat = j := by
      rw [seqIndex_of h0 h5] at h1
      exact Option.some.inj h1
    exact wpAny_getItem_list pl.isList h0 (by omega) (by rw [hj]; simpa using ew) fin
  · have hj : (i + (its.toArray.size : Int)).toNat = j := by
      rw [seqIndex_neg (by omega) h4] at h1
      rw [List.size_toArray, ← hl]
      exact Option.some.inj h1
    exact wpAny_getItem_list_neg pl.isList (by omega) (by rw [List.size_toArray] <;> omega) (by omega) (by rw [hj]; simpa using ew) fin
theorem get_dict (hu : X.A.units + 1 < cLine) : PGet X rIxD := by
  intro pins s σ H x y v u Q I rx ry h
  obtain ⟨a, z, rfl, g, q⟩ := h
  cases rx
  exact d_getItem hu I g ry fun w' s3 I3 rw' => ⟨z, H, I3, rw', q⟩
theorem PGet.or {t t' : V → V → Hp → VK → Prop} (h : PGet X t) (h' : PGet X t') : PGet X (fun o i H Q => t o i H Q ∨ t' o i H Q) := by
  intro pins s σ H o i ov iv Q I ro ri q
  rcases q with q | q
  · exact h pins s σ H o i ov iv Q I ro ri q
  · exact h' pins s σ H o i ov iv Q I ro ri q
def getL (a b : D) (μ : Mem) : Option D := match dctOf μ a with
  | some (tk, ks, us) => if keyOk tk b then dgetD ks us b else none
  | none => match seqL μ a, b with
    | some ds, .int i => atI ds i
    | _, _ => none
theorem getL_rd {W : Wo} {μ : Mem} {H : Hp} {a b d : D} {x y : V} (hr : HR G.fa W μ H) (ra : RD G.fa W μ.length H a x) (rb : RD G.fa W μ.length H b y) (e : getL a b μ = some d) :
    ∃ v, RD G.fa W μ.length H d v ∧ ∀ Q : VK, Q v H → rIxL X.K x y H Q ∨ rIxD x y H Q := by
  unfold getL at e
  cases e1 : dctOf μ a with
  | none =>
    simp only [e1] at e
    split at e
    · rename_i ds i e2
      obtain ⟨p, vs, e3, h1, r1⟩ := seqL_rd hr ra e2
      obtain ⟨v, e4, r4⟩ := atI_rd r1 e
      exact ⟨v, r4, fun Q q => .inl ⟨p, vs, i, v, e3, rb, .inl h1, e4, q⟩⟩
    · cases e
  | some t =>
    obtain ⟨tk, ks, us⟩ := t
    simp only [e1] at e
    split at e
    · rename_i ok
      obtain ⟨p, vs, rfl, h1, r1⟩ := dctOf_rd hr ra e1
      obtain ⟨o, g, i1, _⟩ := dget_rd h1 r1 rb ok
      obtain ⟨v, rfl, rv⟩ := i1 d e
      exact ⟨v, rv, fun Q q => .inr ⟨p, v, rfl, g, q⟩⟩
    · cases e
def evAugS (g : D → D → Mem → Option (D × Mem)) (fo fi fe : Sg → Mem → Out D) : SF := evX fo fun a => evX fi fun b => fun δ μ => match getL a b μ with
  | some c => evX fe (fun d δ μ1 => match g c d μ1 with
    | some (z, μ2) => evSetIx a b z δ μ2
    | none => .bad) δ μ
  | none => .bad
theorem ss_augS {tpos : Pos} {op : Operator} {g : D → D → Mem → Option (D × Mem)} (hu : X.A.units + 1 < cLine) (ho : SE G X Wx o fo) (hi : SE G X Wx i fi) (ha : AugS G X op g) (he : SE G X Wx e fe)
    (hst : ∀ ov iv new, augStore i ov iv new = (do holding [new, ov, iv] (setItem ov iv new); release [new, ov, iv] []; pure .next)) :
    SS G X Wx (.AugAssign (.Subscript o i tpos) op e pos) (evAugS g fo fi fe) := by
  obtain ⟨t, pt, qt⟩ := ha
  obtain ⟨to, po, qo⟩ := ho
  obtain ⟨ti, pi, qi⟩ := hi
  obtain ⟨te, pe, qe⟩ := he
  refine ⟨_, ps_augS po pi (PGet.or get_list (get_dict hu)) pe pt (PSet.or set_list (set_dict hu)) hst, fun σ H W μ δ D hr rs h => ?_⟩
  refine qo σ H W μ δ _ hr rs (PostS.expr hr rs h fun a μ1 x W1 H1 x1 hr1 r1 rs1 h1 => ?_)
  refine qi σ H1 W1 μ1 δ _ hr1 rs1 (PostS.expr hr1 rs1 h1 fun b μ2 y W2 H2 x2 hr2 r2 rs2 h2 => ?_)
  have ra := RD.mono hr1 x2 a x r1
  cases e1 : getL a b μ2 with
  | none => simp only [e1] at h2; exact h2.elim
  | some c =>
    simp only [e1] at h2
    obtain ⟨z, rz, k⟩ := getL_rd (X := X) hr2 ra r2 e1
    refine k _ (qe σ H2 W2 μ2 δ _ hr2 rs2 (PostS.expr hr2 rs2 h2 fun d μ3 w W3 H3 x3 hr3 r3 rs3 h3 => ?_))
    cases e2 : g c d μ3 with
    | none => simp only [e2] at h3; exact h3.elim
    | some p =>
      obtain ⟨u, μ4⟩ := p
      simp only [e2] at h3
      refine qt c d u μ4 z w W3 μ3 H3 _ hr3 (RD.mono hr2 x3 c z rz) r3 e2 fun v W4 H4 x4 hr4 r4 => ?_
      have h4 := PostS.rebase x4 h3
      unfold evSetIx at h4
      cases e3 : setIx a b u μ4 with
      | none => simp only [e3] at h4; exact h4.elim
      | some μ5 =>
        simp only [e3] at h4
        obtain ⟨H5, kk, hr5, x5⟩ := setIx_rd hr4 (RD.mono hr3 x4 a x (RD.mono hr2 x3 a x ra)) (RD.mono hr3 x4 b y (RD.mono hr2 x3 b y r2)) r4 e3
        exact kk _ (h4 W4 H5 x5 hr5 σ ((rs3.mono hr3 x4).mono hr4 x5))
end
end M
namespace M
open PySem PySem.Spec PyProof.Rows L2

/-! ### loops -/
def evWhile (ft : Sg → Mem → Out Bool) (f : SF) : Nat → SF
  | 0 => fun _ _ => .bad
  | n + 1 => evX ft fun k => if k then (fun δ μ => match f δ μ with
      | .ok (.nx δ1) μ1 => evWhile ft f n δ1 μ1
      | .ok (.ct δ1) μ1 => evWhile ft f n δ1 μ1
      | .ok (.bk δ1) μ1 => .ok (.nx δ1) μ1
      | o => o) else evSkip
def evFor (gd : List (Nat × List D)) (t : Tg) (f : SF) : List D → SF
  | [] => fun δ μ => if gOk μ gd then .ok (.nx δ) μ else .bad
  | d :: r => fun δ μ => if gOk μ gd then match asgT t d δ with
      | some δ1 => match f δ1 μ with
        | .ok (.nx δ2) μ2 => evFor gd t f r δ2 μ2
        | .ok (.ct δ2) μ2 => evFor gd t f r δ2 μ2
        | .ok (.bk δ2) μ2 => .ok (.nx δ2) μ2
        | o => o
      | none => .bad
    else .bad
def evForS (src : Sg → Mem → Out Src) (t : Tg) (f : SF) : SF := evX src fun s => evFor s.gd t f s.items
section
variable {G : GA} {X : Cx} {Wx : WX} {pos : Pos} {a : Expr}
theorem ss_while {body : List Stmt} {ft : Sg → Mem → Out Bool} {f : SF} (n : Nat) (hp : PassesOwn (model X.prog X.w) X.A X.env X.xe) (hc : STt G X Wx a ft) (hb : SSs G X Wx body f) : SS G X Wx (.While a body [] pos) (evWhile ft f n) := by
  obtain ⟨tc, pc, qc⟩ := hc
  obtain ⟨tb, pb, qb⟩ := hb
  refine ⟨_, ps_while hp pc pb, fun σ H W μ δ D hr rs h => ?_⟩
  refine ⟨fun m σ H => ∃ W μ δ, HR G.fa W μ H ∧ RS G W μ.length H δ σ ∧ PostS G W μ H D Wx (evWhile ft f m δ μ), ⟨n, W, μ, δ, hr, rs, h⟩, ?_⟩
  rintro m σ1 H1 ⟨W1, μ1, δ1, hr1, rs1, h1⟩
  cases m with
  | zero => exact h1.elim
  | succ m =>
    unfold evWhile at h1
    refine qc σ1 H1 W1 μ1 δ1 _ hr1 rs1 (PostS.expr (R := RB) hr1 rs1 h1 fun k μ2 k' W2 H2 x2 hr2 r2 rs2 h2 => ?_)
    cases (show k = k' from r2)
    cases k with
    | false => exact if_false_of Bool.false_ne_true (h2 W2 H2 .refl hr2 σ1 rs2)
    | true =>
      refine if_true_of rfl ⟨fun σ3 H3 => ∃ W μ δ, HR G.fa W μ H3 ∧ RS G W μ.length H3 δ σ3 ∧ PostS G W μ H3 D Wx (evWhile ft f m δ μ), fun σ' H' q => ⟨m, Nat.lt_succ_self _, q⟩, ?_⟩
      refine qb σ1 H2 W2 μ2 δ1 _ hr2 rs2 ?_
      rw [if_pos rfl] at h2
      cases e : f δ1 μ2 with
      | ok fl μ3 =>
        rw [e] at h2
        intro W3 H3 x3 hr3
        cases fl with
        | nx δ3 => exact fun σ3 rs3 => ⟨W3, μ3, δ3, hr3, rs3, PostS.rebase x3 h2⟩
        | ct δ3 => exact fun σ3 rs3 => ⟨W3, μ3, δ3, hr3, rs3, PostS.rebase x3 h2⟩
        | bk δ3 => exact h2 W3 H3 x3 hr3
        | rt d => exact h2 W3 H3 x3 hr3
        | xc x δ3 => exact h2 W3 H3 x3 hr3
      | exc _ _ => rw [e] at h2; exact h2
      | bad => rw [e] at h2; exact h2
theorem ss_for {tg iter : Expr} {body : List Stmt} {src : Sg → Mem → Out Src} {t : Tg} {f : SF} (hp : PassesOwn (model X.prog X.w) X.A X.env X.xe) (hc : X.calm = true) (hi : SI G X Wx tg iter src) (hg : SG G X tg t) (hb : SSs G X Wx body f)
    (hs : ∀ x, foldedSetIterable iter X.env x = pure x) : SS G X Wx (.For tg iter body [] pos) (evForS src t f) := by
  obtain ⟨wi, pi, qi⟩ := hi
  obtain ⟨tb, pb, qb⟩ := hb
  refine ⟨_, ps_for hp hc pi hg pb hs, fun σ H W μ δ D hr rs h => ?_⟩
  refine qi σ H W μ δ _ hr rs (PostS.expr (R := fun W' n' H' s J => Yields G W' n' H' J s) hr rs h fun s μ1 J W1 H1 x1 hr1 yl rs1 h1 => ?_)
  refine ⟨fun i m σ H' => m = s.items.length - i ∧ i ≤ s.items.length ∧ ∃ W' μ' δ', Ext W1 μ1.length H1 W' μ'.length H' ∧ HR G.fa W' μ' H' ∧ RS G W' μ'.length H' δ' σ ∧ PostS G W' μ' H' D Wx (evFor s.gd t f (s.items.drop i) δ' μ'),
    ⟨_, rfl, Nat.zero_le _, W1, μ1, δ, .refl, hr1, rs1, by simpa using h1⟩, ?_⟩
  rintro i m σ2 H2 ⟨rfl, hi, W2, μ2, δ2, x2, hr2, rs2, h2⟩
  have gk : gOk μ2 s.gd = true := by
    cases q : s.items.drop i with
    | nil =>
      rw [q] at h2
      unfold evFor at h2
      split at h2
      · assumption
      · exact h2.elim
    | cons d r =>
      rw [q] at h2
      unfold evFor at h2
      split at h2
      · assumption
      · exact h2.elim
  have yi := yl W2 μ2 H2 x2 hr2 gk i
  by_cases hlt : i < s.items.length
  · have ed : s.items[i]? = some s.items[i] := List.getElem?_eq_getElem hlt
    obtain ⟨go, yld⟩ := yi.1 _ ed
    have edrop : s.items.drop i = s.items[i] :: s.items.drop (i + 1) := List.drop_eq_getElem_cons hlt
    rw [edrop] at h2
    unfold evFor at h2
    rw [if_pos gk] at h2
    refine .inr ⟨go, fun σ' H' => i + 1 ≤ s.items.length ∧ ∃ W' μ' δ', Ext W1 μ1.length H1 W' μ'.length H' ∧ HR G.fa W' μ' H' ∧ RS G W' μ'.length H' δ' σ' ∧ PostS G W' μ' H' D Wx (evFor s.gd t f (s.items.drop (i + 1)) δ' μ'),
      fun σ' H' q => ⟨s.items.length - (i + 1), by omega, rfl, q⟩, fun x H3 hy => ?_⟩
    obtain ⟨x3, hr3, rd3⟩ := yld x H3 hy
    cases ea : asgT t s.items[i] δ2 with
    | none => simp only [ea] at h2; exact h2.elim
    | some δ3 =>
      simp only [ea] at h2
      refine ⟨W2, μ2, δ2, s.items[i], δ3, hr3, rd3, rs2.mono hr2 x3, ea, fun σ3 rs3 _ => ?_⟩
      refine qb σ3 H3 W2 μ2 δ3 _ hr3 rs3 ?_
      have h3 := PostS.rebase x3 h2
      cases e : f δ3 μ2 with
      | ok fl μ4 =>
        rw [e] at h3
        intro W4 H4 x4 hr4
        cases fl with
        | nx δ4 => exact fun σ4 rs4 => ⟨hlt, W4, μ4, δ4, (x2.trans x3).trans x4, hr4, rs4, PostS.rebase x4 h3⟩
        | ct δ4 => exact fun σ4 rs4 => ⟨hlt, W4, μ4, δ4, (x2.trans x3).trans x4, hr4, rs4, PostS.rebase x4 h3⟩
        | bk δ4 => exact h3 W4 H4 x4 hr4
        | rt d => exact h3 W4 H4 x4 hr4
        | xc x δ4 => exact h3 W4 H4 x4 hr4
      | exc _ _ => rw [e] at h3; exact h3
      | bad => rw [e] at h3; exact h3
  · have e : i = s.items.length := by omega
    subst e
    rw [List.drop_length] at h2
    unfold evFor at h2
    rw [if_pos gk] at h2
    exact .inl ⟨yi.2 (Nat.le_refl _), h2 W2 H2 .refl hr2 σ2 rs2⟩

/-! ### name = [..], name = {..} on one line -/
theorem ss_setLc {mu : Bool} {i : Nat} {y : Str} {py spos : Pos} {elt tg iter : Expr} {ifs : List Expr} {scope : Scope} {own : List (Str × Nat)} {src : Sg → Mem → Out Src} {t : Tg} {ft : Sg → Mem → Out Bool} {fe : Sg → Mem → Out D} (hc : X.calm = true) (hN : X.N.Nodup)
    (hy : X.N[i]? = some y) (hyl : X.env.scope.names.lookup y = some .local) (hsw : swapsWith (.ListComp elt [⟨tg, iter, ifs, 0⟩] scope pos) (some (.Name y py)) spos.line X.env = pure true) (hi : SI G X Wx tg iter src) (ok : BlkOk X.N X.env.scope scope own)
    (hg : ∀ (s : Shared) (H : Hp) (C : Addr) (cl : List (Str × Addr)) (fp : List Addr), SG G (X.blk s H scope (compEnvC scope cl C X.env) fp) tg t)
    (ht : ∀ (s : Shared) (H : Hp) (C : Addr) (cl : List (Str × Addr)) (fp : List Addr), PTs (X.blk s H scope (compEnvC scope cl C X.env) fp) ifs (bSem G Wx0 ft))
    (he : ∀ (s : Shared) (H : Hp) (C : Addr) (cl : List (Str × Addr)) (fp : List Addr), SE G (X.blk s H scope (compEnvC scope cl C X.env) fp) Wx0 elt fe)
    (hs : ∀ x, foldedSetIterable iter X.env x = pure x) (hsub : ∀ i ∈ slotsT t, i ∈ own.map (·.2)) :
    SS G X Wx (.Assign [.Name y py] (.ListComp elt [⟨tg, iter, ifs, 0⟩] scope pos) spos) (evX (evLc mu src t ft fe (own.map (·.2))) (evSet (.name i))) := by
  obtain ⟨wi, pi, qi⟩ := hi
  refine ⟨_, ps_setLc hc hN hy hyl hsw pi ok hg ht (fun s H C cl fp => (he s H C cl fp).pe) hs, fun σ H W μ δ D hr rs h => ?_⟩
  exact lc_of (Wx := Wx) hsub qi hr rs (PostS.expr hr rs h fun d μ1 v W1 H1 x1 hr1 r1 rs1 h1 => h1 W1 H1 .refl hr1 _ (rs1.set r1 i))
theorem ps_setDc {i : Nat} {y : Str} {py : Pos} {kx vx tg iter : Expr} {ifs : List Expr} {scope : Scope} {own : List (Str × Nat)} {spos : Pos} {wi : TI} {g : TG} {tt : TT} {tk tv : TE} (hc : X.calm = true) (hN : X.N.Nodup) (hy : X.N[i]? = some y) (hyl : X.env.scope.names.lookup y = some .local)
    (hsw : swapsWith (.DictComp kx vx [⟨tg, iter, ifs, 0⟩] scope pos) (some (.Name y py)) spos.line X.env = pure true) (hi : PI X tg iter wi) (ok : BlkOk X.N X.env.scope scope own)
    (hg : ∀ (s : Shared) (H : Hp) (C : Addr) (cl : List (Str × Addr)) (fp : List Addr), PG (X.blk s H scope (compEnvC scope cl C X.env) fp) tg g) (ht : ∀ (s : Shared) (H : Hp) (C : Addr) (cl : List (Str × Addr)) (fp : List Addr), PTs (X.blk s H scope (compEnvC scope cl C X.env) fp) ifs tt)
    (hk : ∀ (s : Shared) (H : Hp) (C : Addr) (cl : List (Str × Addr)) (fp : List Addr), PE (X.blk s H scope (compEnvC scope cl C X.env) fp) kx tk)
    (he : ∀ (s : Shared) (H : Hp) (C : Addr) (cl : List (Str × Addr)) (fp : List Addr), PE (X.blk s H scope (compEnvC scope cl C X.env) fp) vx tv) (hs : ∀ x, foldedSetIterable iter X.env x = pure x) :
    PS X (.Assign [.Name y py] (.DictComp kx vx [⟨tg, iter, ifs, 0⟩] scope pos) spos) (tAsg (tDc wi g tt tk tv (own.map (·.2))) (gName i)) := by
  refine ⟨fun pins s σ H D I h => ?_⟩
  rw [exec_Assign_Name_used _ _ _ _ hsw]
  refine wpAny_bind (wpAny_standAt (wpAny_bind ?_))
  show wpAny _ X.A (do let _ ← comprehension (.DictComp kx vx [⟨tg, iter, ifs, 0⟩] scope pos) scope X.env (firstIterPos [⟨tg, iter, ifs, 0⟩] pos) newDict false (eval iter X.env) (some (assign (.Name y py) X.env))) _ _ s
  have h : tDc wi g tt tk tv (own.map (·.2)) σ H (fun x H1 => gName i x σ H1 D.nx) := h
  refine wpAny_bind (thn (dc_core (Qf := fun _ s' => SP X pins D .next s') hc hN I hi ok hg ht hk he hs h fun L C s' m H' I' q hn f => ?_) fun _ s' hq => wpAny_pure (wpAny_pure hq))
  show wpAny _ _ (assign (.Name y py) X.env (.ref L)) _ _ _
  refine wpAny_assign_Name (store_ok2 (v := V.ref L) I' hN hy (.inl hyl) rfl (fun s2 I2 ⟨a, sb, ha⟩ => ?_) (.inr hyl))
  obtain ⟨f0, f1, f2, f3, f4, f5⟩ := f
  have haC : C ≠ a := by
    rcases ha with z | z
    · rw [z]; exact f1
    · exact fun e => f4 y a z e.symm
  refine ⟨m, hn.sameBut sb haC, fun h3 sb3 => ?_⟩
  exact ⟨_, H', I2.turned (t' := s2.toks) (fun b o hb e => (sb3.2 b hb).trans e) f0 f1 f3 f4 f5, q⟩
theorem ss_setDc {mu : Bool} {i : Nat} {y : Str} {py spos : Pos} {kx vx tg iter : Expr} {ifs : List Expr} {scope : Scope} {own : List (Str × Nat)} {src : Sg → Mem → Out Src} {t : Tg} {ft : Sg → Mem → Out Bool} {fk fv : Sg → Mem → Out D} (hc : X.calm = true) (hN : X.N.Nodup)
    (hy : X.N[i]? = some y) (hyl : X.env.scope.names.lookup y = some .local) (hsw : swapsWith (.DictComp kx vx [⟨tg, iter, ifs, 0⟩] scope pos) (some (.Name y py)) spos.line X.env = pure true) (hi : SI G X Wx tg iter src) (ok : BlkOk X.N X.env.scope scope own)
    (hg : ∀ (s : Shared) (H : Hp) (C : Addr) (cl : List (Str × Addr)) (fp : List Addr), SG G (X.blk s H scope (compEnvC scope cl C X.env) fp) tg t)
    (ht : ∀ (s : Shared) (H : Hp) (C : Addr) (cl : List (Str × Addr)) (fp : List Addr), PTs (X.blk s H scope (compEnvC scope cl C X.env) fp) ifs (bSem G Wx0 ft))
    (hk : ∀ (s : Shared) (H : Hp) (C : Addr) (cl : List (Str × Addr)) (fp : List Addr), SE G (X.blk s H scope (compEnvC scope cl C X.env) fp) Wx0 kx fk)
    (he : ∀ (s : Shared) (H : Hp) (C : Addr) (cl : List (Str × Addr)) (fp : List Addr), SE G (X.blk s H scope (compEnvC scope cl C X.env) fp) Wx0 vx fv)
    (hs : ∀ x, foldedSetIterable iter X.env x = pure x) (hsub : ∀ i ∈ slotsT t, i ∈ own.map (·.2)) :
    SS G X Wx (.Assign [.Name y py] (.DictComp kx vx [⟨tg, iter, ifs, 0⟩] scope pos) spos) (evX (evDc mu src t ft fk fv (own.map (·.2))) (evSet (.name i))) := by
  obtain ⟨wi, pi, qi⟩ := hi
  refine ⟨_, ps_setDc hc hN hy hyl hsw pi ok hg ht (fun s H C cl fp => (hk s H C cl fp).pe) (fun s H C cl fp => (he s H C cl fp).pe) hs, fun σ H W μ δ D hr rs h => ?_⟩
  exact dc_of (Wx := Wx) hsub qi hr rs (PostS.expr hr rs h fun d μ1 v W1 H1 x1 hr1 r1 rs1 h1 => h1 W1 H1 .refl hr1 _ (rs1.set r1 i))
end

/-! ### dict(pairs): an object of one's own -/
def mergeD : List D → List D → List D → Option (List D × List D)
  | ks, us, [] => some (ks, us)
  | ks, us, .tup [k, v] :: r => if (keyK k).isSome then mergeD (dputD ks us k v).1 (dputD ks us k v).2 r else none
  | _, _, _ => none
def CallM (G : GA) (X : Cx) (f : Value) (g : List D → Mem → Option Cell) : Prop :=
  ∃ r, CallR X f r ∧ ∀ ds c vs W μ H (Q : VK), HR G.fa W μ H → RDs G.fa W μ.length H ds vs → g ds μ = some c →
    (∀ v W' H', Ext W μ.length H W' (μ ++ [c]).length H' → HR G.fa W' (μ ++ [c]) H' → RD G.fa W' (μ ++ [c]).length H' (.obj μ.length) v → Q v H') → r vs H Q
def evBltM (g : List D → Mem → Option Cell) (fr : Sg → Mem → Out (List D)) : Sg → Mem → Out D := fun δ μ => (fr δ μ).bind fun ds μ1 => match g ds μ1 with
  | some c => .ok (.obj μ1.length) (μ1 ++ [c])
  | none => .bad
section
variable {G : GA} {X : Cx} {Wx : WX} {pos : Pos} {e : Expr}
theorem se_btyM {T : String} {x : Str} {g : List D → Mem → Option Cell} {es : List Expr} {fr : Sg → Mem → Out (List D)} {p : Pos} (hc : CallM G X (.type T) g) (hg : Gl X x) (hm : X.mg x = none) (hv : bootBuiltins x = some (.type T)) (ha : SA G X Wx (e :: es) fr)
    (hn : x ≠ "__name__") (hdb : (x == ("__debug__" : Str)) = false) (he : starEach (e :: es) X.env = (false, eval e X.env) :: starEach es X.env) (hpl : (backTo pos (starEach es X.env)).any (·.1) = false) :
    SE G X Wx (.Call (.Name x p) (e :: es) [] pos) (evBltM g fr) := by
  obtain ⟨r, pc, qc⟩ := hc
  obtain ⟨t, pa, qa⟩ := ha
  refine ⟨_, pe_callTy pc hg hm hv pa hn hdb he hpl, fun σ H W μ δ Q hr0 rs h => ?_⟩
  refine qa σ H W μ δ _ hr0 rs (Post.bind h fun ds μ1 vs W1 H1 eo x1 hr1 r1 h1 => ?_)
  cases e1 : g ds μ1 with
  | none => simp only [e1] at h1; exact h1.elim
  | some c => simp only [e1] at h1; exact qc ds c vs W1 μ1 H1 Q hr1 r1 e1 h1
def dictP (ds : List D) (μ : Mem) : Option Cell := match ds with
  | [a] => match seqL μ a with
    | some es => (mergeD [] [] es).map fun p => .dct false p.1 p.2
    | none => none
  | _ => none
theorem merge_rd {fa : Nat → Option Addr} {W : Wo} {N : Nat} {H : Hp} : ∀ {es : List D} {vs : List V} {ks us ks' us' : List D} {kvs : List (Key × V)}, RDs fa W N H es vs → mergeD ks us es = some (ks', us') → ks.map keyK = kvs.map (fun q => some q.1) → RDs fa W N H us (kvs.map (·.2)) →
    ∃ (ps : List Addr) (more : List (Key × V)), vs = ps.map V.ref ∧ (∀ K : PySem.W.Frag, Paired (fun p kv => SqT K H p [kV kv.1, kv.2]) ps more) ∧ ks'.map keyK = (mergeK kvs more).map (fun q => some q.1) ∧ RDs fa W N H us' ((mergeK kvs more).map (·.2))
  | [], vs, ks, us, ks', us', kvs, r, e, h1, h2 => by
    cases e
    exact ⟨[], [], by rw [show vs = [] from r]; rfl, fun _ => .nil, h1, h2⟩
  | d :: es, vs, ks, us, ks', us', kvs, r, e, h1, h2 => by
    obtain ⟨v, ws, rfl, r1, r2⟩ := r
    unfold mergeD at e
    split at e
    · rename_i q; cases q
    · rename_i k u r' q
      cases q
      split at e
      · rename_i ok
        obtain ⟨key, hk⟩ := Option.isSome_iff_exists.mp ok
        obtain ⟨p, xs, rfl, h3, h4⟩ := r1
        obtain ⟨y, z, rfl, ry, rz⟩ := rds2 h4
        obtain ⟨i1, i2⟩ := dput_of keyK_inj hk rz h1 h2
        obtain ⟨ps, more, rfl, j1, j2, j3⟩ := merge_rd r2 e i2 i1
        refine ⟨p :: ps, (key, z) :: more, rfl, fun K => .cons ?_ (j1 K), j2, j3⟩
        rw [keyK_rd ry hk] at h3
        exact SqT.of h3
      · cases e
    · cases e
theorem cm_dict (hc : X.calm = true) : CallM G X (.type "dict") dictP := by
  refine ⟨_, call_dictP hc, fun ds c vs W μ H Q hr rs e q => ?_⟩
  unfold dictP at e
  split at e
  · rename_i a
    obtain ⟨v, rfl, ra⟩ := rds1 rs
    cases e1 : seqL μ a with
    | none => simp [e1] at e
    | some es =>
      simp only [e1] at e
      cases e2 : mergeD [] [] es with
      | none => simp [e2] at e
      | some t =>
        obtain ⟨ks, us⟩ := t
        simp only [e2] at e
        cases e
        obtain ⟨p, vs, rfl, h1, r1⟩ := seqL_rd hr ra e1
        obtain ⟨ps, more, rfl, j1, j2, j3⟩ := merge_rd (kvs := []) r1 e2 rfl rfl
        refine ⟨p, ps, more, rfl, .inl h1, j1 _, fun l hl => q _ _ _ (ext_add hr hl _ _) (hr_add hr hl ?_) rd_add⟩
        exact ⟨_, ⟨_, upd_same, j2, rfl⟩, RDs.mono hr (ext_add hr hl _ _) _ _ j3⟩
  · cases e
end

/-! ### a def -/
def evFn (nl : Nat) (f : SF) : FS := fun ds μ => match f (ds.map some ++ List.replicate (nl - ds.length) none) μ with
  | .ok (.rt d) μ' => .ok d μ'
  | .ok (.nx _) μ' => .ok .non μ'
  | .ok (.xc x _) μ' => .exc x μ'
  | _ => .bad
theorem RS.start {G : GA} {W : Wo} {N : Nat} {H : Hp} {ds : List D} {vs : List V} (r : RDs G.fa W N H ds vs) (Ns : List Str) : RS G W N H (ds.map some ++ List.replicate (Ns.length - ds.length) none) (L2.start Ns vs) := by
  have hl := r.length
  refine ⟨by simp [L2.start, hl], fun i d e => ?_⟩
  unfold L2.start
  by_cases h : i < ds.length
  · rw [List.getElem?_append_left (by simpa using h)] at e
    rw [List.getElem?_append_left (by simpa [hl] using h)]
    simp at e
    obtain ⟨v, e1, rv⟩ := r.get e
    exact ⟨v, by simp [e1], rv⟩
  · rw [List.getElem?_append_right (by simpa using h)] at e
    have := List.eq_of_mem_replicate (List.mem_of_getElem? e)
    cases this
theorem fn_ok {G : GA} {P : Program} {w : World} {K : PySem.W.Frag} {mg : Str → Option Value} {base : Heap} {k : Nat} {f : Addr} {fd : FuncData} {x qual : Str} {params : Arguments} {body : List Stmt} {scope : Scope} {Ns ps : List Str} {fb : SF}
    (F : FunD K x qual params body scope [] [] f fd) (S : FnScope Ns ps scope)
    (hb : ∀ (cdv : Value) (A : Around) (outer : List Env) (s : Shared) (H : Hp) (E : XK), Room k (A.deeper (envOfC qual scope s.heap.objs.size f cdv)) →
      SSs G (cxOf (L2.CX P w) P w K mg base Ns qual scope f cdv A outer s H E) (fun c d _ H => E c d H) body fb) :
    FnOk P w K mg base (L2.CX P w) (k + 1) f fd ps (spOf G ps.length (evFn Ns.length fb)) := by
  refine F.ok S (fun vs H Q E h => h.1) fun cdv A outer s H vs Q E hr h => ?_
  obtain ⟨t, p, q⟩ := hb cdv A outer s H E hr
  refine ⟨t, p, ?_⟩
  obtain ⟨hl, W, μ, ds, hr0, r, hp⟩ := h
  refine q _ H W μ _ _ hr0 (RS.start r Ns) ?_
  unfold evFn at hp
  cases e : fb (ds.map some ++ List.replicate (Ns.length - ds.length) none) μ with
  | ok fl μ' =>
    rw [e] at hp
    intro W' H' x' hr'
    cases fl with
    | rt d => exact fun v rv => hp v W' H' x' hr' rv
    | nx δ => exact fun σ' _ => hp .non W' H' x' hr' rfl
    | xc x δ => exact fun σ' _ c dx rx => hp W' H' x' hr' c dx rx
    | bk _ => exact hp.elim
    | ct _ => exact hp.elim
  | exc _ _ => rw [e] at hp; exact hp.elim
  | bad => rw [e] at hp; exact hp.elim
end M
namespace M
open PySem PySem.Spec PyProof.Rows L2

/-! ### a def whose objects stay its own -/
mutual
def noObj : D → Bool
  | .tup ds => noObjs ds
  | .lst ds => noObjs ds
  | .dct _ _ us => noObjs us
  | .obj _ => false
  | _ => true
def noObjs : List D → Bool
  | [] => true
  | d :: ds => noObj d && noObjs ds
end
section
variable {fa : Nat → Option Addr} {W W' : Wo} {N N' : Nat} {H : Hp}
mutual
theorem RD.reW (hF : ∀ p, W'.F p → W.F p) : ∀ (d : D) (v : V), noObj d = true → RD fa W N H d v → RD fa W' N' H d v
  | .non, v, _, h => h
  | .bl _, v, _, h => h
  | .int _, v, _, h => h
  | .str _, v, _, h => h
  | .tup ds, v, n, h => by obtain ⟨q, vs, e, h1, h2⟩ := h; exact ⟨q, vs, e, h1, RDs.reW hF ds vs (by simpa [noObj] using n) h2⟩
  | .lst ds, v, n, h => by obtain ⟨q, vs, e, h1, h2, h3⟩ := h; exact ⟨q, vs, e, h1, fun z => h2 (hF q z), RDs.reW hF ds vs (by simpa [noObj] using n) h3⟩
  | .dct tk ks us, v, n, h => by obtain ⟨q, vs, e, h1, h2, h3⟩ := h; exact ⟨q, vs, e, h1, fun z => h2 (hF q z), RDs.reW hF us vs (by simpa [noObj] using n) h3⟩
  | .obj l, v, n, h => by cases n
  | .fn i, v, _, h => h
theorem RDs.reW (hF : ∀ p, W'.F p → W.F p) : ∀ (ds : List D) (vs : List V), noObjs ds = true → RDs fa W N H ds vs → RDs fa W' N' H ds vs
  | [], vs, _, h => h
  | d :: ds, vs, n, h => by
    obtain ⟨v, ws, e, h1, h2⟩ := h
    rw [noObjs, Bool.and_eq_true] at n
    exact ⟨v, ws, e, RD.reW hF d v n.1 h1, RDs.reW hF ds ws n.2 h2⟩
end
end
/-! what its own objects held, as values -/
section
variable (lk : Nat → Option D)
mutual
def frz : D → Option D
  | .tup ds => (frzs ds).map .tup
  | .lst ds => (frzs ds).map .lst
  | .dct tk ks us => (frzs us).map (.dct tk ks)
  | .obj l => lk l
  | .non => some .non
  | .bl b => some (.bl b)
  | .int i => some (.int i)
  | .str x => some (.str x)
  | .fn i => some (.fn i)
def frzs : List D → Option (List D)
  | [] => some []
  | d :: ds => match frz d, frzs ds with
    | some e, some es => some (e :: es)
    | _, _ => none
end
end
def lkN (μ : Mem) : Nat → Nat → Option D
  | 0, _ => none
  | k + 1, l => match μ[l]? with
    | some (.lst ds) => (frzs (lkN μ k) ds).map .lst
    | some (.dct tk ks us) => (frzs (lkN μ k) us).map (.dct tk ks)
    | none => none
mutual
theorem frz_noObj (lk : Nat → Option D) : ∀ d : D, noObj d = true → frz lk d = some d
  | .non, _ => rfl
  | .bl _, _ => rfl
  | .int _, _ => rfl
  | .str _, _ => rfl
  | .fn _, _ => rfl
  | .obj _, h => by cases h
  | .tup ds, h => by simp only [frz]; rw [frzs_noObj lk ds (by simpa [noObj] using h)]; rfl
  | .lst ds, h => by simp only [frz]; rw [frzs_noObj lk ds (by simpa [noObj] using h)]; rfl
  | .dct tk ks us, h => by simp only [frz]; rw [frzs_noObj lk us (by simpa [noObj] using h)]; rfl
theorem frzs_noObj (lk : Nat → Option D) : ∀ ds : List D, noObjs ds = true → frzs lk ds = some ds
  | [], _ => rfl
  | d :: ds, h => by
    rw [noObjs, Bool.and_eq_true] at h
    simp only [frzs]
    rw [frz_noObj lk d h.1, frzs_noObj lk ds h.2]
end
section
variable {fa : Nat → Option Addr} {W W' : Wo} {N N' : Nat} {H : Hp} {lk : Nat → Option D}
mutual
theorem frz_rd (hF : ∀ p, W'.F p → W.F p) (hl : ∀ l d, l < N → lk l = some d → RD fa W' N' H d (.ref (W.φ l)) ∧ noObj d = true) : ∀ (d : D) (v : V) (e : D), RD fa W N H d v → frz lk d = some e → RD fa W' N' H e v ∧ noObj e = true
  | .non, v, e, h, q => by cases q; exact ⟨h, rfl⟩
  | .bl _, v, e, h, q => by cases q; exact ⟨h, rfl⟩
  | .int _, v, e, h, q => by cases q; exact ⟨h, rfl⟩
  | .str _, v, e, h, q => by cases q; exact ⟨h, rfl⟩
  | .fn _, v, e, h, q => by cases q; exact ⟨h, rfl⟩
  | .obj l, v, e, h, q => by rw [h.2]; exact hl l e h.1 q
  | .tup ds, v, e, h, q => by
    obtain ⟨p, vs, e1, h1, h2⟩ := h
    simp only [frz] at q
    cases q1 : frzs lk ds with
    | none => rw [q1] at q; cases q
    | some es =>
      rw [q1] at q; cases q
      obtain ⟨a, b⟩ := frzs_rd hF hl ds vs es h2 q1
      exact ⟨⟨p, vs, e1, h1, a⟩, by simpa [noObj] using b⟩
  | .lst ds, v, e, h, q => by
    obtain ⟨p, vs, e1, h1, h0, h2⟩ := h
    simp only [frz] at q
    cases q1 : frzs lk ds with
    | none => rw [q1] at q; cases q
    | some es =>
      rw [q1] at q; cases q
      obtain ⟨a, b⟩ := frzs_rd hF hl ds vs es h2 q1
      exact ⟨⟨p, vs, e1, h1, fun z => h0 (hF p z), a⟩, by simpa [noObj] using b⟩
  | .dct tk ks us, v, e, h, q => by
    obtain ⟨p, vs, e1, h1, h0, h2⟩ := h
    simp only [frz] at q
    cases q1 : frzs lk us with
    | none => rw [q1] at q; cases q
    | some es =>
      rw [q1] at q; cases q
      obtain ⟨a, b⟩ := frzs_rd hF hl us vs es h2 q1
      exact ⟨⟨p, vs, e1, h1, fun z => h0 (hF p z), a⟩, by simpa [noObj] using b⟩
theorem frzs_rd (hF : ∀ p, W'.F p → W.F p) (hl : ∀ l d, l < N → lk l = some d → RD fa W' N' H d (.ref (W.φ l)) ∧ noObj d = true) : ∀ (ds : List D) (vs : List V) (es : List D), RDs fa W N H ds vs → frzs lk ds = some es → RDs fa W' N' H es vs ∧ noObjs es = true
  | [], vs, es, h, q => by cases q; exact ⟨h, rfl⟩
  | d :: ds, vs, es, h, q => by
    obtain ⟨v, ws, e1, h1, h2⟩ := h
    simp only [frzs] at q
    cases q1 : frz lk d with
    | none => simp [q1] at q
    | some e =>
      cases q2 : frzs lk ds with
      | none => simp [q1, q2] at q
      | some es' =>
        simp only [q1, q2] at q
        cases q
        obtain ⟨a1, b1⟩ := frz_rd hF hl d v e h1 q1
        obtain ⟨a2, b2⟩ := frzs_rd hF hl ds ws es' h2 q2
        exact ⟨⟨v, ws, e1, a1, a2⟩, by rw [noObjs, b1, b2]; rfl⟩
end
end
theorem lkN_rd {fa : Nat → Option Addr} {W W' : Wo} {μ : Mem} {N' : Nat} {H : Hp} (hr : HR fa W μ H) (hF : ∀ p, W'.F p → W.F p) (hn : ∀ l, l < μ.length → ¬ W'.F (W.φ l)) : ∀ (k l : Nat) (d : D), l < μ.length → lkN μ k l = some d → RD fa W' N' H d (.ref (W.φ l)) ∧ noObj d = true
  | 0, l, d, _, h => by cases h
  | k + 1, l, d, hl, h => by
    unfold lkN at h
    cases q : μ[l]? with
    | none => simp [q] at h
    | some c =>
      have hc := hr.cells l _ q
      cases c with
      | lst ds =>
        simp only [q] at h
        cases q1 : frzs (lkN μ k) ds with
        | none => rw [q1] at h; cases h
        | some es =>
          rw [q1] at h; cases h
          obtain ⟨vs, h1, h2⟩ := hc
          obtain ⟨a, b⟩ := frzs_rd hF (fun l d hl h => lkN_rd hr hF hn k l d hl h) ds vs es h2 q1
          exact ⟨⟨_, vs, rfl, .inl h1, hn l hl, a⟩, by simpa [noObj] using b⟩
      | dct tk ks us =>
        simp only [q] at h
        cases q1 : frzs (lkN μ k) us with
        | none => rw [q1] at h; cases h
        | some es =>
          rw [q1] at h; cases h
          obtain ⟨vs, h1, h2⟩ := hc
          obtain ⟨a, b⟩ := frzs_rd hF (fun l d hl h => lkN_rd hr hF hn k l d hl h) us vs es h2 q1
          exact ⟨⟨_, vs, rfl, h1, hn l hl, a⟩, by simpa [noObj] using b⟩
/-- run with no objects from outside; what it hands back is a value -/
def isoF (f : FS) : FS := fun ds μ => if noObjs ds then match f ds [] with
    | .ok d μ' => match frz (lkN μ' 4) d with
      | some d' => .ok d' μ
      | none => .bad
    | .exc x μ' => match frzs (lkN μ' 4) x.args with
      | some es => .exc ⟨x.cls, es⟩ μ
      | none => .bad
    | .bad => .bad
  else .bad
theorem iso_ok {G : GA} {P : Program} {w : World} {K : PySem.W.Frag} {mg : Str → Option Value} {base : Heap} {k : Nat} {f : Addr} {fd : FuncData} {ps : List Str} {ar : Nat} {g : FS} (F : FnOk P w K mg base (L2.CX P w) k f fd ps (spOf G ar g)) : FnOk P w K mg base (L2.CX P w) k f fd ps (spOf G ar (isoF g)) := by
  refine F.imp fun vs H Q E h => ?_
  obtain ⟨hl, W, μ, ds, hr, r, hp⟩ := h
  unfold isoF at hp
  split at hp
  · rename_i hn
    have hr0 : HR G.fa W [] H := ⟨fun l c e => by simp at e, fun i j hi => by simp at hi, fun l hl => by simp at hl, hr.trk⟩
    refine ⟨hl, W, [], ds, hr0, RDs.reW (fun _ h => h) ds vs hn r, ?_⟩
    have back : ∀ {W' : Wo} {μ' : Mem} {H' : Hp}, Ext W ([] : Mem).length H W' μ'.length H' → HR G.fa W' μ' H' → (∀ p, W.F p → W'.F p) ∧ (∀ l, l < μ'.length → ¬ W.F (W'.φ l)) ∧ Ext W μ.length H W μ.length H' ∧ HR G.fa W μ H' := fun {W' μ' H'} x hr' => by
      have ex : Ext W μ.length H W μ.length H' := ⟨Nat.le_refl _, fun _ _ => rfl, fun _ h => h, fun _ h => .inl h, fun l h1 h2 => absurd h2 (by omega), x.dom, fun p o h _ => x.keep p o h fun l hl => by simp at hl⟩
      refine ⟨x.sub, fun l hl hF => hr.trk _ hF (x.fresh l (Nat.zero_le _) hl), ex, fun l c e => ?_, hr.inj, hr.own, fun p h => x.dom p (hr.trk p h)⟩
      have hc := hr.cells l c e
      cases c with
      | lst ds => obtain ⟨vs, h1, h2⟩ := hc; exact ⟨vs, x.keep _ _ h1 fun l hl => by simp at hl, RDs.mono hr ex ds vs h2⟩
      | dct tk ks us => obtain ⟨vs, h1, h2⟩ := hc; exact ⟨vs, h1.rd fun u z => x.keep _ _ z fun l hl => by simp at hl, RDs.mono hr ex us vs h2⟩
    cases e : g ds [] with
    | ok d μ' =>
      rw [e] at hp
      intro v W' H' x hr' rv
      obtain ⟨b1, b2, b3, b4⟩ := back x hr'
      simp only at hp
      cases q : frz (lkN μ' 4) d with
      | none => simp only [q] at hp; exact hp.elim
      | some d' =>
        simp only [q] at hp
        exact hp v W H' b3 b4 (frz_rd b1 (fun l d hl h => lkN_rd hr' b1 b2 4 l d hl h) d v d' rv q).1
    | exc y μ' =>
      rw [e] at hp
      intro W' H' x hr' c dx rx
      obtain ⟨b1, b2, b3, b4⟩ := back x hr'
      simp only at hp
      cases q : frzs (lkN μ' 4) y.args with
      | none => simp only [q] at hp; exact hp.elim
      | some es =>
        simp only [q] at hp
        refine hp W H' b3 b4 c dx ?_
        obtain ⟨C, h1, h2, h3⟩ := rx
        refine ⟨C, h1, h2, ?_⟩
        split at h3
        · rename_i z; rw [if_pos z]; exact h3
        · rename_i z
          rw [if_neg z]
          obtain ⟨d, vs, h4, h5, h6, h7⟩ := h3
          exact ⟨d, vs, h4, h5, h6, (frzs_rd b1 (fun l d hl h => lkN_rd hr' b1 b2 4 l d hl h) y.args vs es h7 q).1⟩
    | bad => rw [e] at hp; exact hp.elim
  · exact hp.elim
end M
namespace M
open PySem PySem.Spec PyProof.Rows L2

/-! ### terms -/
inductive Cst where
  | int (i : Int) | bl (b : Bool) | non | str (x : Str)
inductive Bl where
  | len | abs | int | sum | all | any | tuple | list | sorted | max | min
  deriving DecidableEq
inductive Mt where
  | append | get
  deriving DecidableEq
inductive E where
  | var (i : Nat) | cst (c : Cst) | glo (i : Int) | absent
  | bin (op : Operator) (a b : E) | neg (a : E) | cmp (op : CmpOp) (a b : E) | chain (op op' : CmpOp) (a b c : E)
  | boo (op : BoolOp) (es : List E) | no (a : E) | ite (c a b : E)
  | tup (es : List E) | lst (mu : Bool) (es : List E) | d0 (tk : Bool)
  | call (f : Nat) (es : List E) | blt (b : Bl) (es : List E) | dct (es : List E) | isin (t : Ty) (a : E) | mth (m : Mt) (o : E) (es : List E)
  | ix (a b : E) | sl (a lo hi : E)
  | lc (mu : Bool) (own : List Nat) (elt : E) (tg : Tg) (it cond : E) | dc (mu : Bool) (own : List Nat) (k v : E) (tg : Tg) (it cond : E)
  | rng (es : List E) | zip (a b : E)
structure Sm where
  v : Sg → Mem → Out D
  t : Sg → Mem → Out Bool
  s : Sg → Mem → Out Src
  o : Sg → Mem → Out (Option Int)
def no1 {α : Type} : Sg → Mem → Out α := fun _ _ => .bad
def ofV (f : Sg → Mem → Out D) : Sm := ⟨f, evT f, evSrc f, evP f⟩
def ofC (f : Sg → Mem → Out D) : Sm := ⟨f, evB f, evSrc f, no1⟩
def noG : D → D → Mem → Option D := fun _ _ _ => none
def binG : Operator → D → D → Mem → Option D
  | .Add => addD | .Sub => subD | .Mult => mulD | .FloorDiv => fdivD | .Mod => modD | .Pow => powD | _ => noG
def cmpG : CmpOp → D → D → Mem → Option D
  | .Eq => eqD | .NotEq => neD | .Lt => ltD | .LtE => cmpI (fun i j => decide (i ≤ j)) | .Gt => cmpI (fun i j => decide (j < i)) | .GtE => cmpI (fun i j => decide (j ≤ i))
  | .Is => isD false | .IsNot => isD true | .In => inA false | .NotIn => inA true
def Bl.f : Bl → List D → Mem → Option D
  | .len => lenD | .abs => absD | .int => intD | .sum => sumD | .all => allD | .any => anyD | .tuple => tupleD | .list => listD | .sorted => sortedD | .max => maxD | .min => minD
def Bl.nm : Bl → Str
  | .len => "len" | .abs => "abs" | .int => "int" | .sum => "sum" | .all => "all" | .any => "any" | .tuple => "tuple" | .list => "list" | .sorted => "sorted" | .max => "max" | .min => "min"
def Mt.nm : Mt → Str
  | .append => "append" | .get => "get"
def Mt.ty : Mt → MT
  | .append => .lst | .get => .dct
def Mt.f : Mt → D → List D → Mem → Option (D × Mem)
  | .append => mAppend | .get => mGet
def Cst.d : Cst → D
  | .int i => .int i | .bl b => .bl b | .non => .non | .str x => .str x
def evChT (f : Sg → Mem → Out D) : Sg → Mem → Out Bool := evB f
section
variable (Φ : Nat → FS)
mutual
def evE : E → Sm
  | .var i => ofV (evVar i)
  | .cst c => ofV fun _ μ => .ok c.d μ
  | .glo i => ofV fun _ μ => .ok (.int i) μ
  | .absent => ⟨no1, evYes, no1, evNoP⟩
  | .bin op a b => ofV (evBin (binG op) (evE a).v (evE b).v)
  | .neg a => ofV (evUn negD (evE a).v)
  | .cmp op a b => ofC (evBin (cmpG op) (evE a).v (evE b).v)
  | .chain op op' a b c => ofC (evChain (cmpG op) (cmpG op') (evE a).v (evE b).v (evE c).v)
  | .boo op es => ⟨evBoV op es, evBoT op es, no1, no1⟩
  | .no a => ⟨evNot (evE a).v, evNotT (evE a).t, no1, no1⟩
  | .ite c a b => ⟨evIf (evE c).t (evE a).v (evE b).v, no1, evSrc (evIf (evE c).t (evE a).v (evE b).v), evP (evIf (evE c).t (evE a).v (evE b).v)⟩
  | .tup es => ofV (evTup (evEs es))
  | .lst mu es => ofV (if mu then evMl (evEs es) else evLst (evEs es))
  | .d0 tk => ofV (evD0 tk)
  | .call f es => ofV (evCall (Φ f) (evEs es))
  | .blt b es => ofV (evBlt b.f (evEs es))
  | .dct es => ofV (evBltM dictP (evEs es))
  | .isin t a => ofV (evIs t (evE a).v)
  | .mth m o es => ofV (evMth m.ty m.f (evE o).v (evEs es))
  | .ix a b => ofV (evBin ixD (evE a).v (evE b).v)
  | .sl a lo hi => ofV (evSl (evE a).v (evE lo).o (evE hi).o)
  | .lc mu own elt tg it cond => ofV (evLc mu (evE it).s tg (evE cond).t (evE elt).v own)
  | .dc mu own k v tg it cond => ofV (evDc mu (evE it).s tg (evE cond).t (evE k).v (evE v).v own)
  | .rng es => ⟨no1, no1, match es with | [_] => evR1 (evEs es) | [_, _] => evR2 (evEs es) | _ => no1, no1⟩
  | .zip a b => ⟨no1, no1, evZip (evCons (evE a).v (evCons (evE b).v evNil)), no1⟩
def evEs : List E → Sg → Mem → Out (List D)
  | [] => evNil
  | e :: es => evCons (evE e).v (evEs es)
def evBoV (op : BoolOp) : List E → Sg → Mem → Out D
  | [] => no1
  | e :: es => match es with
    | [] => (evE e).v
    | _ :: _ => match op with
      | .And => evAnd (evE e).v (evBoV op es)
      | .Or => evOr (evE e).v (evBoV op es)
def evBoT (op : BoolOp) : List E → Sg → Mem → Out Bool
  | [] => no1
  | e :: es => match es with
    | [] => (evE e).t
    | _ :: _ => match op with
      | .And => evAndT (evE e).t (evBoT op es)
      | .Or => evOrT (evE e).t (evBoT op es)
end
end

/-! ### a term and a text -/
structure Tb where
  nm : List (Str × Nat)
  gis : List (Str × Int)
  blt : List Str
def visC (sc : Scope) (x : Str) : Bool := match sc.names.lookup x with
  | some .local => true | some .cell => true | some .free => true | _ => false
def locC (sc : Scope) (x : Str) : Bool := match sc.names.lookup x with
  | some .local => true | some .cell => true | _ => false
def plocC (sc : Scope) (x : Str) : Bool := match sc.names.lookup x with
  | some .local => true | _ => false
def gloC (sc : Scope) (x : Str) : Bool := match sc.names.lookup x with
  | some .globalImplicit => true | _ => false
def dbgC (x : Str) : Bool := !(x == ("__debug__" : Str))
def cdcC (x : Str) : Bool := !(x == ("__classdict__" : Str))
def nStar : Expr → Bool
  | .Starred _ _ => false
  | _ => true
def nIx : Expr → Bool
  | .Slice _ _ _ _ => false
  | _ => true
def nSet : Expr → Bool
  | .Set _ _ _ => false
  | _ => true
def nSup : Expr → Bool
  | .Call (.Name _ _) [] [] _ => false
  | _ => true
def isAbs : E → Bool
  | .absent => true
  | _ => false
def cstC : Cst → Const → Bool
  | .int i, .int j => decide (i = j)
  | .bl a, .bool b => decide (a = b)
  | .non, .none => true
  | .str x, .str y => decide (x = y)
  | _, _ => false
def srcC : E → Expr → Bool
  | .zip _ _, .Tuple _ _ _ => true
  | .zip _ _, _ => false
  | _, _ => true
def ownN (N : List Str) (own : List Nat) : List (Str × Nat) := own.map fun i => ((N[i]?).getD "", i)
def ckB (scope : Scope) : Str → Bool := fun x => scope.names.lookup x == some .cell
mutual
def mTg (N : List Str) (sc : Scope) (ck : Str → Bool) : Tg → Expr → Bool
  | .name i, ex => match ex with
    | .Name x _ => decide (N[i]? = some x) && locC sc x && (ck x || plocC sc x)
    | _ => false
  | .tup ts, ex => match ex with
    | .Tuple es _ _ => mTgs N sc ck ts es
    | _ => false
def mTgs (N : List Str) (sc : Scope) (ck : Str → Bool) : List Tg → List Expr → Bool
  | [], exs => exs.isEmpty
  | t :: ts, exs => match exs with
    | ex :: exs => nStar ex && mTg N sc ck t ex && mTgs N sc ck ts exs
    | [] => false
end
section
variable (tb : Tb) (N : List Str)
def compC (N : List Str) (sc scope : Scope) (own : List Nat) (tg : Tg) (it : E) (iex tex : Expr) : Bool :=
  blkC N sc scope (ownN N own) && (slotsT tg).all (fun i => decide (i ∈ own)) && nSet iex && srcC it tex && mTg N (relS scope sc) (ckB scope) tg tex
mutual
def mE : E → Scope → (Str → Bool) → Expr → Bool
  | .var i, sc, ck, ex => match ex with
    | .Name x _ => decide (N[i]? = some x) && visC sc x && dbgC x && cdcC x
    | _ => false
  | .cst c, sc, ck, ex => match ex with
    | .Constant v _ _ => cstC c v
    | _ => false
  | .glo i, sc, ck, ex => match ex with
    | .Name x _ => decide (tb.gis.lookup x = some i) && gloC sc x && dbgC x
    | _ => false
  | .absent, _, _, _ => false
  | .bin op a b, sc, ck, ex => match ex with
    | .BinOp x op' y _ => decide (op = op') && mE a sc ck x && mE b sc ck y
    | _ => false
  | .neg a, sc, ck, ex => match ex with
    | .UnaryOp .USub x _ => mE a sc ck x
    | _ => false
  | .cmp op a b, sc, ck, ex => match ex with
    | .Compare x [op'] [y] _ => decide (op = op') && nSet y && mE a sc ck x && mE b sc ck y
    | _ => false
  | .chain op1 op2 a b c, sc, ck, ex => match ex with
    | .Compare x [op', op''] [y, z] _ => decide (op1 = op') && decide (op2 = op'') && nSet z && mE a sc ck x && mE b sc ck y && mE c sc ck z
    | _ => false
  | .boo op es, sc, ck, ex => match ex with
    | .BoolOp op' xs _ => decide (op = op') && mEs es sc ck xs
    | _ => false
  | .no a, sc, ck, ex => match ex with
    | .UnaryOp .Not x _ => mE a sc ck x
    | _ => false
  | .ite c a b, sc, ck, ex => match ex with
    | .IfExp z x y _ => mE c sc ck z && mE a sc ck x && mE b sc ck y
    | _ => false
  | .tup es, sc, ck, ex => match ex with
    | .Tuple xs _ _ => mEs es sc ck xs
    | _ => false
  | .lst _ es, sc, ck, ex => match ex with
    | .List xs _ => mEs es sc ck xs
    | _ => false
  | .d0 _, sc, ck, ex => match ex with
    | .Dict [] [] _ => true
    | _ => false
  | .call f es, sc, ck, ex => match ex with
    | .Call (.Name x _) xs [] _ => decide (tb.nm[f]? = some (x, es.length)) && gloC sc x && dbgC x && !xs.isEmpty && mEs es sc ck xs
    | _ => false
  | .blt b es, sc, ck, ex => match ex with
    | .Call (.Name x _) xs [] _ => decide (b.nm = x) && decide (x ∈ tb.blt) && gloC sc x && !xs.isEmpty && mEs es sc ck xs
    | _ => false
  | .dct es, sc, ck, ex => match ex with
    | .Call (.Name x _) xs [] _ => decide (x = ("dict" : Str)) && decide (x ∈ tb.blt) && gloC sc x && !xs.isEmpty && mEs es sc ck xs
    | _ => false
  | .isin t a, sc, ck, ex => match ex with
    | .Call (.Name x _) [y, .Name z _] [] _ => decide (x = ("isinstance" : Str)) && decide (x ∈ tb.blt) && gloC sc x && decide (z = Str.ofString t.nm) && decide (z ∈ tb.blt) && gloC sc z && nStar y && mE a sc ck y
    | _ => false
  | .mth m o es, sc, ck, ex => match ex with
    | .Call (.Attribute y name apos) xs [] pos => decide (name = m.nm) && (apos.endLine == pos.line) && nSup y && decide (xs.length < 30) && !xs.isEmpty && mE o sc ck y && mEs es sc ck xs
    | _ => false
  | .ix a b, sc, ck, ex => match ex with
    | .Subscript x y _ => nIx y && mE a sc ck x && mE b sc ck y
    | _ => false
  | .sl a lo hi, sc, ck, ex => match ex with
    | .Subscript x (.Slice lo' hi' none _) _ => mE a sc ck x && (match lo' with | none => isAbs lo | some y => mE lo sc ck y) && (match hi' with | none => isAbs hi | some y => mE hi sc ck y)
    | _ => false
  | .lc _ own elt tg it cond, sc, ck, ex => match ex with
    | .ListComp y [⟨tex, iex, ifs, 0⟩] scope _ => compC N sc scope own tg it iex tex && mE it sc ck iex && mE elt (relS scope sc) (ckB scope) y &&
      (match ifs with | [] => isAbs cond | [z] => mE cond (relS scope sc) (ckB scope) z | _ => false)
    | _ => false
  | .dc _ own k v tg it cond, sc, ck, ex => match ex with
    | .DictComp x y [⟨tex, iex, ifs, 0⟩] scope _ => compC N sc scope own tg it iex tex && mE it sc ck iex && mE k (relS scope sc) (ckB scope) x && mE v (relS scope sc) (ckB scope) y &&
      (match ifs with | [] => isAbs cond | [z] => mE cond (relS scope sc) (ckB scope) z | _ => false)
    | _ => false
  | .rng es, sc, ck, ex => match ex with
    | .Call (.Name x _) xs [] _ => decide (x = ("range" : Str)) && decide (x ∈ tb.blt) && gloC sc x && mEs es sc ck xs
    | _ => false
  | .zip a b, sc, ck, ex => match ex with
    | .Call (.Name x _) [y, z] [] _ => decide (x = ("zip" : Str)) && decide (x ∈ tb.blt) && gloC sc x && nStar y && nStar z && mE a sc ck y && mE b sc ck z
    | _ => false
def mEs : List E → Scope → (Str → Bool) → List Expr → Bool
  | [], sc, ck, xs => xs.isEmpty
  | e :: es, sc, ck, xs => match xs with
    | x :: xs => nStar x && mE e sc ck x && mEs es sc ck xs
    | [] => false
end
end
end M
namespace M
open PySem PySem.Spec PyProof.Rows L2

structure GX (G : GA) (tb : Tb) (Φ : Nat → FS) (X : Cx) (Wx : WX) (n : Nat) (N : List Str) (sc : Scope) (ck : Str → Bool) : Prop where
  calm : X.calm = true
  eN : X.N = N
  nd : N.Nodup
  esc : X.env.scope = sc
  room : Room n X.A
  tk : Takes X Wx
  fns : ∀ i x ar, tb.nm[i]? = some (x, ar) → FnS G X (i + 1) x ar (Φ i) ∧ i + 1 ≤ n
  gis : ∀ x i, tb.gis.lookup x = some i → ∃ t, X.mg x = some (.int i t)
  blt : ∀ x, x ∈ tb.blt → X.mg x = none
  fnp : ∀ x, ck x = true → X.fn x = true

section
variable {G : GA} {tb : Tb} {Φ : Nat → FS} {X : Cx} {Wx : WX} {n : Nat} {N : List Str} {sc : Scope} {ck : Str → Bool}
theorem visC_ok {x : Str} (h : visC sc x = true) : Vis sc x := by
  unfold visC at h
  split at h <;> first | cases h | skip
  · exact .inl (by assumption)
  · exact .inr (.inl (by assumption))
  · exact .inr (.inr (by assumption))
theorem locC_ok {x : Str} (h : locC sc x = true) : Loc sc x := by
  unfold locC at h
  split at h <;> first | cases h | skip
  · exact .inl (by assumption)
  · exact .inr (by assumption)
theorem plocC_ok {x : Str} (h : plocC sc x = true) : sc.names.lookup x = some .local := by
  unfold plocC at h
  split at h
  · assumption
  · cases h
theorem GX.gl (g : GX G tb Φ X Wx n N sc ck) {x : Str} (h : gloC sc x = true) : Gl X x := by
  unfold gloC at h
  split at h
  · show X.env.scope.names.lookup x = _
    rw [g.esc]; assumption
  · cases h
theorem dbg_ok {x : Str} (h : dbgC x = true) : (x == ("__debug__" : Str)) = false := by
  unfold dbgC at h
  simpa using h
theorem cdc_ok {x : Str} (h : cdcC x = true) : (x == ("__classdict__" : Str)) = false := by
  unfold cdcC at h
  simpa using h
theorem star_cons {e : Expr} {es : List Expr} {env : Env} (h : nStar e = true) : starEach (e :: es) env = (false, eval e env) :: starEach es env := by
  cases e <;> first | rfl | cases h
theorem star_all {env : Env} : ∀ {es : List Expr}, es.all nStar = true → (starEach es env).all (fun x => !x.1) = true
  | [], _ => rfl
  | e :: es, h => by
    rw [List.all_cons, Bool.and_eq_true] at h
    rw [star_cons h.1, List.all_cons, star_all h.2]; rfl
theorem back_all {pos : Pos} {l : List (Bool × Sem Value)} (h : l.all (fun x => !x.1) = true) : (backTo pos l).all (fun x => !x.1) = true := by
  unfold backTo
  rw [List.all_map]; exact h
theorem back_any {pos : Pos} {l : List (Bool × Sem Value)} (h : l.all (fun x => !x.1) = true) : (backTo pos l).any (fun x => x.1) = false := by
  unfold backTo
  rw [List.any_map]
  induction l with
  | nil => rfl
  | cons a l ih =>
    rw [List.all_cons, Bool.and_eq_true] at h
    rw [List.any_cons, ih h.2]
    have := h.1
    show (a.1 || false) = false
    cases a1 : a.1 <;> simp [a1] at this ⊢
theorem mEs_stars : ∀ {es : List E} {xs : List Expr}, mEs tb N es sc ck xs = true → xs.all nStar = true ∧ es.length = xs.length
  | [], xs, h => by
    cases xs with
    | nil => exact ⟨rfl, rfl⟩
    | cons _ _ => cases h
  | e :: es, xs, h => by
    cases xs with
    | nil => cases h
    | cons x xs =>
      simp only [mEs, Bool.and_eq_true] at h
      obtain ⟨h1, h2⟩ := mEs_stars h.2
      exact ⟨by rw [List.all_cons, h.1.1, h1]; rfl, by rw [List.length_cons, List.length_cons, h2]⟩
theorem evEs_len : ∀ {es : List E} {δ : Sg} {μ : Mem} {ds : List D} {μ1 : Mem}, evEs Φ es δ μ = .ok ds μ1 → ds.length = es.length
  | [], δ, μ, ds, μ1, h => by
    simp only [evEs, evNil] at h
    cases h; rfl
  | e :: es, δ, μ, ds, μ1, h => by
    simp only [evEs, evCons] at h
    cases e1 : (evE Φ e).v δ μ with
    | ok a μ2 =>
      rw [e1] at h
      simp only [Out.bind_ok] at h
      cases e2 : evEs Φ es δ μ2 with
      | ok r μ3 =>
        rw [e2] at h
        simp only [Out.bind_ok] at h
        cases h
        rw [List.length_cons, List.length_cons, evEs_len e2]
      | exc _ _ => rw [e2] at h; cases h
      | bad => rw [e2] at h; cases h
    | exc _ _ => rw [e1] at h; cases h
    | bad => rw [e1] at h; cases h

/-! ### all operators -/
theorem ops_none {f : Value → Value → Sem Value} : OpS G X f noG := ⟨fun _ _ _ _ => False, fun _ _ _ _ _ _ _ _ _ _ _ _ h => h.elim, fun _ _ _ _ _ _ _ _ _ _ _ _ e => by cases e⟩
theorem ops_bin (op : Operator) : OpS G X (binaryOp op) (binG op) := by
  cases op <;> first | exact ops_add | exact ops_sub | exact ops_mul | exact ops_fdiv | exact ops_mod | exact ops_pow | exact ops_none
theorem ops_cmps (hu : X.A.units + 65 < cLine) (op : CmpOp) : OpS G X (compareOp op) (cmpG op) := by
  cases op with
  | Eq => exact ops_eq (by omega)
  | NotEq => exact ops_ne (by omega)
  | Lt => exact ops_lt (by omega)
  | LtE => exact ops_cmp op_le
  | Gt => exact ops_cmp op_gt
  | GtE => exact ops_cmp op_ge
  | Is => exact ops_is
  | IsNot => exact ops_isnot
  | In => exact ops_inA hu
  | NotIn => exact ops_notinA hu
theorem behind_ok {op : CmpOp} {e : Expr} (h : nSet e = true) : behindInMarks op e = false := by
  cases e <;> first | rfl | cases h
theorem folded_ok {e : Expr} {env : Env} (h : nSet e = true) : ∀ x, foldedSetIterable e env x = pure x := by
  intro x
  cases e <;> first | rfl | cases h
theorem plain_ok {e : Expr} (h : nIx e = true) : PlainIx e := by
  intro o i
  cases e <;> first | rfl | cases h
theorem base_ok {o : Expr} {name : Str} {env : Env} (h : nSup o = true) : attributeBase o name env (eval o env) = eval o env := by
  unfold attributeBase
  split
  · cases h
  · rfl
theorem chain_marks {op op' : CmpOp} {b c : Expr} (h : nSet c = true) : lastMarks [op, op'] [b, c] = false := behind_ok h

/-! ### the trivial readings -/
variable {e : Expr} {tg : Expr}
theorem se_no : SE G X Wx e no1 := ⟨fun _ _ _ => False, ⟨fun _ _ _ _ _ _ h => h.elim⟩, fun _ _ _ _ _ _ _ _ h => h.elim⟩
theorem st_no : STt G X Wx e no1 := ⟨fun _ _ _ => False, ⟨fun _ _ _ _ _ _ h => h.elim⟩, fun _ _ _ _ _ _ _ _ h => h.elim⟩
theorem si_no : SI G X Wx tg e no1 := ⟨fun _ _ _ => False, ⟨fun _ _ _ _ _ _ h => h.elim⟩, fun _ _ _ _ _ _ _ _ h => h.elim⟩
theorem st_chain {a b c : Expr} {fa fb fc : Sg → Mem → Out D} {pos : Pos} {op op' : CmpOp} {g g' : D → D → Mem → Option D} (ho : OpS G X (compareOp op) g) (ho' : OpS G X (compareOp op') g') (ha : SE G X Wx a fa) (hb : SE G X Wx b fb) (hc : SE G X Wx c fc) (hm : lastMarks [op, op'] [b, c] = false) : STt G X Wx (.Compare a [op, op'] [b, c] pos) (evB (evChain g g' fa fb fc)) := by
  obtain ⟨r, p, q⟩ := ho
  obtain ⟨r', p', q'⟩ := ho'
  obtain ⟨ta, pa, qa⟩ := ha
  obtain ⟨tb, pb, qb⟩ := hb
  obtain ⟨tc, pc, qc⟩ := hc
  exact ⟨_, pt_chain p p' pa pb pc hm, fun σ H W μ δ Q hr rs h => tb_of (fun σ H W μ δ Q hr rs h => chain_of q q' qa qb qc hr rs h) hr rs h⟩

/-! ### soundness -/
def OkE (G : GA) (X : Cx) (Wx : WX) (e : E) (ex : Expr) (m : Sm) : Prop :=
  SE G X Wx ex m.v ∧ STt G X Wx ex m.t ∧ (∀ tg, srcC e tg = true → SI G X Wx tg ex m.s) ∧ SO G X Wx (some ex) m.o
def plainT : Expr → Bool
  | .UnaryOp .Not _ _ => false
  | .BoolOp _ _ _ => false
  | .IfExp _ _ _ _ => false
  | .Compare _ _ _ _ => false
  | _ => true
theorem truth_ok {a : Expr} {env : Env} (h : plainT a = true) : ∀ whole, PySem.isTrue a env whole = (do let v ← whole; standAt a.pos; holding [v] (truthy v)) := by
  intro whole
  unfold PySem.isTrue
  split <;> first | rfl | (cases h)
theorem okV {i : E} {ex : Expr} {f : Sg → Mem → Out D} (h : SE G X Wx ex f) (hp : plainT ex = true) : OkE G X Wx i ex (ofV f) :=
  ⟨h, st_val h (truth_ok hp), fun tg _ => si_any h, so_some h⟩
theorem so_no {o : Option Expr} : SO G X Wx o no1 := ⟨fun _ _ _ => False, ⟨fun _ _ _ _ _ _ h => h.elim⟩, fun _ _ _ _ _ _ _ _ h => h.elim⟩
end
end M
namespace M
open PySem PySem.Spec PyProof.Rows L2

section
variable {G : GA} {tb : Tb} {Φ : Nat → FS} {X : Cx} {Wx : WX} {n : Nat} {N : List Str} {sc : Scope} {ck : Str → Bool}
theorem GX.units (g : GX G tb Φ X Wx n N sc ck) : X.A.units + 65 < cLine := by have := g.room.un; omega
theorem GX.blk (g : GX G tb Φ X Wx n N sc ck) {scope : Scope} (s : Shared) (H : Hp) (C : Addr) (cl : List (Str × Addr)) (fp : List Addr) :
    GX G tb Φ (X.blk s H scope (compEnvC scope cl C X.env) fp) Wx0 n N (relS scope sc) (ckB scope) where
  calm := g.calm
  eN := g.eN
  nd := g.nd
  esc := by rw [← g.esc]; rfl
  room := g.room
  tk := takes0
  fns := g.fns
  gis := g.gis
  blt := g.blt
  fnp := fun x h => h

/-! ### targets -/
theorem asg_each : ∀ {es : List Expr} {ts : List Tg} {env : Env}, mTgs N sc ck ts es = true → ts.length = es.length ∧ (assignEach es env).length = es.length ∧ (assignEach es env).findIdx? (·.1) = none
  | [], [], env, _ => ⟨rfl, rfl, rfl⟩
  | [], _ :: _, env, h => by cases h
  | _ :: _, [], env, h => by cases h
  | e :: es, t :: ts, env, h => by
    simp only [mTgs, Bool.and_eq_true] at h
    obtain ⟨h1, h2, h3⟩ := asg_each (env := env) h.2
    have e1 : assignEach (e :: es) env = (false, assign e env) :: assignEach es env := by
      have := h.1.1
      cases e <;> first | rfl | cases this
    refine ⟨by rw [List.length_cons, List.length_cons, h1], by rw [e1, List.length_cons, List.length_cons, h2], ?_⟩
    rw [e1, List.findIdx?_cons]
    simp [h3]
mutual
theorem tg_ok (g : GX G tb Φ X Wx n N sc ck) : ∀ {t : Tg} {ex : Expr}, mTg N sc ck t ex = true → SG G X ex t
  | .name i, ex, h => by
    simp only [mTg] at h
    split at h
    · simp only [Bool.and_eq_true, decide_eq_true_eq, Bool.or_eq_true] at h
      obtain ⟨⟨h1, h2⟩, h3⟩ := h
      refine sg_name (by rw [g.eN]; exact g.nd) (by rw [g.eN]; exact h1) (by rw [g.esc]; exact locC_ok h2) ?_
      rcases h3 with h3 | h3
      · exact .inl (g.fnp _ h3)
      · exact .inr (by rw [g.esc]; exact plocC_ok h3)
    · cases h
  | .tup ts, ex, h => by
    simp only [mTg] at h
    split at h
    · obtain ⟨h1, h2, h3⟩ := asg_each (env := X.env) h
      exact sg_tup g.calm (tgs_ok g h) h1 h2 h3
    · cases h
theorem tgs_ok (g : GX G tb Φ X Wx n N sc ck) : ∀ {ts : List Tg} {es : List Expr}, mTgs N sc ck ts es = true → SGs G X es ts
  | [], es, h => by
    cases es with
    | nil => exact sgs_nil
    | cons _ _ => cases h
  | t :: ts, es, h => by
    cases es with
    | nil => cases h
    | cons e es =>
      simp only [mTgs, Bool.and_eq_true] at h
      refine sgs_cons (tg_ok g h.1.2) (tgs_ok g h.2) ?_
      have := h.1.1
      cases e <;> first | rfl | cases this
end

/-! ### built-ins -/
theorem blt_ok (g : GX G tb Φ X Wx n N sc ck) {b : Bl} {e : Expr} {es : List Expr} {fr : Sg → Mem → Out (List D)} {p pos : Pos} (hg : Gl X b.nm) (hm : X.mg b.nm = none) (ha : SA G X Wx (e :: es) fr) (hs : (e :: es).all nStar = true) :
    SE G X Wx (.Call (.Name b.nm p) (e :: es) [] pos) (evBlt b.f fr) := by
  rw [List.all_cons, Bool.and_eq_true] at hs
  have h1 : starEach (e :: es) X.env = (false, eval e X.env) :: starEach es X.env := star_cons hs.1
  have h2 : (backTo pos (starEach es X.env)).any (·.1) = false := back_any (star_all hs.2)
  cases b with
  | len => exact se_blt cs_len hg hm (by decide +kernel) ha (by decide +kernel) (by decide +kernel) h1 h2
  | abs => exact se_blt cs_abs hg hm (by decide +kernel) ha (by decide +kernel) (by decide +kernel) h1 h2
  | sum => exact se_blt (cs_sum g.calm) hg hm (by decide +kernel) ha (by decide +kernel) (by decide +kernel) h1 h2
  | all => exact se_blt (cs_all g.calm) hg hm (by decide +kernel) ha (by decide +kernel) (by decide +kernel) h1 h2
  | any => exact se_blt (cs_any g.calm) hg hm (by decide +kernel) ha (by decide +kernel) (by decide +kernel) h1 h2
  | sorted => exact se_blt (cs_sorted g.calm) hg hm (by decide +kernel) ha (by decide +kernel) (by decide +kernel) h1 h2
  | max => exact se_blt (cs_max g.calm) hg hm (by decide +kernel) ha (by decide +kernel) (by decide +kernel) h1 h2
  | min => exact se_blt (cs_min g.calm) hg hm (by decide +kernel) ha (by decide +kernel) (by decide +kernel) h1 h2
  | int => exact se_bty cs_int hg hm (by decide +kernel) ha (by decide +kernel) (by decide +kernel) h1 h2
  | tuple => exact se_bty cs_tuple hg hm (by decide +kernel) ha (by decide +kernel) (by decide +kernel) h1 h2
  | list => exact se_bty cs_listT hg hm (by decide +kernel) ha (by decide +kernel) (by decide +kernel) h1 h2
theorem mth_ok (g : GX G tb Φ X Wx n N sc ck) {m : Mt} {a e : Expr} {es : List Expr} {fo : Sg → Mem → Out D} {fr : Sg → Mem → Out (List D)} {apos pos : Pos} (ho : SE G X Wx a fo) (ha : SA G X Wx (e :: es) fr) (hsup : nSup a = true) (hline : (apos.endLine == pos.line) = true)
    (hlen : (e :: es).length < 30) (hs : (e :: es).all nStar = true) : SE G X Wx (.Call (.Attribute a m.nm apos) (e :: es) [] pos) (evMth m.ty m.f fo fr) := by
  have hs' := hs
  rw [List.all_cons, Bool.and_eq_true] at hs'
  have h1 : starEach (e :: es) X.env = (false, eval e X.env) :: starEach es X.env := star_cons hs'.1
  have h2 : (backTo pos (starEach es X.env)).any (·.1) = false := back_any (star_all hs'.2)
  have hfew : ((backTo pos (starEach (e :: es) X.env)).all (fun x => !x.1) && (backToKw pos (keywordEach [] X.env)).all (fun x => x.1.isSome)
      && decide ((e :: es).length + ([] : List Keyword).length + (if ([] : List Keyword).isEmpty then 0 else 1) < 30)) = true := by
    rw [back_all (star_all hs)]
    simpa [backToKw, keywordEach] using hlen
  cases m with
  | append => exact se_mth PySem.F.plainAttrs_list PySem.F.slot_list_append PySem.F.type_list_append mth_append ho ha (base_ok hsup) hfew hline h1 h2
  | get => exact se_mth PySem.F.plainAttrs_dict PySem.F.slot_dict_get PySem.F.type_dict_get (mth_get (by have := g.units; omega)) ho ha (base_ok hsup) hfew hline h1 h2
theorem own_snd (N : List Str) (own : List Nat) : (ownN N own).map (·.2) = own := by
  unfold ownN
  rw [List.map_map]
  exact List.map_id' own

/-! ### the terms -/
mutual
theorem ok_E : ∀ (i : E) {X : Cx} {Wx : WX} {sc : Scope} {ck : Str → Bool} {ex : Expr}, GX G tb Φ X Wx n N sc ck → mE tb N i sc ck ex = true → OkE G X Wx i ex (evE Φ i)
  | .var i, X, Wx, sc, ck, ex, g, h => by
    simp only [mE] at h
    split at h
    · simp only [Bool.and_eq_true, decide_eq_true_eq] at h
      obtain ⟨⟨⟨h1, h2⟩, h3⟩, h4⟩ := h
      exact okV (se_var (by rw [g.eN]; exact h1) (by rw [g.esc]; exact visC_ok h2) (dbg_ok h3) (cdc_ok h4)) rfl
    · cases h
  | .cst c, X, Wx, sc, ck, ex, g, h => by
    simp only [mE] at h
    split at h
    · rename_i v k pos
      cases c <;> cases v <;> first | (cases h) | skip
      · have h := of_decide_eq_true h; subst h
        exact okV (se_const pe_int fun _ _ _ => rfl) rfl
      · have h := of_decide_eq_true h; subst h
        exact okV (se_const pe_bl fun _ _ _ => rfl) rfl
      · exact okV (se_const pe_non fun _ _ _ => rfl) rfl
      · have h := of_decide_eq_true h; subst h
        exact okV (se_const pe_str fun _ _ _ => rfl) rfl
    · cases h
  | .glo i, X, Wx, sc, ck, ex, g, h => by
    simp only [mE] at h
    split at h
    · simp only [Bool.and_eq_true, decide_eq_true_eq] at h
      obtain ⟨⟨h1, h2⟩, h3⟩ := h
      obtain ⟨t, e⟩ := g.gis _ _ h1
      exact okV (se_const (pe_glob (v := .int i) (g.gl h2) e ⟨t, rfl⟩ (dbg_ok h3)) fun _ _ _ => rfl) rfl
    · cases h
  | .absent, X, Wx, sc, ck, ex, g, h => by cases h
  | .bin op a b, X, Wx, sc, ck, ex, g, h => by
    simp only [mE] at h
    split at h
    · simp only [Bool.and_eq_true, decide_eq_true_eq] at h
      obtain ⟨⟨h1, h2⟩, h3⟩ := h
      subst h1
      exact okV (se_op (ops_bin _) (ok_E a g h2).1 (ok_E b g h3).1) rfl
    · cases h
  | .neg a, X, Wx, sc, ck, ex, g, h => by
    simp only [mE] at h
    split at h
    · exact okV (se_neg (ok_E a g h).1) rfl
    · cases h
  | .cmp op a b, X, Wx, sc, ck, ex, g, h => by
    simp only [mE] at h
    split at h
    · simp only [Bool.and_eq_true, decide_eq_true_eq] at h
      obtain ⟨⟨⟨h1, h2⟩, h3⟩, h4⟩ := h
      subst h1
      have q := se_cmp (pos := by assumption) (ops_cmps g.units op) (ok_E a g h3).1 (ok_E b g h4).1 (behind_ok h2)
      exact ⟨q, st_cmp (ops_cmps g.units op) (ok_E a g h3).1 (ok_E b g h4).1 (behind_ok h2), fun tg _ => si_any q, so_no⟩
    · cases h
  | .chain o1 o2 a b c, X, Wx, sc, ck, ex, g, h => by
    simp only [mE] at h
    split at h
    · simp only [Bool.and_eq_true, decide_eq_true_eq] at h
      obtain ⟨⟨⟨⟨⟨h1, h2⟩, h3⟩, h4⟩, h5⟩, h6⟩ := h
      subst h1 h2
      have q := se_chain (pos := by assumption) (ops_cmps g.units o1) (ops_cmps g.units o2) (ok_E a g h4).1 (ok_E b g h5).1 (ok_E c g h6).1 (behind_ok h3)
      exact ⟨q, st_chain (ops_cmps g.units o1) (ops_cmps g.units o2) (ok_E a g h4).1 (ok_E b g h5).1 (ok_E c g h6).1 (chain_marks h3), fun tg _ => si_any q, so_no⟩
    · cases h
  | .boo op es, X, Wx, sc, ck, ex, g, h => by
    simp only [mE] at h
    split at h
    · simp only [Bool.and_eq_true, decide_eq_true_eq] at h
      obtain ⟨h1, h2⟩ := h
      subst h1
      exact ⟨(ok_Bo op es g h2).1, (ok_Bo op es g h2).2.pt, fun tg _ => si_no, so_no⟩
    · cases h
  | .no a, X, Wx, sc, ck, ex, g, h => by
    simp only [mE] at h
    split at h
    · exact ⟨se_not (ok_E a g h).1, st_not (ok_E a g h).2.1, fun tg _ => si_no, so_no⟩
    · cases h
  | .ite c a b, X, Wx, sc, ck, ex, g, h => by
    simp only [mE] at h
    split at h
    · simp only [Bool.and_eq_true] at h
      obtain ⟨⟨h1, h2⟩, h3⟩ := h
      have q := se_if (pos := by assumption) (ok_E c g h1).2.1 (ok_E a g h2).1 (ok_E b g h3).1
      exact ⟨q, st_no, fun tg _ => si_any q, so_some q⟩
    · cases h
  | .tup es, X, Wx, sc, ck, ex, g, h => by
    simp only [mE] at h
    split at h
    · exact okV (se_tup (ok_Es es g h)) rfl
    · cases h
  | .lst mu es, X, Wx, sc, ck, ex, g, h => by
    simp only [mE] at h
    split at h
    · cases mu with
      | true => exact okV (se_ml (ok_Es es g h)) rfl
      | false => exact okV (se_lst (ok_Es es g h)) rfl
    · cases h
  | .d0 tk, X, Wx, sc, ck, ex, g, h => by
    simp only [mE] at h
    split at h
    · exact okV (se_d0 tk) rfl
    · cases h
  | .call f es, X, Wx, sc, ck, ex, g, h => by
    simp only [mE] at h
    split at h
    · rename_i x p xs pos
      simp only [Bool.and_eq_true, decide_eq_true_eq, Bool.not_eq_true'] at h
      obtain ⟨⟨⟨⟨h1, h2⟩, h3⟩, h4⟩, h5⟩ := h
      obtain ⟨F, hn⟩ := g.fns _ _ _ h1
      obtain ⟨hs, hl⟩ := mEs_stars h5
      cases xs with
      | nil => cases h4
      | cons x0 xs =>
        have hs' := hs
        rw [List.all_cons, Bool.and_eq_true] at hs'
        exact okV (se_call F (g.room.mono hn) (g.gl h2) g.tk (ok_Es es g h5) (dbg_ok h3) (star_cons hs'.1) (back_any (star_all hs'.2)) hl.symm fun δ μ ds μ1 e => by rw [evEs_len e, hl]) rfl
    · cases h
  | .blt b es, X, Wx, sc, ck, ex, g, h => by
    simp only [mE] at h
    split at h
    · rename_i x p xs pos
      simp only [Bool.and_eq_true, decide_eq_true_eq, Bool.not_eq_true'] at h
      obtain ⟨⟨⟨⟨h1, h2⟩, h3⟩, h4⟩, h5⟩ := h
      subst h1
      obtain ⟨hs, hl⟩ := mEs_stars h5
      cases xs with
      | nil => cases h4
      | cons x0 xs => exact okV (blt_ok g (g.gl h3) (g.blt _ h2) (ok_Es es g h5) hs) rfl
    · cases h
  | .dct es, X, Wx, sc, ck, ex, g, h => by
    simp only [mE] at h
    split at h
    · rename_i x p xs pos
      simp only [Bool.and_eq_true, decide_eq_true_eq, Bool.not_eq_true'] at h
      obtain ⟨⟨⟨⟨h1, h2⟩, h3⟩, h4⟩, h5⟩ := h
      subst h1
      obtain ⟨hs, hl⟩ := mEs_stars h5
      cases xs with
      | nil => cases h4
      | cons x0 xs =>
        rw [List.all_cons, Bool.and_eq_true] at hs
        exact okV (se_btyM (cm_dict g.calm) (g.gl h3) (g.blt _ h2) (by decide +kernel) (ok_Es es g h5) (by decide +kernel) (by decide +kernel) (star_cons hs.1) (back_any (star_all hs.2))) rfl
    · cases h
  | .isin t a, X, Wx, sc, ck, ex, g, h => by
    simp only [mE] at h
    split at h
    · simp only [Bool.and_eq_true, decide_eq_true_eq] at h
      obtain ⟨⟨⟨⟨⟨⟨⟨h1, h2⟩, h3⟩, h4⟩, h5⟩, h6⟩, h7⟩, h8⟩ := h
      subst h1 h4
      exact okV (se_is (ok_E a g h8).1 (g.gl h3) (g.blt _ h2) (g.gl h6) (g.blt _ h5) (star_cons h7)) rfl
    · cases h
  | .mth m o es, X, Wx, sc, ck, ex, g, h => by
    simp only [mE] at h
    split at h
    · rename_i y name apos xs pos
      simp only [Bool.and_eq_true, decide_eq_true_eq, Bool.not_eq_true'] at h
      obtain ⟨⟨⟨⟨⟨⟨h1, h2⟩, h3⟩, h4⟩, h5⟩, h6⟩, h7⟩ := h
      subst h1
      obtain ⟨hs, hl⟩ := mEs_stars h7
      cases xs with
      | nil => cases h5
      | cons x0 xs => exact okV (mth_ok g (ok_E o g h6).1 (ok_Es es g h7) h3 h2 h4 hs) rfl
    · cases h
  | .ix a b, X, Wx, sc, ck, ex, g, h => by
    simp only [mE] at h
    split at h
    · simp only [Bool.and_eq_true] at h
      obtain ⟨⟨h1, h2⟩, h3⟩ := h
      exact okV (se_ixA (by have := g.units; omega) (ok_E a g h2).1 (ok_E b g h3).1 (plain_ok h1)) rfl
    · cases h
  | .sl a lo hi, X, Wx, sc, ck, ex, g, h => by
    simp only [mE] at h
    split at h
    · rename_i x lo' hi' p2 pos
      simp only [Bool.and_eq_true] at h
      obtain ⟨⟨h1, h2⟩, h3⟩ := h
      have l : SO G X Wx lo' (evE Φ lo).o := by
        cases lo' with
        | none => cases lo <;> first | exact so_none | cases h2
        | some y => exact (ok_E lo g h2).2.2.2
      have k : SO G X Wx hi' (evE Φ hi).o := by
        cases hi' with
        | none => cases hi <;> first | exact so_none | cases h3
        | some y => exact (ok_E hi g h3).2.2.2
      exact okV (se_sl (ok_E a g h1).1 l k) rfl
    · cases h
  | .lc mu own elt tg it cond, X, Wx, sc, ck, ex, g, h => by
    simp only [mE] at h
    split at h
    · rename_i y tex iex ifs scope pos
      simp only [Bool.and_eq_true] at h
      obtain ⟨⟨⟨h1, h2⟩, h3⟩, h4⟩ := h
      unfold compC at h1
      simp only [Bool.and_eq_true] at h1
      obtain ⟨⟨⟨⟨c1, c2⟩, c3⟩, c4⟩, c5⟩ := h1
      have q := se_lc (mu := mu) (pos := pos) (own := ownN N own) g.calm (by rw [g.eN]; exact g.nd) ((ok_E it g h2).2.2.1 tex c4) (by rw [g.eN, g.esc]; exact blkOk_by c1)
        (fun s H C cl fp => tg_ok (g.blk s H C cl fp) c5) (ifs := ifs) (ft := (evE Φ cond).t)
        (fun s H C cl fp => by
          split at h4
          · cases cond <;> first | exact lc_notests | cases h4
          · exact lc_tests (ok_E cond (g.blk s H C cl fp) h4).2.1
          · cases h4)
        (fun s H C cl fp => (ok_E elt (g.blk s H C cl fp) h3).1) (folded_ok c3) (fun i hi => by rw [own_snd]; exact of_decide_eq_true (List.all_eq_true.mp c2 i hi))
      rw [own_snd] at q
      exact okV q rfl
    · cases h
  | .dc mu own k v tg it cond, X, Wx, sc, ck, ex, g, h => by
    simp only [mE] at h
    split at h
    · rename_i x y tex iex ifs scope pos
      simp only [Bool.and_eq_true] at h
      obtain ⟨⟨⟨⟨h1, h2⟩, h3⟩, h3'⟩, h4⟩ := h
      unfold compC at h1
      simp only [Bool.and_eq_true] at h1
      obtain ⟨⟨⟨⟨c1, c2⟩, c3⟩, c4⟩, c5⟩ := h1
      have q := se_dc (mu := mu) (pos := pos) (own := ownN N own) g.calm (by rw [g.eN]; exact g.nd) ((ok_E it g h2).2.2.1 tex c4) (by rw [g.eN, g.esc]; exact blkOk_by c1)
        (fun s H C cl fp => tg_ok (g.blk s H C cl fp) c5) (ifs := ifs) (ft := (evE Φ cond).t)
        (fun s H C cl fp => by
          split at h4
          · cases cond <;> first | exact lc_notests | cases h4
          · exact lc_tests (ok_E cond (g.blk s H C cl fp) h4).2.1
          · cases h4)
        (fun s H C cl fp => (ok_E k (g.blk s H C cl fp) h3).1) (fun s H C cl fp => (ok_E v (g.blk s H C cl fp) h3').1) (folded_ok c3) (fun i hi => by rw [own_snd]; exact of_decide_eq_true (List.all_eq_true.mp c2 i hi))
      rw [own_snd] at q
      exact okV q rfl
    · cases h
  | .rng es, X, Wx, sc, ck, ex, g, h => by
    simp only [mE] at h
    split at h
    · rename_i x p xs pos
      simp only [Bool.and_eq_true, decide_eq_true_eq] at h
      obtain ⟨⟨⟨h1, h2⟩, h3⟩, h5⟩ := h
      subst h1
      obtain ⟨hs, hl⟩ := mEs_stars h5
      refine ⟨se_no, st_no, fun tg _ => ?_, so_no⟩
      have ha := ok_Es es g h5
      simp only [evE]
      split
      · cases xs with
        | nil => cases hl
        | cons y ys =>
          cases ys with
          | nil =>
            rw [List.all_cons, Bool.and_eq_true] at hs
            exact si_r1 (g.gl h3) (g.blt _ h2) ha (star_cons hs.1)
          | cons _ _ => cases hl
      · cases xs with
        | nil => cases hl
        | cons y ys =>
          cases ys with
          | nil => cases hl
          | cons z zs =>
            cases zs with
            | nil =>
              rw [List.all_cons, Bool.and_eq_true, List.all_cons, Bool.and_eq_true] at hs
              refine si_r2 (g.gl h3) (g.blt _ h2) ha ?_ (star_cons hs.2.1)
              rw [star_cons hs.1, star_cons hs.2.1]; rfl
            | cons _ _ => cases hl
      · exact si_no
    · cases h
  | .zip a b, X, Wx, sc, ck, ex, g, h => by
    simp only [mE] at h
    split at h
    · rename_i x p y z pos
      simp only [Bool.and_eq_true, decide_eq_true_eq] at h
      obtain ⟨⟨⟨⟨⟨⟨h1, h2⟩, h3⟩, h4⟩, h5⟩, h6⟩, h7⟩ := h
      subst h1
      refine ⟨se_no, st_no, fun tg ht => ?_, so_no⟩
      cases tg <;> first | cases ht | skip
      exact si_zip (g.gl h3) (g.blt _ h2) (sa_cons (ok_E a g h6).1 (sa_cons (ok_E b g h7).1 sa_nil (star_cons h5)) (star_cons h4)) (star_cons h4) (back_any (star_all (by rw [List.all_cons, h5]; rfl)))
    · cases h
theorem ok_Es : ∀ (is : List E) {X : Cx} {Wx : WX} {sc : Scope} {ck : Str → Bool} {exs : List Expr}, GX G tb Φ X Wx n N sc ck → mEs tb N is sc ck exs = true → SA G X Wx exs (evEs Φ is)
  | [], X, Wx, sc, ck, exs, g, h => by
    cases exs with
    | nil => exact sa_nil
    | cons _ _ => cases h
  | i :: is, X, Wx, sc, ck, exs, g, h => by
    cases exs with
    | nil => cases h
    | cons x xs =>
      simp only [mEs, Bool.and_eq_true] at h
      exact sa_cons (ok_E i g h.1.2).1 (ok_Es is g h.2) (star_cons h.1.1)
theorem ok_Bo (op : BoolOp) : ∀ (is : List E) {X : Cx} {Wx : WX} {sc : Scope} {ck : Str → Bool} {exs : List Expr} {pos : Pos}, GX G tb Φ X Wx n N sc ck → mEs tb N is sc ck exs = true → SE G X Wx (.BoolOp op exs pos) (evBoV Φ op is) ∧ STw G X Wx (.BoolOp op exs pos) (evBoT Φ op is)
  | [], X, Wx, sc, ck, exs, pos, g, h => ⟨se_no, ⟨fun _ _ _ => False, ⟨by intros; rename_i h; exact h.elim⟩, fun _ _ _ _ _ _ _ _ h => h.elim⟩⟩
  | i :: is, X, Wx, sc, ck, exs, pos, g, h => by
    cases exs with
    | nil => cases h
    | cons x xs =>
      simp only [mEs, Bool.and_eq_true] at h
      have h1 := ok_E i g h.1.2
      cases is with
      | nil =>
        cases xs with
        | cons _ _ => cases h.2
        | nil =>
          refine ⟨se_one h1.1, ?_⟩
          cases op
          · exact stw_one_and h1.2.1
          · exact stw_one_or h1.2.1
      | cons j js =>
        cases xs with
        | nil => cases h.2
        | cons y ys =>
          have h2 := ok_Bo op (j :: js) (pos := pos) g h.2
          cases op
          · exact ⟨se_and h1.1 h2.1, stw_and h1.2.1 h2.2⟩
          · exact ⟨se_or h1.1 h2.1, stw_or h1.2.1 h2.2⟩
end
end
end M
namespace M
open PySem PySem.Spec PyProof.Rows L2

inductive S where
  | never | pass | brk | cont | expr (e : E) | set (i : Nat) (e : E) | asg (t : Tg) (e : E) | sub (o i e : E) | par (is : List Nat) (es : List E)
  | aug (i : Nat) (op : Operator) (e : E) | augS (op : Operator) (o i e : E) | ret (e : E) | retn | ite (c : E) (a b : List S) | loop (n : Nat) (c : E) (b : List S) | each (t : Tg) (it : E) (b : List S)

def noA : D → D → Mem → Option (D × Mem) := fun _ _ _ => none
def mulA (a b : D) (μ : Mem) : Option (D × Mem) := match a, b with
  | .int i, .int j => if mulOk i j then some (.int (i * j), μ) else none
  | _, _ => none
def fdivA (a b : D) (μ : Mem) : Option (D × Mem) := match a, b with
  | .int i, .int j => if 0 < j ∧ j < 1073741824 then some (.int (i / j), μ) else none
  | _, _ => none
def augG : Operator → D → D → Mem → Option (D × Mem)
  | .Add => augAdd | .Sub => augI fun i j => i - j | .Mult => mulA | .FloorDiv => fdivA | _ => noA
section
variable (Φ : Nat → FS)
mutual
def evS : S → SF
  | .never => fun _ _ => .bad
  | .pass => evSkip
  | .brk => fun δ μ => .ok (.bk δ) μ
  | .cont => fun δ μ => .ok (.ct δ) μ
  | .expr e => evX (evE Φ e).v fun _ => evSkip
  | .set i e => evX (evE Φ e).v (evSet (.name i))
  | .asg t e => evX (evE Φ e).v (evSet t)
  | .sub o i e => evX (evE Φ e).v fun v => evX (evE Φ o).v fun a => evX (evE Φ i).v fun b => evSetIx a b v
  | .par is es => evX (evEs Φ es) (evPar is)
  | .aug i op e => evAug i (augG op) (evE Φ e).v
  | .augS op o i e => evAugS (augG op) (evE Φ o).v (evE Φ i).v (evE Φ e).v
  | .ret e => evX (evE Φ e).v fun d _ μ => .ok (.rt d) μ
  | .retn => fun _ μ => .ok (.rt .non) μ
  | .ite c a b => evX (evE Φ c).t fun k => if k then evSs a else evSs b
  | .loop n c b => evWhile (evE Φ c).t (evSs b) n
  | .each t it b => evForS (evE Φ it).s t (evSs b)
def evSs : List S → SF
  | [] => evSkip
  | s :: ss => evSeq (evS s) (evSs ss)
end
end

def bk (sc : Scope) : ScopeKind := if sc.kind.isAnnotationScope then .function else sc.kind
def nComp : Expr → Bool
  | .ListComp _ _ _ _ => false
  | .SetComp _ _ _ _ => false
  | .DictComp _ _ _ _ _ => false
  | _ => true
def isTupE : Expr → Bool
  | .Tuple _ _ _ => true
  | _ => false
def isNam : Expr → Bool
  | .Name _ _ => true
  | _ => false
def npl (sc : Scope) (t : Expr) : Bool := match t with
  | .Name x _ => !plocC sc x
  | _ => true
def swnC (sc : Scope) (tg v : Expr) : Bool := match tg with
  | .Tuple ts _ _ => match v with
    | .Tuple vs _ _ => !(ts.length == 2 || ts.length == 3) || vs.all (foldedForSure 8) || ts.any (npl sc)
    | _ => true
  | _ => false
def swC (sc scope : Scope) (t : Str) (tp vp : Pos) : Bool := bk sc == .function && sc.names.lookup t == some .local && tp.line == vp.line && !(scope.names.any fun (n, k) => n == t && (k == .local || k == .cell))
section
variable (tb : Tb) (N : List Str) (sc : Scope) (ck : Str → Bool)
mutual
def mS : S → Stmt → Bool
  | .never, _ => true
  | .pass, st => match st with
    | .Pass _ => true
    | _ => false
  | .brk, st => match st with
    | .Break _ => true
    | _ => false
  | .cont, st => match st with
    | .Continue _ => true
    | _ => false
  | .expr e, st => match st with
    | .Expr x _ => nComp x && mE tb N e sc ck x
    | _ => false
  | .set i e, st => match st with
    | .Assign [.Name x _] y _ => decide (N[i]? = some x) && locC sc x && (ck x || plocC sc x) && mE tb N e sc ck y
    | _ => false
  | .asg t e, st => match st with
    | .Assign [x] y _ => nStar x && isTupE x && swnC sc x y && mTg N sc ck t x && mE tb N e sc ck y
    | _ => false
  | .sub o i e, st => match st with
    | .Assign [.Subscript x y _] z _ => nIx y && mE tb N o sc ck x && mE tb N i sc ck y && mE tb N e sc ck z
    | _ => false
  | .par is es, st => match st with
    | .Assign [.Tuple [.Name x px, .Name y py] _ _] (.Tuple [a, b] _ _) _ => match is with
      | [i, j] => decide (N[i]? = some x) && decide (N[j]? = some y) && decide (i ≠ j) && plocC sc x && plocC sc y && (bk sc == .function) && (py.line == px.line) && decide (x ≠ y) && !([a, b].all (foldedForSure 8)) && !([a, b].all (constantsAlone 8)) && mEs tb N es sc ck [a, b]
      | _ => false
    | .Assign [.Tuple [.Name x px, .Name y py, .Name z pz] _ _] (.Tuple [a, b, c] _ _) _ => match is with
      | [i, j, l] => decide (N[i]? = some x) && decide (N[j]? = some y) && decide (N[l]? = some z) && decide (i ≠ j) && decide (i ≠ l) && decide (j ≠ l) && plocC sc x && plocC sc y && plocC sc z && (bk sc == .function) && (py.line == px.line) && (pz.line == px.line) && decide (x ≠ y) && decide (x ≠ z) && decide (y ≠ z) &&
          !([a, b, c].all (foldedForSure 8)) && !([a, b, c].all (constantsAlone 8)) && mEs tb N es sc ck [a, b, c]
      | _ => false
    | _ => false
  | .aug i op e, st => match st with
    | .AugAssign (.Name x _) op' y _ => decide (N[i]? = some x) && decide (op = op') && locC sc x && (ck x || plocC sc x) && mE tb N e sc ck y
    | _ => false
  | .augS op o i e, st => match st with
    | .AugAssign (.Subscript x y _) op' z _ => decide (op = op') && nIx y && mE tb N o sc ck x && mE tb N i sc ck y && mE tb N e sc ck z
    | _ => false
  | .ret e, st => match st with
    | .Return (some x) _ => mE tb N e sc ck x
    | _ => false
  | .retn, st => match st with
    | .Return none _ => true
    | _ => false
  | .ite c a b, st => match st with
    | .If x sa sb _ => mE tb N c sc ck x && mSs a sa && mSs b sb
    | _ => false
  | .loop _ c b, st => match st with
    | .While x sb [] _ => mE tb N c sc ck x && mSs b sb
    | _ => false
  | .each t it b, st => match st with
    | .For x y sb [] _ => nSet y && srcC it x && mTg N sc ck t x && mE tb N it sc ck y && mSs b sb
    | _ => false
def mSs : List S → List Stmt → Bool
  | [], ss => ss.isEmpty
  | s :: ss, sts => match sts with
    | st :: sts => mS s st && mSs ss sts
    | [] => false
end
end

section
variable {G : GA} {tb : Tb} {Φ : Nat → FS} {X : Cx} {Wx : WX} {n : Nat} {N : List Str} {sc : Scope} {ck : Str → Bool}
theorem aug_none {op : Operator} : AugS G X op noA := ⟨fun _ _ _ _ => False, fun _ _ _ _ _ _ _ _ _ _ _ _ h => h.elim, fun _ _ _ _ _ _ _ _ _ _ _ _ _ e => by cases e⟩
theorem aug_mul : AugS G X .Mult mulA := by
  refine ⟨_, iop_mul, fun a b d μ' x y W μ H Q hr ra rb e q => ?_⟩
  unfold mulA at e
  split at e
  · rename_i i j
    split at e
    · rename_i hm
      cases e
      refine ⟨i, j, ra, rb, ?_, q _ W H .refl hr rfl⟩
      unfold mulOk at hm
      rw [Bool.or_eq_true, decide_eq_true_eq, decide_eq_true_eq] at hm
      exact hm
    · cases e
  · cases e
theorem aug_fdiv : AugS G X .FloorDiv fdivA := by
  refine ⟨_, iop_fdiv, fun a b d μ' x y W μ H Q hr ra rb e q => ?_⟩
  unfold fdivA at e
  split at e
  · rename_i i j
    split at e
    · rename_i hm
      cases e
      exact ⟨i, j, ra, rb, hm, q _ W H .refl hr rfl⟩
    · cases e
  · cases e
theorem aug_all (op : Operator) : AugS G X op (augG op) := by
  cases op <;> first | exact aug_add | exact aug_sub | exact aug_mul | exact aug_fdiv | exact aug_none
theorem sw_plain {e : Expr} {t : Option Expr} {l : Nat} {env : Env} (h : nComp e = true) : swapsWith e t l env = pure false := by
  cases e <;> first | rfl | cases h
theorem sw_tup {e t : Expr} {l : Nat} {env : Env} (h : isTupE t = true) : swapsWith e (some t) l env = pure false := by
  cases t <;> first | cases h | skip
  cases e <;> rfl
theorem fm_lt {α β : Type} {f : α → Option β} : ∀ {l : List α}, (∃ t ∈ l, f t = none) → (l.filterMap f).length < l.length
  | [], ⟨_, h, _⟩ => by cases h
  | a :: l, ⟨t, h, e⟩ => by
    rcases List.mem_cons.mp h with h | h
    · subst h
      rw [List.filterMap_cons, e]
      exact Nat.lt_succ_of_le (List.length_filterMap_le f l)
    · rw [List.filterMap_cons]
      have := fm_lt ⟨t, h, e⟩
      cases f a with
      | none => exact Nat.lt_succ_of_lt this
      | some b => exact Nat.succ_lt_succ this
theorem sw_none {tg v : Expr} {env : Env} (h : swnC env.scope tg v = true) : swappedStores [tg] v env = pure none := by
  unfold swnC at h
  split at h
  · rename_i ts kk pp
    cases v <;> first | rfl | skip
    rename_i vs k2 p2
    simp only [Bool.or_eq_true, Bool.not_eq_true'] at h
    unfold swappedStores
    simp only
    split
    · rfl
    · rename_i h1
      split
      · rfl
      · split
        · rfl
        · rename_i h3
          split
          · rfl
          · rename_i h4
            exfalso
            rcases h with (h | h) | h
            · simp_all
            · simp_all
            · obtain ⟨t, ht, hn⟩ := List.any_eq_true.mp h
              refine h3 ?_
              rw [Bool.or_eq_true]
              refine .inl ?_
              refine bne_iff_ne.mpr (Nat.ne_of_lt (fm_lt ⟨t, ht, ?_⟩))
              cases t with
              | Name x p =>
                have : plocC env.scope x = false := by simpa [npl] using hn
                have hk : (env.kindOf x == some .local) = false := by
                  unfold plocC at this
                  show (env.scope.names.lookup x == some .local) = false
                  split at this
                  · cases this
                  · rename_i q
                    rw [beq_eq_false_iff_ne]
                    exact q
                simp only [hk, Bool.false_and]
                rfl
              | _ => rfl
  · cases h
theorem star_f {e : Expr} (h : nStar e = true) : (match e with | .Starred _ _ => true | _ => false) = false := by
  cases e <;> first | rfl | cases h
theorem sw_par2 {x y : Str} {a b : Expr} {px py pt p2 : Pos} {kt k2 : Nat} {env : Env} (hb : env.blockKind = .function) (hx : env.kindOf x = some .local) (hy : env.kindOf y = some .local) (hl : (py.line == px.line) = true) (hxy : x ≠ y) (ha : nStar a = true) (hb' : nStar b = true)
    (h1 : [a, b].all (foldedForSure 8) = false) (h2 : [a, b].all (constantsAlone 8) = false) : swappedStores [.Tuple [.Name x px, .Name y py] kt pt] (.Tuple [a, b] k2 p2) env = pure (some [x, y]) := by
  have e : [x, y].eraseDups = [x, y] := by
    simp [List.eraseDups_cons, Ne.symm hxy, hxy]
  unfold swappedStores
  simp only
  split
  · rename_i h; simp [hb] at h
  · split
    · rename_i h
      simp only [List.any_cons, List.any_nil, Bool.or_false, Bool.or_eq_true] at h
      rcases h with h | h
      · exact absurd h (by cases a <;> first | exact Bool.false_ne_true | cases ha)
      · exact absurd h (by cases b <;> first | exact Bool.false_ne_true | cases hb')
    · simp only [List.filterMap_cons, List.filterMap_nil, List.head?_cons, Option.map_some, Option.getD_some, hx, hy, hl, Expr.pos, BEq.rfl, Bool.and_true, if_true, e, h1, h2]
      simp
theorem sw_par3 {x y z : Str} {a b c : Expr} {px py pz pt p2 : Pos} {kt k2 : Nat} {env : Env} (hb : env.blockKind = .function) (hx : env.kindOf x = some .local) (hy : env.kindOf y = some .local) (hz : env.kindOf z = some .local) (hl : (py.line == px.line) = true) (hl2 : (pz.line == px.line) = true)
    (hxy : x ≠ y) (hxz : x ≠ z) (hyz : y ≠ z) (ha : nStar a = true) (hb' : nStar b = true) (hc' : nStar c = true)
    (h1 : [a, b, c].all (foldedForSure 8) = false) (h2 : [a, b, c].all (constantsAlone 8) = false) : swappedStores [.Tuple [.Name x px, .Name y py, .Name z pz] kt pt] (.Tuple [a, b, c] k2 p2) env = pure (some [x, y, z]) := by
  have e : [x, y, z].eraseDups = [x, y, z] := by
    simp [List.eraseDups_cons, Ne.symm hxy, hxy, Ne.symm hxz, hxz, Ne.symm hyz, hyz]
  unfold swappedStores
  simp only
  split
  · rename_i h; simp [hb] at h
  · split
    · rename_i h
      simp only [List.any_cons, List.any_nil, Bool.or_false, Bool.or_eq_true] at h
      rcases h with h | h | h
      · exact absurd h (by cases a <;> first | exact Bool.false_ne_true | cases ha)
      · exact absurd h (by cases b <;> first | exact Bool.false_ne_true | cases hb')
      · exact absurd h (by cases c <;> first | exact Bool.false_ne_true | cases hc')
    · simp only [List.filterMap_cons, List.filterMap_nil, List.head?_cons, Option.map_some, Option.getD_some, hx, hy, hz, hl, hl2, Expr.pos, BEq.rfl, Bool.and_true, if_true, e, h1, h2]
      simp
end
end M
namespace M
open PySem PySem.Spec PyProof.Rows L2

section
variable {G : GA} {tb : Tb} {Φ : Nat → FS} {X : Cx} {Wx : WX} {n : Nat} {N : List Str} {sc : Scope} {ck : Str → Bool}
theorem bk_ok (g : GX G tb Φ X Wx n N sc ck) (h : (bk sc == .function) = true) : X.env.blockKind = .function := by
  have : X.env.blockKind = bk X.env.scope := rfl
  rw [this, g.esc]; exact eq_of_beq h
theorem swC_local {scope : Scope} {t : Str} {tp vp : Pos} (h : swC sc scope t tp vp = true) : sc.names.lookup t = some .local := by
  unfold swC at h
  simp only [Bool.and_eq_true] at h
  exact eq_of_beq h.1.1.2
theorem ok_set (g : GX G tb Φ X Wx n N sc ck) {i : Nat} {e : E} {x : Str} {xp pos : Pos} {y : Expr} (h1 : N[i]? = some x) (h2 : locC sc x = true) (h3 : ck x = true ∨ plocC sc x = true) (h4 : mE tb N e sc ck y = true) :
    SS G X Wx (.Assign [.Name x xp] y pos) (evX (evE Φ e).v (evSet (.name i))) := by
  have hN : X.N.Nodup := by rw [g.eN]; exact g.nd
  have hi : X.N[i]? = some x := by rw [g.eN]; exact h1
  have hf : X.fn x = true ∨ X.env.scope.names.lookup x = some .local := by
    rcases h3 with h3 | h3
    · exact .inl (g.fnp _ h3)
    · exact .inr (by rw [g.esc]; exact plocC_ok h3)
  have plain : swapsWith y (some (.Name x xp)) pos.line X.env = pure false → SS G X Wx (.Assign [.Name x xp] y pos) (evX (evE Φ e).v (evSet (.name i))) := fun sw =>
    ss_set hN hi (by rw [g.esc]; exact locC_ok h2) (ok_E e g h4).1 sw hf
  cases y with
  | ListComp y gens scope vpos =>
    have sw : swapsWith (.ListComp y gens scope vpos) (some (.Name x xp)) pos.line X.env = pure (swC X.env.scope scope x xp vpos) := rfl
    rw [g.esc] at sw
    cases hsw : swC sc scope x xp vpos with
    | false => exact plain (by rw [sw, hsw])
    | true =>
      rw [hsw] at sw
      cases e <;> simp only [mE] at h4 <;> first | (cases h4; done) | skip
      rename_i mu own elt tg it cond
      split at h4
      · rename_i y' tex iex ifs scope' pos' heq
        cases heq
        simp only [Bool.and_eq_true] at h4
        obtain ⟨⟨⟨h1, h2⟩, h3⟩, h4⟩ := h4
        unfold compC at h1
        simp only [Bool.and_eq_true] at h1
        obtain ⟨⟨⟨⟨c1, c2⟩, c3⟩, c4⟩, c5⟩ := h1
        have q := ss_setLc (mu := mu) (pos := vpos) (own := ownN N own) g.calm hN hi (by rw [g.esc]; exact swC_local hsw) sw ((ok_E it g h2).2.2.1 tex c4) (by rw [g.eN, g.esc]; exact blkOk_by c1)
          (fun s H C cl fp => tg_ok (g.blk s H C cl fp) c5) (ifs := ifs) (ft := (evE Φ cond).t)
          (fun s H C cl fp => by
            split at h4
            · cases cond <;> first | exact lc_notests | cases h4
            · exact lc_tests (ok_E cond (g.blk s H C cl fp) h4).2.1
            · cases h4)
          (fun s H C cl fp => (ok_E elt (g.blk s H C cl fp) h3).1) (folded_ok c3) (fun i hi => by rw [own_snd]; exact of_decide_eq_true (List.all_eq_true.mp c2 i hi))
        rw [own_snd] at q
        exact q
      · cases h4
  | DictComp x0 y gens scope vpos =>
    have sw : swapsWith (.DictComp x0 y gens scope vpos) (some (.Name x xp)) pos.line X.env = pure (swC X.env.scope scope x xp vpos) := rfl
    rw [g.esc] at sw
    cases hsw : swC sc scope x xp vpos with
    | false => exact plain (by rw [sw, hsw])
    | true =>
      rw [hsw] at sw
      cases e <;> simp only [mE] at h4 <;> first | (cases h4; done) | skip
      rename_i mu own k v tg it cond
      split at h4
      · rename_i x' y' tex iex ifs scope' pos' heq
        cases heq
        simp only [Bool.and_eq_true] at h4
        obtain ⟨⟨⟨⟨h1, h2⟩, h3⟩, h3'⟩, h4⟩ := h4
        unfold compC at h1
        simp only [Bool.and_eq_true] at h1
        obtain ⟨⟨⟨⟨c1, c2⟩, c3⟩, c4⟩, c5⟩ := h1
        have q := ss_setDc (mu := mu) (pos := vpos) (own := ownN N own) g.calm hN hi (by rw [g.esc]; exact swC_local hsw) sw ((ok_E it g h2).2.2.1 tex c4) (by rw [g.eN, g.esc]; exact blkOk_by c1)
          (fun s H C cl fp => tg_ok (g.blk s H C cl fp) c5) (ifs := ifs) (ft := (evE Φ cond).t)
          (fun s H C cl fp => by
            split at h4
            · cases cond <;> first | exact lc_notests | cases h4
            · exact lc_tests (ok_E cond (g.blk s H C cl fp) h4).2.1
            · cases h4)
          (fun s H C cl fp => (ok_E k (g.blk s H C cl fp) h3).1) (fun s H C cl fp => (ok_E v (g.blk s H C cl fp) h3').1) (folded_ok c3) (fun i hi => by rw [own_snd]; exact of_decide_eq_true (List.all_eq_true.mp c2 i hi))
        rw [own_snd] at q
        exact q
      · cases h4
  | SetComp _ _ _ _ => cases e <;> (simp only [mE] at h4; cases h4)
  | _ => exact plain rfl
theorem ck_ok (g : GX G tb Φ X Wx n N sc ck) {x : Str} (h3 : ck x = true ∨ plocC sc x = true) : X.fn x = true ∨ X.env.scope.names.lookup x = some .local := by
  rcases h3 with h3 | h3
  · exact .inl (g.fnp _ h3)
  · exact .inr (by rw [g.esc]; exact plocC_ok h3)
mutual
theorem ok_S (g : GX G tb Φ X Wx n N sc ck) (hp : PassesOwn (model X.prog X.w) X.A X.env X.xe) : ∀ (i : S) {st : Stmt}, mS tb N sc ck i st = true → SS G X Wx st (evS Φ i)
  | .never, st, h => ss_never
  | .pass, st, h => by
    simp only [mS] at h
    split at h
    · exact ss_pass
    · cases h
  | .brk, st, h => by
    simp only [mS] at h
    split at h
    · exact ss_break
    · cases h
  | .cont, st, h => by
    simp only [mS] at h
    split at h
    · exact ss_cont
    · cases h
  | .expr e, st, h => by
    simp only [mS] at h
    split at h
    · rw [Bool.and_eq_true] at h
      exact ss_expr (ok_E e g h.2).1 (sw_plain h.1)
    · cases h
  | .set i e, st, h => by
    simp only [mS] at h
    split at h
    · simp only [Bool.and_eq_true, decide_eq_true_eq, Bool.or_eq_true] at h
      obtain ⟨⟨⟨h1, h2⟩, h3⟩, h4⟩ := h
      exact ok_set g h1 h2 h3 h4
    · cases h
  | .asg t e, st, h => by
    simp only [mS] at h
    split at h
    · simp only [Bool.and_eq_true] at h
      obtain ⟨⟨⟨⟨h1, h2⟩, h3⟩, h4⟩, h5⟩ := h
      refine ss_asg (tg_ok g h4) (ok_E e g h5).1 (sw_tup h2) (sw_none (by rw [g.esc]; exact h3)) ?_
      rename_i x y pos
      cases x <;> first | rfl | cases h1
    · cases h
  | .sub o i e, st, h => by
    simp only [mS] at h
    split at h
    · rename_i x y p2 z pos
      simp only [Bool.and_eq_true] at h
      obtain ⟨⟨⟨h1, h2⟩, h3⟩, h4⟩ := h
      refine ss_sub (by have := g.units; omega) (ok_E o g h2).1 (ok_E i g h3).1 (ok_E e g h4).1 fun v => ?_
      cases y <;> first | rfl | cases h1
    · cases h
  | .par is es, st, h => by
    have hN : X.N.Nodup := by rw [g.eN]; exact g.nd
    simp only [mS] at h
    split at h
    · split at h
      · simp only [Bool.and_eq_true, decide_eq_true_eq, Bool.not_eq_true'] at h
        obtain ⟨⟨⟨⟨⟨⟨⟨⟨⟨⟨h1, h2⟩, h3⟩, h4⟩, h5⟩, h6⟩, h7⟩, h8⟩, h9⟩, h10⟩, h11⟩ := h
        have hs := (mEs_stars h11).1
        simp only [List.all_cons, Bool.and_eq_true] at hs
        have k4 := plocC_ok h4
        have k5 := plocC_ok h5
        rw [← g.esc] at k4 k5
        exact ss_par2 g.calm hN (by rw [g.eN]; exact h1) (by rw [g.eN]; exact h2) h3 k4 k5 (ok_Es es g h11) (sw_par2 (bk_ok g h6) k4 k5 h7 h8 hs.1 hs.2.1 h9 h10)
      · cases h
    · split at h
      · simp only [Bool.and_eq_true, decide_eq_true_eq, Bool.not_eq_true'] at h
        obtain ⟨⟨⟨⟨⟨⟨⟨⟨⟨⟨⟨⟨⟨⟨⟨⟨⟨h1, h2⟩, h3⟩, h4⟩, h5⟩, h6⟩, h7⟩, h8⟩, h9⟩, h10⟩, h11⟩, h12⟩, h13⟩, h14⟩, h15⟩, h16⟩, h17⟩, h18⟩ := h
        have hs := (mEs_stars h18).1
        simp only [List.all_cons, Bool.and_eq_true] at hs
        have k7 := plocC_ok h7
        have k8 := plocC_ok h8
        have k9 := plocC_ok h9
        rw [← g.esc] at k7 k8 k9
        exact ss_par3 g.calm hN (by rw [g.eN]; exact h1) (by rw [g.eN]; exact h2) (by rw [g.eN]; exact h3) h4 h5 h6 k7 k8 k9 (ok_Es es g h18) (sw_par3 (bk_ok g h10) k7 k8 k9 h11 h12 h13 h14 h15 hs.1 hs.2.1 hs.2.2.1 h16 h17)
      · cases h
    · cases h
  | .aug i op e, st, h => by
    simp only [mS] at h
    split at h
    · simp only [Bool.and_eq_true, decide_eq_true_eq, Bool.or_eq_true] at h
      obtain ⟨⟨⟨⟨h1, h2⟩, h3⟩, h4⟩, h5⟩ := h
      subst h2
      exact ss_aug (by rw [g.eN]; exact g.nd) (by rw [g.eN]; exact h1) (by rw [g.esc]; exact locC_ok h3) (aug_all _) (ok_E e g h5).1 (ck_ok g h4)
    · cases h
  | .augS op o i e, st, h => by
    simp only [mS] at h
    split at h
    · rename_i x y tp op' z pos
      simp only [Bool.and_eq_true, decide_eq_true_eq] at h
      obtain ⟨⟨⟨⟨h1, h2⟩, h3⟩, h4⟩, h5⟩ := h
      subst h1
      refine ss_augS (by have := g.units; omega) (ok_E o g h3).1 (ok_E i g h4).1 (aug_all _) (ok_E e g h5).1 fun ov iv new => ?_
      cases y <;> first | rfl | cases h2
    · cases h
  | .ret e, st, h => by
    simp only [mS] at h
    split at h
    · exact ss_ret (ok_E e g h).1
    · cases h
  | .retn, st, h => by
    simp only [mS] at h
    split at h
    · exact ss_retN
    · cases h
  | .ite c a b, st, h => by
    simp only [mS] at h
    split at h
    · simp only [Bool.and_eq_true] at h
      exact ss_if (ok_E c g h.1.1).2.1 (ok_Ss g hp a h.1.2) (ok_Ss g hp b h.2)
    · cases h
  | .loop m c b, st, h => by
    simp only [mS] at h
    split at h
    · simp only [Bool.and_eq_true] at h
      exact ss_while m hp (ok_E c g h.1).2.1 (ok_Ss g hp b h.2)
    · cases h
  | .each t it b, st, h => by
    simp only [mS] at h
    split at h
    · simp only [Bool.and_eq_true] at h
      obtain ⟨⟨⟨⟨h1, h2⟩, h3⟩, h4⟩, h5⟩ := h
      exact ss_for hp g.calm ((ok_E it g h4).2.2.1 _ h2) (tg_ok g h3) (ok_Ss g hp b h5) (folded_ok h1)
    · cases h
theorem ok_Ss (g : GX G tb Φ X Wx n N sc ck) (hp : PassesOwn (model X.prog X.w) X.A X.env X.xe) : ∀ (is : List S) {sts : List Stmt}, mSs tb N sc ck is sts = true → SSs G X Wx sts (evSs Φ is)
  | [], sts, h => by
    cases sts with
    | nil => exact sss_nil
    | cons _ _ => cases h
  | i :: is, sts, h => by
    cases sts with
    | nil => cases h
    | cons st sts =>
      simp only [mSs, Bool.and_eq_true] at h
      exact sss_cons (ok_S g hp i h.1) (ok_Ss g hp is h.2)
end

/-! ### the defs, one behind another -/
def nof : FS := fun _ _ => .bad
def look (fs : List FS) (i : Nat) : FS := (fs[i]?).getD nof
structure TB (G : GA) (P : Program) (w : World) (K : PySem.W.Frag) (mg : Str → Option Value) (base : Heap) (tb : Tb) (fs : List FS) : Prop where
  len : fs.length = tb.nm.length
  fns : ∀ i x ar, tb.nm[i]? = some (x, ar) → ∃ fad fd ps, FnOk P w K mg base (L2.CX P w) (i + 1) fad fd ps (spOf G ar (look fs i)) ∧ mg x = some (.ref fad) ∧ PySem.W.keepIn K (.ref fad) = true ∧ Binds K fd ps []
  gis : ∀ x i, tb.gis.lookup x = some i → ∃ t, mg x = some (.int i t)
  blt : ∀ x, x ∈ tb.blt → mg x = none
theorem TB.nil {P : Program} {w : World} {K : PySem.W.Frag} {mg : Str → Option Value} {base : Heap} {gis : List (Str × Int)} {blt : List Str} (h1 : ∀ x i, gis.lookup x = some i → ∃ t, mg x = some (.int i t)) (h2 : ∀ x, x ∈ blt → mg x = none) : TB G P w K mg base ⟨[], gis, blt⟩ [] :=
  ⟨rfl, fun i x ar h => by simp at h, h1, h2⟩
theorem TB.fn {P : Program} {w : World} {K : PySem.W.Frag} {mg : Str → Option Value} {base : Heap} {nm : List (Str × Nat)} {gis : List (Str × Int)} {blt : List Str} {fs : List FS} {f : Addr} {fd : FuncData} {x qual : Str} {params : Arguments} {body : List Stmt} {scope : Scope} {Ns ps : List Str} {ss : List S} (iso : Bool)
    (T : TB G P w K mg base ⟨nm, gis, blt⟩ fs) (F : FunD K x qual params body scope [] [] f fd) (S : FnScope Ns ps scope) (hc : mSs ⟨nm, gis, blt⟩ Ns scope (fun _ => true) ss body = true) {g : FS}
    (hg : g = if iso then isoF (evFn Ns.length (evSs (look fs) ss)) else evFn Ns.length (evSs (look fs) ss)) : FnOk P w K mg base (L2.CX P w) (nm.length + 1) f fd ps (spOf G ps.length g) := by
  have ok : FnOk P w K mg base (L2.CX P w) (nm.length + 1) f fd ps (spOf G ps.length (evFn Ns.length (evSs (look fs) ss))) := by
    refine fn_ok F S fun cdv A outer s H E hr => ?_
    have gx : GX G ⟨nm, gis, blt⟩ (look fs) (cxOf (L2.CX P w) P w K mg base Ns qual scope f cdv A outer s H E) (fun c d _ H => E c d H) nm.length Ns scope (fun _ => true) := by
      refine ⟨rfl, rfl, S.nd, rfl, hr, takes_of rfl rfl rfl rfl, fun i y ar h => ⟨?_, (List.getElem?_eq_some_iff.mp h).1⟩, T.gis, T.blt, fun _ _ => rfl⟩
      exact T.fns i y ar h
    exact ok_Ss gx (passes_of rfl) ss hc
  subst hg
  cases iso with
  | true => exact iso_ok ok
  | false => exact ok
theorem TB.step {P : Program} {w : World} {K : PySem.W.Frag} {mg : Str → Option Value} {base : Heap} {nm : List (Str × Nat)} {gis : List (Str × Int)} {blt : List Str} {fs : List FS} {f : Addr} {fd : FuncData} {x qual : Str} {params : Arguments} {body : List Stmt} {scope : Scope} {Ns ps : List Str} {ss : List S} (iso : Bool)
    (T : TB G P w K mg base ⟨nm, gis, blt⟩ fs) (F : FunD K x qual params body scope [] [] f fd) (S : FnScope Ns ps scope) (hm : mg x = some (.ref f)) (hb : Binds K fd ps []) (hc : mSs ⟨nm, gis, blt⟩ Ns scope (fun _ => true) ss body = true) {g : FS}
    (hg : g = if iso then isoF (evFn Ns.length (evSs (look fs) ss)) else evFn Ns.length (evSs (look fs) ss)) : TB G P w K mg base ⟨nm ++ [(x, ps.length)], gis, blt⟩ (fs ++ [g]) := by
  have ok := T.fn iso F S hc hg
  have len : fs.length = nm.length := T.len
  refine ⟨by rw [List.length_append, List.length_append, len]; rfl, fun i y ar h => ?_, T.gis, T.blt⟩
  have h : (nm ++ [(x, ps.length)])[i]? = some (y, ar) := h
  by_cases hi : i < nm.length
  · rw [List.getElem?_append_left hi] at h
    have e : look (fs ++ [g]) i = look fs i := by
      unfold look
      rw [List.getElem?_append_left (by omega)]
    rw [e]
    exact T.fns i y ar h
  · have e : i = nm.length := by
      have := (List.getElem?_eq_some_iff.mp h).1
      simp at this; omega
    subst e
    rw [List.getElem?_append_right (Nat.le_refl _)] at h
    simp at h
    obtain ⟨rfl, rfl⟩ := h
    have e : look (fs ++ [g]) nm.length = g := by
      unfold look
      rw [← len, List.getElem?_append_right (Nat.le_refl _)]
      simp
    rw [e]
    exact ⟨f, fd, ps, ok, hm, F.kp, hb⟩
end
end M
namespace M
open PySem PySem.Spec PyProof.Rows L2

/-! ### the written part without its lists: so the script is none of it -/
def isLO : Obj → Bool
  | ⟨.type t, _, .seq _ _, _⟩ => t == "list"
  | _ => false
def okA (K : PySem.W.Frag) (a : Addr) : Bool := match K.lookup a with
  | some o => !isLO o
  | none => true
def noL (K : PySem.W.Frag) : PySem.W.Frag := K.filter fun p => okA K p.1
theorem lookup_filter {β : Type} (q : Addr → Bool) : ∀ (l : List (Addr × β)) (a : Addr), (l.filter fun p => q p.1).lookup a = if q a then l.lookup a else none
  | [], a => by simp
  | (b, o) :: l, a => by
    rw [List.filter_cons]
    by_cases hb : q b = true
    · rw [if_pos hb, List.lookup_cons, List.lookup_cons, lookup_filter q l a]
      by_cases e : a = b
      · subst e; simp [hb]
      · have : (a == b) = false := by simpa using e
        rw [this]
    · rw [if_neg hb, lookup_filter q l a, List.lookup_cons]
      by_cases e : a = b
      · subst e; simp [hb]
      · have : (a == b) = false := by simpa using e
        rw [this]
theorem noL_lookup {K : PySem.W.Frag} {a : Addr} : (noL K).lookup a = if okA K a then K.lookup a else none := lookup_filter (okA K) K a
theorem noL_some {K : PySem.W.Frag} {a : Addr} {o : Obj} (h : K.lookup a = some o) (hn : isLO o = false) : (noL K).lookup a = some o := by
  rw [noL_lookup]
  have : okA K a = true := by unfold okA; rw [h]; simp [hn]
  rw [if_pos this, h]
theorem noL_in {K : PySem.W.Frag} {h : Heap} (X : K.In h) : (noL K).In h := fun a o e => by
  rw [noL_lookup] at e
  split at e
  · exact X a o e
  · cases e
theorem noL_code {K : PySem.W.Frag} {cd : Value} {q : Str} (h : PySem.W.codeIn K cd q = true) : PySem.W.codeIn (noL K) cd q = true := by
  unfold PySem.W.codeIn at h ⊢
  split at h
  · rename_i c
    split at h
    · rename_i x1 x2 vs x3 e
      rw [noL_some e (by unfold isLO; split <;> first | rfl | (rename_i q; cases q))]
      exact h
    · cases h
  · cases h
theorem FunD.noL {K : PySem.W.Frag} {x qual : Str} {params : Arguments} {body : List Stmt} {scope : Scope} {f : Addr} {fd : FuncData} (F : FunD K x qual params body scope [] [] f fd) : FunD (noL K) x qual params body scope [] [] f fd := by
  obtain ⟨oc, od, dV, kV, doc, pm, an, cdv, ct, osl, e1, e2, e3, e4, e5⟩ := F.ex
  have e6 : (M.noL K).lookup f = some ⟨oc, od, .func fd, osl⟩ := noL_some e2 (by unfold isLO; split <;> first | rfl | (rename_i q; cases q))
  refine ⟨⟨oc, od, dV, kV, doc, pm, an, cdv, ct, osl, e1, e6, noL_code e3, ?_, .inl rfl⟩, ?_⟩
  · rcases e4 with e4 | e4
    · exact .inl e4
    · exact absurd rfl e4.1
  · unfold PySem.W.keepIn
    simp only [e6]
theorem noL_sq {K : PySem.W.Frag} {H : Hp} {a : Addr} {xs : List V} (h : SqL (noL K) H a xs) : Rd H a (.lst xs) := by
  rcases h with h | ⟨o, its, n, e1, e2, e3, e4, _⟩
  · exact h
  · exfalso
    rw [noL_lookup] at e1
    split at e1
    · rename_i hk
      unfold okA at hk
      rw [e1] at hk
      have : isLO o = true := by
        obtain ⟨c, d, da, sl⟩ := o
        cases e2; cases e4
        rfl
      simp only [this] at hk
      cases hk
    · cases e1
section
variable {G : GA} {P : Program} {w : World} {K : PySem.W.Frag} {mg : Str → Option Value} {base h : Heap} {nm : List (Str × Nat)} {gis : List (Str × Int)} {blt : List Str} {fs : List FS} {fa : List He.Fa} {fn : List He.DefD}
theorem TB.stepD (X : K.In h) (Gm : h.Ns mainGlobals mg) (c : He.SaysD fa fn K) (iso : Bool) (T : TB G P w (noL K) mg base ⟨nm, gis, blt⟩ fs) (i j : Nat) {x qual : Str} {params : Arguments} {body : List Stmt} {scope : Scope}
    (hd : fn[i]? = some ⟨(x, none), x, qual, params, body, scope, [], []⟩) (hg : fa[j]? = some (.glo x)) {Ns ps : List Str} {ss : List S} (S : FnScope Ns ps scope)
    (hb : ∀ (kV doc pm : Value) (an : Option Addr) (cdv ct : Value) (us : List Value), us.length = ps.length → bindArgs (PySem.W.fnOf x qual params body scope .none kV doc pm an cdv ct) ⟨us, []⟩ = pure (ps.zip us))
    (hc : mSs ⟨nm, gis, blt⟩ Ns scope (fun _ => true) ss body = true) {g : FS} (hgg : g = if iso then isoF (evFn Ns.length (evSs (look fs) ss)) else evFn Ns.length (evSs (look fs) ss)) :
    TB G P w (noL K) mg base ⟨nm ++ [(x, ps.length)], gis, blt⟩ (fs ++ [g]) := by
  obtain ⟨fd, F⟩ := c.def_ i hd
  have F' : FunD K x qual params body scope [] [] (He.fAd K (x, none)) fd := F
  have F2 := FunD.noL F'
  exact T.step iso F2 S (He.glo_ok X Gm (c.fact j hg)) (F2.bindsN hb) hc hgg
theorem TB.nilD (X : K.In h) (Gm : h.Ns mainGlobals mg) (c : He.SaysD fa fn K) (h1 : ∀ x i, gis.lookup x = some i → He.Fa.int x i ∈ fa) (h2 : ∀ x, x ∈ blt → He.Fa.free x ∈ fa) : TB G P w (noL K) mg base ⟨[], gis, blt⟩ [] := by
  refine TB.nil (fun x i e => ?_) fun x e => ?_
  · obtain ⟨j, hj⟩ := List.getElem?_of_mem (h1 x i e)
    exact He.int_ok X Gm (c.fact j hj)
  · obtain ⟨j, hj⟩ := List.getElem?_of_mem (h2 x e)
    exact He.free_ok X Gm (c.fact j hj)
/-- the law's promise -/
theorem law_sp {f : FS} {H : Hp} {a : Addr} {ns : List Int} {μ : Mem} (hS : SqL (noL K) H a (ns.map V.int)) (hf : f [.lst (ns.map D.int)] [] = .ok (.bl true) μ) : spOf G 1 f [.ref a] H (fun v _ => v = .bl true) (fun _ _ _ => False) := by
  refine ⟨rfl, ⟨fun _ => 0, fun _ => False⟩, [], [.lst (ns.map D.int)], ⟨fun l c e => by simp at e, fun i j hi => by simp at hi, fun l hl => by simp at hl, fun p hp => hp.elim⟩, ⟨.ref a, [], rfl, ⟨a, ns.map V.int, rfl, noL_sq hS, fun z => z, RDs_ints ns⟩, rfl⟩, ?_⟩
  rw [hf]
  exact fun v W' H' _ _ r => r
/-- the law's def, over every base -/
theorem law_end {par qual : Str} {params : Arguments} {body : List Stmt} {scope : Scope} {f : Addr} {Ns : List Str} {ss : List S} {g : FS} (X : K.In h) (Gm : h.Ns mainGlobals mg) (c : He.SaysD fa fn K) (hf : mg "law" = some (.ref f)) (iso : Bool)
    (T : ∀ base, TB G P w (noL K) mg base ⟨nm, gis, blt⟩ fs) (i j : Nat) (hd : fn[i]? = some ⟨("law", none), "law", qual, params, body, scope, [], []⟩) (hg : fa[j]? = some (.glo "law")) (S : FnScope Ns [par] scope)
    (hb : ∀ (kV doc pm : Value) (an : Option Addr) (cdv ct : Value) (us : List Value), us.length = 1 → bindArgs (PySem.W.fnOf "law" qual params body scope .none kV doc pm an cdv ct) ⟨us, []⟩ = pure ([par].zip us))
    (hc : mSs ⟨nm, gis, blt⟩ Ns scope (fun _ => true) ss body = true) (hgg : g = if iso then isoF (evFn Ns.length (evSs (look fs) ss)) else evFn Ns.length (evSs (look fs) ss)) :
    ∃ fd : FuncData, (∀ (s : Shared) (u : Value), BindsTo s fd ⟨[u], []⟩ [(par, u)]) ∧ ∀ base : Heap, FnOk P w (noL K) mg base (L2.CX P w) (nm.length + 1) f fd [par] (spOf G 1 g) := by
  obtain ⟨fd, F⟩ := c.def_ i hd
  have F' : FunD K "law" qual params body scope [] [] (He.fAd K ("law", none)) fd := F
  have e : f = He.fAd K ("law", none) := by
    have h2 := hf.symm.trans (He.glo_ok X Gm (c.fact j hg))
    cases h2; rfl
  rw [← e] at F'
  have F2 := FunD.noL F'
  have bs := FunD.bindsA (ps := [par]) F2 hb
  exact ⟨fd, fun s u => bs s [u] rfl, fun base => (T base).fn iso F2 S hc hgg⟩
end
theorem walk_ofX {l : PySem.W.OpenLaw} {n k : Nat} {q : Program} {loose : List Str} {XP : (Str → Option Value) → Heap → Prop} {YP : World → Heap → Prop} {d : DefRec} {x : Str}
    (hn : l.most = some n) (hdf : d.params.defaults = []) (hn2 : n ≤ sizeLine) (hr : Room k callerA)
    (F : ∀ (w : World) (mg : Str → Option Value) (f : Addr) (h : Heap), YP w h → h.Ns mainGlobals mg → mg d.name = some (.ref f) →
      ∃ (K : PySem.W.Frag) (fd : FuncData) (sp : Sp), K.In h ∧ (∀ (s : Shared) (u : Value), BindsTo s fd ⟨[u], []⟩ [(x, u)]) ∧ (∀ base : Heap, FnOk l.prog w K mg base (L2.CX l.prog w) k f fd [x] sp) ∧
        ∀ (H : Hp) (a : Addr) (ns : List Int), ns.length ≤ n → SqL K H a (ns.map V.int) → sp [.ref a] H (fun v _ => v = .bl true) fun _ _ _ => False) :
    PySem.W.WalkO q loose XP YP l.row.toRowW d [] (fun f vs => PySem.call f vs) :=
  Att.attach_call hn hdf fun w s0 s1 mg mb f o pm cd doc a vs ns Gr Yp ho hd hcd hmg hobj hints hlen hgen =>
    let ⟨_, _, _, KX, hb, hF, hsp⟩ := F w mg f _ Yp Gr.T.g hmg
    law_call KX Gr.T.g Gr.T.b Gr.T.builtins Gr.T.nolimit hgen hobj hints (Nat.le_trans hlen hn2) hr (fun base _ _ => hF base) hb (fun H _ hS => hsp H a ns hlen hS)
      fun _ _ _ ⟨_, _, _, _, _, _, _, _, _, _, _, _, z⟩ => z
end M
namespace B
open M PySem PySem.PyData

/-! ### equality of plain data -/
mutual
def pl : Nat → D → Bool
  | _, .non => true
  | _, .int _ => true
  | _, .str x => strOk x
  | 0, .tup _ => false
  | 0, .lst _ => false
  | n + 1, .tup ds => pls n ds
  | n + 1, .lst ds => pls n ds
  | _, _ => false
def pls : Nat → List D → Bool
  | _, [] => true
  | n, d :: ds => pl n d && pls n ds
end
theorem depth_le {a b c : Nat} (h1 : a ≤ c) (h2 : b ≤ c) : max a b ≤ c := by omega
mutual
theorem pl_lay : ∀ {n : Nat} {d : D}, pl n d = true → ∃ p, toP d = some p ∧ p.canLay0 = true ∧ p.depth ≤ n
  | n, .non, _ => ⟨.none, rfl, rfl, Nat.zero_le _⟩
  | n, .int i, _ => ⟨.int i, rfl, rfl, Nat.zero_le _⟩
  | n, .str x, h => ⟨.str x, rfl, by simpa [PyData.canLay0] using (show strOk x = true by cases n <;> simpa [pl] using h), Nat.zero_le _⟩
  | 0, .tup ds, h => by simp [pl] at h
  | 0, .lst ds, h => by simp [pl] at h
  | n + 1, .tup ds, h => by
    obtain ⟨ps, e, h1, h2⟩ := pls_lay (n := n) (ds := ds) (by simpa [pl] using h)
    exact ⟨.tuple ps, by simp [toP, e], by simpa [PyData.canLay0] using h1, by simp only [PyData.depth]; omega⟩
  | n + 1, .lst ds, h => by
    obtain ⟨ps, e, h1, h2⟩ := pls_lay (n := n) (ds := ds) (by simpa [pl] using h)
    exact ⟨.list ps, by simp [toP, e], by simpa [PyData.canLay0] using h1, by simp only [PyData.depth]; omega⟩
  | n, .bl _, h => by cases n <;> simp [pl] at h
  | n, .dct _ _ _, h => by cases n <;> simp [pl] at h
  | n, .obj _, h => by cases n <;> simp [pl] at h
  | n, .fn _, h => by cases n <;> simp [pl] at h
theorem pls_lay : ∀ {n : Nat} {ds : List D}, pls n ds = true → ∃ ps, toPs ds = some ps ∧ PyData.canLayAll0 ps = true ∧ PyData.depthAll ps ≤ n
  | n, [], _ => ⟨[], rfl, rfl, Nat.zero_le _⟩
  | n, d :: ds, h => by
    simp only [pls, Bool.and_eq_true] at h
    obtain ⟨p, e1, h1, h2⟩ := pl_lay h.1
    obtain ⟨ps, e2, h3, h4⟩ := pls_lay h.2
    exact ⟨p :: ps, by simp [toPs, e1, e2], by simp [PyData.canLayAll0, h1, h3], by simp only [PyData.depthAll]; exact depth_le h2 h4⟩
end
mutual
theorem pl_eqv : ∀ {n m : Nat} {a b : D} {p q : PyData}, pl n a = true → pl m b = true → toP a = some p → toP b = some q → PyData.eqv p q = beqD a b
  | n, m, .non, b, p, q, ha, hb, ep, eq => by cases ep; cases b <;> simp [toP] at eq <;> (try subst eq) <;> (try obtain ⟨_, _, eq⟩ := eq) <;> (try subst eq) <;> first | (simp [PyData.eqv, beqD]; done) | (cases m <;> simp [pl] at hb)
  | n, m, .int i, b, p, q, ha, hb, ep, eq => by cases ep; cases b <;> simp [toP] at eq <;> (try subst eq) <;> (try obtain ⟨_, _, eq⟩ := eq) <;> (try subst eq) <;> first | (simp [PyData.eqv, beqD]; done) | (cases m <;> simp [pl] at hb)
  | n, m, .str i, b, p, q, ha, hb, ep, eq => by cases ep; cases b <;> simp [toP] at eq <;> (try subst eq) <;> (try obtain ⟨_, _, eq⟩ := eq) <;> (try subst eq) <;> first | (simp [PyData.eqv, beqD]; done) | (cases m <;> simp [pl] at hb)
  | n, m, .tup ds, b, p, q, ha, hb, ep, eq => by
    cases n with
    | zero => simp [pl] at ha
    | succ n =>
    simp [toP] at ep
    obtain ⟨ps, e1, rfl⟩ := ep
    cases b <;> simp [toP] at eq
    case tup es =>
      obtain ⟨qs, e2, rfl⟩ := eq
      cases m with
      | zero => simp [pl] at hb
      | succ m =>
      simp only [PyData.eqv, beqD]
      exact pls_eqv (by simpa [pl] using ha) (by simpa [pl] using hb) e1 e2
    all_goals first
      | (subst eq; simp [PyData.eqv, beqD]; done)
      | (obtain ⟨_, _, eq⟩ := eq; subst eq; simp [PyData.eqv, beqD])
      | (cases m <;> simp [pl] at hb)
  | n, m, .lst ds, b, p, q, ha, hb, ep, eq => by
    cases n with
    | zero => simp [pl] at ha
    | succ n =>
    simp [toP] at ep
    obtain ⟨ps, e1, rfl⟩ := ep
    cases b <;> simp [toP] at eq
    case lst es =>
      obtain ⟨qs, e2, rfl⟩ := eq
      cases m with
      | zero => simp [pl] at hb
      | succ m =>
      simp only [PyData.eqv, beqD]
      exact pls_eqv (by simpa [pl] using ha) (by simpa [pl] using hb) e1 e2
    all_goals first
      | (subst eq; simp [PyData.eqv, beqD]; done)
      | (obtain ⟨_, _, eq⟩ := eq; subst eq; simp [PyData.eqv, beqD])
      | (cases m <;> simp [pl] at hb)
  | n, m, .bl _, b, p, q, ha, hb, ep, eq => by cases n <;> simp [pl] at ha
  | n, m, .dct _ _ _, b, p, q, ha, hb, ep, eq => by cases n <;> simp [pl] at ha
  | n, m, .obj _, b, p, q, ha, hb, ep, eq => by cases n <;> simp [pl] at ha
  | n, m, .fn _, b, p, q, ha, hb, ep, eq => by cases n <;> simp [pl] at ha
theorem pls_eqv : ∀ {n m : Nat} {a b : List D} {p q : List PyData}, pls n a = true → pls m b = true → toPs a = some p → toPs b = some q → PyData.eqvAll p q = beqDs a b
  | n, m, [], b, p, q, ha, hb, ep, eq => by
    cases ep
    cases b with
    | nil => cases eq; simp [PyData.eqvAll, beqDs]
    | cons b bs =>
      unfold toPs at eq
      split at eq
      · cases eq; simp [PyData.eqvAll, beqDs]
      · cases eq
  | n, m, a :: as, b, p, q, ha, hb, ep, eq => by
    unfold toPs at ep
    split at ep
    · rename_i p1 ps e1 e2
      cases ep
      cases b with
      | nil => cases eq; simp [PyData.eqvAll, beqDs]
      | cons b bs =>
        unfold toPs at eq
        split at eq
        · rename_i q1 qs e3 e4
          cases eq
          simp only [pls, Bool.and_eq_true] at ha hb
          simp only [PyData.eqvAll, beqDs]
          rw [pl_eqv ha.1 hb.1 e1 e3, pls_eqv ha.2 hb.2 e2 e4]
        · cases eq
    · cases ep
end
theorem eqvD_pl {a b : D} {μ : Mem} (ha : pl 64 a = true) (hb : pl 64 b = true) : eqvD a b μ = some (beqD a b) := by
  obtain ⟨p, e1, h1, h2⟩ := pl_lay ha
  obtain ⟨q, e2, h3, h4⟩ := pl_lay hb
  have f : ∀ {d : D} {p : PyData}, toP d = some p → toPm μ d = some p := fun {d p} e => by
    cases d <;> first | exact e | (simp [toP] at e)
  unfold eqvD
  rw [f e1, f e2]
  simp only
  rw [if_pos]
  · rw [pl_eqv ha hb e1 e2]
  · simp [SeqAt.shaped, h1, h2, h3, h4]
theorem eqD_pl {a b : D} {μ : Mem} (ha : pl 64 a = true) (hb : pl 64 b = true) : eqD a b μ = some (.bl (beqD a b)) := by
  unfold eqD; rw [eqvD_pl ha hb]; rfl
theorem neD_pl {a b : D} {μ : Mem} (ha : pl 64 a = true) (hb : pl 64 b = true) : neD a b μ = some (.bl (!beqD a b)) := by
  unfold neD; rw [eqvD_pl ha hb]; rfl
@[simp] theorem eqD_int (i j : Int) (μ : Mem) : eqD (.int i) (.int j) μ = some (.bl (decide (i = j))) := by
  rw [eqD_pl (by simp [pl]) (by simp [pl])]; simp [beqD, Bool.beq_eq_decide_eq]
@[simp] theorem neD_int (i j : Int) (μ : Mem) : neD (.int i) (.int j) μ = some (.bl (decide (i ≠ j))) := by
  rw [neD_pl (by simp [pl]) (by simp [pl])]; simp [beqD, Bool.beq_eq_decide_eq]
theorem pls_ints (n : Nat) (ns : List Int) : pls n (ns.map D.int) = true := by
  induction ns with
  | nil => simp [pls]
  | cons a ns ih => simp [pls, pl, ih]
theorem pls_pairs (n : Nat) (ps : List (Int × Int)) : pls (n + 1) (ps.map pairD) = true := by
  induction ps with
  | nil => simp [pls]
  | cons a ns ih => simp [pls, pl, pairD, ih]
theorem beqDs_ints : ∀ (a b : List Int), beqDs (a.map D.int) (b.map D.int) = decide (a = b)
  | [], [] => rfl
  | [], _ :: _ => by simp [beqDs]
  | _ :: _, [] => by simp [beqDs]
  | x :: a, y :: b => by simp [beqDs, beqD, beqDs_ints a b, Bool.beq_eq_decide_eq]
theorem beqDs_pairs : ∀ (a b : List (Int × Int)), beqDs (a.map pairD) (b.map pairD) = decide (a = b)
  | [], [] => rfl
  | [], _ :: _ => by simp [beqDs]
  | _ :: _, [] => by simp [beqDs]
  | (x, x') :: a, (y, y') :: b => by simp [beqDs, beqD, pairD, beqDs_pairs a b, Bool.beq_eq_decide_eq]
/-! ### targets, loops -/
theorem asgT_name {i : Nat} {d : D} {δ : Sg} : asgT (.name i) d δ = some (δ.set i (some d)) := rfl
theorem asgT_tup {ts : List Tg} {ds : List D} {δ : Sg} : asgT (.tup ts) (.tup ds) δ = asgTs ts ds δ := rfl
theorem asgTs_nil {δ : Sg} : asgTs [] [] δ = some δ := rfl
theorem asgTs_cons {t : Tg} {ts : List Tg} {d : D} {ds : List D} {δ : Sg} : asgTs (t :: ts) (d :: ds) δ = match asgT t d δ with
    | some δ' => asgTs ts ds δ'
    | Option.none => Option.none := rfl
/-- a comprehension without effects -/
theorem lc_map {α : Type} {gd : List (Nat × List D)} {t : Tg} {ft : Sg → Mem → Out Bool} {fe : Sg → Mem → Out D} {δ : Sg} {μ : Mem} (e : α → D) (p : α → Bool) (g : α → D) (hg : gOk μ gd = true) : ∀ (ys : List α) (acc : List D),
    (∀ y ∈ ys, ∃ δ1, asgT t (e y) δ = some δ1 ∧ ft δ1 μ = .ok (p y) μ ∧ (p y = true → fe δ1 μ = .ok (g y) μ)) → acc.length + ys.length ≤ 16777216 → lcLoop gd (asgT t) ft fe δ (ys.map e) acc μ = .ok (acc ++ (ys.filter p).map g) μ
  | [], acc, _, _ => by simp [lcLoop, hg]
  | y :: ys, acc, h, hl => by
    obtain ⟨δ1, h1, h2, h3⟩ := h y (List.mem_cons_self ..)
    have hl' : acc.length + (ys.length + 1) ≤ 16777216 := hl
    have ih := fun acc hl => lc_map (gd := gd) (t := t) (ft := ft) (fe := fe) (δ := δ) e p g hg ys acc (fun y hy => h y (List.mem_cons_of_mem _ hy)) hl
    rw [List.map_cons]
    unfold lcLoop
    rw [if_pos hg]
    simp only [h1, h2, Out.noX_ok, Out.bind_ok]
    cases hp : p y with
    | false =>
      rw [if_neg Bool.false_ne_true, ih acc (by omega), List.filter_cons, hp]
      simp
    | true =>
      rw [if_pos rfl, h3 hp]
      simp only [Out.noX_ok, Out.bind_ok]
      rw [if_pos (by omega), ih _ (by simp; omega), List.filter_cons, hp]
      simp
theorem evLc_val {α : Type} {gd : List (Nat × List D)} {src : Sg → Mem → Out Src} {t : Tg} {ft : Sg → Mem → Out Bool} {fe : Sg → Mem → Out D} {own : List Nat} {δ : Sg} {μ μ1 : Mem} (ys : List α) (e : α → D) (p : α → Bool) (g : α → D) (hs : src δ μ = .ok ⟨ys.map e, gd⟩ μ1) (hg : gOk μ1 gd = true) (hl : ys.length ≤ 16777216)
    (h : ∀ y ∈ ys, ∃ δ1, asgT t (e y) (wipeD δ own) = some δ1 ∧ ft δ1 μ1 = .ok (p y) μ1 ∧ (p y = true → fe δ1 μ1 = .ok (g y) μ1)) : evLc false src t ft fe own δ μ = .ok (.lst ((ys.filter p).map g)) μ1 := by
  unfold evLc
  rw [hs]
  simp only [Out.bind_ok]
  rw [lc_map e p g hg ys [] h (by simpa using hl)]
  rfl
theorem evLc_all {α : Type} {gd : List (Nat × List D)} {src : Sg → Mem → Out Src} {t : Tg} {fe : Sg → Mem → Out D} {own : List Nat} {δ : Sg} {μ μ1 : Mem} (ys : List α) (e : α → D) (g : α → D) (hs : src δ μ = .ok ⟨ys.map e, gd⟩ μ1) (hg : gOk μ1 gd = true) (hl : ys.length ≤ 16777216)
    (h : ∀ y ∈ ys, ∃ δ1, asgT t (e y) (wipeD δ own) = some δ1 ∧ fe δ1 μ1 = .ok (g y) μ1) : evLc false src t evYes fe own δ μ = .ok (.lst (ys.map g)) μ1 := by
  have q := evLc_val (ft := evYes) ys e (fun _ => true) g hs hg hl (fun y hy => let ⟨δ1, h1, h2⟩ := h y hy; ⟨δ1, h1, rfl, fun _ => h2⟩)
  rw [q, List.filter_eq_self.mpr fun _ _ => rfl]
/-- a comprehension with effects: what is so after each item -/
theorem lc_inv {α : Type} {gd : List (Nat × List D)} {t : Tg} {fe : Sg → Mem → Out D} {δ : Sg} (e : α → D) (I : List D → Mem → Prop) (hg : ∀ acc μ, I acc μ → gOk μ gd = true) : ∀ (ys : List α) (acc : List D) (μ : Mem), I acc μ →
    (∀ y ∈ ys, ∀ acc μ, I acc μ → ∃ δ1 d μ', asgT t (e y) δ = some δ1 ∧ fe δ1 μ = .ok d μ' ∧ I (acc ++ [d]) μ') → acc.length + ys.length ≤ 16777216 → ∃ ds μ', lcLoop gd (asgT t) evYes fe δ (ys.map e) acc μ = .ok ds μ' ∧ I ds μ' ∧ ds.length = acc.length + ys.length
  | [], acc, μ, h0, _, _ => ⟨acc, μ, by simp [lcLoop, hg _ _ h0], h0, rfl⟩
  | y :: ys, acc, μ, h0, h, hl => by
    have hl' : acc.length + (ys.length + 1) ≤ 16777216 := hl
    obtain ⟨δ1, d, μ1, h1, h2, h3⟩ := h y (List.mem_cons_self ..) acc μ h0
    obtain ⟨ds, μ', e1, e2, e3⟩ := lc_inv (gd := gd) (t := t) (fe := fe) (δ := δ) e I hg ys _ μ1 h3 (fun y hy => h y (List.mem_cons_of_mem _ hy)) (by simp; omega)
    refine ⟨ds, μ', ?_, e2, by rw [e3]; simp; omega⟩
    rw [List.map_cons]
    unfold lcLoop
    rw [if_pos (hg _ _ h0)]
    simp only [h1, h2, evYes, Out.noX_ok, Out.bind_ok, if_true]
    rw [if_pos (by omega)]
    exact e1
/-- a for: what is so ahead of each item, and of what comes out -/
theorem for_inv {α : Type} {gd : List (Nat × List D)} {t : Tg} {f : SF} (e : α → D) (Q : Out Fl → Prop) (I : List α → Sg → Mem → Prop)
    (step : ∀ y r δ μ, I (y :: r) δ μ → gOk μ gd = true ∧ ∃ δ1, asgT t (e y) δ = some δ1 ∧
      ((∃ δ2 μ2, (f δ1 μ = .ok (.nx δ2) μ2 ∨ f δ1 μ = .ok (.ct δ2) μ2) ∧ I r δ2 μ2) ∨ (∃ δ2 μ2, f δ1 μ = .ok (.bk δ2) μ2 ∧ Q (.ok (.nx δ2) μ2)) ∨ (∃ d μ2, f δ1 μ = .ok (.rt d) μ2 ∧ Q (.ok (.rt d) μ2)) ∨ (∃ x δ2 μ2, f δ1 μ = .ok (.xc x δ2) μ2 ∧ Q (.ok (.xc x δ2) μ2))))
    (fin : ∀ δ μ, I [] δ μ → gOk μ gd = true ∧ Q (.ok (.nx δ) μ)) : ∀ (ys : List α) (δ : Sg) (μ : Mem), I ys δ μ → Q (evFor gd t f (ys.map e) δ μ)
  | [], δ, μ, h => by
    obtain ⟨h1, h2⟩ := fin δ μ h
    simpa [evFor, h1] using h2
  | y :: ys, δ, μ, h => by
    obtain ⟨h1, δ1, h2, h3⟩ := step y ys δ μ h
    rw [List.map_cons]
    unfold evFor
    rw [if_pos h1]
    simp only [h2]
    rcases h3 with ⟨δ2, μ2, h4 | h4, h5⟩ | ⟨δ2, μ2, h4, h5⟩ | ⟨d, μ2, h4, h5⟩ | ⟨x, δ2, μ2, h4, h5⟩
    · rw [h4]; exact for_inv e Q I step fin ys δ2 μ2 h5
    · rw [h4]; exact for_inv e Q I step fin ys δ2 μ2 h5
    · rw [h4]; exact h5
    · rw [h4]; exact h5
    · rw [h4]; exact h5
theorem forS_inv {α : Type} {gd : List (Nat × List D)} {t : Tg} {f : SF} {src : Sg → Mem → Out Src} {δ : Sg} {μ μ1 : Mem} (ys : List α) (e : α → D) (Q : Out Fl → Prop) (I : List α → Sg → Mem → Prop) (hs : src δ μ = .ok ⟨ys.map e, gd⟩ μ1) (h0 : I ys δ μ1)
    (step : ∀ y r δ μ, I (y :: r) δ μ → gOk μ gd = true ∧ ∃ δ1, asgT t (e y) δ = some δ1 ∧
      ((∃ δ2 μ2, (f δ1 μ = .ok (.nx δ2) μ2 ∨ f δ1 μ = .ok (.ct δ2) μ2) ∧ I r δ2 μ2) ∨ (∃ δ2 μ2, f δ1 μ = .ok (.bk δ2) μ2 ∧ Q (.ok (.nx δ2) μ2)) ∨ (∃ d μ2, f δ1 μ = .ok (.rt d) μ2 ∧ Q (.ok (.rt d) μ2)) ∨ (∃ x δ2 μ2, f δ1 μ = .ok (.xc x δ2) μ2 ∧ Q (.ok (.xc x δ2) μ2))))
    (fin : ∀ δ μ, I [] δ μ → gOk μ gd = true ∧ Q (.ok (.nx δ) μ)) : Q (evForS src t f δ μ) := by
  unfold evForS evX
  rw [hs]
  exact for_inv e Q I step fin ys δ μ1 h0
/-- a while -/
theorem while_inv {ft : Sg → Mem → Out Bool} {f : SF} (Q : Out Fl → Prop) (I : Nat → Sg → Mem → Prop)
    (step : ∀ m δ μ, I m δ μ → (∃ μ1, ft δ μ = .ok false μ1 ∧ Q (.ok (.nx δ) μ1)) ∨ (∃ μ1, ft δ μ = .ok true μ1 ∧
      ((∃ δ2 μ2 m', (f δ μ1 = .ok (.nx δ2) μ2 ∨ f δ μ1 = .ok (.ct δ2) μ2) ∧ m' < m ∧ I m' δ2 μ2) ∨ (∃ δ2 μ2, f δ μ1 = .ok (.bk δ2) μ2 ∧ Q (.ok (.nx δ2) μ2)) ∨ (∃ d μ2, f δ μ1 = .ok (.rt d) μ2 ∧ Q (.ok (.rt d) μ2))))) :
    ∀ (k m : Nat) (δ : Sg) (μ : Mem), m < k → I m δ μ → Q (evWhile ft f k δ μ)
  | 0, m, δ, μ, hm, _ => absurd hm (by omega)
  | k + 1, m, δ, μ, hm, h => by
    unfold evWhile evX
    rcases step m δ μ h with ⟨μ1, h1, h2⟩ | ⟨μ1, h1, ⟨δ2, μ2, m', h3 | h3, h4, h5⟩ | ⟨δ2, μ2, h3, h4⟩ | ⟨d, μ2, h3, h4⟩⟩
    · rw [h1]; exact h2
    · rw [h1]
      simp only [if_true, h3]
      exact while_inv Q I step k m' δ2 μ2 (by omega) h5
    · rw [h1]
      simp only [if_true, h3]
      exact while_inv Q I step k m' δ2 μ2 (by omega) h5
    · rw [h1]
      simp only [if_true, h3]
      exact h4
    · rw [h1]
      simp only [if_true, h3]
      exact h4
theorem isoF_ok {f : FS} {ds : List D} {μ μ' : Mem} {d e : D} (h : noObjs ds = true) (h1 : f ds [] = .ok d μ') (h2 : frz (lkN μ' 4) d = some e) : isoF f ds μ = .ok e μ := by
  unfold isoF
  rw [if_pos h, h1]
  simp only [h2]
end B
namespace B
open M PySem PySem.Spec PyProof.Rows L2

/-! ### the bag -/
def bTake : List S := [
  .ite (.cmp .Eq (.ix (.var 0) (.cst (.int (0)))) (.cst (.int (0)))) [
    .set 4 (.ix (.bin .Add (.sl (.ix (.var 0) (.cst (.int (3)))) (.ix (.var 0) (.cst (.int (2)))) (.absent)) (.lst false [.cst (.int (0))])) (.cst (.int (0)))),
    .augS .Add (.var 0) (.cst (.int (2))) (.cst (.int (1))),
    .ite (.cmp .GtE (.var 4) (.bin .Pow (.cst (.int (10))) (.cst (.int (18))))) [
      .sub (.var 0) (.cst (.int (0))) (.var 4)] [],
    .set 5 (.bin .Add (.bin .Add (.bin .Mult (.ix (.var 0) (.cst (.int (1)))) (.cst (.int (48271)))) (.bin .Mod (.blt .int [.var 4]) (.cst (.int (2147483647))))) (.bin .Mult (.cst (.int (7919))) (.ix (.var 0) (.cst (.int (2)))))),
    .sub (.var 0) (.cst (.int (1))) (.bin .Mod (.blt .int [.var 5]) (.cst (.int (2147483647))))] [],
  .ite (.cmp .Gt (.ix (.var 0) (.cst (.int (0)))) (.cst (.int (0)))) [
    .set 6 (.bin .Mod (.blt .int [.ix (.var 0) (.cst (.int (0)))]) (.var 1)),
    .sub (.var 0) (.cst (.int (0))) (.bin .FloorDiv (.blt .int [.ix (.var 0) (.cst (.int (0)))]) (.var 1)),
    .ret (.var 6)] [],
  .set 2 (.bin .Mod (.blt .int [.bin .Mult (.bin .Add (.ix (.var 0) (.cst (.int (1)))) (.cst (.int (1)))) (.cst (.int (39373)))]) (.cst (.int (1000000007)))),
  .set 3 (.bin .Mod (.blt .int [.bin .Mult (.bin .Mod (.blt .int [.bin .Mult (.var 2) (.var 2)]) (.cst (.int (998244353)))) (.cst (.int (30011)))]) (.cst (.int (998244353)))),
  .ret (.bin .Mod (.blt .int [.bin .FloorDiv (.var 3) (.cst (.int (7)))]) (.var 1))]
def bag4 (a b c : Int) (cs : List Int) : Cell := .lst [.int a, .int b, .int c, .lst (cs.map D.int)]
/-- a bag in good order -/
structure Bag (μ : Mem) (l : Nat) : Prop where
  ex : ∃ a b c cs, μ[l]? = some (bag4 a b c cs) ∧ 0 ≤ a ∧ 0 ≤ b ∧ b < 2147483647 ∧ 0 ≤ c ∧ (∀ x ∈ cs, 0 ≤ x) ∧ cs.length ≤ 1000
@[simp] theorem bind_ok {α β : Type} {a : α} {μ : Mem} {k : α → Mem → Out β} : (Out.ok a μ).bind k = k a μ := rfl
theorem take_a {Φ : Nat → FS} {μ : Mem} {l : Nat} {a b c many : Int} {cs : List Int} (h : μ[l]? = some (bag4 a b c cs)) (ha : 0 < a) (hm : 0 < many) (hm2 : many < 1073741824) :
    evFn 7 (evSs Φ bTake) [.obj l, .int many] μ = .ok (.int (a % many)) (μ.set l (bag4 (a / many) b c cs)) := by
  have hl : l < μ.length := (List.getElem?_eq_some_iff.mp h).1
  have h0 : ¬ a = 0 := by omega
  simp [bTake, evFn, evSs, evS, evE, evEs, evBoV, evBoT, ofV, ofC, evX, evSeq, evSkip, evVar, evBin, evUn, evB, evT, evChain, evAnd, evOr, evNot, evAndT, evOrT, evNotT, evIf, evNil, evCons, evTup, evLst, evMl, evCall, evBlt, evBltM, evIs, evMth, evSl, evP, evNoP, evSrc, evSet, evPar, asgT_name, asgT_tup, asgTs_nil, asgTs_cons, evAug, evAugS, evSetIx, evYes, evD0, binG, cmpG, augG, Bl.f, Mt.f, Mt.ty, Cst.d, no1, h, bag4, ixD, dctOf, idxD, seqL, atI, ixN, h0, ha, cmpI, M.intD, modD, fdivD, hm, hm2, setIx]
theorem map_ofNat_drop (cs : List Int) (c : Int) (hc : 0 ≤ c) : M.cutD (cs.map D.int) (some c) none = (cs.drop c.toNat).map D.int := by
  have h0 : ¬ c < 0 := by omega
  simp only [M.cutD, HT.sIx, if_neg h0, List.length_map]
  rw [List.map_drop, List.take_of_length_le (by simp)]
  by_cases h : c.toNat ≤ cs.length
  · rw [Nat.min_eq_left h]
  · rw [Nat.min_eq_right (by omega), List.drop_of_length_le (by simp), List.drop_of_length_le (by simp; omega)]
theorem line_le {n : Nat} (h : n ≤ 16777216) : n ≤ sizeLine := by rw [sizeLine_eq]; exact h
theorem take_b {Φ : Nat → FS} {μ : Mem} {l : Nat} {b c many : Int} {cs : List Int} (h : μ[l]? = some (bag4 0 b c cs)) (hb : 0 ≤ b) (hc : 0 ≤ c) (hb2 : b < 2147483647) (hcs : ∀ x ∈ cs, 0 ≤ x) (hlen : cs.length ≤ 1000) (hm : 0 < many) (hm2 : many < 1073741824) :
    ∃ d a' b' c', evFn 7 (evSs Φ bTake) [.obj l, .int many] μ = .ok (.int d) (μ.set l (bag4 a' b' c' cs)) ∧ 0 ≤ d ∧ d < many ∧ 0 ≤ a' ∧ 0 ≤ b' ∧ b' < 2147483647 ∧ 0 ≤ c' := by
  have hl : l < μ.length := (List.getElem?_eq_some_iff.mp h).1
  obtain ⟨cell, L, Rr, h1, h2, h3⟩ : ∃ cell L Rr, M.cutD (cs.map D.int) (some c) none = L ∧ L ++ [D.int 0] = .int cell :: Rr ∧ 0 ≤ cell ∧ L.length + 1 ≤ sizeLine := by
    refine ⟨((cs.drop c.toNat).head?).getD 0, _, ((cs.drop c.toNat).map D.int ++ [D.int 0]).tail, map_ofNat_drop cs c hc, ?_, ?_, line_le (by simp; omega)⟩
    · cases cs.drop c.toNat <;> simp
    · cases e : cs.drop c.toNat with
      | nil => simp
      | cons x r => exact hcs x (List.mem_of_mem_drop (by rw [e]; exact List.mem_cons_self ..))
  have hs : ∀ x : Cell, (μ.set l x)[l]? = some x := fun x => List.getElem?_set_self hl
  have hh : cell ≥ 10 ^ 18 ∨ cell < 10 ^ 18 := by omega
  have hp : (10 : Int) ^ (18 : Nat) = 1000000000000000000 := by decide
  have m1 : ∀ x : Int, mulOk x 48271 = true := fun x => by simp [mulOk]
  have m2 : ∀ x : Int, mulOk 7919 x = true := fun x => by simp [mulOk]
  have m3 : ∀ x : Int, mulOk x 39373 = true := fun x => by simp [mulOk]
  have m4 : ∀ x : Int, mulOk (x % 1000000007) (x % 1000000007) = true := fun x => by simp [mulOk]; omega
  have m5 : ∀ x : Int, mulOk x 30011 = true := fun x => by simp [mulOk]
  rcases hh with hh | hh
  · have hpos : 0 < cell := by omega
    refine ⟨cell % many, cell / many, (b * 48271 + cell % 2147483647 + 7919 * (c + 1)) % 2147483647, c + 1, ?_, Int.emod_nonneg _ (by omega), Int.emod_lt_of_pos _ hm, Int.ediv_nonneg h3.1 (by omega), Int.emod_nonneg _ (by omega), Int.emod_lt_of_pos _ (by omega), by omega⟩
    have hh' : (1000000000000000000 : Int) ≤ cell := by omega
    simp [bTake, evFn, evSs, evS, evE, evEs, evBoV, evBoT, ofV, ofC, evX, evSeq, evSkip, evVar, evBin, evUn, evB, evT, evChain, evAnd, evOr, evNot, evAndT, evOrT, evNotT, evIf, evNil, evCons, evTup, evLst, evMl, evCall, evBlt, evBltM, evIs, evMth, evSl, evP, evNoP, evSrc, evSet, evPar, asgT_name, asgT_tup, asgTs_nil, asgTs_cons, evAug, evAugS, evSetIx, evYes, evD0, binG, cmpG, augG, Bl.f, Mt.f, Mt.ty, Cst.d, no1, h, bag4, ixD, dctOf, idxD, seqL, atI, ixN, cmpI, M.intD, modD, fdivD, hm, hm2, setIx, slD, addD, h1, h2, h3.2, getL, augAdd, powD, hp, hh', hs, mulD, m1, m2, hpos]
  · generalize hB : (b * 48271 + cell % 2147483647 + 7919 * (c + 1)) % 2147483647 = B
    refine ⟨(((B + 1) * 39373 % 1000000007 * ((B + 1) * 39373 % 1000000007)) % 998244353 * 30011 % 998244353 / 7) % many, 0, (b * 48271 + cell % 2147483647 + 7919 * (c + 1)) % 2147483647, c + 1, ?_, Int.emod_nonneg _ (by omega), Int.emod_lt_of_pos _ hm, by omega, Int.emod_nonneg _ (by omega), Int.emod_lt_of_pos _ (by omega), by omega⟩
    have hh' : ¬ (1000000000000000000 : Int) ≤ cell := by omega
    simp [bTake, evFn, evSs, evS, evE, evEs, evBoV, evBoT, ofV, ofC, evX, evSeq, evSkip, evVar, evBin, evUn, evB, evT, evChain, evAnd, evOr, evNot, evAndT, evOrT, evNotT, evIf, evNil, evCons, evTup, evLst, evMl, evCall, evBlt, evBltM, evIs, evMth, evSl, evP, evNoP, evSrc, evSet, evPar, asgT_name, asgT_tup, asgTs_nil, asgTs_cons, evAug, evAugS, evSetIx, evYes, evD0, binG, cmpG, augG, Bl.f, Mt.f, Mt.ty, Cst.d, no1, h, bag4, ixD, dctOf, idxD, seqL, atI, ixN, cmpI, M.intD, modD, fdivD, hm, hm2, setIx, slD, addD, h1, h2, h3.2, getL, augAdd, powD, hp, hh', hs, mulD, m1, m2, m3, m4, m5]
    rw [hB]
/-- a draw -/
theorem take_ok {Φ : Nat → FS} {μ : Mem} {l : Nat} {many : Int} (h : Bag μ l) (hm : 0 < many) (hm2 : many < 1073741824) :
    ∃ d c, evFn 7 (evSs Φ bTake) [.obj l, .int many] μ = .ok (.int d) (μ.set l c) ∧ 0 ≤ d ∧ d < many ∧ Bag (μ.set l c) l := by
  obtain ⟨a, b, c, cs, h1, ha, hb, hb2, hc, hcs, hl⟩ := h
  have hlt : l < μ.length := (List.getElem?_eq_some_iff.mp h1).1
  by_cases h0 : a = 0
  · subst h0
    obtain ⟨d, a', b', c', e, q1, q2, q3, q4, q5, q6⟩ := take_b (Φ := Φ) h1 hb hc hb2 hcs hl hm hm2
    exact ⟨d, _, e, q1, q2, ⟨a', b', c', cs, List.getElem?_set_self hlt, q3, q4, q5, q6, hcs, hl⟩⟩
  · exact ⟨_, _, take_a h1 (by omega) hm hm2, Int.emod_nonneg _ (by omega), Int.emod_lt_of_pos _ hm, ⟨_, _, _, _, List.getElem?_set_self hlt, Int.ediv_nonneg ha (by omega), hb, hb2, hc, hcs, hl⟩⟩
/-! the other cells stay -/
structure Kp (μ μ' : Mem) (l : Nat) : Prop where
  len : μ'.length = μ.length
  ne : ∀ k, k ≠ l → μ'[k]? = μ[k]?
theorem Kp.refl {μ : Mem} {l : Nat} : Kp μ μ l := ⟨rfl, fun _ _ => rfl⟩
theorem Kp.trans {μ μ1 μ2 : Mem} {l : Nat} (a : Kp μ μ1 l) (b : Kp μ1 μ2 l) : Kp μ μ2 l := ⟨b.len.trans a.len, fun k h => (b.ne k h).trans (a.ne k h)⟩
theorem Kp.set {μ : Mem} {l : Nat} {c : Cell} : Kp μ (μ.set l c) l := ⟨List.length_set .., fun k h => List.getElem?_set_ne (Ne.symm h)⟩
theorem take_kp {Φ : Nat → FS} {μ : Mem} {l : Nat} {many : Int} (h : Bag μ l) (hm : 0 < many) (hm2 : many < 1073741824) :
    ∃ d μ', evFn 7 (evSs Φ bTake) [.obj l, .int many] μ = .ok (.int d) μ' ∧ 0 ≤ d ∧ d < many ∧ Bag μ' l ∧ Kp μ μ' l := by
  obtain ⟨d, c, e, h1, h2, h3⟩ := take_ok (Φ := Φ) h hm hm2
  exact ⟨d, _, e, h1, h2, h3, Kp.set⟩
/-- what _law_take is -/
def Take (f : FS) : Prop := ∀ {μ : Mem} {l : Nat} {many : Int}, Bag μ l → 0 < many → many < 1073741824 → ∃ d μ', f [.obj l, .int many] μ = .ok (.int d) μ' ∧ 0 ≤ d ∧ d < many ∧ Bag μ' l ∧ Kp μ μ' l
/-! the bag itself -/
def bBag : List S := [
  .ret (.lst true [.cst (.int (0)), .cst (.int (1234567891)), .cst (.int (0)), .lc false [1] (.blt .abs [.var 1]) (.name 1) (.sl (.var 0) (.absent) (.cst (.int (63)))) (.absent)])]
theorem bag_ok {Φ : Nat → FS} {μ : Mem} {ns : List Int} (h : ns.length ≤ 63) : ∃ c, evFn 2 (evSs Φ bBag) [.lst (ns.map .int)] μ = .ok (.obj μ.length) (μ ++ [c]) ∧ Bag (μ ++ [c]) μ.length := by
  have e1 : M.cutD (ns.map D.int) none (some 63) = ns.map D.int := by
    have : ¬ (63 : Int) < 0 := by omega
    simp only [M.cutD, HT.sIx, if_neg this, List.length_map]
    have e : min (63 : Int).toNat ns.length = ns.length := by show min 63 ns.length = ns.length; omega
    rw [e, Nat.sub_zero, List.drop_zero, List.take_of_length_le (by simp)]
  refine ⟨bag4 0 1234567891 0 (ns.map fun i => if i < 0 then -i else i), ?_, ?_⟩
  · have e2 : ∀ δ : Sg, δ[0]? = some (some (.lst (ns.map D.int))) → 1 < δ.length → evLc false (evSrc (evSl (evVar 0) evNoP (evP fun _ μ => .ok (.int 63) μ))) (.name 1) evYes (evBlt absD (evCons (evVar 1) evNil)) [1] δ μ = .ok (.lst (ns.map fun i => D.int (if i < 0 then -i else i))) μ := fun δ h0 h1 =>
      evLc_all (gd := []) ns D.int _ (by simp [evSs, evS, evE, evEs, evBoV, evBoT, ofV, ofC, evX, evSeq, evSkip, evVar, evBin, evUn, evB, evT, evChain, evAnd, evOr, evNot, evAndT, evOrT, evNotT, evIf, evNil, evCons, evTup, evLst, evMl, evCall, evBlt, evBltM, evIs, evMth, evSl, evP, evNoP, evSrc, evSet, evPar, asgT_name, asgT_tup, asgTs_nil, asgTs_cons, evAug, evAugS, evSetIx, evYes, evD0, binG, cmpG, augG, Bl.f, Mt.f, Mt.ty, Cst.d, no1, h0, slD, M.seqL, e1, srcOf]) rfl (by omega) fun y hy => ⟨_, rfl, by simp [evSs, evS, evE, evEs, evBoV, evBoT, ofV, ofC, evX, evSeq, evSkip, evVar, evBin, evUn, evB, evT, evChain, evAnd, evOr, evNot, evAndT, evOrT, evNotT, evIf, evNil, evCons, evTup, evLst, evMl, evCall, evBlt, evBltM, evIs, evMth, evSl, evP, evNoP, evSrc, evSet, evPar, asgT_name, asgT_tup, asgTs_nil, asgTs_cons, evAug, evAugS, evSetIx, evYes, evD0, binG, cmpG, augG, Bl.f, Mt.f, Mt.ty, Cst.d, no1, absD, wipeD, h1]⟩
    simp [bBag, evFn, evSs, evS, evE, evEs, evBoV, evBoT, ofV, ofC, evX, evSeq, evSkip, evVar, evBin, evUn, evB, evT, evChain, evAnd, evOr, evNot, evAndT, evOrT, evNotT, evIf, evNil, evCons, evTup, evLst, evMl, evCall, evBlt, evBltM, evIs, evMth, evSl, evP, evNoP, evSrc, evSet, evPar, asgT_name, asgT_tup, asgTs_nil, asgTs_cons, evAug, evAugS, evSetIx, evYes, evD0, binG, cmpG, augG, Bl.f, Mt.f, Mt.ty, Cst.d, no1]
    rw [e2 _ rfl (by simp)]
    simp [bag4]
  · refine ⟨0, 1234567891, 0, ns.map fun i => if i < 0 then -i else i, by simp, by omega, by omega, by omega, by omega, ?_, by simp; omega⟩
    intro x hx
    obtain ⟨i, _, e⟩ := List.mem_map.mp hx
    split at e <;> omega
/-! one of some -/
def bSome (t : Nat) : List S := [.ret (.ix (.var 1) (.call t [.var 0, .blt .len [.var 1]]))]
theorem some_ok {Φ : Nat → FS} {t : Nat} {μ : Mem} {l : Nat} {ds : List D} (ht : Take (Φ t)) (h : Bag μ l) (hd : ds ≠ []) (hl : ds.length < 1073741824) :
    ∃ d μ', evFn 2 (evSs Φ (bSome t)) [.obj l, .lst ds] μ = .ok d μ' ∧ d ∈ ds ∧ Bag μ' l ∧ Kp μ μ' l := by
  have hp : 0 < ds.length := List.length_pos_iff.mpr hd
  obtain ⟨k, μ', e, h1, h2, h3, h4⟩ := ht h (many := ds.length) (by omega) (by omega)
  have hk : k.toNat < ds.length := by omega
  refine ⟨ds[k.toNat], μ', ?_, List.getElem_mem hk, h3, h4⟩
  simp [bSome, evFn, evSs, evS, evE, evEs, evBoV, evBoT, ofV, ofC, evX, evSeq, evSkip, evVar, evBin, evUn, evB, evT, evChain, evAnd, evOr, evNot, evAndT, evOrT, evNotT, evIf, evNil, evCons, evTup, evLst, evMl, evCall, evBlt, evBltM, evIs, evMth, evSl, evP, evNoP, evSrc, evSet, evPar, asgT_name, asgT_tup, asgTs_nil, asgTs_cons, evAug, evAugS, evSetIx, evYes, evD0, binG, cmpG, augG, Bl.f, Mt.f, Mt.ty, Cst.d, no1, lenD, M.seqL, e, ixD, dctOf, idxD, atI, ixN, h1, h2, hk]
end B
namespace B
open M PySem

/-! ### chips on a line: the order of the partings does not matter -/
abbrev Cf := Int → Int
def fire (x : Int) (c : Cf) : Cf := fun y => c y + (if y = x then -2 else 0) + (if y = x - 1 then 1 else 0) + (if y = x + 1 then 1 else 0)
def Legal : List Int → Cf → Prop
  | [], _ => True
  | x :: l, c => 2 ≤ c x ∧ Legal l (fire x c)
def runC : List Int → Cf → Cf
  | [], c => c
  | x :: l, c => runC l (fire x c)
def Stable (c : Cf) : Prop := ∀ x, c x ≤ 1
theorem fire_comm (x y : Int) (c : Cf) : fire x (fire y c) = fire y (fire x c) := by
  funext z; simp only [fire]; omega
theorem fire_ge {x y : Int} {c : Cf} (h : x ≠ y) : c x ≤ fire y c x := by
  simp only [fire, if_neg h]; split <;> split <;> omega
theorem exch {x : Int} : ∀ {s : List Int} {c : Cf}, Legal s c → Stable (runC s c) → 2 ≤ c x → ∃ s', Legal s' (fire x c) ∧ s.Perm (x :: s') ∧ runC s' (fire x c) = runC s c
  | [], c, _, hs, hx => by have := hs x; simp only [runC] at this; omega
  | y :: l, c, hl, hs, hx => by
    by_cases e : y = x
    · subst e; exact ⟨l, hl.2, .refl _, rfl⟩
    · have hx' : 2 ≤ fire y c x := by have := fire_ge (c := c) (y := y) (x := x) (fun z => e z.symm); omega
      obtain ⟨l', h1, h2, h3⟩ := exch hl.2 hs hx'
      refine ⟨y :: l', ⟨?_, by rw [fire_comm]; exact h1⟩, ?_, ?_⟩
      · have := fire_ge (c := c) (y := x) (x := y) e; have := hl.1; omega
      · exact (List.Perm.cons y h2).trans (List.Perm.swap x y l')
      · show runC l' (fire y (fire x c)) = runC l (fire y c)
        rw [fire_comm]; exact h3
theorem abelian : ∀ {t s : List Int} {c : Cf}, Legal s c → Stable (runC s c) → Legal t c → ∃ s', Legal s' (runC t c) ∧ s.Perm (t ++ s') ∧ runC s' (runC t c) = runC s c
  | [], s, c, h1, h2, _ => ⟨s, h1, .refl _, rfl⟩
  | x :: t, s, c, h1, h2, h3 => by
    obtain ⟨s1, k1, k2, k3⟩ := exch h1 h2 h3.1
    obtain ⟨s2, m1, m2, m3⟩ := abelian k1 (by rw [k3]; exact h2) h3.2
    exact ⟨s2, m1, k2.trans (List.Perm.cons x m2), m3.trans k3⟩
/-- two ways to the end -/
theorem abelian_end {t s : List Int} {c : Cf} (h1 : Legal s c) (h2 : Stable (runC s c)) (h3 : Legal t c) (h4 : Stable (runC t c)) : s.Perm t ∧ runC t c = runC s c := by
  obtain ⟨s', k1, k2, k3⟩ := abelian h1 h2 h3
  cases s' with
  | nil => exact ⟨by simpa using k2, k3⟩
  | cons x l => have := k1.1; have := h4 x; omega
theorem legal_append : ∀ {s t : List Int} {c : Cf}, Legal (s ++ t) c ↔ Legal s c ∧ Legal t (runC s c)
  | [], t, c => by simp [Legal, runC]
  | x :: s, t, c => by simp [Legal, runC, legal_append, and_assoc]
theorem run_append : ∀ {s t : List Int} {c : Cf}, runC (s ++ t) c = runC t (runC s c)
  | [], t, c => rfl
  | x :: s, t, c => run_append (s := s)

/-! ### shapes -/
def cf : List (Int × Int) → Cf
  | [] => fun _ => 0
  | p :: s => fun y => (if y = p.1 then p.2 else 0) + cf s y
def SS' (s : List (Int × Int)) : Prop := s.Pairwise fun a b => a.1 < b.1
structure Rep (s : List (Int × Int)) : Prop where
  so : SS' s
  po : ∀ p ∈ s, 0 < p.2
theorem cf_out : ∀ {s : List (Int × Int)} {y : Int}, (∀ p ∈ s, p.1 ≠ y) → cf s y = 0
  | [], y, _ => rfl
  | p :: s, y, h => by
    simp only [cf]
    rw [if_neg (fun e => h p (List.mem_cons_self ..) e.symm), cf_out fun q hq => h q (List.mem_cons_of_mem _ hq)]; rfl
theorem cf_in : ∀ {s : List (Int × Int)}, (s.map (·.1)).Nodup → ∀ p ∈ s, cf s p.1 = p.2
  | q :: s, h, p, hp => by
    rw [List.map_cons, List.nodup_cons] at h
    simp only [cf]
    rcases List.mem_cons.mp hp with e | hp
    · subst e
      rw [if_pos rfl, cf_out fun r hr e => h.1 (List.mem_map.mpr ⟨r, hr, e⟩)]; omega
    · rw [if_neg (fun e => h.1 (List.mem_map.mpr ⟨p, hp, e⟩)), cf_in h.2 p hp]; omega
theorem ss_nodup {s : List (Int × Int)} (h : SS' s) : (s.map (·.1)).Nodup :=
  List.pairwise_map.mpr (h.imp fun h e => by omega)
theorem rep_uniq : ∀ {s t : List (Int × Int)}, Rep s → Rep t → cf s = cf t → s = t
  | [], [], _, _, _ => rfl
  | [], q :: t, h1, h2, e => by
    have a := congrFun e q.1
    rw [cf_in (ss_nodup h2.so) q (List.mem_cons_self ..)] at a
    have := h2.po q (List.mem_cons_self ..)
    simp only [cf] at a; omega
  | p :: s, [], h1, h2, e => by
    have a := congrFun e p.1
    rw [cf_in (ss_nodup h1.so) p (List.mem_cons_self ..)] at a
    have := h1.po p (List.mem_cons_self ..)
    simp only [cf] at a; omega
  | p :: s, q :: t, h1, h2, e => by
    have hp := h1.po p (List.mem_cons_self ..)
    have hq := h2.po q (List.mem_cons_self ..)
    have s1 := List.pairwise_cons.mp h1.so
    have s2 := List.pairwise_cons.mp h2.so
    have a := congrFun e p.1
    have b := congrFun e q.1
    rw [cf_in (ss_nodup h1.so) p (List.mem_cons_self ..)] at a
    rw [cf_in (ss_nodup h2.so) q (List.mem_cons_self ..)] at b
    have e1 : p.1 = q.1 := by
      by_cases l : p.1 < q.1
      · rw [cf_out (fun r hr z => by
          rcases List.mem_cons.mp hr with z' | hr
          · subst z'; omega
          · have := s2.1 r hr; omega)] at a
        omega
      · by_cases l2 : q.1 < p.1
        · rw [cf_out (fun r hr z => by
            rcases List.mem_cons.mp hr with z' | hr
            · subst z'; omega
            · have := s1.1 r hr; omega)] at b
          omega
        · omega
    rw [← e1, cf_in (ss_nodup h1.so) p (List.mem_cons_self ..)] at b
    have e2 : p = q := Prod.ext e1 b
    subst e2
    rw [rep_uniq (s := s) (t := t) ⟨s1.2, fun r hr => h1.po r (List.mem_cons_of_mem _ hr)⟩ ⟨s2.2, fun r hr => h2.po r (List.mem_cons_of_mem _ hr)⟩ (funext fun y => by
      have := congrFun e y
      simp only [cf] at this; omega)]
/-! ### tables of numbers -/
abbrev Tab := List (Int × Int)
def hasT (A : Tab) (k : Int) : Bool := A.any fun p => decide (p.1 = k)
def putT (A : Tab) (k v : Int) : Tab := if hasT A k then A.map fun p => if p.1 = k then (k, v) else p else A ++ [(k, v)]
def getT : Tab → Int → Option Int
  | [], _ => none
  | p :: A, k => if p.1 = k then some p.2 else getT A k
def KN (A : Tab) : Prop := (A.map (·.1)).Nodup
theorem hasT_iff {A : Tab} {k : Int} : hasT A k = true ↔ k ∈ A.map (·.1) := by
  simp [hasT, List.any_eq_true]
theorem put_keys {A : Tab} {k v : Int} : (putT A k v).map (·.1) = if hasT A k then A.map (·.1) else A.map (·.1) ++ [k] := by
  unfold putT
  split
  · rw [List.map_map]
    refine List.map_congr_left fun p _ => ?_
    show (if p.1 = k then (k, v) else p).1 = p.1
    split <;> simp_all
  · simp
theorem put_kn {A : Tab} {k v : Int} (h : KN A) : KN (putT A k v) := by
  unfold KN
  rw [put_keys]
  split
  · exact h
  · rename_i e
    rw [hasT_iff] at e
    refine List.nodup_append.mpr ⟨h, by simp, fun a ha b hb => ?_⟩
    simp at hb; subst hb
    exact fun z => e (z ▸ ha)
theorem cf_map_put {k v : Int} : ∀ {A : Tab}, KN A → k ∈ A.map (·.1) → ∀ y, cf (A.map fun p => if p.1 = k then (k, v) else p) y = if y = k then v else cf A y
  | p :: A, h, hk, y => by
    unfold KN at h
    rw [List.map_cons, List.nodup_cons] at h
    rw [List.map_cons]
    simp only [cf]
    by_cases e : p.1 = k
    · have hn : k ∉ A.map (·.1) := e ▸ h.1
      have same : A.map (fun p => if p.1 = k then (k, v) else p) = A := by
        conv => rhs; rw [← List.map_id A]
        refine List.map_congr_left fun q hq => ?_
        rw [if_neg (fun z => hn (List.mem_map.mpr ⟨q, hq, z⟩))]; rfl
      rw [same, if_pos e]
      by_cases hy : y = k
      · subst hy
        rw [if_pos rfl, if_pos rfl, cf_out fun q hq z => hn (List.mem_map.mpr ⟨q, hq, z⟩)]; omega
      · rw [if_neg hy, if_neg (show ¬ y = k from hy), if_neg (show ¬ y = p.1 from fun z => hy (z.trans e))]
    · rw [if_neg e]
      have hk' : k ∈ A.map (·.1) := by
        rw [List.map_cons, List.mem_cons] at hk
        rcases hk with z | z
        · exact absurd z.symm e
        · exact z
      rw [cf_map_put h.2 hk' y]
      by_cases hy : y = k
      · subst hy
        rw [if_pos rfl, if_pos rfl, if_neg (fun z => e z.symm)]; omega
      · rw [if_neg hy, if_neg hy]
theorem cf_append : ∀ {A B : Tab} {y : Int}, cf (A ++ B) y = cf A y + cf B y
  | [], B, y => by simp [cf]
  | p :: A, B, y => by simp [cf, cf_append (A := A), Int.add_assoc]
theorem cf_put {A : Tab} {k v : Int} (h : KN A) (y : Int) : cf (putT A k v) y = if y = k then v else cf A y := by
  unfold putT
  split
  · rename_i e
    exact cf_map_put h (hasT_iff.mp e) y
  · rename_i e
    rw [hasT_iff] at e
    rw [cf_append]
    simp only [cf]
    by_cases hy : y = k
    · subst hy
      rw [if_pos rfl, if_pos rfl, cf_out fun q hq z => e (List.mem_map.mpr ⟨q, hq, z⟩)]; omega
    · rw [if_neg hy, if_neg hy]; omega
theorem getT_cf : ∀ {A : Tab} {k : Int}, KN A → (getT A k).getD 0 = cf A k
  | [], k, _ => rfl
  | p :: A, k, h => by
    unfold KN at h
    rw [List.map_cons, List.nodup_cons] at h
    unfold getT
    simp only [cf]
    by_cases e : p.1 = k
    · subst e
      rw [if_pos rfl, if_pos rfl, cf_out fun q hq z => h.1 (List.mem_map.mpr ⟨q, hq, z⟩)]; simp
    · rw [if_neg e, if_neg (fun z => e z.symm), getT_cf h.2]; omega
theorem getT_some : ∀ {A : Tab} {k : Int}, KN A → k ∈ A.map (·.1) → getT A k = some (cf A k)
  | p :: A, k, h, hk => by
    have h' := h
    unfold KN at h
    rw [List.map_cons, List.nodup_cons] at h
    unfold getT
    by_cases e : p.1 = k
    · subst e
      rw [if_pos rfl]
      exact congrArg some (cf_in (s := p :: A) h' p (List.mem_cons_self ..)).symm
    · rw [if_neg e]
      rw [List.map_cons, List.mem_cons] at hk
      rcases hk with z | z
      · exact absurd z.symm e
      · rw [getT_some h.2 z]
        simp only [cf]
        rw [if_neg (fun z => e z.symm), Int.zero_add]
/-- keys in order, with what stands there, where it is > 0 -/
def told (A : Tab) : Tab := ((sortI (A.map (·.1))).filter fun k => decide (cf A k > 0)).map fun k => (k, cf A k)
theorem sortI_lt {l : List Int} (h : l.Nodup) : (sortI l).Pairwise (· < ·) := by
  have p := sortI_perm l
  have n : (sortI l).Nodup := p.symm.nodup h
  exact (sortI_sorted l).imp₂ (fun a b h1 h2 => by omega) n
theorem mem_sortI {l : List Int} {x : Int} : x ∈ sortI l ↔ x ∈ l := (sortI_perm l).mem_iff
theorem told_rep {A : Tab} (h : KN A) : Rep (told A) := by
  refine ⟨?_, fun p hp => ?_⟩
  · unfold told SS'
    rw [List.pairwise_map]
    exact (sortI_lt h).filter _
  · unfold told at hp
    obtain ⟨k, hk, rfl⟩ := List.mem_map.mp hp
    simpa using (List.mem_filter.mp hk).2
theorem cf_told {A : Tab} (h : KN A) (hp : ∀ y, 0 ≤ cf A y) : cf (told A) = cf A := by
  funext y
  by_cases hy : 0 < cf A y
  · have hk : y ∈ A.map (·.1) := by
      by_cases z : y ∈ A.map (·.1)
      · exact z
      · rw [cf_out fun q hq e => z (List.mem_map.mpr ⟨q, hq, e⟩)] at hy; omega
    have hm : (y, cf A y) ∈ told A := List.mem_map.mpr ⟨y, List.mem_filter.mpr ⟨mem_sortI.mpr hk, by simpa using hy⟩, rfl⟩
    exact cf_in (ss_nodup (told_rep h).so) _ hm
  · have : cf A y = 0 := by have := hp y; omega
    rw [this]
    refine cf_out fun q hq e => ?_
    obtain ⟨k, hk, rfl⟩ := List.mem_map.mp hq
    have h5 : cf A k > 0 := of_decide_eq_true (List.mem_filter.mp hk).2
    have e : k = y := e
    subst e
    omega
/-! ### how often each stands in a list -/
def bump (A : Tab) (x : Int) : Tab := putT A x ((getT A x).getD 0 + 1)
def cnt : List Int → Tab → Tab
  | [], A => A
  | x :: l, A => cnt l (bump A x)
theorem bump_kn {A : Tab} {x : Int} (h : KN A) : KN (bump A x) := put_kn h
theorem cf_bump {A : Tab} {x : Int} (h : KN A) (y : Int) : cf (bump A x) y = cf A y + if y = x then 1 else 0 := by
  unfold bump
  rw [cf_put h, getT_cf h]
  split
  · rename_i e; subst e; rfl
  · omega
theorem cnt_kn : ∀ {l : List Int} {A : Tab}, KN A → KN (cnt l A)
  | [], A, h => h
  | x :: l, A, h => cnt_kn (l := l) (bump_kn h)
theorem cf_cnt : ∀ {l : List Int} {A : Tab}, KN A → ∀ y, cf (cnt l A) y = cf A y + (l.count y : Int)
  | [], A, h, y => by simp [cnt]
  | x :: l, A, h, y => by
    show cf (cnt l (bump A x)) y = _
    rw [cf_cnt (bump_kn h), cf_bump h, List.count_cons]
    by_cases e : y = x
    · subst e; simp; omega
    · have : ¬ x = y := fun z => e z.symm
      simp [e, this]
theorem kn_nil : KN [] := List.nodup_nil
theorem cnt_perm {l m : List Int} (h : l.Perm m) : cf (cnt l []) = cf (cnt m []) := by
  funext y
  rw [cf_cnt kn_nil, cf_cnt kn_nil, h.count_eq]
/-- all keys in order -/
def allT (A : Tab) : Tab := (sortI (A.map (·.1))).map fun k => (k, cf A k)
theorem allT_told {A : Tab} (h : ∀ k ∈ A.map (·.1), 0 < cf A k) : allT A = told A := by
  unfold allT told
  rw [List.filter_eq_self.mpr fun k hk => decide_eq_true (h k (mem_sortI.mp hk))]
theorem bump_pos {A : Tab} {x : Int} (h : KN A) (hp : ∀ k ∈ A.map (·.1), 0 < cf A k) : ∀ k ∈ (bump A x).map (·.1), 0 < cf (bump A x) k := by
  intro k hk
  rw [cf_bump h]
  by_cases e : k = x
  · rw [if_pos e]
    by_cases m : k ∈ A.map (·.1)
    · have := hp k m; omega
    · rw [cf_out fun q hq z => m (List.mem_map.mpr ⟨q, hq, z⟩)]; omega
  · rw [if_neg e]
    have : k ∈ A.map (·.1) := by
      unfold bump at hk
      rw [put_keys] at hk
      split at hk
      · exact hk
      · rcases List.mem_append.mp hk with z | z
        · exact z
        · simp at z; exact absurd z e
    have := hp k this; omega
theorem cnt_pos : ∀ {l : List Int} {A : Tab}, KN A → (∀ k ∈ A.map (·.1), 0 < cf A k) → ∀ k ∈ (cnt l A).map (·.1), 0 < cf (cnt l A) k
  | [], A, _, h => h
  | x :: l, A, hk, h => cnt_pos (l := l) (bump_kn hk) (bump_pos hk h)
theorem allT_perm {l m : List Int} (h : l.Perm m) : allT (cnt l []) = allT (cnt m []) := by
  have p : ∀ l : List Int, allT (cnt l []) = told (cnt l []) := fun l => allT_told (cnt_pos kn_nil fun k hk => by simp at hk)
  rw [p, p]
  have n : ∀ (l : List Int) y, 0 ≤ cf (cnt l []) y := fun l y => by rw [cf_cnt kn_nil]; simp [cf]
  exact rep_uniq (told_rep (cnt_kn kn_nil)) (told_rep (cnt_kn kn_nil)) (by rw [cf_told (cnt_kn kn_nil) (n l), cf_told (cnt_kn kn_nil) (n m), cnt_perm h])
/-! ### a parting in a table -/
def partT (A : Tab) (x : Int) : Tab := bump (bump (putT A x ((getT A x).getD 0 - 2)) (x - 1)) (x + 1)
theorem part_kn {A : Tab} {x : Int} (h : KN A) : KN (partT A x) := bump_kn (bump_kn (put_kn h))
theorem cf_part {A : Tab} {x : Int} (h : KN A) : cf (partT A x) = fire x (cf A) := by
  funext y
  unfold partT
  rw [cf_bump (bump_kn (put_kn h)), cf_bump (put_kn h), cf_put h, getT_cf h]
  simp only [fire]
  by_cases e : y = x
  · subst e; simp; omega
  · rw [if_neg e, if_neg e]; omega
/-! what is bounded -/
def shift (r : Int) (A : Tab) : Tab := A.map fun p => (p.1 + r, p.2)
theorem cf_shift (r : Int) : ∀ (A : Tab) (y : Int), cf (shift r A) (y + r) = cf A y
  | [], y => rfl
  | p :: A, y => by
    show (if y + r = p.1 + r then p.2 else 0) + cf (shift r A) (y + r) = _
    rw [cf_shift r A y]
    simp only [cf]
    by_cases e : y = p.1
    · rw [if_pos e, if_pos (by omega)]
    · rw [if_neg e, if_neg (by omega)]
theorem fire_shift {r x : Int} {c d : Cf} (h : ∀ y, d (y + r) = c y) : ∀ y, fire (x + r) d (y + r) = fire x c y := by
  intro y
  simp only [fire, h]
  have e1 : (y + r = x + r) ↔ y = x := by omega
  have e2 : (y + r = x + r - 1) ↔ y = x - 1 := by omega
  have e3 : (y + r = x + r + 1) ↔ y = x + 1 := by omega
  simp only [e1, e2, e3]
theorem legal_shift {r : Int} : ∀ {s : List Int} {c d : Cf}, (∀ y, d (y + r) = c y) → Legal s c → Legal (s.map (· + r)) d ∧ ∀ y, runC (s.map (· + r)) d (y + r) = runC s c y
  | [], c, d, h, _ => ⟨trivial, h⟩
  | x :: s, c, d, h, hl => by
    have := legal_shift (s := s) (fire_shift (x := x) h) hl.2
    exact ⟨⟨by rw [h]; exact hl.1, this.1⟩, this.2⟩
theorem rep_shift {r : Int} {s : Tab} (h : Rep s) : Rep (shift r s) := by
  refine ⟨?_, fun p hp => ?_⟩
  · unfold shift SS'
    rw [List.pairwise_map]
    exact h.so.imp fun h => by omega
  · obtain ⟨q, hq, rfl⟩ := List.mem_map.mp hp
    exact h.po q hq
/-- a list is legal from a table, ended: told by running it -/
def goT : List Int → Tab → Option Tab
  | [], A => some A
  | x :: l, A => if 2 ≤ cf A x then goT l (partT A x) else none
theorem goT_ok : ∀ {l : List Int} {A B : Tab}, KN A → goT l A = some B → Legal l (cf A) ∧ runC l (cf A) = cf B ∧ KN B
  | [], A, B, h, e => by cases e; exact ⟨trivial, rfl, h⟩
  | x :: l, A, B, h, e => by
    unfold goT at e
    split at e
    · rename_i h2
      obtain ⟨k1, k2, k3⟩ := goT_ok (part_kn h) e
      rw [cf_part h] at k1 k2
      exact ⟨⟨h2, k1⟩, k2, k3⟩
    · cases e
theorem stable_of {A : Tab} (h : KN A) (hb : A.all (fun p => decide (p.2 ≤ 1)) = true) : Stable (cf A) := by
  intro x
  by_cases m : x ∈ A.map (·.1)
  · obtain ⟨p, hp, rfl⟩ := List.mem_map.mp m
    rw [cf_in h p hp]
    exact of_decide_eq_true (List.all_eq_true.mp hb p hp)
  · rw [cf_out fun q hq z => m (List.mem_map.mpr ⟨q, hq, z⟩)]; omega
/-- the leftmost way -/
def leftmost : Nat → Tab → List Int
  | 0, _ => []
  | n + 1, A => match (sortI (A.map (·.1))).filter fun k => decide (cf A k > 1) with
    | [] => []
    | x :: _ => x :: leftmost n (partT A x)
end B
namespace T
open PySem PySem.Spec PyProof.Rows L2 M
def nm : List (Str × Nat) := [("is_number", 1), ("is_between", 3), ("is_sized", 2), ("is_room", 1), ("is_heap", 1), ("is_shape", 1), ("check_shape", 1), ("kept_room", 1), ("part_two", 2), ("told_shape", 1), ("plain_heap", 1), ("heap_end", 1), ("left_often", 1), ("_law_bag", 1), ("_law_take", 2), ("_law_some", 2), ("_law_counted", 1), ("_law_parted", 2), ("_law_heaped", 2), ("_law_known", 2), ("_law_left", 3), ("law", 1)]
def gis : List (Str × Int) := [("MOST_ROOM", 1000), ("MOST_PERSONS", 8)]
def blt : List Str := ["abs", "all", "bool", "dict", "int", "isinstance", "len", "list", "range", "sorted", "sum", "tuple", "zip"]
def N0 : List Str := ["thing"]
def b0 : List S := [
  .ret (.boo .And [.isin .int (.var 0), .no (.isin .bool (.var 0))])]
/-- is_number -/
def f0 : FS := evFn 1 (evSs (look []) b0)
def N1 : List Str := ["thing", "low", "high"]
def b1 : List S := [
  .ret (.boo .And [.call 0 [.var 0], .chain .LtE .LtE (.var 1) (.var 0) (.var 2)])]
/-- is_between -/
def f1 : FS := evFn 3 (evSs (look [f0]) b1)
def N2 : List Str := ["thing", "many"]
def b2 : List S := [
  .ret (.boo .And [.isin .tup (.var 0), .cmp .Eq (.blt .len [.var 0]) (.var 1)])]
/-- is_sized -/
def f2 : FS := evFn 2 (evSs (look [f0, f1]) b2)
def N3 : List Str := ["thing"]
def b3 : List S := [
  .ret (.call 1 [.var 0, .bin .Sub (.cst (.int (0))) (.glo (1000)), .glo (1000)])]
/-- is_room -/
def f3 : FS := evFn 1 (evSs (look [f0, f1, f2]) b3)
def N4 : List Str := ["thing"]
def b4 : List S := [
  .ret (.boo .And [.call 2 [.var 0, .cst (.int (2))], .call 3 [.ix (.var 0) (.cst (.int (0)))], .call 1 [.ix (.var 0) (.cst (.int (1))), .cst (.int (1)), .glo (8)]])]
/-- is_heap -/
def f4 : FS := evFn 1 (evSs (look [f0, f1, f2, f3]) b4)
def N5 : List Str := ["thing", "one", "later", "room", "many"]
def b5 : List S := [
  .ite (.boo .Or [.no (.isin .tup (.var 0)), .no (.blt .all [.lc false [1] (.call 4 [.var 1]) (.name 1) (.var 0) (.absent)])]) [
    .ret (.cst (.bl false))] [],
  .ite (.no (.chain .LtE .LtE (.cst (.int (1))) (.blt .sum [.lc false [3, 4] (.var 4) (.tup [.name 3, .name 4]) (.var 0) (.absent)]) (.glo (8)))) [
    .ret (.cst (.bl false))] [],
  .ret (.blt .all [.lc false [1, 2] (.cmp .Lt (.ix (.var 1) (.cst (.int (0)))) (.ix (.var 2) (.cst (.int (0))))) (.tup [.name 1, .name 2]) (.zip (.var 0) (.sl (.var 0) (.cst (.int (1))) (.absent))) (.absent)])]
/-- is_shape -/
def f5 : FS := evFn 5 (evSs (look [f0, f1, f2, f3, f4]) b5)
def N6 : List Str := ["thing"]
def b6 : List S := [
  .ite (.no (.call 5 [.var 0])) [
    .never] []]
/-- check_shape -/
def f6 : FS := evFn 1 (evSs (look [f0, f1, f2, f3, f4, f5]) b6)
def N7 : List Str := ["room"]
def b7 : List S := [
  .ite (.no (.call 3 [.var 0])) [
    .never] [],
  .ret (.var 0)]
/-- kept_room -/
def f7 : FS := evFn 1 (evSs (look [f0, f1, f2, f3, f4, f5, f6]) b7)
def N8 : List Str := ["found", "room", "there"]
def b8 : List S := [
  .sub (.var 0) (.var 1) (.bin .Sub (.ix (.var 0) (.var 1)) (.cst (.int (2)))),
  .each (.name 2) (.tup [.call 7 [.bin .Sub (.var 1) (.cst (.int (1)))], .call 7 [.bin .Add (.var 1) (.cst (.int (1)))]]) [
    .sub (.var 0) (.var 2) (.bin .Add (.mth .get (.var 0) [.var 2, .cst (.int (0))]) (.cst (.int (1))))]]
/-- part_two -/
def f8 : FS := evFn 3 (evSs (look [f0, f1, f2, f3, f4, f5, f6, f7]) b8)
def N9 : List Str := ["found", "room"]
def b9 : List S := [
  .ret (.blt .tuple [.lc false [1] (.tup [.var 1, .ix (.var 0) (.var 1)]) (.name 1) (.blt .sorted [.var 0]) (.cmp .Gt (.ix (.var 0) (.var 1)) (.cst (.int (0))))])]
/-- told_shape -/
def f9 : FS := evFn 2 (evSs (look [f0, f1, f2, f3, f4, f5, f6, f7, f8]) b9)
def N10 : List Str := ["shape", "rooms", "found", "often", "room", "many"]
def b10 : List S := [
  .asg (.tup [.name 2, .name 3]) (.tup [.dc true [4, 5] (.var 4) (.var 5) (.tup [.name 4, .name 5]) (.var 0) (.absent), .d0 false]),
  .set 1 (.lc false [4] (.var 4) (.name 4) (.blt .sorted [.var 2]) (.cmp .Gt (.ix (.var 2) (.var 4)) (.cst (.int (1))))),
  .loop 100000 (.cmp .NotEq (.var 1) (.lst false [])) [
    .expr (.call 8 [.var 2, .ix (.var 1) (.cst (.int (0)))]),
    .sub (.var 3) (.ix (.var 1) (.cst (.int (0)))) (.bin .Add (.mth .get (.var 3) [.ix (.var 1) (.cst (.int (0))), .cst (.int (0))]) (.cst (.int (1)))),
    .set 1 (.lc false [4] (.var 4) (.name 4) (.blt .sorted [.var 2]) (.cmp .Gt (.ix (.var 2) (.var 4)) (.cst (.int (1)))))],
  .ret (.tup [.call 9 [.var 2], .var 3])]
/-- plain_heap -/
def f10 : FS := isoF (evFn 6 (evSs (look [f0, f1, f2, f3, f4, f5, f6, f7, f8, f9]) b10))
def N11 : List Str := ["shape"]
def b11 : List S := [
  .expr (.call 6 [.var 0]),
  .ret (.ix (.call 10 [.var 0]) (.cst (.int (0))))]
/-- heap_end -/
def f11 : FS := isoF (evFn 1 (evSs (look [f0, f1, f2, f3, f4, f5, f6, f7, f8, f9, f10]) b11))
def N12 : List Str := ["shape", "often", "room"]
def b12 : List S := [
  .expr (.call 6 [.var 0]),
  .set 1 (.ix (.call 10 [.var 0]) (.cst (.int (1)))),
  .ret (.blt .tuple [.lc false [2] (.tup [.var 2, .ix (.var 1) (.var 2)]) (.name 2) (.blt .sorted [.var 1]) (.absent)])]
/-- left_often -/
def f12 : FS := isoF (evFn 3 (evSs (look [f0, f1, f2, f3, f4, f5, f6, f7, f8, f9, f10, f11]) b12))
def N13 : List Str := ["script", "cell"]
def b13 : List S := [
  .ret (.lst true [.cst (.int (0)), .cst (.int (1234567891)), .cst (.int (0)), .lc false [1] (.blt .abs [.var 1]) (.name 1) (.sl (.var 0) (.absent) (.cst (.int (63)))) (.absent)])]
/-- _law_bag -/
def f13 : FS := evFn 2 (evSs (look [f0, f1, f2, f3, f4, f5, f6, f7, f8, f9, f10, f11, f12]) b13)
def N14 : List Str := ["bag", "many", "begin", "second", "cell", "stirred", "drawn"]
def b14 : List S := [
  .ite (.cmp .Eq (.ix (.var 0) (.cst (.int (0)))) (.cst (.int (0)))) [
    .set 4 (.ix (.bin .Add (.sl (.ix (.var 0) (.cst (.int (3)))) (.ix (.var 0) (.cst (.int (2)))) (.absent)) (.lst false [.cst (.int (0))])) (.cst (.int (0)))),
    .augS .Add (.var 0) (.cst (.int (2))) (.cst (.int (1))),
    .ite (.cmp .GtE (.var 4) (.bin .Pow (.cst (.int (10))) (.cst (.int (18))))) [
      .sub (.var 0) (.cst (.int (0))) (.var 4)] [],
    .set 5 (.bin .Add (.bin .Add (.bin .Mult (.ix (.var 0) (.cst (.int (1)))) (.cst (.int (48271)))) (.bin .Mod (.blt .int [.var 4]) (.cst (.int (2147483647))))) (.bin .Mult (.cst (.int (7919))) (.ix (.var 0) (.cst (.int (2)))))),
    .sub (.var 0) (.cst (.int (1))) (.bin .Mod (.blt .int [.var 5]) (.cst (.int (2147483647))))] [],
  .ite (.cmp .Gt (.ix (.var 0) (.cst (.int (0)))) (.cst (.int (0)))) [
    .set 6 (.bin .Mod (.blt .int [.ix (.var 0) (.cst (.int (0)))]) (.var 1)),
    .sub (.var 0) (.cst (.int (0))) (.bin .FloorDiv (.blt .int [.ix (.var 0) (.cst (.int (0)))]) (.var 1)),
    .ret (.var 6)] [],
  .set 2 (.bin .Mod (.blt .int [.bin .Mult (.bin .Add (.ix (.var 0) (.cst (.int (1)))) (.cst (.int (1)))) (.cst (.int (39373)))]) (.cst (.int (1000000007)))),
  .set 3 (.bin .Mod (.blt .int [.bin .Mult (.bin .Mod (.blt .int [.bin .Mult (.var 2) (.var 2)]) (.cst (.int (998244353)))) (.cst (.int (30011)))]) (.cst (.int (998244353)))),
  .ret (.bin .Mod (.blt .int [.bin .FloorDiv (.var 3) (.cst (.int (7)))]) (.var 1))]
/-- _law_take -/
def f14 : FS := evFn 7 (evSs (look [f0, f1, f2, f3, f4, f5, f6, f7, f8, f9, f10, f11, f12, f13]) b14)
def N15 : List Str := ["bag", "things"]
def b15 : List S := [
  .ret (.ix (.var 1) (.call 14 [.var 0, .blt .len [.var 1]]))]
/-- _law_some -/
def f15 : FS := evFn 2 (evSs (look [f0, f1, f2, f3, f4, f5, f6, f7, f8, f9, f10, f11, f12, f13, f14]) b15)
def N16 : List Str := ["some", "found", "one"]
def b16 : List S := [
  .set 1 (.d0 false),
  .each (.name 2) (.var 0) [
    .sub (.var 1) (.var 2) (.bin .Add (.mth .get (.var 1) [.var 2, .cst (.int (0))]) (.cst (.int (1))))],
  .ret (.blt .tuple [.lc false [2] (.tup [.var 2, .ix (.var 1) (.var 2)]) (.name 2) (.blt .sorted [.var 1]) (.absent)])]
/-- _law_counted -/
def f16 : FS := evFn 3 (evSs (look [f0, f1, f2, f3, f4, f5, f6, f7, f8, f9, f10, f11, f12, f13, f14, f15]) b16)
def N17 : List Str := ["shape", "room", "found", "there", "number"]
def b17 : List S := [
  .set 2 (.dct [.blt .list [.var 0]]),
  .ite (.cmp .Lt (.mth .get (.var 2) [.var 1, .cst (.int (0))]) (.cst (.int (2)))) [
    .ret (.cst .non)] [],
  .each (.tup [.name 3, .name 4]) (.tup [.tup [.var 1, .neg (.cst (.int (2)))], .tup [.bin .Sub (.var 1) (.cst (.int (1))), .cst (.int (1))], .tup [.bin .Add (.var 1) (.cst (.int (1))), .cst (.int (1))]]) [
    .sub (.var 2) (.var 3) (.bin .Add (.mth .get (.var 2) [.var 3, .cst (.int (0))]) (.var 4))],
  .ret (.blt .tuple [.lc false [3] (.tup [.var 3, .ix (.var 2) (.var 3)]) (.name 3) (.blt .sorted [.var 2]) (.cmp .Gt (.ix (.var 2) (.var 3)) (.cst (.int (0))))])]
/-- _law_parted -/
def f17 : FS := isoF (evFn 5 (evSs (look [f0, f1, f2, f3, f4, f5, f6, f7, f8, f9, f10, f11, f12, f13, f14, f15, f16]) b17))
def N18 : List Str := ["bag", "shape", "rooms", "lap", "full", "room", "many"]
def b18 : List S := [
  .set 2 (.lst true []),
  .each (.name 3) (.rng [.cst (.int (2000))]) [
    .set 4 (.lc false [5, 6] (.var 5) (.tup [.name 5, .name 6]) (.var 1) (.cmp .Gt (.var 6) (.cst (.int (1))))),
    .ite (.cmp .Eq (.var 4) (.lst false [])) [
      .ret (.tup [.var 1, .call 16 [.var 2], .var 2])] [],
    .expr (.mth .append (.var 2) [.call 15 [.var 0, .var 4]]),
    .set 1 (.call 17 [.var 1, .ix (.var 2) (.neg (.cst (.int (1))))])],
  .ret (.cst .non)]
/-- _law_heaped -/
def f18 : FS := evFn 7 (evSs (look [f0, f1, f2, f3, f4, f5, f6, f7, f8, f9, f10, f11, f12, f13, f14, f15, f16, f17]) b18)
def N19 : List Str := ["many", "room", "half", "step"]
def b19 : List S := [
  .set 2 (.bin .FloorDiv (.var 0) (.cst (.int (2)))),
  .ret (.lc false [3] (.bin .Add (.var 1) (.var 3)) (.name 3) (.rng [.neg (.var 2), .bin .Add (.var 2) (.cst (.int (1)))]) (.boo .Or [.cmp .NotEq (.var 3) (.cst (.int (0))), .cmp .Eq (.bin .Mod (.var 0) (.cst (.int (2)))) (.cst (.int (1)))]))]
/-- _law_known -/
def f19 : FS := evFn 4 (evSs (look [f0, f1, f2, f3, f4, f5, f6, f7, f8, f9, f10, f11, f12, f13, f14, f15, f16, f17, f18]) b19)
def N20 : List Str := ["many", "room", "rooms", "found", "place", "grown", "its"]
def b20 : List S := [
  .set 3 (.lst false []),
  .each (.name 4) (.rng [.bin .Sub (.var 1) (.cst (.int (8))), .bin .Add (.var 1) (.cst (.int (9)))]) [
    .set 5 (.bin .Sub (.blt .sum [.lc false [6] (.blt .abs [.bin .Sub (.var 6) (.var 4)]) (.name 6) (.var 2) (.absent)]) (.bin .Mult (.var 0) (.blt .abs [.bin .Sub (.var 1) (.var 4)]))),
    .set 3 (.bin .Add (.var 3) (.ite (.cmp .Gt (.var 5) (.cst (.int (0)))) (.lst false [.tup [.var 4, .bin .FloorDiv (.var 5) (.cst (.int (2)))]]) (.lst false [])))],
  .ret (.blt .tuple [.var 3])]
/-- _law_left -/
def f20 : FS := evFn 7 (evSs (look [f0, f1, f2, f3, f4, f5, f6, f7, f8, f9, f10, f11, f12, f13, f14, f15, f16, f17, f18, f19]) b20)
def N21 : List Str := ["script", "bag", "lap", "rooms", "many", "room", "more", "far", "both", "due", "near", "end", "often", "done", "place", "times", "grown", "its", "one"]
def b21 : List S := [
  .set 1 (.call 13 [.var 0]),
  .each (.name 2) (.rng [.cst (.int (4))]) [
    .par [4, 5] [.bin .Add (.cst (.int (1))) (.call 14 [.var 1, .cst (.int (8))]), .bin .Sub (.call 14 [.var 1, .cst (.int (1800))]) (.cst (.int (900)))],
    .set 3 (.call 19 [.var 4, .var 5]),
    .ite (.boo .Or [.cmp .NotEq (.call 11 [.tup [.tup [.var 5, .var 4]]]) (.blt .tuple [.lc false [17] (.tup [.var 17, .cst (.int (1))]) (.name 17) (.var 3) (.absent)]), .cmp .NotEq (.call 12 [.tup [.tup [.var 5, .var 4]]]) (.call 20 [.var 4, .var 5, .var 3])]) [
      .ret (.cst (.bl false))] [],
    .ite (.cmp .Lt (.var 4) (.cst (.int (8)))) [
      .set 6 (.bin .Add (.cst (.int (1))) (.call 14 [.var 1, .bin .Sub (.cst (.int (8))) (.var 4)])),
      .set 7 (.ite (.cmp .Lt (.var 5) (.cst (.int (0)))) (.bin .Add (.var 5) (.cst (.int (20)))) (.bin .Sub (.var 5) (.cst (.int (20))))),
      .set 8 (.blt .tuple [.blt .sorted [.lst false [.tup [.var 5, .var 4], .tup [.var 7, .var 6]]]]),
      .set 9 (.blt .sorted [.bin .Add (.var 3) (.call 19 [.var 6, .var 7])]),
      .ite (.boo .Or [.cmp .NotEq (.call 11 [.var 8]) (.blt .tuple [.lc false [17] (.tup [.var 17, .cst (.int (1))]) (.name 17) (.var 9) (.absent)]), .cmp .NotEq (.call 12 [.var 8]) (.blt .tuple [.blt .sorted [.bin .Add (.call 20 [.var 4, .var 5, .var 3]) (.call 20 [.var 6, .var 7, .call 19 [.var 6, .var 7]])]])]) [
        .ret (.cst (.bl false))] [],
      .set 10 (.blt .tuple [.blt .sorted [.lst false [.tup [.var 5, .var 4], .tup [.bin .Add (.var 5) (.cst (.int (1))), .var 6]]]]),
      .asg (.tup [.name 11, .name 12, .name 13]) (.call 18 [.var 1, .var 10]),
      .ite (.boo .Or [.cmp .NotEq (.call 11 [.var 10]) (.var 11), .cmp .NotEq (.call 12 [.var 10]) (.var 12)]) [
        .ret (.cst (.bl false))] [],
      .each (.tup [.name 14, .name 15]) (.var 12) [
        .set 16 (.bin .Sub (.bin .Sub (.blt .sum [.lc false [17, 18] (.blt .abs [.bin .Sub (.var 17) (.var 14)]) (.tup [.name 17, .name 18]) (.var 11) (.absent)]) (.bin .Mult (.var 4) (.blt .abs [.bin .Sub (.var 5) (.var 14)]))) (.bin .Mult (.var 6) (.blt .abs [.bin .Sub (.bin .Add (.var 5) (.cst (.int (1)))) (.var 14)]))),
        .ite (.cmp .NotEq (.var 16) (.bin .Mult (.cst (.int (2))) (.var 15))) [
          .ret (.cst (.bl false))] []]] []],
  .ret (.cst (.bl true))]
/-- law -/
def f21 : FS := evFn 19 (evSs (look [f0, f1, f2, f3, f4, f5, f6, f7, f8, f9, f10, f11, f12, f13, f14, f15, f16, f17, f18, f19, f20]) b21)
def top (i : Nat) : Stmt := PySem.Challenge.pw_numberedapart_k52_heaps_in_one_room.main.body.getD i (.Pass ⟨0, 0, 0, 0⟩)
def fn : List He.DefD := [
  ⟨("is_number", none), "is_number", "is_number", defArgs (top 8), defBody (top 8), defScope (top 8), [], []⟩,
  ⟨("is_between", none), "is_between", "is_between", defArgs (top 9), defBody (top 9), defScope (top 9), [], []⟩,
  ⟨("is_sized", none), "is_sized", "is_sized", defArgs (top 10), defBody (top 10), defScope (top 10), [], []⟩,
  ⟨("is_room", none), "is_room", "is_room", defArgs (top 11), defBody (top 11), defScope (top 11), [], []⟩,
  ⟨("is_heap", none), "is_heap", "is_heap", defArgs (top 13), defBody (top 13), defScope (top 13), [], []⟩,
  ⟨("is_shape", none), "is_shape", "is_shape", defArgs (top 14), defBody (top 14), defScope (top 14), [], []⟩,
  ⟨("check_shape", none), "check_shape", "check_shape", defArgs (top 15), defBody (top 15), defScope (top 15), [], []⟩,
  ⟨("kept_room", none), "kept_room", "kept_room", defArgs (top 16), defBody (top 16), defScope (top 16), [], []⟩,
  ⟨("part_two", none), "part_two", "part_two", defArgs (top 17), defBody (top 17), defScope (top 17), [], []⟩,
  ⟨("told_shape", none), "told_shape", "told_shape", defArgs (top 18), defBody (top 18), defScope (top 18), [], []⟩,
  ⟨("plain_heap", none), "plain_heap", "plain_heap", defArgs (top 19), defBody (top 19), defScope (top 19), [], []⟩,
  ⟨("heap_end", none), "heap_end", "heap_end", defArgs (top 20), defBody (top 20), defScope (top 20), [], []⟩,
  ⟨("left_often", none), "left_often", "left_often", defArgs (top 21), defBody (top 21), defScope (top 21), [], []⟩,
  ⟨("_law_bag", none), "_law_bag", "_law_bag", defArgs (top 23), defBody (top 23), defScope (top 23), [], []⟩,
  ⟨("_law_take", none), "_law_take", "_law_take", defArgs (top 24), defBody (top 24), defScope (top 24), [], []⟩,
  ⟨("_law_some", none), "_law_some", "_law_some", defArgs (top 25), defBody (top 25), defScope (top 25), [], []⟩,
  ⟨("_law_counted", none), "_law_counted", "_law_counted", defArgs (top 26), defBody (top 26), defScope (top 26), [], []⟩,
  ⟨("_law_parted", none), "_law_parted", "_law_parted", defArgs (top 27), defBody (top 27), defScope (top 27), [], []⟩,
  ⟨("_law_heaped", none), "_law_heaped", "_law_heaped", defArgs (top 28), defBody (top 28), defScope (top 28), [], []⟩,
  ⟨("_law_known", none), "_law_known", "_law_known", defArgs (top 29), defBody (top 29), defScope (top 29), [], []⟩,
  ⟨("_law_left", none), "_law_left", "_law_left", defArgs (top 30), defBody (top 30), defScope (top 30), [], []⟩,
  ⟨("law", none), "law", "law", defArgs (top 31), defBody (top 31), defScope (top 31), [], []⟩]
def fa : List He.Fa := [.glo "is_number", .glo "is_between", .glo "is_sized", .glo "is_room", .glo "is_heap", .glo "is_shape", .glo "check_shape", .glo "kept_room", .glo "part_two", .glo "told_shape", .glo "plain_heap", .glo "heap_end", .glo "left_often", .glo "_law_bag", .glo "_law_take", .glo "_law_some", .glo "_law_counted", .glo "_law_parted", .glo "_law_heaped", .glo "_law_known", .glo "_law_left", .glo "law"] ++ gis.map (fun p => .int p.1 p.2) ++ blt.map .free
abbrev R : PySem.W.OpenRow := PySem.W.OpenLaw.row PySem.Challenge.rw_numberedapart_k52_heaps_in_one_room
abbrev hk : PySem.W.Hook := He.hookD 6 fa fn
def ob (s : PySem.W.SharedT) : He.AlD := He.obsDG 6 fa fn (HandSHeadRun.getT s)
theorem ob_eq (s : PySem.W.SharedT) : ob s = hk.obs s.abs := He.obsDG_eq (HandSHeadRun.getT_eq s)
theorem run (w : World) : HandSHeadRun.RunEq R (PySem.W.view R.prog [31]) hk ob 3000 ["_wall", "is_number", "is_between", "is_sized", "is_room", "is_heap", "is_shape", "check_shape", "kept_room", "part_two", "told_shape", "plain_heap", "heap_end", "left_often", "_law_bag", "_law_take", "_law_some", "_law_counted", "_law_parted", "_law_heaped", "_law_known", "_law_left", "ApartError", "Nothing", "TooLarge", "MOST_PERSONS", "MOST_ROOM"] w := by
  intro os
  kernel_rfl
theorem c0 : mSs ⟨nm.take 0, gis, blt⟩ N0 (defScope (top 8)) (fun _ => true) b0 (defBody (top 8)) = true := by kernel_rfl
theorem s0 : FnScope N0 ["thing"] (defScope (top 8)) := ⟨rfl, rfl, rfl, by decide +kernel, rfl, by decide +kernel, by decide +kernel⟩
theorem c1 : mSs ⟨nm.take 1, gis, blt⟩ N1 (defScope (top 9)) (fun _ => true) b1 (defBody (top 9)) = true := by kernel_rfl
theorem s1 : FnScope N1 ["thing", "low", "high"] (defScope (top 9)) := ⟨rfl, rfl, rfl, by decide +kernel, rfl, by decide +kernel, by decide +kernel⟩
theorem c2 : mSs ⟨nm.take 2, gis, blt⟩ N2 (defScope (top 10)) (fun _ => true) b2 (defBody (top 10)) = true := by kernel_rfl
theorem s2 : FnScope N2 ["thing", "many"] (defScope (top 10)) := ⟨rfl, rfl, rfl, by decide +kernel, rfl, by decide +kernel, by decide +kernel⟩
theorem c3 : mSs ⟨nm.take 3, gis, blt⟩ N3 (defScope (top 11)) (fun _ => true) b3 (defBody (top 11)) = true := by kernel_rfl
theorem s3 : FnScope N3 ["thing"] (defScope (top 11)) := ⟨rfl, rfl, rfl, by decide +kernel, rfl, by decide +kernel, by decide +kernel⟩
theorem c4 : mSs ⟨nm.take 4, gis, blt⟩ N4 (defScope (top 13)) (fun _ => true) b4 (defBody (top 13)) = true := by kernel_rfl
theorem s4 : FnScope N4 ["thing"] (defScope (top 13)) := ⟨rfl, rfl, rfl, by decide +kernel, rfl, by decide +kernel, by decide +kernel⟩
theorem c5 : mSs ⟨nm.take 5, gis, blt⟩ N5 (defScope (top 14)) (fun _ => true) b5 (defBody (top 14)) = true := by kernel_rfl
theorem s5 : FnScope N5 ["thing"] (defScope (top 14)) := ⟨rfl, rfl, rfl, by decide +kernel, rfl, by decide +kernel, by decide +kernel⟩
theorem c6 : mSs ⟨nm.take 6, gis, blt⟩ N6 (defScope (top 15)) (fun _ => true) b6 (defBody (top 15)) = true := by kernel_rfl
theorem s6 : FnScope N6 ["thing"] (defScope (top 15)) := ⟨rfl, rfl, rfl, by decide +kernel, rfl, by decide +kernel, by decide +kernel⟩
theorem c7 : mSs ⟨nm.take 7, gis, blt⟩ N7 (defScope (top 16)) (fun _ => true) b7 (defBody (top 16)) = true := by kernel_rfl
theorem s7 : FnScope N7 ["room"] (defScope (top 16)) := ⟨rfl, rfl, rfl, by decide +kernel, rfl, by decide +kernel, by decide +kernel⟩
theorem c8 : mSs ⟨nm.take 8, gis, blt⟩ N8 (defScope (top 17)) (fun _ => true) b8 (defBody (top 17)) = true := by kernel_rfl
theorem s8 : FnScope N8 ["found", "room"] (defScope (top 17)) := ⟨rfl, rfl, rfl, by decide +kernel, rfl, by decide +kernel, by decide +kernel⟩
theorem c9 : mSs ⟨nm.take 9, gis, blt⟩ N9 (defScope (top 18)) (fun _ => true) b9 (defBody (top 18)) = true := by kernel_rfl
theorem s9 : FnScope N9 ["found"] (defScope (top 18)) := ⟨rfl, rfl, rfl, by decide +kernel, rfl, by decide +kernel, by decide +kernel⟩
theorem c10 : mSs ⟨nm.take 10, gis, blt⟩ N10 (defScope (top 19)) (fun _ => true) b10 (defBody (top 19)) = true := by kernel_rfl
theorem s10 : FnScope N10 ["shape"] (defScope (top 19)) := ⟨rfl, rfl, rfl, by decide +kernel, rfl, by decide +kernel, by decide +kernel⟩
theorem c11 : mSs ⟨nm.take 11, gis, blt⟩ N11 (defScope (top 20)) (fun _ => true) b11 (defBody (top 20)) = true := by kernel_rfl
theorem s11 : FnScope N11 ["shape"] (defScope (top 20)) := ⟨rfl, rfl, rfl, by decide +kernel, rfl, by decide +kernel, by decide +kernel⟩
theorem c12 : mSs ⟨nm.take 12, gis, blt⟩ N12 (defScope (top 21)) (fun _ => true) b12 (defBody (top 21)) = true := by kernel_rfl
theorem s12 : FnScope N12 ["shape"] (defScope (top 21)) := ⟨rfl, rfl, rfl, by decide +kernel, rfl, by decide +kernel, by decide +kernel⟩
theorem c13 : mSs ⟨nm.take 13, gis, blt⟩ N13 (defScope (top 23)) (fun _ => true) b13 (defBody (top 23)) = true := by kernel_rfl
theorem s13 : FnScope N13 ["script"] (defScope (top 23)) := ⟨rfl, rfl, rfl, by decide +kernel, rfl, by decide +kernel, by decide +kernel⟩
theorem c14 : mSs ⟨nm.take 14, gis, blt⟩ N14 (defScope (top 24)) (fun _ => true) b14 (defBody (top 24)) = true := by kernel_rfl
theorem s14 : FnScope N14 ["bag", "many"] (defScope (top 24)) := ⟨rfl, rfl, rfl, by decide +kernel, rfl, by decide +kernel, by decide +kernel⟩
theorem c15 : mSs ⟨nm.take 15, gis, blt⟩ N15 (defScope (top 25)) (fun _ => true) b15 (defBody (top 25)) = true := by kernel_rfl
theorem s15 : FnScope N15 ["bag", "things"] (defScope (top 25)) := ⟨rfl, rfl, rfl, by decide +kernel, rfl, by decide +kernel, by decide +kernel⟩
theorem c16 : mSs ⟨nm.take 16, gis, blt⟩ N16 (defScope (top 26)) (fun _ => true) b16 (defBody (top 26)) = true := by kernel_rfl
theorem s16 : FnScope N16 ["some"] (defScope (top 26)) := ⟨rfl, rfl, rfl, by decide +kernel, rfl, by decide +kernel, by decide +kernel⟩
theorem c17 : mSs ⟨nm.take 17, gis, blt⟩ N17 (defScope (top 27)) (fun _ => true) b17 (defBody (top 27)) = true := by kernel_rfl
theorem s17 : FnScope N17 ["shape", "room"] (defScope (top 27)) := ⟨rfl, rfl, rfl, by decide +kernel, rfl, by decide +kernel, by decide +kernel⟩
theorem c18 : mSs ⟨nm.take 18, gis, blt⟩ N18 (defScope (top 28)) (fun _ => true) b18 (defBody (top 28)) = true := by kernel_rfl
theorem s18 : FnScope N18 ["bag", "shape"] (defScope (top 28)) := ⟨rfl, rfl, rfl, by decide +kernel, rfl, by decide +kernel, by decide +kernel⟩
theorem c19 : mSs ⟨nm.take 19, gis, blt⟩ N19 (defScope (top 29)) (fun _ => true) b19 (defBody (top 29)) = true := by kernel_rfl
theorem s19 : FnScope N19 ["many", "room"] (defScope (top 29)) := ⟨rfl, rfl, rfl, by decide +kernel, rfl, by decide +kernel, by decide +kernel⟩
theorem c20 : mSs ⟨nm.take 20, gis, blt⟩ N20 (defScope (top 30)) (fun _ => true) b20 (defBody (top 30)) = true := by kernel_rfl
theorem s20 : FnScope N20 ["many", "room", "rooms"] (defScope (top 30)) := ⟨rfl, rfl, rfl, by decide +kernel, rfl, by decide +kernel, by decide +kernel⟩
theorem c21 : mSs ⟨nm.take 21, gis, blt⟩ N21 (defScope (top 31)) (fun _ => true) b21 (defBody (top 31)) = true := by kernel_rfl
theorem s21 : FnScope N21 ["script"] (defScope (top 31)) := ⟨rfl, rfl, rfl, by decide +kernel, rfl, by decide +kernel, by decide +kernel⟩
theorem gi_ok : ∀ x i, gis.lookup x = some i → He.Fa.int x i ∈ fa := fun x i e =>
  List.mem_append_left _ (List.mem_append_right _ (List.mem_map.mpr ⟨(x, i), mem_of_lookup e, rfl⟩))
theorem bl_ok : ∀ x, x ∈ blt → He.Fa.free x ∈ fa := fun x e => List.mem_append_right _ (List.mem_map.mpr ⟨x, e, rfl⟩)
def GG : GA := ⟨fun _ => none, fun _ => none, fun _ => []⟩
section
variable {G : GA} {P : Program} {w : World} {K : PySem.W.Frag} {mg : Str → Option Value} {base h : Heap}
theorem t0 (X : K.In h) (Gm : h.Ns mainGlobals mg) (c : He.SaysD fa fn K) : TB G P w (noL K) mg base ⟨nm.take 0, gis, blt⟩ [] := TB.nilD X Gm c gi_ok bl_ok
theorem t1 (X : K.In h) (Gm : h.Ns mainGlobals mg) (c : He.SaysD fa fn K) : TB G P w (noL K) mg base ⟨nm.take 1, gis, blt⟩ [f0] :=
  TB.stepD X Gm c false (t0 X Gm c) 0 0 rfl rfl s0 (fun _ _ _ _ _ _ us hl => match us, hl with | [_], _ => rfl) c0 rfl
theorem t2 (X : K.In h) (Gm : h.Ns mainGlobals mg) (c : He.SaysD fa fn K) : TB G P w (noL K) mg base ⟨nm.take 2, gis, blt⟩ [f0, f1] :=
  TB.stepD X Gm c false (t1 X Gm c) 1 1 rfl rfl s1 (fun _ _ _ _ _ _ us hl => match us, hl with | [_, _, _], _ => rfl) c1 rfl
theorem t3 (X : K.In h) (Gm : h.Ns mainGlobals mg) (c : He.SaysD fa fn K) : TB G P w (noL K) mg base ⟨nm.take 3, gis, blt⟩ [f0, f1, f2] :=
  TB.stepD X Gm c false (t2 X Gm c) 2 2 rfl rfl s2 (fun _ _ _ _ _ _ us hl => match us, hl with | [_, _], _ => rfl) c2 rfl
theorem t4 (X : K.In h) (Gm : h.Ns mainGlobals mg) (c : He.SaysD fa fn K) : TB G P w (noL K) mg base ⟨nm.take 4, gis, blt⟩ [f0, f1, f2, f3] :=
  TB.stepD X Gm c false (t3 X Gm c) 3 3 rfl rfl s3 (fun _ _ _ _ _ _ us hl => match us, hl with | [_], _ => rfl) c3 rfl
theorem t5 (X : K.In h) (Gm : h.Ns mainGlobals mg) (c : He.SaysD fa fn K) : TB G P w (noL K) mg base ⟨nm.take 5, gis, blt⟩ [f0, f1, f2, f3, f4] :=
  TB.stepD X Gm c false (t4 X Gm c) 4 4 rfl rfl s4 (fun _ _ _ _ _ _ us hl => match us, hl with | [_], _ => rfl) c4 rfl
theorem t6 (X : K.In h) (Gm : h.Ns mainGlobals mg) (c : He.SaysD fa fn K) : TB G P w (noL K) mg base ⟨nm.take 6, gis, blt⟩ [f0, f1, f2, f3, f4, f5] :=
  TB.stepD X Gm c false (t5 X Gm c) 5 5 rfl rfl s5 (fun _ _ _ _ _ _ us hl => match us, hl with | [_], _ => rfl) c5 rfl
theorem t7 (X : K.In h) (Gm : h.Ns mainGlobals mg) (c : He.SaysD fa fn K) : TB G P w (noL K) mg base ⟨nm.take 7, gis, blt⟩ [f0, f1, f2, f3, f4, f5, f6] :=
  TB.stepD X Gm c false (t6 X Gm c) 6 6 rfl rfl s6 (fun _ _ _ _ _ _ us hl => match us, hl with | [_], _ => rfl) c6 rfl
theorem t8 (X : K.In h) (Gm : h.Ns mainGlobals mg) (c : He.SaysD fa fn K) : TB G P w (noL K) mg base ⟨nm.take 8, gis, blt⟩ [f0, f1, f2, f3, f4, f5, f6, f7] :=
  TB.stepD X Gm c false (t7 X Gm c) 7 7 rfl rfl s7 (fun _ _ _ _ _ _ us hl => match us, hl with | [_], _ => rfl) c7 rfl
theorem t9 (X : K.In h) (Gm : h.Ns mainGlobals mg) (c : He.SaysD fa fn K) : TB G P w (noL K) mg base ⟨nm.take 9, gis, blt⟩ [f0, f1, f2, f3, f4, f5, f6, f7, f8] :=
  TB.stepD X Gm c false (t8 X Gm c) 8 8 rfl rfl s8 (fun _ _ _ _ _ _ us hl => match us, hl with | [_, _], _ => rfl) c8 rfl
theorem t10 (X : K.In h) (Gm : h.Ns mainGlobals mg) (c : He.SaysD fa fn K) : TB G P w (noL K) mg base ⟨nm.take 10, gis, blt⟩ [f0, f1, f2, f3, f4, f5, f6, f7, f8, f9] :=
  TB.stepD X Gm c false (t9 X Gm c) 9 9 rfl rfl s9 (fun _ _ _ _ _ _ us hl => match us, hl with | [_], _ => rfl) c9 rfl
theorem t11 (X : K.In h) (Gm : h.Ns mainGlobals mg) (c : He.SaysD fa fn K) : TB G P w (noL K) mg base ⟨nm.take 11, gis, blt⟩ [f0, f1, f2, f3, f4, f5, f6, f7, f8, f9, f10] :=
  TB.stepD X Gm c true (t10 X Gm c) 10 10 rfl rfl s10 (fun _ _ _ _ _ _ us hl => match us, hl with | [_], _ => rfl) c10 rfl
theorem t12 (X : K.In h) (Gm : h.Ns mainGlobals mg) (c : He.SaysD fa fn K) : TB G P w (noL K) mg base ⟨nm.take 12, gis, blt⟩ [f0, f1, f2, f3, f4, f5, f6, f7, f8, f9, f10, f11] :=
  TB.stepD X Gm c true (t11 X Gm c) 11 11 rfl rfl s11 (fun _ _ _ _ _ _ us hl => match us, hl with | [_], _ => rfl) c11 rfl
theorem t13 (X : K.In h) (Gm : h.Ns mainGlobals mg) (c : He.SaysD fa fn K) : TB G P w (noL K) mg base ⟨nm.take 13, gis, blt⟩ [f0, f1, f2, f3, f4, f5, f6, f7, f8, f9, f10, f11, f12] :=
  TB.stepD X Gm c true (t12 X Gm c) 12 12 rfl rfl s12 (fun _ _ _ _ _ _ us hl => match us, hl with | [_], _ => rfl) c12 rfl
theorem t14 (X : K.In h) (Gm : h.Ns mainGlobals mg) (c : He.SaysD fa fn K) : TB G P w (noL K) mg base ⟨nm.take 14, gis, blt⟩ [f0, f1, f2, f3, f4, f5, f6, f7, f8, f9, f10, f11, f12, f13] :=
  TB.stepD X Gm c false (t13 X Gm c) 13 13 rfl rfl s13 (fun _ _ _ _ _ _ us hl => match us, hl with | [_], _ => rfl) c13 rfl
theorem t15 (X : K.In h) (Gm : h.Ns mainGlobals mg) (c : He.SaysD fa fn K) : TB G P w (noL K) mg base ⟨nm.take 15, gis, blt⟩ [f0, f1, f2, f3, f4, f5, f6, f7, f8, f9, f10, f11, f12, f13, f14] :=
  TB.stepD X Gm c false (t14 X Gm c) 14 14 rfl rfl s14 (fun _ _ _ _ _ _ us hl => match us, hl with | [_, _], _ => rfl) c14 rfl
theorem t16 (X : K.In h) (Gm : h.Ns mainGlobals mg) (c : He.SaysD fa fn K) : TB G P w (noL K) mg base ⟨nm.take 16, gis, blt⟩ [f0, f1, f2, f3, f4, f5, f6, f7, f8, f9, f10, f11, f12, f13, f14, f15] :=
  TB.stepD X Gm c false (t15 X Gm c) 15 15 rfl rfl s15 (fun _ _ _ _ _ _ us hl => match us, hl with | [_, _], _ => rfl) c15 rfl
theorem t17 (X : K.In h) (Gm : h.Ns mainGlobals mg) (c : He.SaysD fa fn K) : TB G P w (noL K) mg base ⟨nm.take 17, gis, blt⟩ [f0, f1, f2, f3, f4, f5, f6, f7, f8, f9, f10, f11, f12, f13, f14, f15, f16] :=
  TB.stepD X Gm c false (t16 X Gm c) 16 16 rfl rfl s16 (fun _ _ _ _ _ _ us hl => match us, hl with | [_], _ => rfl) c16 rfl
theorem t18 (X : K.In h) (Gm : h.Ns mainGlobals mg) (c : He.SaysD fa fn K) : TB G P w (noL K) mg base ⟨nm.take 18, gis, blt⟩ [f0, f1, f2, f3, f4, f5, f6, f7, f8, f9, f10, f11, f12, f13, f14, f15, f16, f17] :=
  TB.stepD X Gm c true (t17 X Gm c) 17 17 rfl rfl s17 (fun _ _ _ _ _ _ us hl => match us, hl with | [_, _], _ => rfl) c17 rfl
theorem t19 (X : K.In h) (Gm : h.Ns mainGlobals mg) (c : He.SaysD fa fn K) : TB G P w (noL K) mg base ⟨nm.take 19, gis, blt⟩ [f0, f1, f2, f3, f4, f5, f6, f7, f8, f9, f10, f11, f12, f13, f14, f15, f16, f17, f18] :=
  TB.stepD X Gm c false (t18 X Gm c) 18 18 rfl rfl s18 (fun _ _ _ _ _ _ us hl => match us, hl with | [_, _], _ => rfl) c18 rfl
theorem t20 (X : K.In h) (Gm : h.Ns mainGlobals mg) (c : He.SaysD fa fn K) : TB G P w (noL K) mg base ⟨nm.take 20, gis, blt⟩ [f0, f1, f2, f3, f4, f5, f6, f7, f8, f9, f10, f11, f12, f13, f14, f15, f16, f17, f18, f19] :=
  TB.stepD X Gm c false (t19 X Gm c) 19 19 rfl rfl s19 (fun _ _ _ _ _ _ us hl => match us, hl with | [_, _], _ => rfl) c19 rfl
theorem t21 (X : K.In h) (Gm : h.Ns mainGlobals mg) (c : He.SaysD fa fn K) : TB G P w (noL K) mg base ⟨nm.take 21, gis, blt⟩ [f0, f1, f2, f3, f4, f5, f6, f7, f8, f9, f10, f11, f12, f13, f14, f15, f16, f17, f18, f19, f20] :=
  TB.stepD X Gm c false (t20 X Gm c) 20 20 rfl rfl s20 (fun _ _ _ _ _ _ us hl => match us, hl with | [_, _, _], _ => rfl) c20 rfl
end
end T
namespace T
open M B PySem PySem.Spec PyProof.Rows L2

/-! ### tables as cells -/
def dc (A : Tab) : Cell := .dct false (A.map fun p => .int p.1) (A.map fun p => .int p.2)
theorem dgetD_tab : ∀ (A : Tab) (k : Int), dgetD (A.map fun p => .int p.1) (A.map fun p => .int p.2) (.int k) = (getT A k).map D.int
  | [], k => rfl
  | p :: A, k => by
    show (if beqD (.int p.1) (.int k) then some (D.int p.2) else dgetD (A.map fun p => .int p.1) (A.map fun p => .int p.2) (.int k)) = _
    unfold getT
    by_cases e : p.1 = k
    · rw [if_pos e, if_pos (by simp [beqD, e])]; rfl
    · rw [if_neg e, if_neg (by simp [beqD, e]), dgetD_tab A k]
theorem dhasD_tab : ∀ (A : Tab) (k : Int), dhasD (A.map fun p => .int p.1) (.int k) = hasT A k
  | [], k => rfl
  | p :: A, k => by
    show (beqD (.int p.1) (.int k) || dhasD (A.map fun p => .int p.1) (.int k)) = _
    rw [dhasD_tab A k]
    simp [hasT, beqD, Bool.beq_eq_decide_eq]
theorem dsetD_tab : ∀ (A : Tab) (k v : Int), dsetD (A.map fun p => .int p.1) (A.map fun p => .int p.2) (.int k) (.int v) = (A.map fun p => if p.1 = k then (k, v) else p).map fun p => D.int p.2
  | [], k, v => rfl
  | p :: A, k, v => by
    show (if beqD (.int p.1) (.int k) then D.int v else .int p.2) :: dsetD (A.map fun p => .int p.1) (A.map fun p => .int p.2) (.int k) (.int v) = _
    rw [dsetD_tab A k v]
    by_cases e : p.1 = k
    · simp [beqD, e]
    · simp [beqD, e]
theorem dputD_tab (A : Tab) (k v : Int) : dputD (A.map fun p => .int p.1) (A.map fun p => .int p.2) (.int k) (.int v) = ((putT A k v).map fun p => .int p.1, (putT A k v).map fun p => .int p.2) := by
  unfold dputD putT
  rw [dhasD_tab]
  split
  · rw [dsetD_tab]
    refine Prod.ext ?_ rfl
    show (A.map fun p => D.int p.1) = _
    rw [List.map_map]
    refine List.map_congr_left fun p _ => ?_
    show D.int p.1 = D.int (if p.1 = k then (k, v) else p).1
    split <;> simp_all
  · simp
theorem ints_tab (A : Tab) : intsOf (A.map fun p => D.int p.1) = some (A.map (·.1)) := by
  have := intsOf_map (A.map (·.1))
  rw [List.map_map] at this
  exact this
theorem putT_len {A : Tab} {k v : Int} : (putT A k v).length ≤ A.length + 1 := by
  unfold putT
  split <;> simp
/-- x[k] = v, x.get(k, 0), x[k] -/
theorem set_tab {μ : Mem} {l : Nat} {A : Tab} {k v : Int} (h : μ[l]? = some (dc A)) (hl : A.length < 16777216) : setIx (.obj l) (.int k) (.int v) μ = some (μ.set l (dc (putT A k v))) := by
  simp only [setIx, h, dc, dputD_tab, List.length_map, keyOk, keyK]
  simp [hl]
theorem get_tab {μ : Mem} {l : Nat} {A : Tab} {k z : Int} (h : μ[l]? = some (dc A)) : mGet (.obj l) [.int k, .int z] μ = some (.int ((getT A k).getD z), μ) := by
  simp only [mGet, dctOf, h, dc, dgetD_tab, keyOk, keyK]
  cases getT A k <;> simp
theorem ix_tab {μ : Mem} {l : Nat} {A : Tab} {k v : Int} (h : μ[l]? = some (dc A)) (e : getT A k = some v) : ixD (.obj l) (.int k) μ = some (.int v) := by
  simp [ixD, dctOf, h, dc, dgetD_tab, keyOk, keyK, e]
theorem sorted_tab {μ : Mem} {l : Nat} {A : Tab} (h : μ[l]? = some (dc A)) (hl : A.length < 64) : sortedD [.obj l] μ = some (.lst ((sortI (A.map (·.1))).map .int)) := by
  simp [sortedD, M.seqL, dctOf, h, dc, ints_tab, hl]
theorem isDct {μ : Mem} {l : Nat} {A : Tab} (h : μ[l]? = some (dc A)) : isMT .dct μ (.obj l) = true := by simp [isMT, dctOf, h, dc]

/-! ### the walk -/
theorem f0_int (i : Int) (μ : Mem) : f0 [.int i] μ = .ok (.bl true) μ := by
  simp [f0, b0, evFn, evSs, evS, evE, evEs, evBoV, evBoT, ofV, ofC, evX, evSeq, evSkip, evVar, evBin, evUn, evB, evT, evChain, evAnd, evOr, evNot, evAndT, evOrT, evNotT, evIf, evNil, evCons, evTup, evLst, evMl, evCall, evBlt, evBltM, evIs, evMth, evSl, evP, evNoP, evSrc, evSet, evPar, asgT_name, asgT_tup, asgTs_nil, asgTs_cons, evAug, evAugS, evSetIx, evYes, evD0, binG, cmpG, augG, Bl.f, Mt.f, Mt.ty, Cst.d, no1, M.tyOf, isTy, tru]
theorem f1_int (i a b : Int) (μ : Mem) : f1 [.int i, .int a, .int b] μ = .ok (.bl (decide (a ≤ i) && decide (i ≤ b))) μ := by
  simp [f1, b1, evFn, evSs, evS, evE, evEs, evBoV, evBoT, ofV, ofC, evX, evSeq, evSkip, evVar, evBin, evUn, evB, evT, evChain, evAnd, evOr, evNot, evAndT, evOrT, evNotT, evIf, evNil, evCons, evTup, evLst, evMl, evCall, evBlt, evBltM, evIs, evMth, evSl, evP, evNoP, evSrc, evSet, evPar, asgT_name, asgT_tup, asgTs_nil, asgTs_cons, evAug, evAugS, evSetIx, evYes, evD0, binG, cmpG, augG, Bl.f, Mt.f, Mt.ty, Cst.d, no1, look, f0_int, tru, cmpI]
  by_cases h : a ≤ i <;> simp [h]
theorem f2_tup (ds : List D) (n : Int) (μ : Mem) : f2 [.tup ds, .int n] μ = .ok (.bl (decide ((ds.length : Int) = n))) μ := by
  simp [f2, b2, evFn, evSs, evS, evE, evEs, evBoV, evBoT, ofV, ofC, evX, evSeq, evSkip, evVar, evBin, evUn, evB, evT, evChain, evAnd, evOr, evNot, evAndT, evOrT, evNotT, evIf, evNil, evCons, evTup, evLst, evMl, evCall, evBlt, evBltM, evIs, evMth, evSl, evP, evNoP, evSrc, evSet, evPar, asgT_name, asgT_tup, asgTs_nil, asgTs_cons, evAug, evAugS, evSetIx, evYes, evD0, binG, cmpG, augG, Bl.f, Mt.f, Mt.ty, Cst.d, no1, M.tyOf, isTy, tru, lenD]
theorem f3_int (i : Int) (μ : Mem) : f3 [.int i] μ = .ok (.bl (decide (-1000 ≤ i) && decide (i ≤ 1000))) μ := by
  simp [f3, b3, evFn, evSs, evS, evE, evEs, evBoV, evBoT, ofV, ofC, evX, evSeq, evSkip, evVar, evBin, evUn, evB, evT, evChain, evAnd, evOr, evNot, evAndT, evOrT, evNotT, evIf, evNil, evCons, evTup, evLst, evMl, evCall, evBlt, evBltM, evIs, evMth, evSl, evP, evNoP, evSrc, evSet, evPar, asgT_name, asgT_tup, asgTs_nil, asgTs_cons, evAug, evAugS, evSetIx, evYes, evD0, binG, cmpG, augG, Bl.f, Mt.f, Mt.ty, Cst.d, no1, look, f1_int, subD]
theorem f4_pair (p : Int × Int) (μ : Mem) (h1 : -1000 ≤ p.1) (h2 : p.1 ≤ 1000) (h3 : 1 ≤ p.2) (h4 : p.2 ≤ 8) : f4 [M.pairD p] μ = .ok (.bl true) μ := by
  simp [f4, b4, evFn, evSs, evS, evE, evEs, evBoV, evBoT, ofV, ofC, evX, evSeq, evSkip, evVar, evBin, evUn, evB, evT, evChain, evAnd, evOr, evNot, evAndT, evOrT, evNotT, evIf, evNil, evCons, evTup, evLst, evMl, evCall, evBlt, evBltM, evIs, evMth, evSl, evP, evNoP, evSrc, evSet, evPar, asgT_name, asgT_tup, asgTs_nil, asgTs_cons, evAug, evAugS, evSetIx, evYes, evD0, binG, cmpG, augG, Bl.f, Mt.f, Mt.ty, Cst.d, no1, look, f1_int, f2_tup, f3_int, M.pairD, ixD, dctOf, idxD, M.seqL, atI, ixN, tru, h1, h2, h3, h4]

abbrev encS (s : Tab) : D := .tup (s.map M.pairD)
structure ShapeOk (s : Tab) : Prop where
  so : SS' s
  room : ∀ p ∈ s, -1000 ≤ p.1 ∧ p.1 ≤ 1000 ∧ 1 ≤ p.2 ∧ p.2 ≤ 8
  many : 1 ≤ (s.map (·.2)).sum ∧ (s.map (·.2)).sum ≤ 8
  few : s.length ≤ 1000
theorem bools_map {α : Type} (f : α → Bool) : ∀ (l : List α), boolsOf (l.map fun x => D.bl (f x)) = some (l.map f)
  | [] => rfl
  | x :: l => by simp [boolsOf, bools_map f l]
theorem ints_map {α : Type} (f : α → Int) : ∀ (l : List α), intsOf (l.map fun x => D.int (f x)) = some (l.map f)
  | [] => rfl
  | x :: l => by simp [intsOf, ints_map f l]
theorem cut_all (ds : List D) : M.cutD ds (some 1) none = ds.tail := by
  cases ds with
  | nil => rfl
  | cons d ds =>
    have h : ¬ (1 : Int) < 0 := by omega
    simp only [M.cutD, HT.sIx, if_neg h, List.length_cons]
    have e : min (1 : Int).toNat (ds.length + 1) = 1 := by show min 1 (ds.length + 1) = 1; omega
    rw [e]
    simp
theorem ss_tail {s : Tab} (h : SS' s) : ∀ q ∈ s.zip s.tail, q.1.1 < q.2.1 := by
  induction s with
  | nil => intro q hq; simp at hq
  | cons p s ih =>
    cases s with
    | nil => intro q hq; simp at hq
    | cons p' s =>
      intro q hq
      have h' := List.pairwise_cons.mp h
      rcases List.mem_cons.mp hq with e | hq
      · subst e; exact h'.1 p' (List.mem_cons_self ..)
      · exact ih h'.2 q hq
theorem zip_pairs : ∀ (s t : Tab), zipD (s.map M.pairD) (t.map M.pairD) = (s.zip t).map fun q => .tup [M.pairD q.1, M.pairD q.2]
  | [], t => by simp [zipD]
  | p :: s, [] => by simp [zipD]
  | p :: s, q :: t => by simp [zipD, zip_pairs s t]
theorem f5_shape {s : Tab} (h : ShapeOk s) (μ : Mem) : f5 [encS s] μ = .ok (.bl true) μ := by
  have few := h.few
  have a1 : evLc false (evSrc (evVar 0)) (.name 1) evYes (evCall f4 (evCons (evVar 1) evNil)) [1] [some (encS s), none, none, none, none] μ = .ok (.lst (s.map fun _ => .bl true)) μ :=
    evLc_all (gd := []) s M.pairD (fun _ => .bl true) (by simp [evSs, evS, evE, evEs, evBoV, evBoT, ofV, ofC, evX, evSeq, evSkip, evVar, evBin, evUn, evB, evT, evChain, evAnd, evOr, evNot, evAndT, evOrT, evNotT, evIf, evNil, evCons, evTup, evLst, evMl, evCall, evBlt, evBltM, evIs, evMth, evSl, evP, evNoP, evSrc, evSet, evPar, asgT_name, asgT_tup, asgTs_nil, asgTs_cons, evAug, evAugS, evSetIx, evYes, evD0, binG, cmpG, augG, Bl.f, Mt.f, Mt.ty, Cst.d, no1, srcOf]) rfl (by omega) fun p hp => ⟨_, rfl, by
      have := h.room p hp
      simp [evSs, evS, evE, evEs, evBoV, evBoT, ofV, ofC, evX, evSeq, evSkip, evVar, evBin, evUn, evB, evT, evChain, evAnd, evOr, evNot, evAndT, evOrT, evNotT, evIf, evNil, evCons, evTup, evLst, evMl, evCall, evBlt, evBltM, evIs, evMth, evSl, evP, evNoP, evSrc, evSet, evPar, asgT_name, asgT_tup, asgTs_nil, asgTs_cons, evAug, evAugS, evSetIx, evYes, evD0, binG, cmpG, augG, Bl.f, Mt.f, Mt.ty, Cst.d, no1, wipeD, f4_pair p μ this.1 this.2.1 this.2.2.1 this.2.2.2]⟩
  have a2 : evLc false (evSrc (evVar 0)) (.tup [.name 3, .name 4]) evYes (evVar 4) [3, 4] [some (encS s), none, none, none, none] μ = .ok (.lst (s.map fun p => .int p.2)) μ :=
    evLc_all (gd := []) s M.pairD (fun p => .int p.2) (by simp [evSs, evS, evE, evEs, evBoV, evBoT, ofV, ofC, evX, evSeq, evSkip, evVar, evBin, evUn, evB, evT, evChain, evAnd, evOr, evNot, evAndT, evOrT, evNotT, evIf, evNil, evCons, evTup, evLst, evMl, evCall, evBlt, evBltM, evIs, evMth, evSl, evP, evNoP, evSrc, evSet, evPar, asgT_name, asgT_tup, asgTs_nil, asgTs_cons, evAug, evAugS, evSetIx, evYes, evD0, binG, cmpG, augG, Bl.f, Mt.f, Mt.ty, Cst.d, no1, srcOf]) rfl (by omega) fun p hp => ⟨_, rfl, by simp [evSs, evS, evE, evEs, evBoV, evBoT, ofV, ofC, evX, evSeq, evSkip, evVar, evBin, evUn, evB, evT, evChain, evAnd, evOr, evNot, evAndT, evOrT, evNotT, evIf, evNil, evCons, evTup, evLst, evMl, evCall, evBlt, evBltM, evIs, evMth, evSl, evP, evNoP, evSrc, evSet, evPar, asgT_name, asgT_tup, asgTs_nil, asgTs_cons, evAug, evAugS, evSetIx, evYes, evD0, binG, cmpG, augG, Bl.f, Mt.f, Mt.ty, Cst.d, no1, wipeD]⟩
  have a3 : evLc false (evZip (evCons (evVar 0) (evCons (evSl (evVar 0) (evP fun _ μ => .ok (.int 1) μ) evNoP) evNil))) (.tup [.name 1, .name 2]) evYes (evBin ltD (evBin ixD (evVar 1) fun _ μ => .ok (.int 0) μ) (evBin ixD (evVar 2) fun _ μ => .ok (.int 0) μ)) [1, 2] [some (encS s), none, none, none, none] μ = .ok (.lst ((s.zip s.tail).map fun q => .bl (decide (q.1.1 < q.2.1)))) μ :=
    evLc_all (gd := []) (s.zip s.tail) (fun q => .tup [M.pairD q.1, M.pairD q.2]) (fun q => .bl (decide (q.1.1 < q.2.1))) (by
      simp [evSs, evS, evE, evEs, evBoV, evBoT, ofV, ofC, evX, evSeq, evSkip, evVar, evBin, evUn, evB, evT, evChain, evAnd, evOr, evNot, evAndT, evOrT, evNotT, evIf, evNil, evCons, evTup, evLst, evMl, evCall, evBlt, evBltM, evIs, evMth, evSl, evP, evNoP, evSrc, evSet, evPar, asgT_name, asgT_tup, asgTs_nil, asgTs_cons, evAug, evAugS, evSetIx, evYes, evD0, binG, cmpG, augG, Bl.f, Mt.f, Mt.ty, Cst.d, no1, evZip, slD, cut_all, zip_pairs]
      rw [← List.map_tail, zip_pairs]) rfl (by simp; omega) fun p hp => ⟨_, rfl, by
      simp [evSs, evS, evE, evEs, evBoV, evBoT, ofV, ofC, evX, evSeq, evSkip, evVar, evBin, evUn, evB, evT, evChain, evAnd, evOr, evNot, evAndT, evOrT, evNotT, evIf, evNil, evCons, evTup, evLst, evMl, evCall, evBlt, evBltM, evIs, evMth, evSl, evP, evNoP, evSrc, evSet, evPar, asgT_name, asgT_tup, asgTs_nil, asgTs_cons, evAug, evAugS, evSetIx, evYes, evD0, binG, cmpG, augG, Bl.f, Mt.f, Mt.ty, Cst.d, no1, wipeD, ixD, dctOf, idxD, M.seqL, atI, ixN, M.pairD, ltD]⟩
  have e1 : (List.map (fun _ => true) s).all id = true := by simp
  have e2 := bools_map (fun _ : Int × Int => true) s
  have e3 := ints_map (fun p : Int × Int => p.2) s
  have e4 := bools_map (fun q : (Int × Int) × (Int × Int) => decide (q.1.1 < q.2.1)) (s.zip s.tail)
  have e5 : ((s.zip s.tail).map fun q => decide (q.1.1 < q.2.1)).all id = true := by
    rw [List.all_map, List.all_eq_true]
    exact fun q hq => decide_eq_true (ss_tail h.so q hq)
  simp [f5, b5, evFn, evSs, evS, evE, evEs, evBoV, evBoT, ofV, ofC, evX, evSeq, evSkip, evVar, evBin, evUn, evB, evT, evChain, evAnd, evOr, evNot, evAndT, evOrT, evNotT, evIf, evNil, evCons, evTup, evLst, evMl, evCall, evBlt, evBltM, evIs, evMth, evSl, evP, evNoP, evSrc, evSet, evPar, asgT_name, asgT_tup, asgTs_nil, asgTs_cons, evAug, evAugS, evSetIx, evYes, evD0, binG, cmpG, augG, Bl.f, Mt.f, Mt.ty, Cst.d, no1, look, M.tyOf, isTy, tru, a1, a2, a3, allD, sumD, on1, M.seqL, e1, e2, e3, e4, e5, h.many.1, h.many.2, cmpI]
theorem f6_ok {s : Tab} (h : ShapeOk s) (μ : Mem) : f6 [encS s] μ = .ok .non μ := by
  simp [f6, b6, evFn, evSs, evS, evE, evEs, evBoV, evBoT, ofV, ofC, evX, evSeq, evSkip, evVar, evBin, evUn, evB, evT, evChain, evAnd, evOr, evNot, evAndT, evOrT, evNotT, evIf, evNil, evCons, evTup, evLst, evMl, evCall, evBlt, evBltM, evIs, evMth, evSl, evP, evNoP, evSrc, evSet, evPar, asgT_name, asgT_tup, asgTs_nil, asgTs_cons, evAug, evAugS, evSetIx, evYes, evD0, binG, cmpG, augG, Bl.f, Mt.f, Mt.ty, Cst.d, no1, look, f5_shape h, tru]
theorem f7_ok {i : Int} (h1 : -1000 ≤ i) (h2 : i ≤ 1000) (μ : Mem) : f7 [.int i] μ = .ok (.int i) μ := by
  simp [f7, b7, evFn, evSs, evS, evE, evEs, evBoV, evBoT, ofV, ofC, evX, evSeq, evSkip, evVar, evBin, evUn, evB, evT, evChain, evAnd, evOr, evNot, evAndT, evOrT, evNotT, evIf, evNil, evCons, evTup, evLst, evMl, evCall, evBlt, evBltM, evIs, evMth, evSl, evP, evNoP, evSrc, evSet, evPar, asgT_name, asgT_tup, asgTs_nil, asgTs_cons, evAug, evAugS, evSetIx, evYes, evD0, binG, cmpG, augG, Bl.f, Mt.f, Mt.ty, Cst.d, no1, look, f3_int, h1, h2, tru]
theorem hset {μ : Mem} {l : Nat} (h : l < μ.length) (c : Cell) : (μ.set l c)[l]? = some c := List.getElem?_set_self h
theorem f8_ok {μ : Mem} {l : Nat} {A : Tab} {x : Int} (h : μ[l]? = some (dc A)) (hk : KN A) (hx : x ∈ A.map (·.1)) (h1 : -999 ≤ x) (h2 : x ≤ 999) (hl : A.length < 1000) : f8 [.obj l, .int x] μ = .ok .non (μ.set l (dc (partT A x))) := by
  have lt : l < μ.length := (List.getElem?_eq_some_iff.mp h).1
  have e0 := ix_tab h (getT_some hk hx)
  have e1 := set_tab (k := x) (v := cf A x - 2) h (by omega)
  have l1 : (putT A x (cf A x - 2)).length < 1001 := by have := putT_len (A := A) (k := x) (v := cf A x - 2); omega
  have m1 := hset lt (dc (putT A x (cf A x - 2)))
  have l2 : (B.bump (putT A x (cf A x - 2)) (x - 1)).length < 1002 := by have := putT_len (A := putT A x (cf A x - 2)) (k := x - 1) (v := (getT (putT A x (cf A x - 2)) (x - 1)).getD 0 + 1); unfold B.bump; omega
  have m2 := hset lt (dc (B.bump (putT A x (cf A x - 2)) (x - 1)))
  have e2 := get_tab (k := x - 1) (z := 0) m1
  have e3 := set_tab (k := x - 1) (v := (getT (putT A x (cf A x - 2)) (x - 1)).getD 0 + 1) m1 (by omega)
  have e4 := get_tab (k := x + 1) (z := 0) m2
  have e5 := set_tab (k := x + 1) (v := (getT (B.bump (putT A x (cf A x - 2)) (x - 1)) (x + 1)).getD 0 + 1) m2 (by omega)
  have e6 : partT A x = B.bump (B.bump (putT A x (cf A x - 2)) (x - 1)) (x + 1) := by unfold partT; rw [getT_cf hk]
  have i1 := isDct m1
  have i2 := isDct m2
  rw [List.set_set] at e3 e5
  have k1 : ∀ μ, f7 [.int (x - 1)] μ = .ok (.int (x - 1)) μ := fun μ => f7_ok (by omega) (by omega) μ
  have k2 : ∀ μ, f7 [.int (x + 1)] μ = .ok (.int (x + 1)) μ := fun μ => f7_ok (by omega) (by omega) μ
  have b1 : ∀ A y, putT A y ((getT A y).getD 0 + 1) = B.bump A y := fun _ _ => rfl
  rw [b1] at e3 e5
  simp [f8, b8, evFn, evSs, evS, evE, evEs, evBoV, evBoT, ofV, ofC, evX, evSeq, evSkip, evVar, evBin, evUn, evB, evT, evChain, evAnd, evOr, evNot, evAndT, evOrT, evNotT, evIf, evNil, evCons, evTup, evLst, evMl, evCall, evBlt, evBltM, evIs, evMth, evSl, evP, evNoP, evSrc, evSet, evPar, asgT_name, asgT_tup, asgTs_nil, asgTs_cons, evAug, evAugS, evSetIx, evYes, evD0, binG, cmpG, augG, Bl.f, Mt.f, Mt.ty, Cst.d, no1, look, e0, e1, subD, k1, k2, evForS, evFor, srcOf, gOk, i1, e2, addD, e3, i2, e4, e5, e6]
def fulls (A : Tab) : List Int := (sortI (A.map (·.1))).filter fun k => decide (cf A k > 1)
theorem sorted_mem {A : Tab} {k : Int} (h : k ∈ sortI (A.map (·.1))) : k ∈ A.map (·.1) := mem_sortI.mp h
theorem keys_len {A : Tab} : (sortI (A.map (·.1))).length = A.length := by rw [(sortI_perm _).length_eq, List.length_map]
theorem f9_ok {μ : Mem} {l : Nat} {A : Tab} (h : μ[l]? = some (dc A)) (hk : KN A) (hl : A.length < 64) : f9 [.obj l] μ = .ok (encS (told A)) μ := by
  have e1 := sorted_tab h hl
  have e2 : evLc false (evSrc (evBlt sortedD (evCons (evVar 0) evNil))) (.name 1) (evB (evBin (cmpI fun i j => decide (j < i)) (evBin ixD (evVar 0) (evVar 1)) fun _ μ => .ok (.int 0) μ)) (evTup (evCons (evVar 1) (evCons (evBin ixD (evVar 0) (evVar 1)) evNil))) [1] [some (.obj l), none] μ = .ok (.lst ((told A).map M.pairD)) μ := by
    have q := evLc_val (gd := []) (src := evSrc (evBlt sortedD (evCons (evVar 0) evNil))) (t := .name 1) (ft := evB (evBin (cmpI fun i j => decide (j < i)) (evBin ixD (evVar 0) (evVar 1)) fun _ μ => .ok (.int 0) μ)) (fe := evTup (evCons (evVar 1) (evCons (evBin ixD (evVar 0) (evVar 1)) evNil))) (own := [1]) (δ := [some (.obj l), none]) (μ := μ) (μ1 := μ)
      (sortI (A.map (·.1))) D.int (fun k => decide (cf A k > 0)) (fun k => .tup [.int k, .int (cf A k)]) (by simp [evSs, evS, evE, evEs, evBoV, evBoT, ofV, ofC, evX, evSeq, evSkip, evVar, evBin, evUn, evB, evT, evChain, evAnd, evOr, evNot, evAndT, evOrT, evNotT, evIf, evNil, evCons, evTup, evLst, evMl, evCall, evBlt, evBltM, evIs, evMth, evSl, evP, evNoP, evSrc, evSet, evPar, asgT_name, asgT_tup, asgTs_nil, asgTs_cons, evAug, evAugS, evSetIx, evYes, evD0, binG, cmpG, augG, Bl.f, Mt.f, Mt.ty, Cst.d, no1, e1, srcOf]) rfl (by rw [keys_len]; omega) fun k hm => ⟨_, rfl, by
        have e3 := ix_tab h (getT_some hk (sorted_mem hm))
        simp [evSs, evS, evE, evEs, evBoV, evBoT, ofV, ofC, evX, evSeq, evSkip, evVar, evBin, evUn, evB, evT, evChain, evAnd, evOr, evNot, evAndT, evOrT, evNotT, evIf, evNil, evCons, evTup, evLst, evMl, evCall, evBlt, evBltM, evIs, evMth, evSl, evP, evNoP, evSrc, evSet, evPar, asgT_name, asgT_tup, asgTs_nil, asgTs_cons, evAug, evAugS, evSetIx, evYes, evD0, binG, cmpG, augG, Bl.f, Mt.f, Mt.ty, Cst.d, no1, wipeD, e3, cmpI], fun _ => by
        have e3 := ix_tab h (getT_some hk (sorted_mem hm))
        simp [evSs, evS, evE, evEs, evBoV, evBoT, ofV, ofC, evX, evSeq, evSkip, evVar, evBin, evUn, evB, evT, evChain, evAnd, evOr, evNot, evAndT, evOrT, evNotT, evIf, evNil, evCons, evTup, evLst, evMl, evCall, evBlt, evBltM, evIs, evMth, evSl, evP, evNoP, evSrc, evSet, evPar, asgT_name, asgT_tup, asgTs_nil, asgTs_cons, evAug, evAugS, evSetIx, evYes, evD0, binG, cmpG, augG, Bl.f, Mt.f, Mt.ty, Cst.d, no1, wipeD, e3]⟩
    rw [q]
    simp [told, M.pairD]
  simp [f9, b9, evFn, evSs, evS, evE, evEs, evBoV, evBoT, ofV, ofC, evX, evSeq, evSkip, evVar, evBin, evUn, evB, evT, evChain, evAnd, evOr, evNot, evAndT, evOrT, evNotT, evIf, evNil, evCons, evTup, evLst, evMl, evCall, evBlt, evBltM, evIs, evMth, evSl, evP, evNoP, evSrc, evSet, evPar, asgT_name, asgT_tup, asgTs_nil, asgTs_cons, evAug, evAugS, evSetIx, evYes, evD0, binG, cmpG, augG, Bl.f, Mt.f, Mt.ty, Cst.d, no1, e2, tupleD, M.seqL]
theorem dc_loop {gd : List (Nat × List D)} {δ : Sg} {μ : Mem} {i j : Nat} (hij : i ≠ j) (hi : i < δ.length) (hj : j < δ.length) (hg : gOk μ gd = true) : ∀ (s A : Tab), KN (A ++ s) → (A ++ s).length < 16777216 →
    dcLoop gd (asgT (.tup [.name i, .name j])) evYes (evVar i) (evVar j) δ (s.map M.pairD) (A.map fun p => .int p.1, A.map fun p => .int p.2) μ = .ok ((A ++ s).map fun p => .int p.1, (A ++ s).map fun p => .int p.2) μ
  | [], A, _, _ => by simp [dcLoop, hg]
  | p :: s, A, hk, hl => by
    have e : putT A p.1 p.2 = A ++ [p] := by
      unfold putT
      rw [if_neg]
      intro z
      rw [hasT_iff] at z
      unfold KN at hk
      rw [List.map_append, List.nodup_append] at hk
      exact hk.2.2 _ z _ (List.mem_map.mpr ⟨p, List.mem_cons_self .., rfl⟩) rfl
    have ih := dc_loop (δ := δ) hij hi hj hg s (A ++ [p]) (by simpa using hk) (by simpa using hl)
    have hl' : A.length < 16777216 := by simp at hl; omega
    rw [List.map_cons]
    unfold dcLoop
    rw [if_pos hg]
    have v1 : evVar i ((δ.set i (some (.int p.1))).set j (some (.int p.2))) μ = .ok (.int p.1) μ := by
      unfold evVar
      rw [List.getElem?_set_ne (Ne.symm hij), List.getElem?_set_self hi]
    have v2 : evVar j ((δ.set i (some (.int p.1))).set j (some (.int p.2))) μ = .ok (.int p.2) μ := by
      unfold evVar
      rw [List.getElem?_set_self (by simpa using hj)]
    have hc : (decide ((A.map fun p => D.int p.1).length < 16777216) && (keyK (.int p.1)).isSome) = true := by simp [hl', keyK]
    have ha : asgT (.tup [.name i, .name j]) (M.pairD p) δ = some ((δ.set i (some (.int p.1))).set j (some (.int p.2))) := rfl
    simp only [ha, evYes, Out.noX_ok, Out.bind_ok, if_true, v1, v2, hc, dputD_tab, e]
    rw [ih]
    simp
theorem merge_tab : ∀ (s A : Tab), KN (A ++ s) → mergeD (A.map fun p => .int p.1) (A.map fun p => .int p.2) (s.map M.pairD) = some ((A ++ s).map fun p => .int p.1, (A ++ s).map fun p => .int p.2)
  | [], A, _ => by simp [mergeD]
  | p :: s, A, hk => by
    have e : putT A p.1 p.2 = A ++ [p] := by
      unfold putT
      rw [if_neg]
      intro z
      rw [hasT_iff] at z
      unfold KN at hk
      rw [List.map_append, List.nodup_append] at hk
      exact hk.2.2 _ z _ (List.mem_map.mpr ⟨p, List.mem_cons_self .., rfl⟩) rfl
    have ih := merge_tab s (A ++ [p]) (by simpa using hk)
    rw [List.map_cons]
    simp only [M.pairD, mergeD, keyK, Option.isSome_some, if_true]
    rw [dputD_tab, e, ih]
    simp
/-! the whole way of a shape: s, its end E, how often each room was left O, all within a..b -/
structure Cfg (a b : Int) (s E O : Tab) : Prop where
  ok : ShapeOk s
  wide : b - a < 60
  lo : -1000 ≤ a
  hi : b ≤ 1000
  ins : ∀ p ∈ s, a ≤ p.1 ∧ p.1 ≤ b
  way : ∃ S : List Int, Legal S (cf s) ∧ Stable (runC S (cf s)) ∧ runC S (cf s) = cf E ∧ (∀ x ∈ S, a < x ∧ x < b) ∧ S.length ≤ 1000 ∧ O = allT (cnt S [])
  rep : Rep E
theorem rep_of {s : Tab} (h : ShapeOk s) : Rep s := ⟨h.so, fun p hp => by have := h.room p hp; omega⟩
def rangeI (lo : Int) (n : Nat) : List Int := (List.range n).map fun i : Nat => lo + (i : Int)
theorem nodup_len {α : Type} [DecidableEq α] : ∀ {l m : List α}, l.Nodup → (∀ x ∈ l, x ∈ m) → l.length ≤ m.length
  | [], m, _, _ => Nat.zero_le _
  | x :: l, m, h, hs => by
    rw [List.nodup_cons] at h
    have hx := hs x (List.mem_cons_self ..)
    have := nodup_len (l := l) (m := m.erase x) h.2 fun y hy => (List.mem_erase_of_ne (fun e : y = x => h.1 (by rw [← e]; exact hy))).mpr (hs y (List.mem_cons_of_mem _ hy))
    rw [List.length_erase_of_mem hx] at this
    have hp : 0 < m.length := List.length_pos_of_mem hx
    simp; omega
theorem few_keys {A : Tab} {a b : Int} (hk : KN A) (hw : b - a < 60) (h : ∀ k ∈ A.map (·.1), a ≤ k ∧ k ≤ b) : A.length < 64 := by
  have sub : ∀ k ∈ A.map (·.1), k ∈ rangeI a 60 := fun k hk => by
    have := h k hk
    exact List.mem_map.mpr ⟨(k - a).toNat, List.mem_range.mpr (by omega), by omega⟩
  have := nodup_len hk sub
  simp [rangeI] at this
  omega
theorem part_keys {A : Tab} {x : Int} : ∀ k ∈ (partT A x).map (·.1), k ∈ A.map (·.1) ∨ k = x ∨ k = x - 1 ∨ k = x + 1 := by
  intro k hk
  unfold partT B.bump at hk
  rw [put_keys] at hk
  have one : ∀ {l : List Int} {c : Bool} {y : Int}, k ∈ (if c then l else l ++ [y]) → k ∈ l ∨ k = y := fun {l c y} h => by
    cases c <;> simp at h
    · exact h
    · exact .inl h
  rcases one hk with h | h
  · rw [put_keys] at h
    rcases one h with h | h
    · rw [put_keys] at h
      rcases one h with h | h
      · exact .inl h
      · exact .inr (.inl h)
    · exact .inr (.inr (.inl h))
  · exact .inr (.inr (.inr h))

theorem fulls_of {A : Tab} : ∀ {x : Int}, x ∈ fulls A → x ∈ A.map (·.1) ∧ 2 ≤ cf A x := fun {x} h => by
  have := List.mem_filter.mp h
  exact ⟨sorted_mem this.1, by have := of_decide_eq_true this.2; omega⟩
theorem fulls_nil {A : Tab} (h : fulls A = []) : Stable (cf A) := by
  intro x
  by_cases m : x ∈ A.map (·.1)
  · have : ¬ cf A x > 1 := fun z => by
      have : x ∈ fulls A := List.mem_filter.mpr ⟨mem_sortI.mpr m, decide_eq_true z⟩
      rw [h] at this; cases this
    omega
  · rw [cf_out fun q hq z => m (List.mem_map.mpr ⟨q, hq, z⟩)]; omega
/-- what is so behind some partings -/
structure Along (a b : Int) (s : Tab) (t : List Int) (A : Tab) : Prop where
  kn : KN A
  eq : cf A = runC t (cf s)
  leg : Legal t (cf s)
  ins : ∀ k ∈ A.map (·.1), a ≤ k ∧ k ≤ b
theorem Along.next {a b : Int} {s E O A : Tab} {t : List Int} (g : Cfg a b s E O) (h : Along a b s t A) {x : Int} (hx : 2 ≤ cf A x) : Along a b s (t ++ [x]) (partT A x) ∧ a < x ∧ x < b ∧ t.length + 1 ≤ 1000 := by
  obtain ⟨S, h1, h2, h3, h4, h5, h6⟩ := g.way
  have leg : Legal (t ++ [x]) (cf s) := legal_append.mpr ⟨h.leg, by rw [← h.eq]; exact hx, trivial⟩
  obtain ⟨s', k1, k2, k3⟩ := abelian h1 h2 leg
  have hm : x ∈ S := k2.mem_iff.mpr (by simp)
  have hin := h4 x hm
  have hlen := k2.length_eq
  simp at hlen
  refine ⟨⟨part_kn h.kn, by rw [cf_part h.kn, run_append, ← h.eq]; rfl, leg, fun k hk => ?_⟩, hin.1, hin.2, by omega⟩
  rcases part_keys k hk with z | z | z | z
  · exact h.ins k z
  · omega
  · omega
  · omega
theorem Along.done {a b : Int} {s E O A : Tab} {t : List Int} (g : Cfg a b s E O) (h : Along a b s t A) (hs : Stable (cf A)) : cf A = cf E ∧ O = allT (cnt t []) := by
  obtain ⟨S, h1, h2, h3, h4, h5, h6⟩ := g.way
  obtain ⟨k1, k2⟩ := abelian_end h1 h2 h.leg (by rw [← h.eq]; exact hs)
  exact ⟨by rw [h.eq, k2, h3], by rw [h6]; exact allT_perm k1⟩
theorem Along.start {a b : Int} {s E O : Tab} (g : Cfg a b s E O) : Along a b s [] s :=
  ⟨ss_nodup g.ok.so, rfl, trivial, fun k hk => by
    obtain ⟨p, hp, rfl⟩ := List.mem_map.mp hk
    exact g.ins p hp⟩
theorem cf_nonneg {s : Tab} (h : Rep s) (y : Int) : 0 ≤ cf s y := by
  by_cases m : y ∈ s.map (·.1)
  · obtain ⟨p, hp, rfl⟩ := List.mem_map.mp m
    rw [cf_in (ss_nodup h.so) p hp]
    have := h.po p hp; omega
  · rw [cf_out fun q hq z => m (List.mem_map.mpr ⟨q, hq, z⟩)]; omega
theorem told_end {s E : Tab} (h : KN s) (r : Rep E) (e : cf s = cf E) : told s = E :=
  rep_uniq (told_rep h) r (by rw [cf_told h fun y => by rw [e]; exact cf_nonneg r y, e])
theorem cnt_keys : ∀ {l : List Int} {A : Tab}, ∀ k ∈ (cnt l A).map (·.1), k ∈ A.map (·.1) ∨ k ∈ l
  | [], A, k, h => .inl h
  | x :: l, A, k, h => by
    rcases cnt_keys (l := l) (A := B.bump A x) k h with z | z
    · unfold B.bump at z
      rw [put_keys] at z
      split at z
      · exact .inl z
      · rcases List.mem_append.mp z with z | z
        · exact .inl z
        · simp at z; exact .inr (by rw [z]; exact List.mem_cons_self ..)
    · exact .inr (List.mem_cons_of_mem _ z)
theorem cnt_snoc (l : List Int) (x : Int) : ∀ A : Tab, cnt (l ++ [x]) A = B.bump (cnt l A) x := by
  induction l with
  | nil => intro A; rfl
  | cons y l ih => intro A; exact ih (B.bump A y)
theorem allT_ok {μ : Mem} {d : D} {O : Tab} {δ : Sg} {i j : Nat} {src : Sg → Mem → Out D} (hd : δ[i]? = some (some d)) (hij : i ≠ j) (hj : j < δ.length) (h1 : src δ μ = .ok (.lst ((sortI (O.map (·.1))).map .int)) μ) (h2 : ∀ k ∈ O.map (·.1), ixD d (.int k) μ = some (.int (cf O k))) (hl : O.length ≤ 1000) :
    evLc false (evSrc src) (.name j) evYes (evTup (evCons (evVar j) (evCons (evBin ixD (evVar i) (evVar j)) evNil))) [j] δ μ = .ok (.lst ((allT O).map M.pairD)) μ := by
  have q := evLc_all (gd := []) (src := evSrc src) (t := .name j) (fe := evTup (evCons (evVar j) (evCons (evBin ixD (evVar i) (evVar j)) evNil))) (own := [j]) (δ := δ) (μ := μ) (μ1 := μ) (sortI (O.map (·.1))) D.int (fun k => .tup [.int k, .int (cf O k)])
    (by simp [evSrc, h1, srcOf]) rfl (by rw [keys_len]; omega) fun k hm => ⟨_, rfl, by
      have e3 := h2 k (sorted_mem hm)
      have v1 : ∀ c : D, evVar j ((wipeD δ [j]).set j (some c)) μ = .ok c μ := fun c => by
        unfold evVar
        rw [List.getElem?_set_self (by simpa [wipeD] using hj)]
      have v2 : ∀ c : D, evVar i ((wipeD δ [j]).set j (some c)) μ = .ok d μ := fun c => by
        unfold evVar
        rw [List.getElem?_set_ne (Ne.symm hij)]
        simp only [wipeD]
        rw [List.getElem?_set_ne (Ne.symm hij), hd]
      simp [evTup, evCons, evBin, evNil, v1, v2, e3]⟩
  rw [q]
  simp [allT, M.pairD]
def mm (A O : Tab) : Mem := [dc A, dc O]
def st10 (s : Tab) (A : Tab) : Sg := [some (encS s), some (.lst ((fulls A).map .int)), some (.obj 0), some (.obj 1), none, none]
theorem rooms_ok {A O : Tab} {x2 : Option D} {s : Tab} (hk : KN A) (hl : A.length < 64) : evLc false (evSrc (evBlt sortedD (evCons (evVar 2) evNil))) (.name 4) (evB (evBin (cmpI fun i j => decide (j < i)) (evBin ixD (evVar 2) (evVar 4)) fun _ μ => .ok (.int 1) μ)) (evVar 4) [4] [some (encS s), x2, some (.obj 0), some (.obj 1), none, none] (mm A O) = .ok (.lst ((fulls A).map .int)) (mm A O) := by
  have h : (mm A O)[0]? = some (dc A) := rfl
  have e1 := sorted_tab h hl
  unfold fulls
  exact evLc_val (gd := []) (src := evSrc (evBlt sortedD (evCons (evVar 2) evNil))) (t := .name 4) (ft := evB (evBin (cmpI fun i j => decide (j < i)) (evBin ixD (evVar 2) (evVar 4)) fun _ μ => .ok (.int 1) μ)) (fe := evVar 4) (own := [4]) (δ := [some (encS s), x2, some (.obj 0), some (.obj 1), none, none]) (μ := mm A O) (μ1 := mm A O) (sortI (A.map (·.1))) D.int (fun k => decide (cf A k > 1)) D.int (by simp [evSs, evS, evE, evEs, evBoV, evBoT, ofV, ofC, evX, evSeq, evSkip, evVar, evBin, evUn, evB, evT, evChain, evAnd, evOr, evNot, evAndT, evOrT, evNotT, evIf, evNil, evCons, evTup, evLst, evMl, evCall, evBlt, evBltM, evIs, evMth, evSl, evP, evNoP, evSrc, evSet, evPar, asgT_name, asgT_tup, asgTs_nil, asgTs_cons, evAug, evAugS, evSetIx, evYes, evD0, binG, cmpG, augG, Bl.f, Mt.f, Mt.ty, Cst.d, no1, e1, srcOf]) rfl (by rw [keys_len]; omega) fun k hm => ⟨_, rfl, by
        have e3 := ix_tab h (getT_some hk (sorted_mem hm))
        simp [evSs, evS, evE, evEs, evBoV, evBoT, ofV, ofC, evX, evSeq, evSkip, evVar, evBin, evUn, evB, evT, evChain, evAnd, evOr, evNot, evAndT, evOrT, evNotT, evIf, evNil, evCons, evTup, evLst, evMl, evCall, evBlt, evBltM, evIs, evMth, evSl, evP, evNoP, evSrc, evSet, evPar, asgT_name, asgT_tup, asgTs_nil, asgTs_cons, evAug, evAugS, evSetIx, evYes, evD0, binG, cmpG, augG, Bl.f, Mt.f, Mt.ty, Cst.d, no1, wipeD, e3, cmpI], fun _ => by simp [evSs, evS, evE, evEs, evBoV, evBoT, ofV, ofC, evX, evSeq, evSkip, evVar, evBin, evUn, evB, evT, evChain, evAnd, evOr, evNot, evAndT, evOrT, evNotT, evIf, evNil, evCons, evTup, evLst, evMl, evCall, evBlt, evBltM, evIs, evMth, evSl, evP, evNoP, evSrc, evSet, evPar, asgT_name, asgT_tup, asgTs_nil, asgTs_cons, evAug, evAugS, evSetIx, evYes, evD0, binG, cmpG, augG, Bl.f, Mt.f, Mt.ty, Cst.d, no1, wipeD]⟩

theorem pl_ints (l : List Int) : pl 64 (.lst (l.map D.int)) = true := by
  have := pls_ints 63 l
  simpa [pl] using this
theorem ne_nil_ok (l : List Int) (μ : Mem) : neD (.lst (l.map .int)) (.lst []) μ = some (.bl (decide (l ≠ []))) := by
  rw [neD_pl (pl_ints l) (by simp [pl, pls])]
  cases l <;> simp [beqD, beqDs]
theorem eq_nil_ok (l : List Int) (μ : Mem) : eqD (.lst (l.map .int)) (.lst []) μ = some (.bl (decide (l = []))) := by
  rw [eqD_pl (pl_ints l) (by simp [pl, pls])]
  cases l <;> simp [beqD, beqDs]
def loop10 : List S := [
    .expr (.call 8 [.var 2, .ix (.var 1) (.cst (.int (0)))]),
    .sub (.var 3) (.ix (.var 1) (.cst (.int (0)))) (.bin .Add (.mth .get (.var 3) [.ix (.var 1) (.cst (.int (0))), .cst (.int (0))]) (.cst (.int (1)))),
    .set 1 (.lc false [4] (.var 4) (.name 4) (.blt .sorted [.var 2]) (.cmp .Gt (.ix (.var 2) (.var 4)) (.cst (.int (1)))))]
abbrev F10 : Nat → FS := look [f0, f1, f2, f3, f4, f5, f6, f7, f8, f9]
theorem step10 {a b : Int} {s E O A : Tab} {t : List Int} (g : Cfg a b s E O) (h : Along a b s t A) {x : Int} {r : List Int} (hx : fulls A = x :: r) :
    evSs F10 loop10 (st10 s A) (mm A (cnt t [])) = .ok (.nx (st10 s (partT A x))) (mm (partT A x) (cnt (t ++ [x]) [])) ∧ Along a b s (t ++ [x]) (partT A x) ∧ t.length + 1 ≤ 1000 := by
  have fx := fulls_of (A := A) (x := x) (by rw [hx]; exact List.mem_cons_self ..)
  obtain ⟨h', l1, l2, l3⟩ := h.next g fx.2
  refine ⟨?_, h', l3⟩
  have hl := few_keys h.kn g.wide h.ins
  have hl' := few_keys h'.kn g.wide h'.ins
  have lo := g.lo
  have hi := g.hi
  have k8 := f8_ok (μ := mm A (cnt t [])) (l := 0) (A := A) (x := x) rfl h.kn fx.1 (by omega) (by omega) (by omega)
  have e8 : (mm A (cnt t [])).set 0 (dc (partT A x)) = mm (partT A x) (cnt t []) := rfl
  rw [e8] at k8
  have o1 : (mm (partT A x) (cnt t []))[1]? = some (dc (cnt t [])) := rfl
  have olen : (cnt t []).length ≤ 1000 := by
    have := nodup_len (l := List.map (fun p : Int × Int => p.1) (cnt t [])) (m := t) (cnt_kn kn_nil) fun k hk => by
      rcases cnt_keys k hk with z | z
      · simp at z
      · exact z
    simp at this; omega
  have e1 := get_tab (k := x) (z := 0) o1
  have e2 := set_tab (k := x) (v := (getT (cnt t []) x).getD 0 + 1) o1 (by omega)
  have i1 := isDct o1
  have e3 : (mm (partT A x) (cnt t [])).set 1 (dc (putT (cnt t []) x ((getT (cnt t []) x).getD 0 + 1))) = mm (partT A x) (cnt (t ++ [x]) []) := by rw [cnt_snoc]; rfl
  rw [e3] at e2
  have e4 := rooms_ok (A := partT A x) (O := cnt (t ++ [x]) []) (s := s) (x2 := some (.lst ((x :: r).map .int))) h'.kn hl'
  simp only [List.map_cons] at e4
  have e5 : ∀ (μ : Mem) (l : List D), ixD (.lst (.int x :: l)) (.int 0) μ = some (.int x) := fun μ l => by simp [ixD, dctOf, idxD, M.seqL, atI, ixN]
  simp [loop10, F10, st10, evSs, evS, evE, evEs, evBoV, evBoT, ofV, ofC, evX, evSeq, evSkip, evVar, evBin, evUn, evB, evT, evChain, evAnd, evOr, evNot, evAndT, evOrT, evNotT, evIf, evNil, evCons, evTup, evLst, evMl, evCall, evBlt, evBltM, evIs, evMth, evSl, evP, evNoP, evSrc, evSet, evPar, asgT_name, asgT_tup, asgTs_nil, asgTs_cons, evAug, evAugS, evSetIx, evYes, evD0, binG, cmpG, augG, Bl.f, Mt.f, Mt.ty, Cst.d, no1, look, hx, e5, k8, i1, e1, addD, e2, e4]

theorem while10 {a b : Int} {s E O : Tab} (g : Cfg a b s E O) : ∃ t A, Along a b s t A ∧ fulls A = [] ∧ evWhile (evE F10 (.cmp .NotEq (.var 1) (.lst false []))).t (evSs F10 loop10) 100000 (st10 s s) (mm s []) = .ok (.nx (st10 s A)) (mm A (cnt t [])) := by
  refine while_inv (fun o => ∃ t A, Along a b s t A ∧ fulls A = [] ∧ o = .ok (.nx (st10 s A)) (mm A (cnt t []))) (fun m δ μ => ∃ t A, Along a b s t A ∧ δ = st10 s A ∧ μ = mm A (cnt t []) ∧ m + t.length = 1001) ?_ 100000 1001 _ _ (by omega) ⟨[], s, Along.start g, rfl, rfl, rfl⟩
  rintro m δ μ ⟨t, A, h, rfl, rfl, hm⟩
  have tst : (evE F10 (.cmp .NotEq (.var 1) (.lst false []))).t (st10 s A) (mm A (cnt t [])) = .ok (decide (fulls A ≠ [])) (mm A (cnt t [])) := by
    simp [evSs, evS, evE, evEs, evBoV, evBoT, ofV, ofC, evX, evSeq, evSkip, evVar, evBin, evUn, evB, evT, evChain, evAnd, evOr, evNot, evAndT, evOrT, evNotT, evIf, evNil, evCons, evTup, evLst, evMl, evCall, evBlt, evBltM, evIs, evMth, evSl, evP, evNoP, evSrc, evSet, evPar, asgT_name, asgT_tup, asgTs_nil, asgTs_cons, evAug, evAugS, evSetIx, evYes, evD0, binG, cmpG, augG, Bl.f, Mt.f, Mt.ty, Cst.d, no1, st10, ne_nil_ok]
  cases hx : fulls A with
  | nil =>
    rw [hx] at tst
    exact .inl ⟨_, tst, t, A, h, hx, rfl⟩
  | cons x r =>
    rw [hx] at tst
    obtain ⟨k1, k2, k3⟩ := step10 g h hx
    exact .inr ⟨_, tst, .inl ⟨_, _, m - 1, .inl k1, by omega, t ++ [x], _, k2, rfl, rfl, by simp; omega⟩⟩
theorem noObjs_ints : ∀ (l : Tab), noObjs (l.map fun p => D.int p.2) = true
  | [] => rfl
  | p :: l => by simp [noObjs, noObj, noObjs_ints l]
theorem noObjs_pairs : ∀ (l : Tab), noObjs (l.map M.pairD) = true
  | [] => rfl
  | p :: l => by simp [noObjs, noObj, M.pairD, noObjs_pairs l]
theorem noObj_enc (s : Tab) : noObj (encS s) = true := by simp [encS, noObj, noObjs_pairs]
def fz (O : Tab) : D := .dct false (O.map fun p => .int p.1) (O.map fun p => .int p.2)
theorem f10_ok {a b : Int} {s E O : Tab} (g : Cfg a b s E O) (μ : Mem) : ∃ t : List Int, f10 [encS s] μ = .ok (.tup [encS E, fz (cnt t [])]) μ ∧ O = allT (cnt t []) ∧ t.length ≤ 1000 := by
  obtain ⟨t, A, h, hf, hw⟩ := while10 g
  obtain ⟨e1, e2⟩ := h.done g (fulls_nil hf)
  have hl := few_keys h.kn g.wide h.ins
  have hs := ss_nodup g.ok.so
  have ls := few_keys hs g.wide (Along.start g).ins
  have tl : t.length ≤ 1000 := by
    obtain ⟨S, h1, h2, h3, h4, h5, h6⟩ := g.way
    obtain ⟨k1, k2⟩ := abelian_end h1 h2 h.leg (by rw [← h.eq]; exact fulls_nil hf)
    have := k1.length_eq; omega
  refine ⟨t, ?_, e2, tl⟩
  have k1 : evDc true (evSrc (evVar 0)) (.tup [.name 4, .name 5]) evYes (evVar 4) (evVar 5) [4, 5] [some (encS s), none, none, none, none, none] [] = .ok (.obj 0) [dc s] := by
    have q := dc_loop (gd := []) (δ := [some (encS s), none, none, none, none, none]) (μ := []) (i := 4) (j := 5) (by decide) (by simp) (by simp) rfl s [] (show KN s from hs) (by simp; omega)
    simp only [List.map_nil, List.nil_append] at q
    simp [evDc, evSs, evS, evE, evEs, evBoV, evBoT, ofV, ofC, evX, evSeq, evSkip, evVar, evBin, evUn, evB, evT, evChain, evAnd, evOr, evNot, evAndT, evOrT, evNotT, evIf, evNil, evCons, evTup, evLst, evMl, evCall, evBlt, evBltM, evIs, evMth, evSl, evP, evNoP, evSrc, evSet, evPar, asgT_name, asgT_tup, asgTs_nil, asgTs_cons, evAug, evAugS, evSetIx, evYes, evD0, binG, cmpG, augG, Bl.f, Mt.f, Mt.ty, Cst.d, no1, srcOf, wipeD, q, finC, dc]
  have k2 : (mm s [])[0]? = some (dc s) := rfl
  have k3 := rooms_ok (A := s) (O := []) (s := s) (x2 := none) hs ls
  have k4 : f9 [.obj 0] (mm A (cnt t [])) = .ok (encS E) (mm A (cnt t [])) := by
    rw [f9_ok (A := A) rfl h.kn hl, told_end h.kn g.rep e1]
  have hw' : evWhile (evB (evBin neD (evVar 1) (evLst evNil))) (evSs F10 loop10) 100000 (st10 s s) (mm s []) = .ok (.nx (st10 s A)) (mm A (cnt t [])) := by
    simpa only [evE, evEs, ofC, cmpG, ofV, Bool.false_eq_true, if_false] using hw
  have body : evFn 6 (evSs F10 b10) [encS s] [] = .ok (.tup [encS E, .obj 1]) (mm A (cnt t [])) := by
    have hb : b10 = [.asg (.tup [.name 2, .name 3]) (.tup [.dc true [4, 5] (.var 4) (.var 5) (.tup [.name 4, .name 5]) (.var 0) (.absent), .d0 false]),
      .set 1 (.lc false [4] (.var 4) (.name 4) (.blt .sorted [.var 2]) (.cmp .Gt (.ix (.var 2) (.var 4)) (.cst (.int (1))))),
      .loop 100000 (.cmp .NotEq (.var 1) (.lst false [])) loop10, .ret (.tup [.call 9 [.var 2], .var 3])] := rfl
    have k5 : evLc false (evSrc (evBlt sortedD (evCons (evVar 2) evNil))) (.name 4) (evB (evBin (cmpI fun i j => decide (j < i)) (evBin ixD (evVar 2) (evVar 4)) fun _ μ => .ok (.int 1) μ)) (evVar 4) [4] [some (encS s), none, some (.obj 0), some (.obj 1), none, none] [dc s, Cell.dct false [] []] = .ok (.lst ((fulls s).map .int)) (mm s []) := k3
    have e9 : F10 9 = f9 := rfl
    unfold st10 at hw'
    rw [hb]
    simp [evFn, evSs, evS, evE, evEs, evBoV, evBoT, ofV, ofC, evX, evSeq, evSkip, evVar, evBin, evUn, evB, evT, evChain, evAnd, evOr, evNot, evAndT, evOrT, evNotT, evIf, evNil, evCons, evTup, evLst, evMl, evCall, evBlt, evBltM, evIs, evMth, evSl, evP, evNoP, evSrc, evSet, evPar, asgT_name, asgT_tup, asgTs_nil, asgTs_cons, evAug, evAugS, evSetIx, evYes, evD0, binG, cmpG, augG, Bl.f, Mt.f, Mt.ty, Cst.d, no1, k1, k5, hw', e9, k4]
  unfold f10
  refine isoF_ok (by simp [noObjs, noObj_enc]) body ?_
  have l1 : lkN (mm A (cnt t [])) 4 1 = some (fz (cnt t [])) := by
    simp only [lkN, mm, List.getElem?_cons_succ, List.getElem?_cons_zero, dc]
    rw [frzs_noObj _ _ (noObjs_ints _)]
    rfl
  simp only [frz, frzs]
  rw [frzs_noObj _ _ (noObjs_pairs E), l1]
  rfl

theorem f11_ok {a b : Int} {s E O : Tab} (g : Cfg a b s E O) (μ : Mem) : f11 [encS s] μ = .ok (encS E) μ := by
  obtain ⟨t, e, _, _⟩ := f10_ok g []
  unfold f11
  refine isoF_ok (μ' := []) (by simp [noObjs, noObj_enc]) ?_ (frz_noObj _ _ (noObj_enc E))
  simp [f11, b11, evFn, evSs, evS, evE, evEs, evBoV, evBoT, ofV, ofC, evX, evSeq, evSkip, evVar, evBin, evUn, evB, evT, evChain, evAnd, evOr, evNot, evAndT, evOrT, evNotT, evIf, evNil, evCons, evTup, evLst, evMl, evCall, evBlt, evBltM, evIs, evMth, evSl, evP, evNoP, evSrc, evSet, evPar, asgT_name, asgT_tup, asgTs_nil, asgTs_cons, evAug, evAugS, evSetIx, evYes, evD0, binG, cmpG, augG, Bl.f, Mt.f, Mt.ty, Cst.d, no1, look, f6_ok g.ok, e, ixD, dctOf, idxD, M.seqL, atI, ixN]
theorem cnt_len (t : List Int) : (cnt t []).length ≤ t.length := by
  have := nodup_len (l := List.map (fun p : Int × Int => p.1) (cnt t [])) (m := t) (cnt_kn kn_nil) fun k hk => by
    rcases cnt_keys k hk with z | z
    · simp at z
    · exact z
  simpa using this
theorem ix_fz {O : Tab} {k v : Int} {μ : Mem} (e : getT O k = some v) : ixD (fz O) (.int k) μ = some (.int v) := by
  simp [ixD, dctOf, fz, dgetD_tab, keyOk, keyK, e]
theorem sorted_fz {O : Tab} {μ : Mem} (hl : O.length < 64) : sortedD [fz O] μ = some (.lst ((sortI (O.map (·.1))).map .int)) := by
  simp [sortedD, M.seqL, dctOf, fz, ints_tab, hl]
theorem cnt_few {a b : Int} {s E O : Tab} (g : Cfg a b s E O) {t : List Int} (h : O = allT (cnt t [])) : (cnt t []).length < 64 := by
  obtain ⟨S, h1, h2, h3, h4, h5, h6⟩ := g.way
  have e1 : (O.map (·.1)).length = (cnt t []).length := by rw [h]; simp [allT, keys_len]
  have e2 : (O.map (·.1)).length = (cnt S []).length := by rw [h6]; simp [allT, keys_len]
  rw [← e1, e2]
  refine few_keys (a := a) (b := b) (cnt_kn kn_nil) g.wide fun k hk => ?_
  rcases cnt_keys k hk with z | z
  · simp at z
  · have := h4 k z; omega
theorem f12_ok {a b : Int} {s E O : Tab} (g : Cfg a b s E O) (μ : Mem) : f12 [encS s] μ = .ok (encS O) μ := by
  obtain ⟨t, e, ho, ht⟩ := f10_ok g []
  have hl := cnt_few g ho
  unfold f12
  refine isoF_ok (μ' := []) (by simp [noObjs, noObj_enc]) ?_ (frz_noObj _ _ (noObj_enc O))
  have q := allT_ok (μ := []) (d := fz (cnt t [])) (O := cnt t []) (δ := [some (encS s), some (fz (cnt t [])), none]) (i := 1) (j := 2) (src := evBlt sortedD (evCons (evVar 1) evNil)) rfl (by decide) (by simp) (by simp [evSs, evS, evE, evEs, evBoV, evBoT, ofV, ofC, evX, evSeq, evSkip, evVar, evBin, evUn, evB, evT, evChain, evAnd, evOr, evNot, evAndT, evOrT, evNotT, evIf, evNil, evCons, evTup, evLst, evMl, evCall, evBlt, evBltM, evIs, evMth, evSl, evP, evNoP, evSrc, evSet, evPar, asgT_name, asgT_tup, asgTs_nil, asgTs_cons, evAug, evAugS, evSetIx, evYes, evD0, binG, cmpG, augG, Bl.f, Mt.f, Mt.ty, Cst.d, no1, sorted_fz hl]) (fun k hk => ix_fz (getT_some (cnt_kn kn_nil) hk)) (by omega)
  have e5 : ∀ x y : D, ixD (.tup [x, y]) (.int 1) [] = some y := fun x y => by simp [ixD, dctOf, idxD, M.seqL, atI, ixN]
  rw [← ho] at q
  simp [f12, b12, evFn, evSs, evS, evE, evEs, evBoV, evBoT, ofV, ofC, evX, evSeq, evSkip, evVar, evBin, evUn, evB, evT, evChain, evAnd, evOr, evNot, evAndT, evOrT, evNotT, evIf, evNil, evCons, evTup, evLst, evMl, evCall, evBlt, evBltM, evIs, evMth, evSl, evP, evNoP, evSrc, evSet, evPar, asgT_name, asgT_tup, asgTs_nil, asgTs_cons, evAug, evAugS, evSetIx, evYes, evD0, binG, cmpG, augG, Bl.f, Mt.f, Mt.ty, Cst.d, no1, look, f6_ok g.ok, e, e5, q, tupleD, M.seqL]
/-! ### the law's own -/
def cell1 (l : List Int) : Cell := .lst (l.map .int)
theorem set_last {μ : Mem} {c d : Cell} : (μ ++ [c]).set μ.length d = μ ++ [d] := by simp
theorem get_last {μ : Mem} {c : Cell} : (μ ++ [c])[μ.length]? = some c := by simp
theorem gOk_one {μ : Mem} {r : Nat} {ds : List D} (h : μ[r]? = some (.lst ds)) : gOk μ [(r, ds)] = true := by simp [gOk, h, beqDs_refl]
def body16 : List S := [.sub (.var 1) (.var 2) (.bin .Add (.mth .get (.var 1) [.var 2, .cst (.int (0))]) (.cst (.int (1))))]
theorem for16 {Φ : Nat → FS} {μ : Mem} {r : Nat} {l : List Int} (h : μ[r]? = some (cell1 l)) (hl : l.length ≤ 1000) :
    ∃ x, evForS (evSrc (evVar 0)) (.name 2) (evSs Φ body16) [some (.obj r), some (.obj μ.length), none] (μ ++ [dc []]) = .ok (.nx [some (.obj r), some (.obj μ.length), x]) (μ ++ [dc (cnt l [])]) := by
  have lt : r < μ.length := (List.getElem?_eq_some_iff.mp h).1
  have hr : ∀ c, (μ ++ [c])[r]? = some (cell1 l) := fun c => by rw [List.getElem?_append_left lt]; exact h
  refine forS_inv (gd := [(r, l.map D.int)]) (μ1 := μ ++ [dc []]) l D.int (fun o => ∃ x, o = .ok (.nx [some (.obj r), some (.obj μ.length), x]) (μ ++ [dc (cnt l [])])) (fun rest δ μ' => ∃ done x, done ++ rest = l ∧ δ = [some (.obj r), some (.obj μ.length), x] ∧ μ' = μ ++ [dc (cnt done [])])
    (by simp [evSs, evS, evE, evEs, evBoV, evBoT, ofV, ofC, evX, evSeq, evSkip, evVar, evBin, evUn, evB, evT, evChain, evAnd, evOr, evNot, evAndT, evOrT, evNotT, evIf, evNil, evCons, evTup, evLst, evMl, evCall, evBlt, evBltM, evIs, evMth, evSl, evP, evNoP, evSrc, evSet, evPar, asgT_name, asgT_tup, asgTs_nil, asgTs_cons, evAug, evAugS, evSetIx, evYes, evD0, binG, cmpG, augG, Bl.f, Mt.f, Mt.ty, Cst.d, no1, srcOf, hr, cell1]) ⟨[], none, rfl, rfl, rfl⟩ ?_ ?_
  · rintro y rest δ μ' ⟨done, x, hd, rfl, rfl⟩
    refine ⟨gOk_one (hr _), _, rfl, .inl ⟨_, _, .inl ?_, done ++ [y], some (.int y), by simpa using hd, rfl, rfl⟩⟩
    have dl : done.length ≤ 1000 := by have := congrArg List.length hd; simp at this; omega
    have cl := cnt_len done
    have e1 := get_tab (k := y) (z := 0) (get_last (μ := μ) (c := dc (cnt done [])))
    have e2 := set_tab (k := y) (v := (getT (cnt done []) y).getD 0 + 1) (get_last (μ := μ) (c := dc (cnt done []))) (by omega)
    have i1 := isDct (get_last (μ := μ) (c := dc (cnt done [])))
    rw [set_last] at e2
    have e3 : putT (cnt done []) y ((getT (cnt done []) y).getD 0 + 1) = cnt (done ++ [y]) [] := by rw [cnt_snoc]; rfl
    rw [e3] at e2
    simp [body16, evSs, evS, evE, evEs, evBoV, evBoT, ofV, ofC, evX, evSeq, evSkip, evVar, evBin, evUn, evB, evT, evChain, evAnd, evOr, evNot, evAndT, evOrT, evNotT, evIf, evNil, evCons, evTup, evLst, evMl, evCall, evBlt, evBltM, evIs, evMth, evSl, evP, evNoP, evSrc, evSet, evPar, asgT_name, asgT_tup, asgTs_nil, asgTs_cons, evAug, evAugS, evSetIx, evYes, evD0, binG, cmpG, augG, Bl.f, Mt.f, Mt.ty, Cst.d, no1, i1, e1, addD, e2]
  · rintro δ μ' ⟨done, x, hd, rfl, rfl⟩
    refine ⟨gOk_one (hr _), x, ?_⟩
    rw [← hd, List.append_nil]
theorem f16_ok {μ : Mem} {r : Nat} {l : List Int} (h : μ[r]? = some (cell1 l)) (hl : l.length ≤ 1000) (hw : (cnt l []).length < 64) : f16 [.obj r] μ = .ok (encS (allT (cnt l []))) (μ ++ [dc (cnt l [])]) := by
  obtain ⟨x, hf⟩ := for16 (Φ := look [f0, f1, f2, f3, f4, f5, f6, f7, f8, f9, f10, f11, f12, f13, f14, f15]) h hl
  have c := get_last (μ := μ) (c := dc (cnt l []))
  have q := allT_ok (μ := μ ++ [dc (cnt l [])]) (d := .obj μ.length) (O := cnt l []) (δ := [some (.obj r), some (.obj μ.length), x]) (i := 1) (j := 2) (src := evBlt sortedD (evCons (evVar 1) evNil)) rfl (by decide) (by simp) (by simp [evSs, evS, evE, evEs, evBoV, evBoT, ofV, ofC, evX, evSeq, evSkip, evVar, evBin, evUn, evB, evT, evChain, evAnd, evOr, evNot, evAndT, evOrT, evNotT, evIf, evNil, evCons, evTup, evLst, evMl, evCall, evBlt, evBltM, evIs, evMth, evSl, evP, evNoP, evSrc, evSet, evPar, asgT_name, asgT_tup, asgTs_nil, asgTs_cons, evAug, evAugS, evSetIx, evYes, evD0, binG, cmpG, augG, Bl.f, Mt.f, Mt.ty, Cst.d, no1, sorted_tab c hw]) (fun k hk => ix_tab c (getT_some (cnt_kn kn_nil) hk)) (by omega)
  have hb : b16 = [.set 1 (.d0 false), .each (.name 2) (.var 0) body16, .ret (.blt .tuple [.lc false [2] (.tup [.var 2, .ix (.var 1) (.var 2)]) (.name 2) (.blt .sorted [.var 1]) (.absent)])] := rfl
  have d0 : dc [] = Cell.dct false [] [] := rfl
  rw [d0] at hf
  unfold f16
  rw [hb]
  simp [evFn, evSs, evS, evE, evEs, evBoV, evBoT, ofV, ofC, evX, evSeq, evSkip, evVar, evBin, evUn, evB, evT, evChain, evAnd, evOr, evNot, evAndT, evOrT, evNotT, evIf, evNil, evCons, evTup, evLst, evMl, evCall, evBlt, evBltM, evIs, evMth, evSl, evP, evNoP, evSrc, evSet, evPar, asgT_name, asgT_tup, asgTs_nil, asgTs_cons, evAug, evAugS, evSetIx, evYes, evD0, binG, cmpG, augG, Bl.f, Mt.f, Mt.ty, Cst.d, no1, hf, q, tupleD, M.seqL]

theorem told_ok {μ : Mem} {d : D} {A : Tab} {δ : Sg} {i j : Nat} {src : Sg → Mem → Out D} (hd : δ[i]? = some (some d)) (hij : i ≠ j) (hj : j < δ.length) (h1 : src δ μ = .ok (.lst ((sortI (A.map (·.1))).map .int)) μ) (h2 : ∀ k ∈ A.map (·.1), ixD d (.int k) μ = some (.int (cf A k))) (hl : A.length ≤ 1000) :
    evLc false (evSrc src) (.name j) (evB (evBin (cmpI fun i j => decide (j < i)) (evBin ixD (evVar i) (evVar j)) fun _ μ => .ok (.int 0) μ)) (evTup (evCons (evVar j) (evCons (evBin ixD (evVar i) (evVar j)) evNil))) [j] δ μ = .ok (.lst ((told A).map M.pairD)) μ := by
  have v1 : ∀ c : D, evVar j ((wipeD δ [j]).set j (some c)) μ = .ok c μ := fun c => by
    unfold evVar
    rw [List.getElem?_set_self (by simpa [wipeD] using hj)]
  have v2 : ∀ c : D, evVar i ((wipeD δ [j]).set j (some c)) μ = .ok d μ := fun c => by
    unfold evVar
    rw [List.getElem?_set_ne (Ne.symm hij)]
    simp only [wipeD]
    rw [List.getElem?_set_ne (Ne.symm hij), hd]
  have q := evLc_val (gd := []) (src := evSrc src) (t := .name j) (ft := evB (evBin (cmpI fun i j => decide (j < i)) (evBin ixD (evVar i) (evVar j)) fun _ μ => .ok (.int 0) μ)) (fe := evTup (evCons (evVar j) (evCons (evBin ixD (evVar i) (evVar j)) evNil))) (own := [j]) (δ := δ) (μ := μ) (μ1 := μ) (sortI (A.map (·.1))) D.int (fun k => decide (cf A k > 0)) (fun k => .tup [.int k, .int (cf A k)])
    (by simp [evSrc, h1, srcOf]) rfl (by rw [keys_len]; omega) fun k hm => ⟨_, rfl, by simp [evB, evBin, v1, v2, h2 k (sorted_mem hm), cmpI], fun _ => by simp [evTup, evCons, evBin, evNil, v1, v2, h2 k (sorted_mem hm)]⟩
  rw [q]
  simp [told, M.pairD]
theorem part_len {A : Tab} {x : Int} : (partT A x).length ≤ A.length + 3 := by
  unfold partT B.bump
  have := putT_len (A := A) (k := x) (v := (getT A x).getD 0 - 2)
  refine Nat.le_trans putT_len (Nat.succ_le_succ (Nat.le_trans putT_len (Nat.succ_le_succ this)))
theorem f17_ok {s : Tab} {x : Int} (r : Rep s) (hx : 2 ≤ cf s x) (hl : s.length ≤ 1000) (hp : (partT s x).length < 64) (μ : Mem) : f17 [encS s, .int x] μ = .ok (encS (told (partT s x))) μ := by
  have hk : KN s := ss_nodup r.so
  unfold f17
  refine isoF_ok (μ' := [dc (partT s x)]) (by simp [noObjs, noObj, noObjs_pairs]) ?_ (frz_noObj _ _ (noObj_enc _))
  have k1 := merge_tab s [] hk
  simp only [List.map_nil, List.nil_append] at k1
  have g0 := get_tab (μ := [dc s]) (l := 0) (A := s) (k := x) (z := 0) rfl
  rw [getT_cf hk] at g0
  have n2 : ¬ cf s x < 2 := by omega
  have i0 := isDct (μ := [dc s]) (l := 0) (A := s) rfl
  have s0 := set_tab (μ := [dc s]) (l := 0) (A := s) (k := x) (v := cf s x + -2) rfl (by omega)
  have l1 := putT_len (A := s) (k := x) (v := cf s x + -2)
  have i1 := isDct (μ := [dc (putT s x (cf s x + -2))]) (l := 0) rfl
  have g1 := get_tab (μ := [dc (putT s x (cf s x + -2))]) (l := 0) (k := x - 1) (z := 0) rfl
  have s1 := set_tab (μ := [dc (putT s x (cf s x + -2))]) (l := 0) (k := x - 1) (v := (getT (putT s x (cf s x + -2)) (x - 1)).getD 0 + 1) rfl (by omega)
  have b1 : ∀ A y, putT A y ((getT A y).getD 0 + 1) = B.bump A y := fun _ _ => rfl
  rw [b1] at s1
  have l2 : (B.bump (putT s x (cf s x + -2)) (x - 1)).length ≤ s.length + 2 := Nat.le_trans putT_len (Nat.succ_le_succ l1)
  have i2 := isDct (μ := [dc (B.bump (putT s x (cf s x + -2)) (x - 1))]) (l := 0) rfl
  have g2 := get_tab (μ := [dc (B.bump (putT s x (cf s x + -2)) (x - 1))]) (l := 0) (k := x + 1) (z := 0) rfl
  have s2 := set_tab (μ := [dc (B.bump (putT s x (cf s x + -2)) (x - 1))]) (l := 0) (k := x + 1) (v := (getT (B.bump (putT s x (cf s x + -2)) (x - 1)) (x + 1)).getD 0 + 1) rfl (by omega)
  rw [b1] at s2
  have e6 : partT s x = B.bump (B.bump (putT s x (cf s x + -2)) (x - 1)) (x + 1) := by unfold partT; rw [getT_cf hk, Int.sub_eq_add_neg]
  rw [← e6] at s2
  have lp := part_len (A := s) (x := x)
  have q := told_ok (μ := [dc (partT s x)]) (d := .obj 0) (A := partT s x) (i := 2) (j := 3) (δ := [some (encS s), some (.int x), some (.obj 0), some (.int (x + 1)), some (.int 1)]) (src := evBlt sortedD (evCons (evVar 2) evNil)) rfl (by decide) (by simp) (by simp [evSs, evS, evE, evEs, evBoV, evBoT, ofV, ofC, evX, evSeq, evSkip, evVar, evBin, evUn, evB, evT, evChain, evAnd, evOr, evNot, evAndT, evOrT, evNotT, evIf, evNil, evCons, evTup, evLst, evMl, evCall, evBlt, evBltM, evIs, evMth, evSl, evP, evNoP, evSrc, evSet, evPar, asgT_name, asgT_tup, asgTs_nil, asgTs_cons, evAug, evAugS, evSetIx, evYes, evD0, binG, cmpG, augG, Bl.f, Mt.f, Mt.ty, Cst.d, no1, sorted_tab (μ := [dc (partT s x)]) (l := 0) (A := partT s x) rfl (by omega)]) (fun k hkk => ix_tab rfl (getT_some (part_kn hk) hkk)) (by omega)
  have z0 : Cell.dct false (List.map (fun p => D.int p.1) s) (List.map (fun p => D.int p.2) s) = dc s := rfl
  simp only [List.set_cons_zero] at s0 s1 s2
  simp [b17, evFn, evSs, evS, evE, evEs, evBoV, evBoT, ofV, ofC, evX, evSeq, evSkip, evVar, evBin, evUn, evB, evT, evChain, evAnd, evOr, evNot, evAndT, evOrT, evNotT, evIf, evNil, evCons, evTup, evLst, evMl, evCall, evBlt, evBltM, evIs, evMth, evSl, evP, evNoP, evSrc, evSet, evPar, asgT_name, asgT_tup, asgTs_nil, asgTs_cons, evAug, evAugS, evSetIx, evYes, evD0, binG, cmpG, augG, Bl.f, Mt.f, Mt.ty, Cst.d, no1, listD, dictP, M.seqL, k1, z0, i0, g0, ltD, n2, evForS, evFor, srcOf, gOk, negD, addD, s0, subD, i1, g1, s1, i2, g2, s2, q, tupleD]

theorem take14 : Take f14 := fun h h1 h2 => take_kp h h1 h2
theorem f15_ok {μ : Mem} {l : Nat} {ds : List D} (h : Bag μ l) (hd : ds ≠ []) (hl : ds.length < 1073741824) : ∃ d μ', f15 [.obj l, .lst ds] μ = .ok d μ' ∧ d ∈ ds ∧ Bag μ' l ∧ Kp μ μ' l :=
  some_ok (Φ := look [f0, f1, f2, f3, f4, f5, f6, f7, f8, f9, f10, f11, f12, f13, f14]) (t := 14) take14 h hd hl
def fullS (u : Tab) : List Int := (u.filter fun p => decide (p.2 > 1)).map (·.1)
theorem fullS_of {u : Tab} (r : Rep u) {x : Int} (h : x ∈ fullS u) : 2 ≤ cf u x := by
  obtain ⟨p, hp, rfl⟩ := List.mem_map.mp h
  have := List.mem_filter.mp hp
  rw [cf_in (ss_nodup r.so) p this.1]
  have := of_decide_eq_true this.2
  omega
theorem fullS_nil {u : Tab} (r : Rep u) (h : fullS u = []) : Stable (cf u) := by
  intro x
  by_cases m : x ∈ u.map (·.1)
  · obtain ⟨p, hp, rfl⟩ := List.mem_map.mp m
    rw [cf_in (ss_nodup r.so) p hp]
    have : ¬ p.2 > 1 := fun z => by
      have : p.1 ∈ fullS u := List.mem_map.mpr ⟨p, List.mem_filter.mpr ⟨hp, decide_eq_true z⟩, rfl⟩
      rw [h] at this; cases this
    omega
  · rw [cf_out fun q hq z => m (List.mem_map.mpr ⟨q, hq, z⟩)]; omega
theorem told_keys {A : Tab} : ∀ k ∈ (told A).map (·.1), k ∈ A.map (·.1) := fun k hk => by
  obtain ⟨p, hp, rfl⟩ := List.mem_map.mp hk
  obtain ⟨y, hy, rfl⟩ := List.mem_map.mp hp
  exact sorted_mem (List.mem_filter.mp hy).1
abbrev F18 : Nat → FS := look [f0, f1, f2, f3, f4, f5, f6, f7, f8, f9, f10, f11, f12, f13, f14, f15, f16, f17]
def body18 : List S := [
    .set 4 (.lc false [5, 6] (.var 5) (.tup [.name 5, .name 6]) (.var 1) (.cmp .Gt (.var 6) (.cst (.int (1))))),
    .ite (.cmp .Eq (.var 4) (.lst false [])) [
      .ret (.tup [.var 1, .call 16 [.var 2], .var 2])] [],
    .expr (.mth .append (.var 2) [.call 15 [.var 0, .var 4]]),
    .set 1 (.call 17 [.var 1, .ix (.var 2) (.neg (.cst (.int (1))))])]
/-- the bag is good, all else is as it was -/
structure Kb (μ μ' : Mem) (bl : Nat) : Prop where
  bag : Bag μ' bl
  len : μ.length ≤ μ'.length
  old : ∀ k, k < μ.length → k ≠ bl → μ'[k]? = μ[k]?
theorem Kb.trans {μ μ1 μ2 : Mem} {bl : Nat} (a : Kb μ μ1 bl) (b : Kb μ1 μ2 bl) : Kb μ μ2 bl :=
  ⟨b.bag, Nat.le_trans a.len b.len, fun k h1 h2 => (b.old k (Nat.lt_of_lt_of_le h1 a.len) h2).trans (a.old k h1 h2)⟩
theorem Kb.of {μ μ' : Mem} {bl : Nat} (h : Bag μ' bl) (k : Kp μ μ' bl) : Kb μ μ' bl := ⟨h, Nat.le_of_eq k.len.symm, fun i _ h2 => k.ne i h2⟩
theorem bag_lt {μ : Mem} {l : Nat} (h : Bag μ l) : l < μ.length := by
  obtain ⟨a, b, c, cs, h1, _⟩ := h
  exact (List.getElem?_eq_some_iff.mp h1).1
structure In18 (a b : Int) (s : Tab) (μ0 : Mem) (bl : Nat) (t : List Int) (u : Tab) (μ : Mem) : Prop where
  al : Along a b s t u
  rep : Rep u
  bag : Bag μ bl
  len : μ.length = μ0.length + 1
  cell : μ[μ0.length]? = some (cell1 t)
  old : ∀ k, k < μ0.length → k ≠ bl → μ[k]? = μ0[k]?
theorem eq_nil2 (l : List Int) (μ : Mem) : eqD (.lst (l.map .int)) (.lst []) μ = some (.bl (decide (l = []))) := eq_nil_ok l μ
theorem full18 {s u : Tab} {bl r : Nat} {x3 x4 : Option D} {μ : Mem} (hl : u.length ≤ 1000) : evLc false (evSrc (evVar 1)) (.tup [.name 5, .name 6]) (evB (evBin (cmpI fun i j => decide (j < i)) (evVar 6) fun _ μ => .ok (.int 1) μ)) (evVar 5) [5, 6] [some (.obj bl), some (encS u), some (.obj r), x3, x4, none, none] μ = .ok (.lst ((fullS u).map .int)) μ := by
  have q := evLc_val (gd := []) (src := evSrc (evVar 1)) (t := .tup [.name 5, .name 6]) (ft := evB (evBin (cmpI fun i j => decide (j < i)) (evVar 6) fun _ μ => .ok (.int 1) μ)) (fe := evVar 5) (own := [5, 6]) (δ := [some (.obj bl), some (encS u), some (.obj r), x3, x4, none, none]) (μ := μ) (μ1 := μ) u M.pairD (fun p => decide (p.2 > 1)) (fun p => .int p.1)
    (by simp [evSs, evS, evE, evEs, evBoV, evBoT, ofV, ofC, evX, evSeq, evSkip, evVar, evBin, evUn, evB, evT, evChain, evAnd, evOr, evNot, evAndT, evOrT, evNotT, evIf, evNil, evCons, evTup, evLst, evMl, evCall, evBlt, evBltM, evIs, evMth, evSl, evP, evNoP, evSrc, evSet, evPar, asgT_name, asgT_tup, asgTs_nil, asgTs_cons, evAug, evAugS, evSetIx, evYes, evD0, binG, cmpG, augG, Bl.f, Mt.f, Mt.ty, Cst.d, no1, srcOf]) rfl (by omega) fun p hp => ⟨_, rfl, by simp [evSs, evS, evE, evEs, evBoV, evBoT, ofV, ofC, evX, evSeq, evSkip, evVar, evBin, evUn, evB, evT, evChain, evAnd, evOr, evNot, evAndT, evOrT, evNotT, evIf, evNil, evCons, evTup, evLst, evMl, evCall, evBlt, evBltM, evIs, evMth, evSl, evP, evNoP, evSrc, evSet, evPar, asgT_name, asgT_tup, asgTs_nil, asgTs_cons, evAug, evAugS, evSetIx, evYes, evD0, binG, cmpG, augG, Bl.f, Mt.f, Mt.ty, Cst.d, no1, wipeD, cmpI], fun _ => by simp [evSs, evS, evE, evEs, evBoV, evBoT, ofV, ofC, evX, evSeq, evSkip, evVar, evBin, evUn, evB, evT, evChain, evAnd, evOr, evNot, evAndT, evOrT, evNotT, evIf, evNil, evCons, evTup, evLst, evMl, evCall, evBlt, evBltM, evIs, evMth, evSl, evP, evNoP, evSrc, evSet, evPar, asgT_name, asgT_tup, asgTs_nil, asgTs_cons, evAug, evAugS, evSetIx, evYes, evD0, binG, cmpG, augG, Bl.f, Mt.f, Mt.ty, Cst.d, no1, wipeD]⟩
  rw [q]
  simp [fullS]

theorem cell_len {t : List Int} {x : Int} {μ : Mem} {r : Nat} (h : μ[r]? = some (cell1 t)) (hl : t.length ≤ 1000) : mAppend (.obj r) [.int x] μ = some (.non, μ.set r (cell1 (t ++ [x]))) := by
  have : t.length < 16777216 := by omega
  simp [mAppend, h, cell1, this]
theorem last_ix {t : List Int} {x : Int} {μ : Mem} {r : Nat} (h : μ[r]? = some (cell1 (t ++ [x]))) : ixD (.obj r) (.int (-1)) μ = some (.int x) := by
  simp only [ixD, dctOf, idxD, M.seqL, h, cell1, atI, ixN, List.length_map]
  have e : ¬ (0 : Int) ≤ -1 := by omega
  have e2 : (-1 + ((t ++ [x]).length : Int)).toNat = t.length := by simp; omega
  have e3 : -((t ++ [x]).length : Int) ≤ -1 := by simp; omega
  rw [if_neg e, if_pos e3]
  simp only [Option.bind_some, e2]
  simp
theorem step18 {a b : Int} {s E O u : Tab} {μ0 μ : Mem} {bl : Nat} {t : List Int} {x3 x4 : Option D} (g : Cfg a b s E O) (hb0 : bl < μ0.length) (h : In18 a b s μ0 bl t u μ) (hn : fullS u ≠ []) :
    ∃ x μ2, evSs F18 body18 [some (.obj bl), some (encS u), some (.obj μ0.length), x3, x4, none, none] μ = .ok (.nx [some (.obj bl), some (encS (told (partT u x))), some (.obj μ0.length), x3, some (.lst ((fullS u).map .int)), none, none]) μ2 ∧
      In18 a b s μ0 bl (t ++ [x]) (told (partT u x)) μ2 ∧ t.length + 1 ≤ 1000 := by
  have ul : u.length < 64 := few_keys h.al.kn g.wide h.al.ins
  have lfu : (fullS u).length ≤ u.length := by unfold fullS; rw [List.length_map]; exact List.length_filter_le ..
  have ul' : u.length < 1000 := by omega
  obtain ⟨d, μ1, e1, e2, e3, e4⟩ := f15_ok (μ := μ) (l := bl) (ds := (fullS u).map D.int) h.bag (by simpa using hn) (by simp; omega)
  obtain ⟨x, hx, rfl⟩ := List.mem_map.mp e2
  have h2 := fullS_of h.rep hx
  obtain ⟨al, k1, k2, k3⟩ := h.al.next g h2
  have kn := part_kn (x := x) h.al.kn
  have nn : ∀ y, 0 ≤ cf (partT u x) y := fun y => by
    rw [cf_part h.al.kn]
    have := cf_nonneg h.rep y
    simp only [fire]
    split
    · rename_i e; subst e; split <;> split <;> omega
    · split <;> split <;> omega
  have hr : μ1[μ0.length]? = some (cell1 t) := by rw [e4.ne _ (by omega)]; exact h.cell
  have lr : μ0.length < μ1.length := (List.getElem?_eq_some_iff.mp hr).1
  have a1 := cell_len (x := x) hr (by omega)
  have a2 := last_ix (x := x) (hset lr (cell1 (t ++ [x])))
  have a3 := f17_ok h.rep h2 (by omega) (few_keys kn g.wide al.ins) (μ1.set μ0.length (cell1 (t ++ [x])))
  have im : isMT .lst μ (.obj μ0.length) = true := by simp [isMT, M.seqL, h.cell, cell1]
  have f4 := full18 (s := s) (u := u) (bl := bl) (r := μ0.length) (x3 := x3) (x4 := x4) (μ := μ) (by omega)
  refine ⟨x, μ1.set μ0.length (cell1 (t ++ [x])), ?_, ⟨⟨ss_nodup (told_rep kn).so, by rw [cf_told kn nn]; exact al.eq, al.leg, fun k hk => al.ins k (told_keys k hk)⟩, told_rep kn, ?_, ?_, hset lr _, ?_⟩, k3⟩
  · have e9 : F18 15 = f15 := rfl
    have e10 : F18 17 = f17 := rfl
    simp [body18, evSs, evS, evE, evEs, evBoV, evBoT, ofV, ofC, evX, evSeq, evSkip, evVar, evBin, evUn, evB, evT, evChain, evAnd, evOr, evNot, evAndT, evOrT, evNotT, evIf, evNil, evCons, evTup, evLst, evMl, evCall, evBlt, evBltM, evIs, evMth, evSl, evP, evNoP, evSrc, evSet, evPar, asgT_name, asgT_tup, asgTs_nil, asgTs_cons, evAug, evAugS, evSetIx, evYes, evD0, binG, cmpG, augG, Bl.f, Mt.f, Mt.ty, Cst.d, no1, f4, eq_nil_ok, hn, im, e9, e1, a1, negD, a2, e10, a3]
  · obtain ⟨a', b', c', cs, q1, q2⟩ := e3
    exact ⟨a', b', c', cs, by rw [List.getElem?_set_ne (by omega)]; exact q1, q2⟩
  · rw [List.length_set, e4.len, h.len]
  · intro k hk hne
    rw [List.getElem?_set_ne (by omega), e4.ne k hne, h.old k hk hne]
theorem rngI_map (lo : Int) (n : Nat) : rngI lo n = (rangeI lo n).map D.int := by
  refine List.ext_getElem? fun i => ?_
  rw [rngI_get]
  simp only [rangeI, List.map_map, List.getElem?_map]
  by_cases h : i < n
  · rw [if_pos h, List.getElem?_range h]; rfl
  · rw [if_neg h, List.getElem?_eq_none (by simpa using h)]; rfl
theorem f18_ok {a b : Int} {s E O : Tab} {μ : Mem} {bl : Nat} (g : Cfg a b s E O) (h : Bag μ bl) : ∃ rr μ', f18 [.obj bl, encS s] μ = .ok (.tup [encS E, encS O, rr]) μ' ∧ Kb μ μ' bl := by
  have hbl := bag_lt h
  have hfor : ∃ rr μ', evForS (evR1 (evCons (fun _ μ => .ok (.int 2000) μ) evNil)) (.name 3) (evSs F18 body18) [some (.obj bl), some (encS s), some (.obj μ.length), none, none, none, none] (μ ++ [cell1 []]) = .ok (.rt (.tup [encS E, encS O, rr])) μ' ∧ Kb μ μ' bl := by
    refine forS_inv (gd := []) (μ1 := μ ++ [cell1 []]) (rangeI 0 2000) D.int (fun o => ∃ rr μ', o = .ok (.rt (.tup [encS E, encS O, rr])) μ' ∧ Kb μ μ' bl)
      (fun rest δ μ' => ∃ t u x3 x4, In18 a b s μ bl t u μ' ∧ δ = [some (.obj bl), some (encS u), some (.obj μ.length), x3, x4, none, none] ∧ rest.length + t.length = 2000 ∧ t.length ≤ 1000) ?_ ?_ ?_ ?_
    · simp [evSs, evS, evE, evEs, evBoV, evBoT, ofV, ofC, evX, evSeq, evSkip, evVar, evBin, evUn, evB, evT, evChain, evAnd, evOr, evNot, evAndT, evOrT, evNotT, evIf, evNil, evCons, evTup, evLst, evMl, evCall, evBlt, evBltM, evIs, evMth, evSl, evP, evNoP, evSrc, evSet, evPar, asgT_name, asgT_tup, asgTs_nil, asgTs_cons, evAug, evAugS, evSetIx, evYes, evD0, binG, cmpG, augG, Bl.f, Mt.f, Mt.ty, Cst.d, no1, evR1, rOk, rngI_map]
    · refine ⟨[], s, none, none, ⟨Along.start g, rep_of g.ok, ?_, by simp, by simp, fun k hk _ => by rw [List.getElem?_append_left hk]⟩, rfl, by simp [rangeI], by simp⟩
      obtain ⟨a', b', c', cs, q1, q2⟩ := h
      exact ⟨a', b', c', cs, by rw [List.getElem?_append_left hbl]; exact q1, q2⟩
    · rintro y rest δ μ' ⟨t, u, x3, x4, hin, rfl, hlen, htl⟩
      refine ⟨rfl, _, rfl, ?_⟩
      by_cases hn : fullS u = []
      · obtain ⟨e1, e2⟩ := hin.al.done g (fullS_nil hin.rep hn)
        have eu : u = E := rep_uniq hin.rep g.rep e1
        have hc := cnt_few g e2
        have f16' := f16_ok hin.cell htl hc
        have ul := few_keys hin.al.kn g.wide hin.al.ins
        have f4 := full18 (s := s) (u := u) (bl := bl) (r := μ.length) (x3 := some (.int y)) (x4 := x4) (μ := μ') (by omega)
        have e9 : F18 16 = f16 := rfl
        refine .inr (.inr (.inl ⟨.tup [encS E, encS O, .obj μ.length], μ' ++ [dc (cnt t [])], ?_, _, _, rfl, ⟨?_, ?_, ?_⟩⟩))
        · rw [← e2] at f16'
          rw [eu] at f4 hn ⊢
          have e0 := eq_nil_ok [] μ'
          rw [List.map_nil] at e0
          simp [body18, e0, evSs, evS, evE, evEs, evBoV, evBoT, ofV, ofC, evX, evSeq, evSkip, evVar, evBin, evUn, evB, evT, evChain, evAnd, evOr, evNot, evAndT, evOrT, evNotT, evIf, evNil, evCons, evTup, evLst, evMl, evCall, evBlt, evBltM, evIs, evMth, evSl, evP, evNoP, evSrc, evSet, evPar, asgT_name, asgT_tup, asgTs_nil, asgTs_cons, evAug, evAugS, evSetIx, evYes, evD0, binG, cmpG, augG, Bl.f, Mt.f, Mt.ty, Cst.d, no1, f4, eq_nil_ok, hn, e9, f16']
        · obtain ⟨a', b', c', cs, q1, q2⟩ := hin.bag
          exact ⟨a', b', c', cs, by rw [List.getElem?_append_left (by have := hin.len; omega)]; exact q1, q2⟩
        · have := hin.len; simp; omega
        · intro k hk hne
          rw [List.getElem?_append_left (by have := hin.len; omega)]
          exact hin.old k hk hne
      · obtain ⟨x, μ2, k1, k2, k3⟩ := step18 (x3 := some (.int y)) (x4 := x4) g hbl hin hn
        exact .inl ⟨_, μ2, .inl k1, t ++ [x], _, _, _, k2, rfl, by simp at hlen ⊢; omega, by simp; omega⟩
    · rintro δ μ' ⟨t, u, x3, x4, hin, rfl, hlen, htl⟩
      simp at hlen; omega
  obtain ⟨rr, μ', e, k⟩ := hfor
  refine ⟨rr, μ', ?_, k⟩
  have hb : b18 = [.set 2 (.lst true []), .each (.name 3) (.rng [.cst (.int (2000))]) body18, .ret (.cst .non)] := rfl
  have c0 : cell1 [] = Cell.lst [] := rfl
  rw [c0] at e
  unfold f18
  rw [hb]
  simp [evFn, evSs, evS, evE, evEs, evBoV, evBoT, ofV, ofC, evX, evSeq, evSkip, evVar, evBin, evUn, evB, evT, evChain, evAnd, evOr, evNot, evAndT, evOrT, evNotT, evIf, evNil, evCons, evTup, evLst, evMl, evCall, evBlt, evBltM, evIs, evMth, evSl, evP, evNoP, evSrc, evSet, evPar, asgT_name, asgT_tup, asgTs_nil, asgTs_cons, evAug, evAugS, evSetIx, evYes, evD0, binG, cmpG, augG, Bl.f, Mt.f, Mt.ty, Cst.d, no1, e]

def K (many : Int) : List Int := (rangeI (-(many / 2)) (many / 2 + 1 - -(many / 2)).toNat).filter fun t => decide (t ≠ 0) || decide (many % 2 = 1)
theorem f19_ok {many room : Int} (h1 : 1 ≤ many) (h2 : many ≤ 8) (μ : Mem) : f19 [.int many, .int room] μ = .ok (.lst ((K many).map fun t => .int (room + t))) μ := by
  have r1 : rOk (-(many / 2)) = true := by unfold rOk; exact decide_eq_true (by omega)
  have r2 : rOk (many / 2 + 1) = true := by unfold rOk; exact decide_eq_true (by omega)
  have q := evLc_val (gd := []) (src := evR2 (evCons (evUn negD (evVar 2)) (evCons (evBin addD (evVar 2) fun _ μ => .ok (.int 1) μ) evNil))) (t := .name 3)
    (ft := evOrT (evB (evBin neD (evVar 3) fun _ μ => .ok (.int 0) μ)) (evB (evBin eqD (evBin modD (evVar 0) fun _ μ => .ok (.int 2) μ) fun _ μ => .ok (.int 1) μ))) (fe := evBin addD (evVar 1) (evVar 3)) (own := [3]) (δ := [some (.int many), some (.int room), some (.int (many / 2)), none]) (μ := μ) (μ1 := μ)
    (rangeI (-(many / 2)) (many / 2 + 1 - -(many / 2)).toNat) D.int (fun t => decide (t ≠ 0) || decide (many % 2 = 1)) (fun t => .int (room + t))
    (by simp [evSs, evS, evE, evEs, evBoV, evBoT, ofV, ofC, evX, evSeq, evSkip, evVar, evBin, evUn, evB, evT, evChain, evAnd, evOr, evNot, evAndT, evOrT, evNotT, evIf, evNil, evCons, evTup, evLst, evMl, evCall, evBlt, evBltM, evIs, evMth, evSl, evP, evNoP, evSrc, evSet, evPar, asgT_name, asgT_tup, asgTs_nil, asgTs_cons, evAug, evAugS, evSetIx, evYes, evD0, binG, cmpG, augG, Bl.f, Mt.f, Mt.ty, Cst.d, no1, evR2, negD, addD, r1, r2, rngI_map]) rfl (by simp [rangeI]; omega) fun t ht => ⟨_, rfl, by
      by_cases e : t = 0 <;> simp [evSs, evS, evE, evEs, evBoV, evBoT, ofV, ofC, evX, evSeq, evSkip, evVar, evBin, evUn, evB, evT, evChain, evAnd, evOr, evNot, evAndT, evOrT, evNotT, evIf, evNil, evCons, evTup, evLst, evMl, evCall, evBlt, evBltM, evIs, evMth, evSl, evP, evNoP, evSrc, evSet, evPar, asgT_name, asgT_tup, asgTs_nil, asgTs_cons, evAug, evAugS, evSetIx, evYes, evD0, binG, cmpG, augG, Bl.f, Mt.f, Mt.ty, Cst.d, no1, wipeD, modD, e], fun _ => by simp [evSs, evS, evE, evEs, evBoV, evBoT, ofV, ofC, evX, evSeq, evSkip, evVar, evBin, evUn, evB, evT, evChain, evAnd, evOr, evNot, evAndT, evOrT, evNotT, evIf, evNil, evCons, evTup, evLst, evMl, evCall, evBlt, evBltM, evIs, evMth, evSl, evP, evNoP, evSrc, evSet, evPar, asgT_name, asgT_tup, asgTs_nil, asgTs_cons, evAug, evAugS, evSetIx, evYes, evD0, binG, cmpG, augG, Bl.f, Mt.f, Mt.ty, Cst.d, no1, wipeD, addD]⟩
  simp [f19, b19, evFn, evSs, evS, evE, evEs, evBoV, evBoT, ofV, ofC, evX, evSeq, evSkip, evVar, evBin, evUn, evB, evT, evChain, evAnd, evOr, evNot, evAndT, evOrT, evNotT, evIf, evNil, evCons, evTup, evLst, evMl, evCall, evBlt, evBltM, evIs, evMth, evSl, evP, evNoP, evSrc, evSet, evPar, asgT_name, asgT_tup, asgTs_nil, asgTs_cons, evAug, evAugS, evSetIx, evYes, evD0, binG, cmpG, augG, Bl.f, Mt.f, Mt.ty, Cst.d, no1, fdivD]
  rw [q]
  simp [K]
def ab (i : Int) : Int := if i < 0 then -i else i
def grown (many room : Int) (L : List Int) (p : Int) : Int := (L.map fun i => ab (i - p)).sum - many * ab (room - p)
def leftOne (many room : Int) (L : List Int) (p : Int) : Tab := if 0 < grown many room L p then [(p, grown many room L p / 2)] else []
def leftP (many room : Int) (L : List Int) : Tab := (rangeI (room - 8) 17).flatMap (leftOne many room L)
def body20 : List S := [
    .set 5 (.bin .Sub (.blt .sum [.lc false [6] (.blt .abs [.bin .Sub (.var 6) (.var 4)]) (.name 6) (.var 2) (.absent)]) (.bin .Mult (.var 0) (.blt .abs [.bin .Sub (.var 1) (.var 4)]))),
    .set 3 (.bin .Add (.var 3) (.ite (.cmp .Gt (.var 5) (.cst (.int (0)))) (.lst false [.tup [.var 4, .bin .FloorDiv (.var 5) (.cst (.int (2)))]]) (.lst false [])))]
theorem step20 {Φ : Nat → FS} {many room p : Int} {L : List Int} {acc : Tab} {x5 : Option D} (h1 : 1 ≤ many) (h2 : many ≤ 8) (hL : L.length ≤ 1000) (ha : acc.length ≤ 1000) (μ : Mem) :
    evSs Φ body20 [some (.int many), some (.int room), some (.lst (L.map .int)), some (.lst (acc.map M.pairD)), some (.int p), x5, none] μ = .ok (.nx [some (.int many), some (.int room), some (.lst (L.map .int)), some (.lst ((acc ++ leftOne many room L p).map M.pairD)), some (.int p), some (.int (grown many room L p)), none]) μ := by
  have q := evLc_all (gd := []) (src := evSrc (evVar 2)) (t := .name 6) (fe := evBlt absD (evCons (evBin subD (evVar 6) (evVar 4)) evNil)) (own := [6]) (δ := [some (.int many), some (.int room), some (.lst (L.map .int)), some (.lst (acc.map M.pairD)), some (.int p), x5, none]) (μ := μ) (μ1 := μ) L D.int (fun i => .int (ab (i - p)))
    (by simp [evSs, evS, evE, evEs, evBoV, evBoT, ofV, ofC, evX, evSeq, evSkip, evVar, evBin, evUn, evB, evT, evChain, evAnd, evOr, evNot, evAndT, evOrT, evNotT, evIf, evNil, evCons, evTup, evLst, evMl, evCall, evBlt, evBltM, evIs, evMth, evSl, evP, evNoP, evSrc, evSet, evPar, asgT_name, asgT_tup, asgTs_nil, asgTs_cons, evAug, evAugS, evSetIx, evYes, evD0, binG, cmpG, augG, Bl.f, Mt.f, Mt.ty, Cst.d, no1, srcOf]) rfl (by omega) fun t ht => ⟨_, rfl, by simp [evSs, evS, evE, evEs, evBoV, evBoT, ofV, ofC, evX, evSeq, evSkip, evVar, evBin, evUn, evB, evT, evChain, evAnd, evOr, evNot, evAndT, evOrT, evNotT, evIf, evNil, evCons, evTup, evLst, evMl, evCall, evBlt, evBltM, evIs, evMth, evSl, evP, evNoP, evSrc, evSet, evPar, asgT_name, asgT_tup, asgTs_nil, asgTs_cons, evAug, evAugS, evSetIx, evYes, evD0, binG, cmpG, augG, Bl.f, Mt.f, Mt.ty, Cst.d, no1, wipeD, subD, absD, ab]⟩
  have e1 := ints_map (fun i : Int => ab (i - p)) L
  have m1 : ∀ z : Int, mulOk many z = true := fun z => by simp [mulOk]; omega
  have l1 : acc.length + 1 ≤ sizeLine := line_le (by omega)
  have l0 : acc.length ≤ sizeLine := line_le (by omega)
  have a1 : ∀ z : Int, (if z < 0 then -z else z) = ab z := fun _ => rfl
  have gr : (L.map fun i => ab (i - p)).sum - many * ab (room - p) = grown many room L p := rfl
  by_cases h : 0 < grown many room L p
  · simp [body20, evSs, evS, evE, evEs, evBoV, evBoT, ofV, ofC, evX, evSeq, evSkip, evVar, evBin, evUn, evB, evT, evChain, evAnd, evOr, evNot, evAndT, evOrT, evNotT, evIf, evNil, evCons, evTup, evLst, evMl, evCall, evBlt, evBltM, evIs, evMth, evSl, evP, evNoP, evSrc, evSet, evPar, asgT_name, asgT_tup, asgTs_nil, asgTs_cons, evAug, evAugS, evSetIx, evYes, evD0, binG, cmpG, augG, Bl.f, Mt.f, Mt.ty, Cst.d, no1, q, sumD, on1, M.seqL, e1, subD, absD, mulD, m1, a1, gr, cmpI, h, fdivD, addD, l1, leftOne, M.pairD]
  · simp [body20, evSs, evS, evE, evEs, evBoV, evBoT, ofV, ofC, evX, evSeq, evSkip, evVar, evBin, evUn, evB, evT, evChain, evAnd, evOr, evNot, evAndT, evOrT, evNotT, evIf, evNil, evCons, evTup, evLst, evMl, evCall, evBlt, evBltM, evIs, evMth, evSl, evP, evNoP, evSrc, evSet, evPar, asgT_name, asgT_tup, asgTs_nil, asgTs_cons, evAug, evAugS, evSetIx, evYes, evD0, binG, cmpG, augG, Bl.f, Mt.f, Mt.ty, Cst.d, no1, q, sumD, on1, M.seqL, e1, subD, absD, mulD, m1, a1, gr, cmpI, h, fdivD, addD, l0, leftOne, M.pairD]
theorem f20_ok {many room : Int} {L : List Int} (h1 : 1 ≤ many) (h2 : many ≤ 8) (hr : -2000 ≤ room) (hr2 : room ≤ 2000) (hL : L.length ≤ 1000) (μ : Mem) : f20 [.int many, .int room, .lst (L.map .int)] μ = .ok (encS (leftP many room L)) μ := by
  have hfor : ∃ x4 x5, evForS (evR2 (evCons (evBin subD (evVar 1) fun _ μ => .ok (.int 8) μ) (evCons (evBin addD (evVar 1) fun _ μ => .ok (.int 9) μ) evNil))) (.name 4) (evSs (look [f0, f1, f2, f3, f4, f5, f6, f7, f8, f9, f10, f11, f12, f13, f14, f15, f16, f17, f18, f19]) body20) [some (.int many), some (.int room), some (.lst (L.map .int)), some (.lst []), none, none, none] μ
      = .ok (.nx [some (.int many), some (.int room), some (.lst (L.map .int)), some (.lst ((leftP many room L).map M.pairD)), x4, x5, none]) μ := by
    have r1 : rOk (room - 8) = true := by unfold rOk; exact decide_eq_true (by omega)
    have r2 : rOk (room + 9) = true := by unfold rOk; exact decide_eq_true (by omega)
    have e17 : (room + 9 - (room - 8)).toNat = 17 := by omega
    refine forS_inv (gd := []) (μ1 := μ) (rangeI (room - 8) 17) D.int (fun o => ∃ x4 x5, o = .ok (.nx [some (.int many), some (.int room), some (.lst (L.map .int)), some (.lst ((leftP many room L).map M.pairD)), x4, x5, none]) μ)
      (fun rest δ μ' => ∃ done x4 x5, done ++ rest = rangeI (room - 8) 17 ∧ δ = [some (.int many), some (.int room), some (.lst (L.map .int)), some (.lst ((done.flatMap (leftOne many room L)).map M.pairD)), x4, x5, none] ∧ μ' = μ)
      (by simp [evSs, evS, evE, evEs, evBoV, evBoT, ofV, ofC, evX, evSeq, evSkip, evVar, evBin, evUn, evB, evT, evChain, evAnd, evOr, evNot, evAndT, evOrT, evNotT, evIf, evNil, evCons, evTup, evLst, evMl, evCall, evBlt, evBltM, evIs, evMth, evSl, evP, evNoP, evSrc, evSet, evPar, asgT_name, asgT_tup, asgTs_nil, asgTs_cons, evAug, evAugS, evSetIx, evYes, evD0, binG, cmpG, augG, Bl.f, Mt.f, Mt.ty, Cst.d, no1, evR2, subD, addD, r1, r2, rngI_map, e17]) ⟨[], none, none, rfl, rfl, rfl⟩ ?_ ?_
    · rintro y rest δ μ' ⟨done, x4, x5, hd, rfl, rfl⟩
      have dl : (done.flatMap (leftOne many room L)).length ≤ done.length := by
        rw [List.length_flatMap]
        have : ∀ (l : List Int), (l.map fun p => (leftOne many room L p).length).sum ≤ l.length := fun l => by
          induction l with
          | nil => simp
          | cons a l ih =>
            have : (leftOne many room L a).length ≤ 1 := by unfold leftOne; split <;> simp
            simp; omega
        exact this done
      have dd : done.length ≤ 17 := by have := congrArg List.length hd; simp [rangeI] at this; omega
      exact ⟨rfl, _, rfl, .inl ⟨_, _, .inl (step20 h1 h2 hL (by omega) μ'), done ++ [y], some (.int y), some (.int (grown many room L y)), by simpa using hd, by simp, rfl⟩⟩
    · rintro δ μ' ⟨done, x4, x5, hd, rfl, rfl⟩
      rw [List.append_nil] at hd
      exact ⟨rfl, x4, x5, by rw [hd]; rfl⟩
  obtain ⟨x4, x5, e⟩ := hfor
  have hb : b20 = [.set 3 (.lst false []), .each (.name 4) (.rng [.bin .Sub (.var 1) (.cst (.int (8))), .bin .Add (.var 1) (.cst (.int (9)))]) body20, .ret (.blt .tuple [.var 3])] := rfl
  unfold f20
  rw [hb]
  simp [evFn, evSs, evS, evE, evEs, evBoV, evBoT, ofV, ofC, evX, evSeq, evSkip, evVar, evBin, evUn, evB, evT, evChain, evAnd, evOr, evNot, evAndT, evOrT, evNotT, evIf, evNil, evCons, evTup, evLst, evMl, evCall, evBlt, evBltM, evIs, evMth, evSl, evP, evNoP, evSrc, evSet, evPar, asgT_name, asgT_tup, asgTs_nil, asgTs_cons, evAug, evAugS, evSetIx, evYes, evD0, binG, cmpG, augG, Bl.f, Mt.f, Mt.ty, Cst.d, no1, e, tupleD, M.seqL]
end T
namespace T
open M B PySem PySem.Spec PyProof.Rows L2

/-! ### base cases, and what is shifted -/
def okc (a b : Int) (s E O : Tab) : Bool :=
  (match goT (leftmost 200 s) s with
    | some B => decide (told B = E) && B.all (fun p => decide (0 ≤ p.2) && decide (p.2 ≤ 1))
    | none => false) && (leftmost 200 s).all (fun x => decide (a < x) && decide (x < b)) && decide ((leftmost 200 s).length ≤ 1000) && decide (allT (cnt (leftmost 200 s) []) = O) &&
  decide (s.Pairwise fun p q => p.1 < q.1) && s.all (fun p => decide (a ≤ p.1) && decide (p.1 ≤ b) && decide (1 ≤ p.2) && decide (p.2 ≤ 8)) && decide (1 ≤ (s.map (·.2)).sum) && decide ((s.map (·.2)).sum ≤ 8) && decide (s.length ≤ 1000)
theorem count_shift (r y : Int) : ∀ S : List Int, (S.map (· + r)).count (y + r) = S.count y
  | [] => rfl
  | x :: S => by
    rw [List.map_cons, List.count_cons, List.count_cons, count_shift r y S]
    by_cases e : x = y
    · subst e; simp
    · have : ¬ x + r = y + r := by omega
      simp [e, this]
theorem allT_rep (S : List Int) : Rep (allT (cnt S [])) ∧ ∀ y, cf (allT (cnt S [])) y = (S.count y : Int) := by
  have e : allT (cnt S []) = told (cnt S []) := allT_told (cnt_pos kn_nil fun k hk => by simp at hk)
  have n : ∀ y, cf (cnt S []) y = (S.count y : Int) := fun y => by rw [cf_cnt kn_nil]; simp [cf]
  rw [e]
  exact ⟨told_rep (cnt_kn kn_nil), fun y => by rw [cf_told (cnt_kn kn_nil) fun y => by rw [n]; omega, n]⟩
theorem cf_ext {r : Int} {c d : Cf} (h : ∀ y, c (y + r) = d (y + r)) : c = d := funext fun y => by
  have := h (y - r)
  rwa [Int.sub_add_cancel] at this
theorem allT_shift (r : Int) (S : List Int) : allT (cnt (S.map (· + r)) []) = shift r (allT (cnt S [])) := by
  obtain ⟨r1, c1⟩ := allT_rep (S.map (· + r))
  obtain ⟨r2, c2⟩ := allT_rep S
  refine rep_uniq r1 (rep_shift r2) (cf_ext (r := r) fun y => ?_)
  rw [c1, cf_shift, c2, count_shift]
theorem okc_cfg {a b r : Int} {s E O : Tab} (h : okc a b s E O = true) (hw : b - a < 60) (h1 : -1000 ≤ a + r) (h2 : b + r ≤ 1000) : Cfg (a + r) (b + r) (shift r s) (shift r E) (shift r O) := by
  unfold okc at h
  simp only [Bool.and_eq_true, decide_eq_true_eq] at h
  obtain ⟨⟨⟨⟨⟨⟨⟨⟨k1, k2⟩, k3⟩, k4⟩, k5⟩, k6⟩, k7⟩, k8⟩, k9⟩ := h
  split at k1
  · rename_i B hB
    simp only [Bool.and_eq_true, decide_eq_true_eq] at k1
    obtain ⟨k1, kB⟩ := k1
    have kn : KN s := ss_nodup k5
    obtain ⟨g1, g2, g3⟩ := goT_ok kn hB
    have nn : ∀ y, 0 ≤ cf B y := fun y => by
      by_cases m : y ∈ B.map (·.1)
      · obtain ⟨p, hp, rfl⟩ := List.mem_map.mp m
        rw [cf_in g3 p hp]
        have := List.all_eq_true.mp kB p hp
        simp at this; omega
      · rw [cf_out fun q hq z => m (List.mem_map.mpr ⟨q, hq, z⟩)]; omega
    have st : Stable (cf B) := stable_of g3 (List.all_eq_true.mpr fun p hp => by
      have := List.all_eq_true.mp kB p hp
      simp at this; simp; omega)
    have eE : cf E = cf B := by rw [← k1, cf_told g3 nn]
    have sh := legal_shift (r := r) (fun y => cf_shift r s y) g1
    have hall : ∀ p ∈ s, a ≤ p.1 ∧ p.1 ≤ b ∧ 1 ≤ p.2 ∧ p.2 ≤ 8 := fun p hp => by
      have := List.all_eq_true.mp k6 p hp
      simp at this; omega
    have sums : ((shift r s).map (·.2)) = s.map (·.2) := by simp [shift, Function.comp_def]
    have reps : Rep s := ⟨k5, fun p hp => by have := hall p hp; omega⟩
    refine ⟨⟨(rep_shift reps).so, fun p hp => ?_, by rw [sums]; exact ⟨k7, k8⟩, by simpa [shift] using k9⟩, by omega, h1, h2, fun p hp => ?_, ⟨(leftmost 200 s).map (· + r), sh.1, fun y => ?_, cf_ext (r := r) fun y => ?_, fun x hx => ?_, by simpa using k3, ?_⟩, ?_⟩
    · obtain ⟨q, hq, rfl⟩ := List.mem_map.mp hp
      have := hall q hq
      show -1000 ≤ q.1 + r ∧ q.1 + r ≤ 1000 ∧ 1 ≤ q.2 ∧ q.2 ≤ 8
      omega
    · obtain ⟨q, hq, rfl⟩ := List.mem_map.mp hp
      have := hall q hq
      show a + r ≤ q.1 + r ∧ q.1 + r ≤ b + r
      omega
    · have := sh.2 (y - r)
      rw [Int.sub_add_cancel] at this
      rw [this, g2]
      exact st _
    · rw [sh.2, cf_shift, g2, eE]
    · obtain ⟨y, hy, rfl⟩ := List.mem_map.mp hx
      have := List.all_eq_true.mp k2 y hy
      simp at this
      omega
    · rw [allT_shift, k4]
    · rw [← k1]; exact rep_shift (told_rep g3)
  · cases k1
theorem sortI_shift (r : Int) (l : List Int) : sortI (l.map (· + r)) = (sortI l).map (· + r) :=
  (sortI_uniq ((sortI_perm l).map _) (List.pairwise_map.mpr ((sortI_sorted l).imp fun h => by omega))).symm
theorem sortP_shift (r : Int) (l : Tab) : sortP (shift r l) = shift r (sortP l) := by
  unfold shift
  refine (sortP_uniq ((sortP_perm l).map fun p => (p.1 + r, p.2)) (List.pairwise_map.mpr ((sortP_sorted l).imp fun {p q} h => ?_))).symm
  have := leP_iff.mp h
  refine leP_iff.mpr ?_
  show p.1 + r < q.1 + r ∨ p.1 + r = q.1 + r ∧ p.2 ≤ q.2
  omega
theorem grown_shift (many r x p : Int) (L : List Int) : grown many (x + r) (L.map (· + r)) (p + r) = grown many x L p := by
  unfold grown
  rw [List.map_map]
  have e : ∀ i : Int, (i + r) - (p + r) = i - p := fun i => by omega
  simp only [Function.comp_def, e]
theorem leftP_shift (many r x : Int) (L : List Int) : leftP many (x + r) (L.map (· + r)) = shift r (leftP many x L) := by
  unfold leftP shift
  have e : rangeI (x + r - 8) 17 = (rangeI (x - 8) 17).map (· + r) := by
    unfold rangeI
    rw [List.map_map]
    refine List.map_congr_left fun i _ => ?_
    show x + r - 8 + (i : Int) = x - 8 + (i : Int) + r
    omega
  rw [e]
  generalize rangeI (x - 8) 17 = R
  induction R with
  | nil => rfl
  | cons p R ih =>
    simp only [List.map_cons, List.flatMap_cons, List.map_append]
    rw [ih]
    congr 1
    unfold leftOne
    rw [grown_shift]
    split <;> simp
/-! the base cases -/
def ones (l : List Int) : Tab := l.map fun i => (i, 1)
def sn (m n : Int) : Tab := [(0, m), (1, n)]
def E3 (m n : Int) : Tab := match goT (leftmost 200 (sn m n)) (sn m n) with
  | some B => told B
  | none => []
def O3 (m n : Int) : Tab := allT (cnt (leftmost 200 (sn m n)) [])
def ok1 (m : Int) : Bool := okc (-9) 9 [(0, m)] (ones (K m)) (leftP m 0 (K m))
def okR (m n : Int) : Bool := okc (-9) 29 [(0, m), (20, n)] (ones (sortI (K m ++ (K n).map (· + 20)))) (sortP (leftP m 0 (K m) ++ leftP n 20 ((K n).map (· + 20))))
def okL (m n : Int) : Bool := okc (-29) 9 [(-20, n), (0, m)] (ones (sortI (K m ++ (K n).map (· + -20)))) (sortP (leftP m 0 (K m) ++ leftP n (-20) ((K n).map (· + -20))))
def okN (m n : Int) : Bool := okc (-9) 10 (sn m n) (E3 m n) (O3 m n) && (O3 m n).all fun q => decide (((E3 m n).map fun e => ab (e.1 - q.1)).sum - m * ab (0 - q.1) - n * ab (1 - q.1) = 2 * q.2)
def okAll : Bool := (rangeI 1 8).all fun m => ok1 m && (rangeI 1 (8 - m).toNat).all fun n => okR m n && okL m n && okN m n
theorem okAll_true : okAll = true := by decide +kernel
theorem mem_rangeI {lo x : Int} {n : Nat} (h1 : lo ≤ x) (h2 : x < lo + n) : x ∈ rangeI lo n :=
  List.mem_map.mpr ⟨(x - lo).toNat, List.mem_range.mpr (by omega), by omega⟩
theorem base1 {m : Int} (h1 : 1 ≤ m) (h2 : m ≤ 8) : ok1 m = true := by
  have := List.all_eq_true.mp okAll_true m (mem_rangeI h1 (by omega))
  simp only [Bool.and_eq_true] at this
  exact this.1
theorem base2 {m n : Int} (h1 : 1 ≤ m) (h2 : 1 ≤ n) (h3 : m + n ≤ 8) : okR m n = true ∧ okL m n = true ∧ okN m n = true := by
  have := List.all_eq_true.mp okAll_true m (mem_rangeI h1 (by omega))
  simp only [Bool.and_eq_true] at this
  have := List.all_eq_true.mp this.2 n (mem_rangeI h2 (by omega))
  simp only [Bool.and_eq_true] at this
  exact ⟨this.1.1, this.1.2, this.2⟩
/-! ### data equalities -/
theorem pl_enc (s : Tab) : pl 64 (encS s) = true := by
  have := pls_pairs 62 s
  simpa [pl] using this
theorem ne_enc (s t : Tab) (μ : Mem) : neD (encS s) (encS t) μ = some (.bl (decide (s ≠ t))) := by
  rw [neD_pl (pl_enc s) (pl_enc t)]
  simp [beqD, beqDs_pairs]
theorem ones_enc (l : List Int) : (.tup (l.map fun i => D.tup [.int i, .int 1]) : D) = encS (ones l) := by
  simp [encS, ones, M.pairD]
theorem ones_shift (r : Int) (l : List Int) : ones (l.map (· + r)) = shift r (ones l) := by simp [ones, shift]
theorem ones_ok {δ : Sg} {μ : Mem} {i : Nat} {l : List Int} (hi : δ[i]? = some (some (.lst (l.map .int)))) (h17 : 17 < δ.length) (hl : l.length ≤ 1000) : evLc false (evSrc (evVar i)) (.name 17) evYes (evTup (evCons (evVar 17) (evCons (fun _ μ => .ok (.int 1) μ) evNil))) [17] δ μ = .ok (.lst (l.map fun i => D.tup [.int i, .int 1])) μ :=
  evLc_all (gd := []) l D.int (fun i => D.tup [.int i, .int 1]) (by simp [evSrc, evVar, hi, srcOf]) rfl (by omega) fun t ht => ⟨_, rfl, by
    have v : evVar 17 ((wipeD δ [17]).set 17 (some (.int t))) μ = .ok (.int t) μ := by
      unfold evVar
      rw [List.getElem?_set_self (by simpa [wipeD] using h17)]
    simp [evTup, evCons, evNil, v]⟩
/-! ### one lap -/
abbrev F21 : Nat → FS := look [f0, f1, f2, f3, f4, f5, f6, f7, f8, f9, f10, f11, f12, f13, f14, f15, f16, f17, f18, f19, f20]
def q1 : M.S := .par [4, 5] [.bin .Add (.cst (.int (1))) (.call 14 [.var 1, .cst (.int (8))]), .bin .Sub (.call 14 [.var 1, .cst (.int (1800))]) (.cst (.int (900)))]
def q2 : M.S := .set 3 (.call 19 [.var 4, .var 5])
def q3 : M.S := .ite (.boo .Or [.cmp .NotEq (.call 11 [.tup [.tup [.var 5, .var 4]]]) (.blt .tuple [.lc false [17] (.tup [.var 17, .cst (.int (1))]) (.name 17) (.var 3) (.absent)]), .cmp .NotEq (.call 12 [.tup [.tup [.var 5, .var 4]]]) (.call 20 [.var 4, .var 5, .var 3])]) [
      .ret (.cst (.bl false))] []
def r1 : M.S := .set 6 (.bin .Add (.cst (.int (1))) (.call 14 [.var 1, .bin .Sub (.cst (.int (8))) (.var 4)]))
def r2 : M.S := .set 7 (.ite (.cmp .Lt (.var 5) (.cst (.int (0)))) (.bin .Add (.var 5) (.cst (.int (20)))) (.bin .Sub (.var 5) (.cst (.int (20)))))
def r3 : M.S := .set 8 (.blt .tuple [.blt .sorted [.lst false [.tup [.var 5, .var 4], .tup [.var 7, .var 6]]]])
def r4 : M.S := .set 9 (.blt .sorted [.bin .Add (.var 3) (.call 19 [.var 6, .var 7])])
def r5 : M.S := .ite (.boo .Or [.cmp .NotEq (.call 11 [.var 8]) (.blt .tuple [.lc false [17] (.tup [.var 17, .cst (.int (1))]) (.name 17) (.var 9) (.absent)]), .cmp .NotEq (.call 12 [.var 8]) (.blt .tuple [.blt .sorted [.bin .Add (.call 20 [.var 4, .var 5, .var 3]) (.call 20 [.var 6, .var 7, .call 19 [.var 6, .var 7]])]])]) [
        .ret (.cst (.bl false))] []
def r6 : M.S := .set 10 (.blt .tuple [.blt .sorted [.lst false [.tup [.var 5, .var 4], .tup [.bin .Add (.var 5) (.cst (.int (1))), .var 6]]]])
def r7 : M.S := .asg (.tup [.name 11, .name 12, .name 13]) (.call 18 [.var 1, .var 10])
def r8 : M.S := .ite (.boo .Or [.cmp .NotEq (.call 11 [.var 10]) (.var 11), .cmp .NotEq (.call 12 [.var 10]) (.var 12)]) [
        .ret (.cst (.bl false))] []
def body9 : List M.S := [
        .set 16 (.bin .Sub (.bin .Sub (.blt .sum [.lc false [17, 18] (.blt .abs [.bin .Sub (.var 17) (.var 14)]) (.tup [.name 17, .name 18]) (.var 11) (.absent)]) (.bin .Mult (.var 4) (.blt .abs [.bin .Sub (.var 5) (.var 14)]))) (.bin .Mult (.var 6) (.blt .abs [.bin .Sub (.bin .Add (.var 5) (.cst (.int (1)))) (.var 14)]))),
        .ite (.cmp .NotEq (.var 16) (.bin .Mult (.cst (.int (2))) (.var 15))) [
          .ret (.cst (.bl false))] []]
def r9 : M.S := .each (.tup [.name 14, .name 15]) (.var 12) body9
def lap21 : List M.S := [q1, q2, q3, .ite (.cmp .Lt (.var 4) (.cst (.int (8)))) [r1, r2, r3, r4, r5, r6, r7, r8, r9] []]
theorem b21_eq : b21 = [.set 1 (.call 13 [.var 0]), .each (.name 2) (.rng [.cst (.int (4))]) lap21, .ret (.cst (.bl true))] := rfl
theorem kb0 {μ μ' : Mem} (h : Bag μ' 0) (k : Kp μ μ' 0) : Kb μ μ' 0 := Kb.of h k
theorem q1_ok {μ : Mem} (h : Bag μ 0) {s0 x2 x3 x4 x5 : Option D} {r : Sg} : ∃ m room μ', evS F21 q1 (s0 :: some (.obj 0) :: x2 :: x3 :: x4 :: x5 :: r) μ = .ok (.nx (s0 :: some (.obj 0) :: x2 :: x3 :: some (.int m) :: some (.int room) :: r)) μ' ∧ 1 ≤ m ∧ m ≤ 8 ∧ -900 ≤ room ∧ room ≤ 899 ∧ Bag μ' 0 := by
  obtain ⟨d1, μ1, e1, a1, a2, a3, a4⟩ := take14 h (many := 8) (by omega) (by omega)
  obtain ⟨d2, μ2, e2, c1, c2, c3, c4⟩ := take14 a3 (many := 1800) (by omega) (by omega)
  refine ⟨1 + d1, d2 - 900, μ2, ?_, by omega, by omega, by omega, by omega, c3⟩
  have e14 : F21 14 = f14 := rfl
  simp [q1, evSs, evS, evE, evEs, evBoV, evBoT, ofV, ofC, evX, evSeq, evSkip, evVar, evBin, evUn, evB, evT, evChain, evAnd, evOr, evNot, evAndT, evOrT, evNotT, evIf, evNil, evCons, evTup, evLst, evMl, evCall, evBlt, evBltM, evIs, evMth, evSl, evP, evNoP, evSrc, evSet, evPar, asgT_name, asgT_tup, asgTs_nil, asgTs_cons, evAug, evAugS, evSetIx, evYes, evD0, binG, cmpG, augG, Bl.f, Mt.f, Mt.ty, Cst.d, no1, e14, e1, e2, addD, subD]
theorem Klen {m : Int} (h1 : 1 ≤ m) (h2 : m ≤ 8) : (K m).length ≤ 100 := by
  unfold K
  refine Nat.le_trans (List.length_filter_le ..) ?_
  simp [rangeI]; omega
theorem Kshift (m r : Int) : ((K m).map fun t => D.int (r + t)) = ((K m).map (· + r)).map D.int := by
  rw [List.map_map]
  refine List.map_congr_left fun t _ => ?_
  show D.int (r + t) = D.int (t + r)
  rw [Int.add_comm]
theorem q2_ok {μ : Mem} {m room : Int} (h1 : 1 ≤ m) (h2 : m ≤ 8) {s0 s1 x2 x3 : Option D} {r : Sg} : evS F21 q2 (s0 :: s1 :: x2 :: x3 :: some (.int m) :: some (.int room) :: r) μ = .ok (.nx (s0 :: s1 :: x2 :: some (.lst (((K m).map (· + room)).map .int)) :: some (.int m) :: some (.int room) :: r)) μ := by
  have e19 : F21 19 = f19 := rfl
  simp only [q2, evSs, evS, evE, evEs, evBoV, evBoT, ofV, ofC, evX, evSeq, evSkip, evVar, evBin, evUn, evB, evT, evChain, evAnd, evOr, evNot, evAndT, evOrT, evNotT, evIf, evNil, evCons, evTup, evLst, evMl, evCall, evBlt, evBltM, evIs, evMth, evSl, evP, evNoP, evSrc, evSet, evPar, asgT_name, asgT_tup, asgTs_nil, asgTs_cons, evAug, evAugS, evSetIx, evYes, evD0, binG, cmpG, augG, Bl.f, Mt.f, Mt.ty, Cst.d, no1, e19, List.getElem?_cons_succ, List.getElem?_cons_zero, Out.bind_ok, f19_ok h1 h2, Kshift]
  rfl

theorem cfg1 {m room : Int} (h1 : 1 ≤ m) (h2 : m ≤ 8) (h3 : -900 ≤ room) (h4 : room ≤ 899) : Cfg (-9 + room) (9 + room) [(room, m)] (shift room (ones (K m))) (shift room (leftP m 0 (K m))) := by
  have := okc_cfg (r := room) (base1 h1 h2) (by omega) (by omega) (by omega)
  have e : shift room [(0, m)] = [(room, m)] := by simp [shift]
  rwa [e] at this
theorem Kmlen {m r : Int} (h1 : 1 ≤ m) (h2 : m ≤ 8) : ((K m).map (· + r)).length ≤ 1000 := by
  have := Klen h1 h2
  rw [List.length_map]; omega
theorem left0 {m room : Int} : leftP m room ((K m).map (· + room)) = shift room (leftP m 0 (K m)) := by
  have := leftP_shift m room 0 (K m)
  rwa [Int.zero_add] at this
theorem q3_ok {μ : Mem} {m room : Int} (h1 : 1 ≤ m) (h2 : m ≤ 8) (h3 : -900 ≤ room) (h4 : room ≤ 899) {s0 x2 x3 x4 x5 x6 x7 x8 x9 x10 x11 x12 x13 x14 x15 x16 x17 x18 : Option D} : evS F21 q3 [s0, some (.obj 0), x2, some (.lst (((K m).map (· + room)).map .int)), some (.int m), some (.int room), x6, x7, x8, x9, x10, x11, x12, x13, x14, x15, x16, x17, x18] μ = .ok (.nx [s0, some (.obj 0), x2, some (.lst (((K m).map (· + room)).map .int)), some (.int m), some (.int room), x6, x7, x8, x9, x10, x11, x12, x13, x14, x15, x16, x17, x18]) μ := by
  have g := cfg1 h1 h2 h3 h4
  have e11 : F21 11 = f11 := rfl
  have e12 : F21 12 = f12 := rfl
  have e20 : F21 20 = f20 := rfl
  have k1 := f11_ok g μ
  have k2 := f12_ok g μ
  have k3 := f20_ok (many := m) (room := room) (L := (K m).map (· + room)) h1 h2 (by omega) (by omega) (Kmlen h1 h2) μ
  rw [left0] at k3
  have k4 := ones_ok (δ := [s0, some (.obj 0), x2, some (.lst (((K m).map (· + room)).map .int)), some (.int m), some (.int room), x6, x7, x8, x9, x10, x11, x12, x13, x14, x15, x16, x17, x18]) (μ := μ) (i := 3) (l := (K m).map (· + room)) rfl (by simp) (Kmlen h1 h2)
  have k5 := ne_enc (shift room (ones (K m))) (shift room (ones (K m))) μ
  have k6 := ne_enc (shift room (leftP m 0 (K m))) (shift room (leftP m 0 (K m))) μ
  have k7 := ones_enc ((K m).map (· + room))
  rw [ones_shift] at k7
  have p0 : encS [(room, m)] = .tup [.tup [.int room, .int m]] := rfl
  rw [p0] at k1 k2
  simp only [q3, evSs, evS, evE, evEs, evBoV, evBoT, ofV, ofC, evX, evSeq, evSkip, evVar, evBin, evUn, evB, evT, evChain, evAnd, evOr, evNot, evAndT, evOrT, evNotT, evIf, evNil, evCons, evTup, evLst, evMl, evCall, evBlt, evBltM, evIs, evMth, evSl, evP, evNoP, evSrc, evSet, evPar, asgT_name, asgT_tup, asgTs_nil, asgTs_cons, evAug, evAugS, evSetIx, evYes, evD0, binG, cmpG, augG, Bl.f, Mt.f, Mt.ty, Cst.d, no1, e11, e12, e20, List.getElem?_cons_succ, List.getElem?_cons_zero, Out.bind_ok, List.length_cons, List.length_nil, Nat.reduceAdd, Nat.reduceLeDiff, if_true, k1, k2, k3, k4, tupleD, M.seqL, Option.map_some, ofO_some, k7, k5, k6, ne_eq, not_true_eq_false, decide_false, Bool.false_eq_true, if_false]

theorem r1_ok {μ : Mem} {m room : Int} (h : Bag μ 0) (h1 : 1 ≤ m) (h2 : m < 8) {s0 x2 x3 x4 x5 x6 x7 x8 x9 x10 x11 x12 x13 x14 x15 x16 x17 x18 : Option D} : ∃ n μ', evS F21 r1 [s0, some (.obj 0), x2, some (.lst (((K m).map (· + room)).map .int)), some (.int m), some (.int room), x6, x7, x8, x9, x10, x11, x12, x13, x14, x15, x16, x17, x18] μ = .ok (.nx [s0, some (.obj 0), x2, some (.lst (((K m).map (· + room)).map .int)), some (.int m), some (.int room), some (.int n), x7, x8, x9, x10, x11, x12, x13, x14, x15, x16, x17, x18]) μ' ∧ 1 ≤ n ∧ m + n ≤ 8 ∧ Bag μ' 0 := by
  obtain ⟨d1, μ1, e1, a1, a2, a3, a4⟩ := take14 h (many := 8 - m) (by omega) (by omega)
  refine ⟨1 + d1, μ1, ?_, by omega, by omega, a3⟩
  have e14 : F21 14 = f14 := rfl
  simp [r1, evSs, evS, evE, evEs, evBoV, evBoT, ofV, ofC, evX, evSeq, evSkip, evVar, evBin, evUn, evB, evT, evChain, evAnd, evOr, evNot, evAndT, evOrT, evNotT, evIf, evNil, evCons, evTup, evLst, evMl, evCall, evBlt, evBltM, evIs, evMth, evSl, evP, evNoP, evSrc, evSet, evPar, asgT_name, asgT_tup, asgTs_nil, asgTs_cons, evAug, evAugS, evSetIx, evYes, evD0, binG, cmpG, augG, Bl.f, Mt.f, Mt.ty, Cst.d, no1, e14, e1, addD, subD]
theorem r2_ok {μ : Mem} {m n room : Int} {s0 x2 x3 x4 x5 x6 x7 x8 x9 x10 x11 x12 x13 x14 x15 x16 x17 x18 : Option D} : ∃ far, evS F21 r2 [s0, some (.obj 0), x2, some (.lst (((K m).map (· + room)).map .int)), some (.int m), some (.int room), some (.int n), x7, x8, x9, x10, x11, x12, x13, x14, x15, x16, x17, x18] μ = .ok (.nx [s0, some (.obj 0), x2, some (.lst (((K m).map (· + room)).map .int)), some (.int m), some (.int room), some (.int n), some (.int far), x8, x9, x10, x11, x12, x13, x14, x15, x16, x17, x18]) μ ∧ far = if room < 0 then room + 20 else room - 20 := by
  refine ⟨if room < 0 then room + 20 else room - 20, ?_, rfl⟩
  by_cases h : room < 0 <;> simp [r2, evSs, evS, evE, evEs, evBoV, evBoT, ofV, ofC, evX, evSeq, evSkip, evVar, evBin, evUn, evB, evT, evChain, evAnd, evOr, evNot, evAndT, evOrT, evNotT, evIf, evNil, evCons, evTup, evLst, evMl, evCall, evBlt, evBltM, evIs, evMth, evSl, evP, evNoP, evSrc, evSet, evPar, asgT_name, asgT_tup, asgTs_nil, asgTs_cons, evAug, evAugS, evSetIx, evYes, evD0, binG, cmpG, augG, Bl.f, Mt.f, Mt.ty, Cst.d, no1, ltD, h, addD, subD]
/-- the far pair: what is needed of it -/
structure Far (m n room far : Int) where
  a : Int
  b : Int
  E : List Int
  O : Tab
  hE : E = sortI ((K m).map (· + room) ++ (K n).map (· + far))
  hO : O = sortP (leftP m room ((K m).map (· + room)) ++ leftP n far ((K n).map (· + far)))
  cfg : Cfg a b (sortP [(room, m), (far, n)]) (ones E) O
theorem mapmap (l : List Int) (a b : Int) : (l.map (· + a)).map (· + b) = l.map (· + (b + a)) := by
  rw [List.map_map]
  refine List.map_congr_left fun t _ => ?_
  show t + a + b = t + (b + a)
  omega
theorem far_of {m n room far : Int} (h1 : 1 ≤ m) (h2 : 1 ≤ n) (h3 : m + n ≤ 8) (h4 : -900 ≤ room) (h5 : room ≤ 899) (hf : far = if room < 0 then room + 20 else room - 20) : Nonempty (Far m n room far) := by
  obtain ⟨b1, b2, _⟩ := base2 h1 h2 h3
  by_cases h : room < 0
  · rw [if_pos h] at hf
    have c := okc_cfg (r := room) b1 (by omega) (by omega) (by omega)
    have e1 : shift room [(0, m), (20, n)] = sortP [(room, m), (far, n)] := by
      have : leP (room, m) (far, n) = true := leP_iff.mpr (by show room < far ∨ _; omega)
      have q : sortP [(room, m), (far, n)] = [(room, m), (far, n)] := by simp [sortP, insP, this]
      have z : (20 : Int) + room = far := by omega
      rw [q]
      show [(0 + room, m), (20 + room, n)] = _
      rw [Int.zero_add, z]
    have e2 : shift room (ones (sortI (K m ++ (K n).map (· + 20)))) = ones (sortI ((K m).map (· + room) ++ (K n).map (· + far))) := by
      rw [← ones_shift, ← sortI_shift, List.map_append, mapmap, hf]
    have e3 : shift room (sortP (leftP m 0 (K m) ++ leftP n 20 ((K n).map (· + 20)))) = sortP (leftP m room ((K m).map (· + room)) ++ leftP n far ((K n).map (· + far))) := by
      rw [← sortP_shift]
      have a1 : shift room (leftP m 0 (K m) ++ leftP n 20 ((K n).map (· + 20))) = shift room (leftP m 0 (K m)) ++ shift room (leftP n 20 ((K n).map (· + 20))) := by simp [shift]
      rw [a1, ← leftP_shift, ← leftP_shift, Int.zero_add, mapmap, hf]
      have : (20 : Int) + room = room + 20 := by omega
      rw [this]
    rw [e1, e2, e3] at c
    exact ⟨⟨_, _, _, _, rfl, rfl, c⟩⟩
  · rw [if_neg h] at hf
    have c := okc_cfg (r := room) b2 (by omega) (by omega) (by omega)
    have e1 : shift room [(-20, n), (0, m)] = sortP [(room, m), (far, n)] := by
      have : leP (room, m) (far, n) = false := by
        cases q : leP (room, m) (far, n) with
        | false => rfl
        | true =>
          have := leP_iff.mp q
          have z : room < far ∨ room = far ∧ m ≤ n := this
          omega
      have q : sortP [(room, m), (far, n)] = [(far, n), (room, m)] := by simp [sortP, insP, this]
      have z : (-20 : Int) + room = far := by omega
      rw [q]
      show [(-20 + room, n), (0 + room, m)] = _
      rw [Int.zero_add, z]
    have e2 : shift room (ones (sortI (K m ++ (K n).map (· + -20)))) = ones (sortI ((K m).map (· + room) ++ (K n).map (· + far))) := by
      rw [← ones_shift, ← sortI_shift, List.map_append, mapmap, hf, Int.sub_eq_add_neg]
    have e3 : shift room (sortP (leftP m 0 (K m) ++ leftP n (-20) ((K n).map (· + -20)))) = sortP (leftP m room ((K m).map (· + room)) ++ leftP n far ((K n).map (· + far))) := by
      rw [← sortP_shift]
      have a1 : shift room (leftP m 0 (K m) ++ leftP n (-20) ((K n).map (· + -20))) = shift room (leftP m 0 (K m)) ++ shift room (leftP n (-20) ((K n).map (· + -20))) := by simp [shift]
      rw [a1, ← leftP_shift, ← leftP_shift, Int.zero_add, mapmap, hf]
      have : (-20 : Int) + room = room - 20 := by omega
      rw [this, Int.sub_eq_add_neg]
    rw [e1, e2, e3] at c
    exact ⟨⟨_, _, _, _, rfl, rfl, c⟩⟩
theorem r3_ok {μ : Mem} {m n room far : Int} {s0 x2 x3 x4 x5 x6 x7 x8 x9 x10 x11 x12 x13 x14 x15 x16 x17 x18 : Option D} : evS F21 r3 [s0, some (.obj 0), x2, some (.lst (((K m).map (· + room)).map .int)), some (.int m), some (.int room), some (.int n), some (.int far), x8, x9, x10, x11, x12, x13, x14, x15, x16, x17, x18] μ = .ok (.nx [s0, some (.obj 0), x2, some (.lst (((K m).map (· + room)).map .int)), some (.int m), some (.int room), some (.int n), some (.int far), some (encS (sortP [(room, m), (far, n)])), x9, x10, x11, x12, x13, x14, x15, x16, x17, x18]) μ := by
  have p := pairsOf_map [(room, m), (far, n)]
  have i : intsOf [D.tup [.int room, .int m], D.tup [.int far, .int n]] = none := rfl
  simp only [List.map_cons, List.map_nil, M.pairD] at p
  simp [r3, evSs, evS, evE, evEs, evBoV, evBoT, ofV, ofC, evX, evSeq, evSkip, evVar, evBin, evUn, evB, evT, evChain, evAnd, evOr, evNot, evAndT, evOrT, evNotT, evIf, evNil, evCons, evTup, evLst, evMl, evCall, evBlt, evBltM, evIs, evMth, evSl, evP, evNoP, evSrc, evSet, evPar, asgT_name, asgT_tup, asgTs_nil, asgTs_cons, evAug, evAugS, evSetIx, evYes, evD0, binG, cmpG, augG, Bl.f, Mt.f, Mt.ty, Cst.d, no1, sortedD, M.seqL, i, p, tupleD]
theorem sort_ints_ok (l : List Int) (μ : Mem) : sortedD [.lst (l.map .int)] μ = some (.lst ((sortI l).map .int)) := by simp [sortedD, M.seqL, intsOf_map]
theorem add_ints_ok (l m : List Int) (μ : Mem) (h : l.length + m.length ≤ 16777216) : addD (.lst (l.map .int)) (.lst (m.map .int)) μ = some (.lst ((l ++ m).map .int)) := by
  simp [addD, M.seqL, line_le h]
theorem r4_ok {μ : Mem} {m n room far : Int} (h1 : 1 ≤ m) (h2 : 1 ≤ n) (h3 : m + n ≤ 8) {s0 x2 x3 x4 x5 x6 x7 x8 x9 x10 x11 x12 x13 x14 x15 x16 x17 x18 : Option D} : evS F21 r4 [s0, some (.obj 0), x2, some (.lst (((K m).map (· + room)).map .int)), some (.int m), some (.int room), some (.int n), some (.int far), some (encS (sortP [(room, m), (far, n)])), x9, x10, x11, x12, x13, x14, x15, x16, x17, x18] μ = .ok (.nx [s0, some (.obj 0), x2, some (.lst (((K m).map (· + room)).map .int)), some (.int m), some (.int room), some (.int n), some (.int far), some (encS (sortP [(room, m), (far, n)])), some (.lst ((sortI ((K m).map (· + room) ++ (K n).map (· + far))).map .int)), x10, x11, x12, x13, x14, x15, x16, x17, x18]) μ := by
  have e19 : F21 19 = f19 := rfl
  have k := f19_ok (many := n) (room := far) h2 (by omega) μ
  rw [Kshift] at k
  have l1 := Klen h1 (by omega)
  have l2 := Klen h2 (by omega)
  have a := add_ints_ok ((K m).map (· + room)) ((K n).map (· + far)) μ (by simp; omega)
  simp only [r4, evSs, evS, evE, evEs, evBoV, evBoT, ofV, ofC, evX, evSeq, evSkip, evVar, evBin, evUn, evB, evT, evChain, evAnd, evOr, evNot, evAndT, evOrT, evNotT, evIf, evNil, evCons, evTup, evLst, evMl, evCall, evBlt, evBltM, evIs, evMth, evSl, evP, evNoP, evSrc, evSet, evPar, asgT_name, asgT_tup, asgTs_nil, asgTs_cons, evAug, evAugS, evSetIx, evYes, evD0, binG, cmpG, augG, Bl.f, Mt.f, Mt.ty, Cst.d, no1, e19, List.getElem?_cons_succ, List.getElem?_cons_zero, Out.bind_ok, k, a, ofO_some, sort_ints_ok]
  rfl
end T
namespace T
open M B PySem PySem.Spec PyProof.Rows L2
theorem sort_pairs_ok (s : Tab) (μ : Mem) : sortedD [encS s] μ = some (.lst ((sortP s).map M.pairD)) := by
  cases s with
  | nil => simp [sortedD, intsOf, sortI, sortP]
  | cons p s =>
    have i : intsOf (M.pairD p :: s.map M.pairD) = none := rfl
    have q := pairsOf_map (p :: s)
    rw [List.map_cons] at q
    simp [sortedD, i, q]
theorem add_tups_ok (s t : Tab) (μ : Mem) (h : s.length + t.length ≤ 16777216) : addD (encS s) (encS t) μ = some (encS (s ++ t)) := by
  simp [addD, line_le h]
theorem left_len {m r : Int} {L : List Int} : (leftP m r L).length ≤ 17 := by
  have gen : ∀ l : List Int, (l.flatMap (leftOne m r L)).length ≤ l.length := fun l => by
    induction l with
    | nil => simp
    | cons a l ih =>
      have : (leftOne m r L a).length ≤ 1 := by unfold leftOne; split <;> simp
      simp only [List.flatMap_cons, List.length_append, List.length_cons]
      omega
  have e : (rangeI (r - 8) 17).length = 17 := by simp [rangeI]
  have := gen (rangeI (r - 8) 17)
  rw [e] at this
  exact this
theorem r5_ok {μ : Mem} {m n room far : Int} (h1 : 1 ≤ m) (h2 : 1 ≤ n) (h3 : m + n ≤ 8) (h4 : -900 ≤ room) (h5 : room ≤ 899) (hf : far = if room < 0 then room + 20 else room - 20) {s0 x2 x3 x4 x5 x6 x7 x8 x9 x10 x11 x12 x13 x14 x15 x16 x17 x18 : Option D} : evS F21 r5 [s0, some (.obj 0), x2, some (.lst (((K m).map (· + room)).map .int)), some (.int m), some (.int room), some (.int n), some (.int far), some (encS (sortP [(room, m), (far, n)])), some (.lst ((sortI ((K m).map (· + room) ++ (K n).map (· + far))).map .int)), x10, x11, x12, x13, x14, x15, x16, x17, x18] μ = .ok (.nx [s0, some (.obj 0), x2, some (.lst (((K m).map (· + room)).map .int)), some (.int m), some (.int room), some (.int n), some (.int far), some (encS (sortP [(room, m), (far, n)])), some (.lst ((sortI ((K m).map (· + room) ++ (K n).map (· + far))).map .int)), x10, x11, x12, x13, x14, x15, x16, x17, x18]) μ := by
  obtain ⟨a, b, E, O, hE, hO, g⟩ := far_of h1 h2 h3 h4 h5 hf
  have hf1 : -2000 ≤ far := by rw [hf]; split <;> omega
  have hf2 : far ≤ 2000 := by rw [hf]; split <;> omega
  have e11 : F21 11 = f11 := rfl
  have e12 : F21 12 = f12 := rfl
  have e19 : F21 19 = f19 := rfl
  have e20 : F21 20 = f20 := rfl
  have k1 := f11_ok g μ
  have k2 := f12_ok g μ
  have k3 := f20_ok (many := m) (room := room) (L := (K m).map (· + room)) h1 (by omega) (by omega) (by omega) (Kmlen h1 (by omega)) μ
  have k3' := f20_ok (many := n) (room := far) (L := (K n).map (· + far)) h2 (by omega) (by omega) (by omega) (Kmlen h2 (by omega)) μ
  have k := f19_ok (many := n) (room := far) h2 (by omega) μ
  rw [Kshift] at k
  have l1 := Klen h1 (by omega)
  have l2 := Klen h2 (by omega)
  have k4 := ones_ok (δ := [s0, some (.obj 0), x2, some (.lst (((K m).map (· + room)).map .int)), some (.int m), some (.int room), some (.int n), some (.int far), some (encS (sortP [(room, m), (far, n)])), some (.lst ((sortI ((K m).map (· + room) ++ (K n).map (· + far))).map .int)), x10, x11, x12, x13, x14, x15, x16, x17, x18]) (μ := μ) (i := 9) (l := sortI ((K m).map (· + room) ++ (K n).map (· + far))) rfl (by simp) (by rw [(sortI_perm _).length_eq]; simp; omega)
  have k5 := ne_enc (ones E) (ones E) μ
  have k6 := ne_enc O O μ
  have k7 := ones_enc (sortI ((K m).map (· + room) ++ (K n).map (· + far)))
  have k8 := add_tups_ok (leftP m room ((K m).map (· + room))) (leftP n far ((K n).map (· + far))) μ (by have := left_len (m := m) (r := room) (L := (K m).map (· + room)); have := left_len (m := n) (r := far) (L := (K n).map (· + far)); omega)
  have k9 := sort_pairs_ok (leftP m room ((K m).map (· + room)) ++ leftP n far ((K n).map (· + far))) μ
  rw [← hO] at k9
  rw [← hE] at k7 k4 ⊢
  simp only [r5, evSs, evS, evE, evEs, evBoV, evBoT, ofV, ofC, evX, evSeq, evSkip, evVar, evBin, evUn, evB, evT, evChain, evAnd, evOr, evNot, evAndT, evOrT, evNotT, evIf, evNil, evCons, evTup, evLst, evMl, evCall, evBlt, evBltM, evIs, evMth, evSl, evP, evNoP, evSrc, evSet, evPar, asgT_name, asgT_tup, asgTs_nil, asgTs_cons, evAug, evAugS, evSetIx, evYes, evD0, binG, cmpG, augG, Bl.f, Mt.f, Mt.ty, Cst.d, no1, e11, e12, e19, e20, List.getElem?_cons_succ, List.getElem?_cons_zero, Out.bind_ok, k1, k2, k3, k3', k, k4, tupleD, M.seqL, Option.map_some, ofO_some, k7, k5, k6, k8, k9, ne_eq, not_true_eq_false, decide_false, Bool.false_eq_true, if_false]
theorem r6_ok {μ : Mem} {m n room far : Int} {s0 x2 x3 x4 x5 x6 x7 x8 x9 x10 x11 x12 x13 x14 x15 x16 x17 x18 : Option D} : evS F21 r6 [s0, some (.obj 0), x2, some (.lst (((K m).map (· + room)).map .int)), some (.int m), some (.int room), some (.int n), some (.int far), some (encS (sortP [(room, m), (far, n)])), some (.lst ((sortI ((K m).map (· + room) ++ (K n).map (· + far))).map .int)), x10, x11, x12, x13, x14, x15, x16, x17, x18] μ = .ok (.nx [s0, some (.obj 0), x2, some (.lst (((K m).map (· + room)).map .int)), some (.int m), some (.int room), some (.int n), some (.int far), some (encS (sortP [(room, m), (far, n)])), some (.lst ((sortI ((K m).map (· + room) ++ (K n).map (· + far))).map .int)), some (encS [(room, m), (room + 1, n)]), x11, x12, x13, x14, x15, x16, x17, x18]) μ := by
  have k := sort_pairs_ok [(room, m), (room + 1, n)] μ
  have p := pairsOf_map [(room, m), (room + 1, n)]
  have i : intsOf [D.tup [.int room, .int m], D.tup [.int (room + 1), .int n]] = none := rfl
  simp only [List.map_cons, List.map_nil, M.pairD] at p
  have this : leP (room, m) (room + 1, n) = true := leP_iff.mpr (by show room < room + 1 ∨ _; omega)
  simp [r6, evSs, evS, evE, evEs, evBoV, evBoT, ofV, ofC, evX, evSeq, evSkip, evVar, evBin, evUn, evB, evT, evChain, evAnd, evOr, evNot, evAndT, evOrT, evNotT, evIf, evNil, evCons, evTup, evLst, evMl, evCall, evBlt, evBltM, evIs, evMth, evSl, evP, evNoP, evSrc, evSet, evPar, asgT_name, asgT_tup, asgTs_nil, asgTs_cons, evAug, evAugS, evSetIx, evYes, evD0, binG, cmpG, augG, Bl.f, Mt.f, Mt.ty, Cst.d, no1, sortedD, M.seqL, i, p, tupleD, addD, sortP, insP, this, M.pairD]
theorem near_of {m n room : Int} (h1 : 1 ≤ m) (h2 : 1 ≤ n) (h3 : m + n ≤ 8) (h4 : -900 ≤ room) (h5 : room ≤ 899) : Cfg (-9 + room) (10 + room) [(room, m), (room + 1, n)] (shift room (E3 m n)) (shift room (O3 m n)) ∧ ∀ q ∈ O3 m n, ((E3 m n).map fun e => ab (e.1 - q.1)).sum - m * ab (0 - q.1) - n * ab (1 - q.1) = 2 * q.2 := by
  obtain ⟨_, _, b3⟩ := base2 h1 h2 h3
  unfold okN at b3
  rw [Bool.and_eq_true] at b3
  refine ⟨?_, fun q hq => of_decide_eq_true (List.all_eq_true.mp b3.2 q hq)⟩
  have c := okc_cfg (r := room) b3.1 (by omega) (by omega) (by omega)
  have e : shift room (sn m n) = [(room, m), (room + 1, n)] := by
    show [(0 + room, m), (1 + room, n)] = _
    rw [Int.zero_add, Int.add_comm]
  rwa [e] at c
theorem r7_ok {μ : Mem} (h : Bag μ 0) {m n room far : Int} (h1 : 1 ≤ m) (h2 : 1 ≤ n) (h3 : m + n ≤ 8) (h4 : -900 ≤ room) (h5 : room ≤ 899) {s0 x2 x3 x4 x5 x6 x7 x8 x9 x10 x11 x12 x13 x14 x15 x16 x17 x18 : Option D} : ∃ rr μ', evS F21 r7 [s0, some (.obj 0), x2, some (.lst (((K m).map (· + room)).map .int)), some (.int m), some (.int room), some (.int n), some (.int far), some (encS (sortP [(room, m), (far, n)])), some (.lst ((sortI ((K m).map (· + room) ++ (K n).map (· + far))).map .int)), some (encS [(room, m), (room + 1, n)]), x11, x12, x13, x14, x15, x16, x17, x18] μ = .ok (.nx [s0, some (.obj 0), x2, some (.lst (((K m).map (· + room)).map .int)), some (.int m), some (.int room), some (.int n), some (.int far), some (encS (sortP [(room, m), (far, n)])), some (.lst ((sortI ((K m).map (· + room) ++ (K n).map (· + far))).map .int)), some (encS [(room, m), (room + 1, n)]), some (encS (shift room (E3 m n))), some (encS (shift room (O3 m n))), some rr, x14, x15, x16, x17, x18]) μ' ∧ Bag μ' 0 := by
  obtain ⟨rr, μ', e, k⟩ := f18_ok (near_of h1 h2 h3 h4 h5).1 h
  refine ⟨rr, μ', ?_, k.bag⟩
  have e18 : F21 18 = f18 := rfl
  simp only [r7, evSs, evS, evE, evEs, evBoV, evBoT, ofV, ofC, evX, evSeq, evSkip, evVar, evBin, evUn, evB, evT, evChain, evAnd, evOr, evNot, evAndT, evOrT, evNotT, evIf, evNil, evCons, evTup, evLst, evMl, evCall, evBlt, evBltM, evIs, evMth, evSl, evP, evNoP, evSrc, evSet, evPar, asgT_name, asgT_tup, asgTs_nil, asgTs_cons, evAug, evAugS, evSetIx, evYes, evD0, binG, cmpG, augG, Bl.f, Mt.f, Mt.ty, Cst.d, no1, e18, List.getElem?_cons_succ, List.getElem?_cons_zero, Out.bind_ok, e]
  rfl
theorem r8_ok {μ : Mem} {m n room far : Int} (h1 : 1 ≤ m) (h2 : 1 ≤ n) (h3 : m + n ≤ 8) (h4 : -900 ≤ room) (h5 : room ≤ 899) {rr : D} {s0 x2 x3 x4 x5 x6 x7 x8 x9 x10 x11 x12 x13 x14 x15 x16 x17 x18 : Option D} : evS F21 r8 [s0, some (.obj 0), x2, some (.lst (((K m).map (· + room)).map .int)), some (.int m), some (.int room), some (.int n), some (.int far), some (encS (sortP [(room, m), (far, n)])), some (.lst ((sortI ((K m).map (· + room) ++ (K n).map (· + far))).map .int)), some (encS [(room, m), (room + 1, n)]), some (encS (shift room (E3 m n))), some (encS (shift room (O3 m n))), some rr, x14, x15, x16, x17, x18] μ = .ok (.nx [s0, some (.obj 0), x2, some (.lst (((K m).map (· + room)).map .int)), some (.int m), some (.int room), some (.int n), some (.int far), some (encS (sortP [(room, m), (far, n)])), some (.lst ((sortI ((K m).map (· + room) ++ (K n).map (· + far))).map .int)), some (encS [(room, m), (room + 1, n)]), some (encS (shift room (E3 m n))), some (encS (shift room (O3 m n))), some rr, x14, x15, x16, x17, x18]) μ := by
  have g := (near_of h1 h2 h3 h4 h5).1
  have e11 : F21 11 = f11 := rfl
  have e12 : F21 12 = f12 := rfl
  have k1 := f11_ok g μ
  have k2 := f12_ok g μ
  have k5 := ne_enc (shift room (E3 m n)) (shift room (E3 m n)) μ
  have k6 := ne_enc (shift room (O3 m n)) (shift room (O3 m n)) μ
  simp only [r8, evSs, evS, evE, evEs, evBoV, evBoT, ofV, ofC, evX, evSeq, evSkip, evVar, evBin, evUn, evB, evT, evChain, evAnd, evOr, evNot, evAndT, evOrT, evNotT, evIf, evNil, evCons, evTup, evLst, evMl, evCall, evBlt, evBltM, evIs, evMth, evSl, evP, evNoP, evSrc, evSet, evPar, asgT_name, asgT_tup, asgTs_nil, asgTs_cons, evAug, evAugS, evSetIx, evYes, evD0, binG, cmpG, augG, Bl.f, Mt.f, Mt.ty, Cst.d, no1, e11, e12, List.getElem?_cons_succ, List.getElem?_cons_zero, Out.bind_ok, k1, k2, ofO_some, k5, k6, ne_eq, not_true_eq_false, decide_false, Bool.false_eq_true, if_false]
theorem body9_ok {μ : Mem} {m n room p q : Int} (h1 : 1 ≤ m) (h2 : 1 ≤ n) (h3 : m + n ≤ 8) (hE : (shift room (E3 m n)).length ≤ 1000) (hg : ((shift room (E3 m n)).map fun e => ab (e.1 - p)).sum - m * ab (room - p) - n * ab (room + 1 - p) = 2 * q) {x0 x1 x2 x3 x7 x8 x9 x10 x12 x13 x16 x17 x18 : Option D} : evSs F21 body9 [x0, x1, x2, x3, some (.int m), some (.int room), some (.int n), x7, x8, x9, x10, some (encS (shift room (E3 m n))), x12, x13, some (.int p), some (.int q), x16, x17, x18] μ = .ok (.nx [x0, x1, x2, x3, some (.int m), some (.int room), some (.int n), x7, x8, x9, x10, some (encS (shift room (E3 m n))), x12, x13, some (.int p), some (.int q), some (.int (2 * q)), x17, x18]) μ := by
  have k := evLc_all (gd := []) (src := evSrc (evVar 11)) (t := .tup [.name 17, .name 18]) (fe := evBlt absD (evCons (evBin subD (evVar 17) (evVar 14)) evNil)) (own := [17, 18]) (δ := [x0, x1, x2, x3, some (.int m), some (.int room), some (.int n), x7, x8, x9, x10, some (encS (shift room (E3 m n))), x12, x13, some (.int p), some (.int q), x16, x17, x18]) (μ := μ) (μ1 := μ) (shift room (E3 m n)) M.pairD (fun e => .int (ab (e.1 - p)))
    (by simp [evSs, evS, evE, evEs, evBoV, evBoT, ofV, ofC, evX, evSeq, evSkip, evVar, evBin, evUn, evB, evT, evChain, evAnd, evOr, evNot, evAndT, evOrT, evNotT, evIf, evNil, evCons, evTup, evLst, evMl, evCall, evBlt, evBltM, evIs, evMth, evSl, evP, evNoP, evSrc, evSet, evPar, asgT_name, asgT_tup, asgTs_nil, asgTs_cons, evAug, evAugS, evSetIx, evYes, evD0, binG, cmpG, augG, Bl.f, Mt.f, Mt.ty, Cst.d, no1, srcOf]) rfl (by omega) fun t ht => ⟨_, rfl, by simp [evSs, evS, evE, evEs, evBoV, evBoT, ofV, ofC, evX, evSeq, evSkip, evVar, evBin, evUn, evB, evT, evChain, evAnd, evOr, evNot, evAndT, evOrT, evNotT, evIf, evNil, evCons, evTup, evLst, evMl, evCall, evBlt, evBltM, evIs, evMth, evSl, evP, evNoP, evSrc, evSet, evPar, asgT_name, asgT_tup, asgTs_nil, asgTs_cons, evAug, evAugS, evSetIx, evYes, evD0, binG, cmpG, augG, Bl.f, Mt.f, Mt.ty, Cst.d, no1, wipeD, subD, absD, ab]⟩
  have e1 := ints_map (fun e : Int × Int => ab (e.1 - p)) (shift room (E3 m n))
  have m1 : ∀ z : Int, mulOk m z = true := fun z => by simp [mulOk]; omega
  have m2 : ∀ z : Int, mulOk n z = true := fun z => by simp [mulOk]; omega
  have m3 : ∀ z : Int, mulOk 2 z = true := fun z => by simp [mulOk]
  have a1 : ∀ z : Int, (if z < 0 then -z else z) = ab z := fun _ => rfl
  simp [body9, evSs, evS, evE, evEs, evBoV, evBoT, ofV, ofC, evX, evSeq, evSkip, evVar, evBin, evUn, evB, evT, evChain, evAnd, evOr, evNot, evAndT, evOrT, evNotT, evIf, evNil, evCons, evTup, evLst, evMl, evCall, evBlt, evBltM, evIs, evMth, evSl, evP, evNoP, evSrc, evSet, evPar, asgT_name, asgT_tup, asgTs_nil, asgTs_cons, evAug, evAugS, evSetIx, evYes, evD0, binG, cmpG, augG, Bl.f, Mt.f, Mt.ty, Cst.d, no1, k, sumD, on1, M.seqL, e1, subD, absD, mulD, m1, m2, m3, a1, hg, addD]
theorem r9_ok {μ : Mem} {m n room far : Int} (h1 : 1 ≤ m) (h2 : 1 ≤ n) (h3 : m + n ≤ 8) (h4 : -900 ≤ room) (h5 : room ≤ 899) {rr : D} {s0 x2 x3 x4 x5 x6 x7 x8 x9 x10 x11 x12 x13 x14 x15 x16 x17 x18 : Option D} : ∃ y14 y15 y16 : Option D, evS F21 r9 [s0, some (.obj 0), x2, some (.lst (((K m).map (· + room)).map .int)), some (.int m), some (.int room), some (.int n), some (.int far), some (encS (sortP [(room, m), (far, n)])), some (.lst ((sortI ((K m).map (· + room) ++ (K n).map (· + far))).map .int)), some (encS [(room, m), (room + 1, n)]), some (encS (shift room (E3 m n))), some (encS (shift room (O3 m n))), some rr, x14, x15, x16, x17, x18] μ = .ok (.nx [s0, some (.obj 0), x2, some (.lst (((K m).map (· + room)).map .int)), some (.int m), some (.int room), some (.int n), some (.int far), some (encS (sortP [(room, m), (far, n)])), some (.lst ((sortI ((K m).map (· + room) ++ (K n).map (· + far))).map .int)), some (encS [(room, m), (room + 1, n)]), some (encS (shift room (E3 m n))), some (encS (shift room (O3 m n))), some rr, y14, y15, y16, x17, x18]) μ := by
  obtain ⟨g, hq⟩ := near_of h1 h2 h3 h4 h5
  have le : (shift room (E3 m n)).length ≤ 1000 := by
    have : (shift room (E3 m n)).length < 1000 := by
      obtain ⟨t, A, al, hf, _⟩ := while10 g
      obtain ⟨z1, z2⟩ := al.done g (fulls_nil hf)
      have := few_keys al.kn g.wide al.ins
      rw [← told_end al.kn g.rep z1]
      unfold told
      rw [List.length_map]
      refine Nat.lt_of_le_of_lt (List.length_filter_le ..) ?_
      rw [keys_len]; omega
    omega
  have lo : (O3 m n).length ≤ 16777216 := by
    have := few_keys (A := shift room (O3 m n)) (a := -9 + room) (b := 10 + room) ?_ g.wide ?_
    · simp [shift] at this; omega
    · obtain ⟨S, _, _, _, _, _, h6⟩ := g.way
      rw [h6]; exact ss_nodup (allT_rep S).1.so
    · obtain ⟨S, _, _, _, k4, _, h6⟩ := g.way
      rw [h6]
      intro k hk
      have : k ∈ S := by
        obtain ⟨p, hp, rfl⟩ := List.mem_map.mp hk
        obtain ⟨y, hy, rfl⟩ := List.mem_map.mp hp
        rcases cnt_keys y (sorted_mem hy) with z | z
        · simp at z
        · exact z
      have := k4 k this; omega
  show ∃ y14 y15 y16 : Option D, evForS (evSrc (evVar 12)) (.tup [.name 14, .name 15]) (evSs F21 body9) [s0, some (.obj 0), x2, some (.lst (((K m).map (· + room)).map .int)), some (.int m), some (.int room), some (.int n), some (.int far), some (encS (sortP [(room, m), (far, n)])), some (.lst ((sortI ((K m).map (· + room) ++ (K n).map (· + far))).map .int)), some (encS [(room, m), (room + 1, n)]), some (encS (shift room (E3 m n))), some (encS (shift room (O3 m n))), some rr, x14, x15, x16, x17, x18] μ = _
  refine forS_inv (gd := []) (μ1 := μ) (shift room (O3 m n)) M.pairD (fun o => ∃ y14 y15 y16 : Option D, o = .ok (.nx [s0, some (.obj 0), x2, some (.lst (((K m).map (· + room)).map .int)), some (.int m), some (.int room), some (.int n), some (.int far), some (encS (sortP [(room, m), (far, n)])), some (.lst ((sortI ((K m).map (· + room) ++ (K n).map (· + far))).map .int)), some (encS [(room, m), (room + 1, n)]), some (encS (shift room (E3 m n))), some (encS (shift room (O3 m n))), some rr, y14, y15, y16, x17, x18]) μ) (fun rest δ μ' => (∀ e ∈ rest, e ∈ shift room (O3 m n)) ∧ (∃ y14 y15 y16 : Option D, δ = [s0, some (.obj 0), x2, some (.lst (((K m).map (· + room)).map .int)), some (.int m), some (.int room), some (.int n), some (.int far), some (encS (sortP [(room, m), (far, n)])), some (.lst ((sortI ((K m).map (· + room) ++ (K n).map (· + far))).map .int)), some (encS [(room, m), (room + 1, n)]), some (encS (shift room (E3 m n))), some (encS (shift room (O3 m n))), some rr, y14, y15, y16, x17, x18]) ∧ μ' = μ)
    (by simp [evSs, evS, evE, evEs, evBoV, evBoT, ofV, ofC, evX, evSeq, evSkip, evVar, evBin, evUn, evB, evT, evChain, evAnd, evOr, evNot, evAndT, evOrT, evNotT, evIf, evNil, evCons, evTup, evLst, evMl, evCall, evBlt, evBltM, evIs, evMth, evSl, evP, evNoP, evSrc, evSet, evPar, asgT_name, asgT_tup, asgTs_nil, asgTs_cons, evAug, evAugS, evSetIx, evYes, evD0, binG, cmpG, augG, Bl.f, Mt.f, Mt.ty, Cst.d, no1, srcOf]) ⟨fun e h => h, ⟨x14, x15, x16, rfl⟩, rfl⟩ ?_ ?_
  · rintro ⟨p, q⟩ rest δ μ' ⟨hr, ⟨y14, y15, y16, rfl⟩, rfl⟩
    have hm := hr (p, q) (List.mem_cons_self ..)
    obtain ⟨e, he, z⟩ := List.mem_map.mp hm
    have z1 : e.1 + room = p := congrArg Prod.fst z
    have z2 : e.2 = q := congrArg Prod.snd z
    have hg : ((shift room (E3 m n)).map fun e => ab (e.1 - p)).sum - m * ab (room - p) - n * ab (room + 1 - p) = 2 * q := by
      have := hq e he
      have c1 : ((shift room (E3 m n)).map fun e => ab (e.1 - p)) = (E3 m n).map fun e' => ab (e'.1 - e.1) := by
        unfold shift
        rw [List.map_map]
        refine List.map_congr_left fun e' _ => ?_
        show ab (e'.1 + room - p) = ab (e'.1 - e.1)
        congr 1; omega
      have c2 : room - p = 0 - e.1 := by omega
      have c3 : room + 1 - p = 1 - e.1 := by omega
      rw [c1, c2, c3, ← z2]; exact this
    refine ⟨rfl, _, rfl, .inl ⟨_, _, .inl (body9_ok (p := p) (q := q) h1 h2 h3 le hg), fun e he => hr e (List.mem_cons_of_mem _ he), ⟨some (.int p), some (.int q), some (.int (2 * q)), rfl⟩, rfl⟩⟩
  · rintro δ μ' ⟨_, ⟨y14, y15, y16, rfl⟩, rfl⟩
    exact ⟨rfl, y14, y15, y16, rfl⟩
end T
namespace T
open M B PySem PySem.Spec PyProof.Rows L2
def Lv (δ : Sg) : Prop := ∃ s0 y2 y3 y4 y5 y6 y7 y8 y9 y10 y11 y12 y13 y14 y15 y16 y17 y18 : Option D, δ = [s0, some (.obj 0), y2, y3, y4, y5, y6, y7, y8, y9, y10, y11, y12, y13, y14, y15, y16, y17, y18]
theorem lap_ok {μ : Mem} (h : Bag μ 0) {δ : Sg} (hd : Lv δ) : ∃ δ' μ', evSs F21 lap21 δ μ = .ok (.nx δ') μ' ∧ Lv δ' ∧ Bag μ' 0 := by
  obtain ⟨s0, y2, y3, y4, y5, y6, y7, y8, y9, y10, y11, y12, y13, y14, y15, y16, y17, y18, rfl⟩ := hd
  obtain ⟨m, room, μ1, e1, h1, h2, h3, h4, b1⟩ := q1_ok h (s0 := s0) (x2 := y2) (x3 := y3) (x4 := y4) (x5 := y5) (r := [y6, y7, y8, y9, y10, y11, y12, y13, y14, y15, y16, y17, y18])
  have e2 := q2_ok (μ := μ1) h1 h2 (s0 := s0) (s1 := some (.obj 0)) (x2 := y2) (x3 := y3) (room := room) (r := [y6, y7, y8, y9, y10, y11, y12, y13, y14, y15, y16, y17, y18])
  have e3 := q3_ok (μ := μ1) h1 h2 h3 h4 (s0 := s0) (x2 := y2) (x3 := y3) (x4 := y4) (x5 := y5) (x6 := y6) (x7 := y7) (x8 := y8) (x9 := y9) (x10 := y10) (x11 := y11) (x12 := y12) (x13 := y13) (x14 := y14) (x15 := y15) (x16 := y16) (x17 := y17) (x18 := y18)
  by_cases h8 : m < 8
  · obtain ⟨n, μ2, e4, n1, n2, b2⟩ := r1_ok (μ := μ1) (room := room) b1 h1 h8 (s0 := s0) (x2 := y2) (x3 := y3) (x4 := y4) (x5 := y5) (x6 := y6) (x7 := y7) (x8 := y8) (x9 := y9) (x10 := y10) (x11 := y11) (x12 := y12) (x13 := y13) (x14 := y14) (x15 := y15) (x16 := y16) (x17 := y17) (x18 := y18)
    obtain ⟨far, e5, hf⟩ := r2_ok (μ := μ2) (m := m) (n := n) (room := room) (s0 := s0) (x2 := y2) (x3 := y3) (x4 := y4) (x5 := y5) (x6 := y6) (x7 := y7) (x8 := y8) (x9 := y9) (x10 := y10) (x11 := y11) (x12 := y12) (x13 := y13) (x14 := y14) (x15 := y15) (x16 := y16) (x17 := y17) (x18 := y18)
    have e6 := r3_ok (μ := μ2) (m := m) (n := n) (room := room) (far := far) (s0 := s0) (x2 := y2) (x3 := y3) (x4 := y4) (x5 := y5) (x6 := y6) (x7 := y7) (x8 := y8) (x9 := y9) (x10 := y10) (x11 := y11) (x12 := y12) (x13 := y13) (x14 := y14) (x15 := y15) (x16 := y16) (x17 := y17) (x18 := y18)
    have e7 := r4_ok (μ := μ2) (room := room) (far := far) h1 n1 n2 (s0 := s0) (x2 := y2) (x3 := y3) (x4 := y4) (x5 := y5) (x6 := y6) (x7 := y7) (x8 := y8) (x9 := y9) (x10 := y10) (x11 := y11) (x12 := y12) (x13 := y13) (x14 := y14) (x15 := y15) (x16 := y16) (x17 := y17) (x18 := y18)
    have e8 := r5_ok (μ := μ2) h1 n1 n2 h3 h4 hf (s0 := s0) (x2 := y2) (x3 := y3) (x4 := y4) (x5 := y5) (x6 := y6) (x7 := y7) (x8 := y8) (x9 := y9) (x10 := y10) (x11 := y11) (x12 := y12) (x13 := y13) (x14 := y14) (x15 := y15) (x16 := y16) (x17 := y17) (x18 := y18)
    have e9 := r6_ok (μ := μ2) (m := m) (n := n) (room := room) (far := far) (s0 := s0) (x2 := y2) (x3 := y3) (x4 := y4) (x5 := y5) (x6 := y6) (x7 := y7) (x8 := y8) (x9 := y9) (x10 := y10) (x11 := y11) (x12 := y12) (x13 := y13) (x14 := y14) (x15 := y15) (x16 := y16) (x17 := y17) (x18 := y18)
    obtain ⟨rr, μ3, e10, b3⟩ := r7_ok (μ := μ2) b2 (far := far) h1 n1 n2 h3 h4 (s0 := s0) (x2 := y2) (x3 := y3) (x4 := y4) (x5 := y5) (x6 := y6) (x7 := y7) (x8 := y8) (x9 := y9) (x10 := y10) (x11 := y11) (x12 := y12) (x13 := y13) (x14 := y14) (x15 := y15) (x16 := y16) (x17 := y17) (x18 := y18)
    have e11 := r8_ok (μ := μ3) (far := far) (rr := rr) h1 n1 n2 h3 h4 (s0 := s0) (x2 := y2) (x3 := y3) (x4 := y4) (x5 := y5) (x6 := y6) (x7 := y7) (x8 := y8) (x9 := y9) (x10 := y10) (x11 := y11) (x12 := y12) (x13 := y13) (x14 := y14) (x15 := y15) (x16 := y16) (x17 := y17) (x18 := y18)
    obtain ⟨z14, z15, z16, e12⟩ := r9_ok (μ := μ3) (far := far) (rr := rr) h1 n1 n2 h3 h4 (s0 := s0) (x2 := y2) (x3 := y3) (x4 := y4) (x5 := y5) (x6 := y6) (x7 := y7) (x8 := y8) (x9 := y9) (x10 := y10) (x11 := y11) (x12 := y12) (x13 := y13) (x14 := y14) (x15 := y15) (x16 := y16) (x17 := y17) (x18 := y18)
    have fin : evSs F21 lap21 [s0, some (.obj 0), y2, y3, y4, y5, y6, y7, y8, y9, y10, y11, y12, y13, y14, y15, y16, y17, y18] μ = .ok (.nx [s0, some (.obj 0), y2, some (.lst (((K m).map (· + room)).map .int)), some (.int m), some (.int room), some (.int n), some (.int far), some (encS (sortP [(room, m), (far, n)])), some (.lst ((sortI ((K m).map (· + room) ++ (K n).map (· + far))).map .int)), some (encS [(room, m), (room + 1, n)]), some (encS (shift room (E3 m n))), some (encS (shift room (O3 m n))), some rr, z14, z15, z16, y17, y18]) μ3 := by
      simp only [lap21, evSs, evSeq, e1, e2, e3]
      simp only [evS, evX, evE, evEs, ofC, ofV, evBin, evVar, evB, cmpG, ltD, ofO_some, Out.bind_ok, Cst.d, List.getElem?_cons_succ, List.getElem?_cons_zero, h8, decide_true, if_true]
      simp only [evSs, evSeq, e4, e5, e6, e7, e8, e9, e10, e11, e12, evSkip]
    exact ⟨_, μ3, fin, ⟨_, _, _, _, _, _, _, _, _, _, _, _, _, _, _, _, _, _, rfl⟩, b3⟩
  · have fin : evSs F21 lap21 [s0, some (.obj 0), y2, y3, y4, y5, y6, y7, y8, y9, y10, y11, y12, y13, y14, y15, y16, y17, y18] μ = .ok (.nx [s0, some (.obj 0), y2, some (.lst (((K m).map (· + room)).map .int)), some (.int m), some (.int room), y6, y7, y8, y9, y10, y11, y12, y13, y14, y15, y16, y17, y18]) μ1 := by
      simp only [lap21, evSs, evSeq, e1, e2, e3]
      simp only [evS, evX, evE, evEs, ofC, ofV, evBin, evVar, evB, cmpG, ltD, ofO_some, Out.bind_ok, Cst.d, List.getElem?_cons_succ, List.getElem?_cons_zero, h8, decide_false, Bool.false_eq_true, if_false, evSs, evSkip]
    exact ⟨_, μ1, fin, ⟨_, _, _, _, _, _, _, _, _, _, _, _, _, _, _, _, _, _, rfl⟩, b1⟩
theorem law_true (ns : List Int) (h : ns.length ≤ 63) : ∃ μ, f21 [.lst (ns.map D.int)] [] = .ok (.bl true) μ := by
  obtain ⟨c, e0, hb⟩ := bag_ok (Φ := look [f0, f1, f2, f3, f4, f5, f6, f7, f8, f9, f10, f11, f12]) (μ := []) h
  have e13 : f13 [.lst (ns.map D.int)] [] = .ok (.obj 0) [c] := e0
  have hfor : ∃ δ' μ', evForS (evR1 (evCons (fun _ μ => .ok (.int 4) μ) evNil)) (.name 2) (evSs F21 lap21) [some (.lst (ns.map D.int)), some (.obj 0), none, none, none, none, none, none, none, none, none, none, none, none, none, none, none, none, none] [c] = .ok (.nx δ') μ' := by
    refine forS_inv (gd := []) (μ1 := [c]) (rangeI 0 4) D.int (fun o => ∃ δ' μ', o = .ok (.nx δ') μ') (fun rest δ μ' => Lv δ ∧ Bag μ' 0) (by simp [evSs, evS, evE, evEs, evBoV, evBoT, ofV, ofC, evX, evSeq, evSkip, evVar, evBin, evUn, evB, evT, evChain, evAnd, evOr, evNot, evAndT, evOrT, evNotT, evIf, evNil, evCons, evTup, evLst, evMl, evCall, evBlt, evBltM, evIs, evMth, evSl, evP, evNoP, evSrc, evSet, evPar, asgT_name, asgT_tup, asgTs_nil, asgTs_cons, evAug, evAugS, evSetIx, evYes, evD0, binG, cmpG, augG, Bl.f, Mt.f, Mt.ty, Cst.d, no1, evR1, rOk, rngI_map]) ⟨⟨_, _, _, _, _, _, _, _, _, _, _, _, _, _, _, _, _, _, rfl⟩, hb⟩ ?_ ?_
    · rintro y rest δ μ' ⟨hd, hb⟩
      obtain ⟨s0, y2, y3, y4, y5, y6, y7, y8, y9, y10, y11, y12, y13, y14, y15, y16, y17, y18, rfl⟩ := hd
      obtain ⟨δ', μ2, k1, k2, k3⟩ := lap_ok hb (δ := [s0, some (.obj 0), some (.int y), y3, y4, y5, y6, y7, y8, y9, y10, y11, y12, y13, y14, y15, y16, y17, y18]) ⟨_, _, _, _, _, _, _, _, _, _, _, _, _, _, _, _, _, _, rfl⟩
      exact ⟨rfl, _, rfl, .inl ⟨δ', μ2, .inl k1, k2, k3⟩⟩
    · rintro δ μ' _
      exact ⟨rfl, δ, μ', rfl⟩
  obtain ⟨δ', μ', e⟩ := hfor
  refine ⟨μ', ?_⟩
  have e9 : F21 13 = f13 := rfl
  show evFn 19 (evSs F21 b21) _ _ = _
  rw [b21_eq]
  simp only [evFn, evSs, evSeq, evS, evX, evE, evEs, ofV, evCall, evCons, evNil, evVar, e9, List.map_cons, List.map_nil, List.length_cons, List.length_nil, List.getElem?_cons_zero, List.cons_append, List.getElem?_cons_succ, Out.bind_ok, e13, evSet, asgT_name, List.set_cons_succ, List.set_cons_zero, Cst.d]
  simp only [List.nil_append, List.replicate, Nat.reduceAdd, Nat.reduceSub, List.set_cons_succ, List.set_cons_zero]
  simp [e]
end T
open PySem PySem.W PySem.Calls PyProof.Rows
theorem PySem.Challenge.cw_numberedapart_k52_heaps_in_one_room_holds : PySem.Challenge.rw_numberedapart_k52_heaps_in_one_room.Holds := by
  w_on; o_law
  refine HandSHeadRun.head_any (r := T.R) (q := view T.R.prog [31]) (H := T.hk) (ob := T.ob) (M := 3000) (loose := ["_wall", "is_number", "is_between", "is_sized", "is_room", "is_heap", "is_shape", "check_shape", "kept_room", "part_two", "told_shape", "plain_heap", "heap_end", "left_often", "_law_bag", "_law_take", "_law_some", "_law_counted", "_law_parted", "_law_heaped", "_law_known", "_law_left", "ApartError", "Nothing", "TooLarge", "MOST_PERSONS", "MOST_ROOM"]) (d := HandSHeadRun.topDef T.R.prog 31) (kwd := []) T.ob_eq
    (by kernel_rfl) (fun s => by kernel_rfl) T.run (by kernel_rfl) (by kernel_rfl) (by kernel_rfl) (by rfl) (by first | assumption | decide +kernel) (by decide +kernel) ⟨rfl, rfl, rfl, rfl, rfl, by decide +kernel⟩ ?hw ?hc
  case hw => w_witness2
  case hc =>
    refine M.walk_ofX (l := PySem.Challenge.rw_numberedapart_k52_heaps_in_one_room) (n := 63) (k := 22) (x := "script") rfl (by kernel_rfl) (by decide) ⟨rfl, by decide, by decide⟩ ?F
    intro w mg f h Y Gm hmg0
    obtain ⟨K, X, c⟩ := Y
    have hmg : mg ("law" : PySem.Str) = some (.ref f) := by
      have e : (HandSHeadRun.topDef T.R.prog 31).name = ("law" : PySem.Str) := by kernel_rfl
      rw [← e]
      exact hmg0
    obtain ⟨fd, hb, hF⟩ := M.law_end (G := T.GG) (P := (PySem.Challenge.rw_numberedapart_k52_heaps_in_one_room).prog) (w := w) X Gm c hmg false (fun base => T.t21 X Gm c) 21 21 rfl rfl T.s21 (fun _ _ _ _ _ _ us hl => match us, hl with | [_], _ => rfl) T.c21 rfl (g := T.f21)
    exact ⟨M.noL K, fd, _, M.noL_in X, hb, hF, fun H a ns hl hS => let ⟨_, e⟩ := T.law_true ns hl; M.law_sp hS e⟩
